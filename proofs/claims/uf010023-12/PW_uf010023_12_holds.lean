import PyProof.Rows.All
import Wide.All
import OpenK.AllK
import KE.IntTextLaws
import KE.KDictOf
import KE.KIntText
import KE.KIsAll
import KE.KRevIter
import KE.KSetAt
import KE.KTryOn
import OpenK.KItem
import OpenK.Peek
import PyProof.AssignAttr
import PyProof.AutoIntOps
import PyProof.AutoListH
import PyProof.Cells
import PyProof.CompFree
import PyProof.Conv_int_bool
import PyProof.DictDisplay
import PyProof.DictKinds
import PyProof.DictList
import PyProof.DictRoads
import PyProof.DictStraight
import PyProof.EnumMake
import PyProof.EqLayable
import PyProof.ExcBaseAll.ValueError
import PyProof.ExcClass3
import PyProof.IsiHeapPairs
import PyProof.IsiNone
import PyProof.IsiPairs
import PyProof.ListCopy
import PyProof.ListIndexNeg
import PyProof.ListOps
import PyProof.ListTruth
import PyProof.NeData
import PyProof.NoPylong
import PyProof.Ns1
import PyProof.NsCount
import PyProof.P3Eq
import PyProof.P3In
import PyProof.P3Statements
import PyProof.PureInt
import PyProof.Rows.Catch
import PyProof.Rows.Chain
import PyProof.Rows.ExtendIn
import PyProof.Rows.ListMul
import PyProof.Rows.Range3
import PyProof.Rows.RuleIs2
import PyProof.Rows.StrBin
import PyProof.Rows.StrInSeq3
import PyProof.Rows.StrJoin2
import PyProof.Rows.StrTemp
import PyProof.Rows.TupAdd
import PyProof.Rows.TupMore
import PyProof.Rows.TupSub
import PyProof.RulesAs
import PyProof.RulesAssignMore
import PyProof.RulesTry
import PyProof.SliceList
import PyProof.SliceMore
import PyProof.SliceStr
import PyProof.SliceStr2
import PyProof.SliceSyntax
import PyProof.StationsW
import PyProof.StrBlock2
import PyProof.StrCalls2
import PyProof.StrCalls5
import PyProof.StrCalls6
import PyProof.StrLawsIn
import PyProof.StrLawsReplace
import PyProof.StrOps
import PyProof.StrOps2
import PyProof.StrWalks
import PyProof.Truth
import PyProof.TupleIter
import PyProof.TupleKey
import PyProof.TupleOfSeq
import PyProof.TupleOps
import PyProof.WalksMore
import PyProof.ZipIter
import Wide.FinOn
import PySem.Challenge.RW_uf010023_12
set_option Elab.async false
section
open PySem
set_option autoImplicit false
set_option linter.unusedVariables false
namespace Mine

abbrev tupO (vs : Array Value) (n : Nat) : Obj := { cls := .type "tuple", data := .seq vs n }
abbrev lstO (vs : Array Value) (n : Nat) : Obj := { cls := .type "list", data := .seq vs n }

abbrev insO (C d : Addr) : Obj := { cls := .ref C, dict := some d, data := .plain }
structure CT where
  c : Addr
  vn : List Str
  ln : List Str
set_option genSizeOf false in
set_option genInjectivity false in
inductive V where
  | none
  | bool (b : Bool)
  | int (i : Int)
  | str (s : List Nat)
  | tup (l : List V)
  | lst (l : List V)
  | ins (t : CT) (l : List V)
  | dic (w : World) (k : List (List Nat)) (l : List V)

set_option genSizeOf false in
set_option genInjectivity false in
inductive O where
  | val (v : V)
  | own (r : List V)
  | own2 (r : List (List V))
  | obj (t : CT) (l : List V) (r : List (List V))
  | dic (w : World) (k : List (List Nat)) (l : List V)
noncomputable def O.frz (o : O) : V := O.rec (fun v => v) (fun r => .lst r.reverse) (fun r => .lst (r.map fun x => .lst x.reverse).reverse) (fun t l r => .ins ⟨t.c, t.vn.take l.length ++ t.ln.take r.length, []⟩ (l ++ r.map fun x => .lst x.reverse)) (fun w k l => .dic w k l) o
abbrev Loc := List (Option O)
abbrev WS := Addr → Prop

structure DicAt (w : World) (h : Heap) (a : Addr) (k : List (List Nat)) (vs : List Value) : Prop where
  len : vs.length = k.length
  few : k.length ≤ sizeLine
  ns : (a == sysModules) = false
  ok : ∀ z, z ∈ k → PyData.strOk ⟨z.toArray⟩ = true ∧ z.length ≤ sizeLine
  at_ : ∀ prog, h.DictOf (strKind prog w) a ((k.map fun z => (⟨z.toArray⟩ : Str)).zip vs)
theorem DicAt.to {w : World} {h h' : Heap} {a : Addr} {k : List (List Nat)} {vs : List Value} (x : DicAt w h a k vs) (e : h'.get? a = h.get? a) : DicAt w h' a k vs :=
  ⟨x.len, x.few, x.ns, x.ok, fun prog => let ⟨o, es, ep, y, r⟩ := x.at_ prog; ⟨o, es, ep, e.trans y, r⟩⟩
theorem DicAt.is {w : World} {h : Heap} {a : Addr} {k : List (List Nat)} {vs : List Value} (x : DicAt w h a k vs) (prog : Program) : ∃ o es ep, h.get? a = some o ∧ o.data = .dict es ep :=
  let ⟨o, es, ep, y, _, z, _⟩ := x.at_ prog; ⟨o, es, ep, y, z⟩
theorem Ns1_to {h h' : Heap} {a : Addr} {m : Str → Option Value} (x : h.Ns1 a m) (e : h'.get? a = h.get? a) : h'.Ns1 a m := x.at fun o y => e.trans y
noncomputable def VR (W : WS) (h : Heap) : V → Value → Prop :=
  @V.rec (fun _ => Value → Prop) (fun _ => List Value → Prop)
    (fun v' => v' = .none) (fun b v' => v' = .bool b) (fun i v' => ∃ t, v' = .int i t)
    (fun s v' => ∃ t, v' = .str ⟨s.toArray⟩ t ∧ PyData.strOk ⟨s.toArray⟩ = true ∧ s.length ≤ sizeLine)
    (fun l ih v' => ∃ a vs n, v' = .ref a ∧ W a ∧ h.get? a = some (tupO vs n) ∧ l.length ≤ sizeLine ∧ ih vs.toList)
    (fun l ih v' => ∃ a vs n, v' = .ref a ∧ W a ∧ h.get? a = some (lstO vs n) ∧ l.length ≤ sizeLine ∧ ih vs.toList)
    (fun t l ih v' => ∃ a da vs, v' = .ref a ∧ W a ∧ W da ∧ h.get? a = some (insO t.c da) ∧ h.Ns1 da (fun x => (t.vn.zip vs).lookup x) ∧ ih vs)
    (fun w k l ih v' => ∃ a vs, v' = .ref a ∧ W a ∧ DicAt w h a k vs ∧ ih vs)
    (fun l' => l' = []) (fun v l iv il l' => ∃ v' r, l' = v' :: r ∧ iv v' ∧ il r)
noncomputable def VRs (W : WS) (h : Heap) : List V → List Value → Prop :=
  @V.rec_1 (fun _ => Value → Prop) (fun _ => List Value → Prop)
    (fun v' => v' = .none) (fun b v' => v' = .bool b) (fun i v' => ∃ t, v' = .int i t)
    (fun s v' => ∃ t, v' = .str ⟨s.toArray⟩ t ∧ PyData.strOk ⟨s.toArray⟩ = true ∧ s.length ≤ sizeLine)
    (fun l ih v' => ∃ a vs n, v' = .ref a ∧ W a ∧ h.get? a = some (tupO vs n) ∧ l.length ≤ sizeLine ∧ ih vs.toList)
    (fun l ih v' => ∃ a vs n, v' = .ref a ∧ W a ∧ h.get? a = some (lstO vs n) ∧ l.length ≤ sizeLine ∧ ih vs.toList)
    (fun t l ih v' => ∃ a da vs, v' = .ref a ∧ W a ∧ W da ∧ h.get? a = some (insO t.c da) ∧ h.Ns1 da (fun x => (t.vn.zip vs).lookup x) ∧ ih vs)
    (fun w k l ih v' => ∃ a vs, v' = .ref a ∧ W a ∧ DicAt w h a k vs ∧ ih vs)
    (fun l' => l' = []) (fun v l iv il l' => ∃ v' r, l' = v' :: r ∧ iv v' ∧ il r)

structure Ag (W : WS) (h : Heap) (W' : WS) (h' : Heap) : Prop where
  w : ∀ a, W a → W' a
  k : ∀ a, W a → h'.get? a = h.get? a

section
variable {W W' : WS} {h h' : Heap}
theorem VRs.inv {v : V} {l : List V} {l' : List Value} (r : VRs W h (v :: l) l') : ∃ v' r', l' = v' :: r' ∧ VR W h v v' ∧ VRs W h l r' := r
theorem VRs.cons {v : V} {l : List V} {v' : Value} {l' : List Value} (x : VR W h v v') (r : VRs W h l l') : VRs W h (v :: l) (v' :: l') := ⟨v', l', rfl, x, r⟩
theorem VR.tup {l : List V} {v' : Value} (r : VR W h (.tup l) v') : ∃ a vs n, v' = .ref a ∧ W a ∧ h.get? a = some (tupO vs n) ∧ l.length ≤ sizeLine ∧ VRs W h l vs.toList := r
theorem VR.lst {l : List V} {v' : Value} (r : VR W h (.lst l) v') : ∃ a vs n, v' = .ref a ∧ W a ∧ h.get? a = some (lstO vs n) ∧ l.length ≤ sizeLine ∧ VRs W h l vs.toList := r
theorem VR.ins {t : CT} {l : List V} {v' : Value} (r : VR W h (.ins t l) v') : ∃ a da vs, v' = .ref a ∧ W a ∧ W da ∧ h.get? a = some (insO t.c da) ∧ h.Ns1 da (fun x => (t.vn.zip vs).lookup x) ∧ VRs W h l vs := r
theorem VR.dic {w : World} {k : List (List Nat)} {l : List V} {v' : Value} (r : VR W h (.dic w k l) v') : ∃ a vs, v' = .ref a ∧ W a ∧ DicAt w h a k vs ∧ VRs W h l vs := r
theorem VR.ag (g : Ag W h W' h') {v : V} {v' : Value} (r : VR W h v v') : VR W' h' v v' :=
  V.rec (motive_1 := fun v => ∀ v', VR W h v v' → VR W' h' v v') (motive_2 := fun l => ∀ l', VRs W h l l' → VRs W' h' l l')
    (fun _ r => r) (fun _ _ r => r) (fun _ _ r => r) (fun _ _ r => r)
    (fun _ ih _ r => let ⟨a, vs, n, e, w, x, y, z⟩ := VR.tup r; ⟨a, vs, n, e, g.w a w, (g.k a w).trans x, y, ih _ z⟩)
    (fun _ ih _ r => let ⟨a, vs, n, e, w, x, y, z⟩ := VR.lst r; ⟨a, vs, n, e, g.w a w, (g.k a w).trans x, y, ih _ z⟩)
    (fun _ _ ih _ r => let ⟨a, da, vs, e, w, w2, x, y, z⟩ := VR.ins r; ⟨a, da, vs, e, g.w a w, g.w da w2, (g.k a w).trans x, Ns1_to y (g.k da w2), ih _ z⟩)
    (fun _ _ _ ih _ r => let ⟨a, vs, e, w, x, z⟩ := VR.dic r; ⟨a, vs, e, g.w a w, x.to (g.k a w), ih _ z⟩)
    (fun _ r => r) (fun _ _ iv il _ r => let ⟨v', r, e, x, y⟩ := VRs.inv r; ⟨v', r, e, iv _ x, il _ y⟩) v v' r
theorem VRs.ag (g : Ag W h W' h') : ∀ {l : List V} {l' : List Value}, VRs W h l l' → VRs W' h' l l'
  | [], _, r => r
  | _ :: _, _, r => let ⟨v', r, e, x, y⟩ := VRs.inv r; ⟨v', r, e, VR.ag g x, VRs.ag g y⟩
theorem VRs.length : ∀ {l : List V} {l' : List Value}, VRs W h l l' → l'.length = l.length
  | [], _, e => congrArg List.length e
  | _ :: _, _, r => let ⟨v', r, e, x, y⟩ := VRs.inv r; e ▸ congrArg (· + 1) y.length
theorem VRs.size {l : List V} {vs : Array Value} (r : VRs W h l vs.toList) : vs.size = l.length := by rw [← r.length, Array.length_toList]
theorem VRs.append : ∀ {l m : List V} {l' m' : List Value}, VRs W h l l' → VRs W h m m' → VRs W h (l ++ m) (l' ++ m')
  | [], _, _, _, e, hm => by cases e; exact hm
  | _ :: _, _, _, _, r, hm => by obtain ⟨v', r, rfl, x, y⟩ := VRs.inv r; exact .cons x (y.append hm)
theorem VRs.snoc {l : List V} {l' : List Value} {v : V} {v' : Value} (r : VRs W h l l') (x : VR W h v v') : VRs W h (l ++ [v]) (l' ++ [v']) := r.append ⟨v', [], rfl, x, rfl⟩
theorem VRs.get : ∀ {l : List V} {l' : List Value}, VRs W h l l' → ∀ {i : Nat} {v : V}, l[i]? = some v → ∃ v', l'[i]? = some v' ∧ VR W h v v'
  | [], _, _, _, _, e => nomatch e
  | _ :: _, _, r, 0, _, e => by obtain ⟨v', r, rfl, x, y⟩ := VRs.inv r; cases e; exact ⟨_, rfl, x⟩
  | _ :: _, _, r, i + 1, _, e => by obtain ⟨v', r, rfl, x, y⟩ := VRs.inv r; exact y.get (i := i) e
theorem VRs.set : ∀ {l : List V} {l' : List Value}, VRs W h l l' → ∀ (i : Nat) {v : V} {v' : Value}, VR W h v v' → VRs W h (l.set i v) (l'.set i v')
  | [], _, e, _, _, _, _ => by cases e; exact rfl
  | _ :: _, _, r, 0, _, w, hw => by obtain ⟨v', r, rfl, x, y⟩ := VRs.inv r; exact .cons hw y
  | _ :: _, _, r, i + 1, _, w, hw => by obtain ⟨v', r, rfl, x, y⟩ := VRs.inv r; exact .cons x (y.set i hw)
theorem VRs.take : ∀ {l : List V} {l' : List Value}, VRs W h l l' → ∀ (i : Nat), VRs W h (l.take i) (l'.take i)
  | [], _, e, i => by cases e; rw [List.take_nil, List.take_nil]; exact rfl
  | _ :: _, _, _, 0 => rfl
  | _ :: _, _, r, i + 1 => by obtain ⟨v', r, rfl, x, y⟩ := VRs.inv r; exact .cons x (y.take i)
theorem VRs.drop : ∀ {l : List V} {l' : List Value}, VRs W h l l' → ∀ (i : Nat), VRs W h (l.drop i) (l'.drop i)
  | [], _, e, i => by cases e; rw [List.drop_nil, List.drop_nil]; exact rfl
  | _ :: _, _, r, 0 => r
  | _ :: _, _, r, i + 1 => by obtain ⟨v', r, rfl, x, y⟩ := VRs.inv r; exact y.drop i
end

theorem Ag.refl (W : WS) (h : Heap) : Ag W h W h := ⟨fun _ x => x, fun _ _ => rfl⟩
theorem Ag.trans {W W' W'' : WS} {h h' h'' : Heap} (x : Ag W h W' h') (y : Ag W' h' W'' h'') : Ag W h W'' h'' := ⟨fun a q => y.w a (x.w a q), fun a q => (y.k a (x.w a q)).trans (x.k a q)⟩

abbrev Tbl := List (Str × Nat)
structure FI where
  names : List (Str × NameKind)
  tbl : Tbl
  pos : Bool := false
  kp : List Str := []

structure Cx where
  K : PySem.W.Frag
  h : Heap
  os : OsState
  prog : Program
  w : World
  mg : Str → Option Value
  mb : Str → Option Value
noncomputable abbrev Cx.M (C : Cx) : Model := model C.prog C.w

structure FC where
  C : Cx
  A : Around
  env : Env
  fi : FI
  pin : Addr → Option Obj
  W0 : WS
  cm : Bool
  kv : Str → Option Value

def Mut (X : FC) (φ : Nat → List Addr) (a : Addr) : Prop := a = X.env.locals ∨ (X.cm = true ∧ ∃ x, X.env.cells.lookup x = some a) ∨ ∃ i, a ∈ φ i

def Val (env : Env) (h : Heap) (x : Str) (v : Value) : Prop :=
  (env.kindOf x = some .local ∧ ∃ m, h.Ns env.locals m ∧ m x = some v) ∨
  ((env.kindOf x = some .cell ∨ env.kindOf x = some .free) ∧ ∃ c, env.cells.lookup x = some c ∧ h.IsCell c (some v))

def OwnAt (W : WS) (h : Heap) (a : Addr) (r : List V) : Prop := ∃ vs n, h.get? a = some (lstO vs n) ∧ VRs W h r.reverse vs.toList ∧ r.length ≤ sizeLine
def OwnL (W : WS) (h : Heap) (as : List Addr) (r : List (List V)) : Prop := as.length = r.length ∧ ∀ (k : Nat) (a : Addr) (x : List V), as[k]? = some a → r[k]? = some x → OwnAt W h a x
def Own2At (W : WS) (h : Heap) (a : Addr) (as : List Addr) (r : List (List V)) : Prop := ∃ vs n, h.get? a = some (lstO vs n) ∧ vs.toList = (as.map .ref).reverse ∧ r.length ≤ sizeLine ∧ OwnL W h as r ∧ (a :: as).Nodup
def flds (t : CT) (n m : Nat) : List Str := t.vn.take n ++ t.ln.take m
structure ObjAt (W : WS) (h : Heap) (oa da : Addr) (as : List Addr) (t : CT) (l : List V) (r : List (List V)) : Prop where
  w : W oa
  hd : h.get? oa = some (insO t.c da)
  ns : ∃ vs, h.Ns1 da (fun x => ((flds t l.length r.length).zip (vs ++ as.map .ref)).lookup x) ∧ VRs W h l vs
  ol : OwnL W h as r
  sz : ∀ x, x ∈ r → x.length ≤ sizeLine
  nd : (da :: as).Nodup
  le : l.length ≤ t.vn.length ∧ r.length ≤ t.ln.length
noncomputable def OR (W : WS) (h : Heap) (p : List Addr) (o : O) (v' : Value) : Prop :=
  O.rec (fun v => p = [] ∧ VR W h v v') (fun r => ∃ a, p = [a] ∧ v' = .ref a ∧ OwnAt W h a r) (fun r => ∃ a as, p = a :: as ∧ v' = .ref a ∧ Own2At W h a as r)
    (fun t l r => ∃ oa da as, p = da :: as ∧ v' = .ref oa ∧ ObjAt W h oa da as t l r) (fun w k l => ∃ a vs, p = [a] ∧ v' = .ref a ∧ DicAt w h a k vs ∧ VRs W h l vs) o
def OwO (X : FC) (h : Heap) (a : Addr) : Prop := ∃ o, h.get? a = some o ∧ (∀ v, o.data ≠ .cell v) ∧ a ≠ X.env.locals

structure F0 (X : FC) (W : WS) (φ : Nat → List Addr) (h : Heap) : Prop where
  pin : ∀ a o, X.pin a = some o → h.get? a = some o
  mu : ∀ a, Mut X φ a → X.pin a = none ∧ ¬ W a
  wf : ∀ a, W a → ∃ o, h.get? a = some o
  w0 : ∀ a o, X.pin a = some o → W a → X.W0 a
  dis : ∀ i j a, a ∈ φ i → a ∈ φ j → i = j
  ns : ∃ o es ep, h.get? X.env.locals = some o ∧ o.data = .dict es ep ∧ StrKeys es
  cells : ∀ x c, X.env.cells.lookup x = some c → ∃ o v, h.get? c = some o ∧ o.data = .cell v
def LR (X : FC) (W : WS) (φ : Nat → List Addr) (h : Heap) (ρ : Loc) : Prop :=
  ∀ x i, X.fi.tbl.lookup x = some i → ∀ o, ρ[i]? = some (some o) → X.env.kindOf x ≠ none → ∃ v', Val X.env h x v' ∧ OR W h (φ i) o v'
structure At (X : FC) (W : WS) (φ : Nat → List Addr) (s : Shared) (ρ : Loc) : Prop where
  gens : s.gens = #[]
  os : s.os = X.C.os
  f : F0 X W φ s.heap
  lr : LR X W φ s.heap ρ
  ow : ∀ i a, a ∈ φ i → OwO X s.heap a
  tk : X.fi.pos = true → 0 < s.toks
  kv : ∀ x v, X.kv x = some v → Val X.env s.heap x v

structure Grow (W : WS) (h : Heap) (W' : WS) (h' : Heap) : Prop where
  k : ∀ a o, h.get? a = some o → h'.get? a = some o
  w : ∀ a, W a → W' a
  wf : ∀ a, W' a → ∃ o, h'.get? a = some o
  nw : ∀ a o, h.get? a = some o → W' a → W a

section
variable {X : FC} {W W' W'' : WS} {φ : Nat → List Addr} {h h' h'' : Heap} {s : Shared} {ρ : Loc}
theorem Grow.ag (g : Grow W h W' h') (wf : ∀ a, W a → ∃ o, h.get? a = some o) : Ag W h W' h' :=
  ⟨g.w, fun a q => (wf a q).elim fun o e => (g.k a o e).trans e.symm⟩
theorem Grow.trans (g : Grow W h W' h') (g' : Grow W' h' W'' h'') : Grow W h W'' h'' :=
  ⟨fun a o e => g'.k a o (g.k a o e), fun a q => g'.w a (g.w a q), g'.wf, fun a o e q => g.nw a o e (g'.nw a o (g.k a o e) q)⟩
theorem Val.grow {env : Env} {x : Str} {v : Value} (k : ∀ a o, h.get? a = some o → h'.get? a = some o) (r : Val env h x v) : Val env h' x v := by
  obtain ⟨q, m, ⟨o, es, ep, e, z⟩, hm⟩ | ⟨q, c, hc, o, e, z⟩ := r
  · exact .inl ⟨q, m, ⟨o, es, ep, k _ _ e, z⟩, hm⟩
  · exact .inr ⟨q, c, hc, o, k _ _ e, z⟩
theorem OwnAt.ag {a : Addr} {r : List V} (g : Ag W h W' h') (e : h'.get? a = h.get? a) (x : OwnAt W h a r) : OwnAt W' h' a r := by
  obtain ⟨vs, n, y, z, t⟩ := x; exact ⟨vs, n, e.trans y, z.ag g, t⟩
theorem OR.ag {p : List Addr} {o : O} {v' : Value} (g : Ag W h W' h') (e : ∀ a, a ∈ p → h'.get? a = h.get? a) (x : OR W h p o v') : OR W' h' p o v' := by
  cases o with
  | val v => exact ⟨x.1, VR.ag g x.2⟩
  | own r => obtain ⟨a, rfl, y, z⟩ := x; exact ⟨a, rfl, y, OwnAt.ag g (e a List.mem_cons_self) z⟩
  | own2 r =>
    obtain ⟨a, as, rfl, y, vs, n, z1, z2, z3, ⟨z4, z5⟩, z6⟩ := x
    exact ⟨a, as, rfl, y, vs, n, (e a List.mem_cons_self).trans z1, z2, z3, ⟨z4, fun k b x hb hx => OwnAt.ag g (e b (List.mem_cons_of_mem _ (List.mem_of_getElem? hb))) (z5 k b x hb hx)⟩, z6⟩
  | obj t l r =>
    obtain ⟨oa, da, as, rfl, y, z⟩ := x
    obtain ⟨vs, n1, n2⟩ := z.ns
    exact ⟨oa, da, as, rfl, y, g.w _ z.w, (g.k _ z.w).trans z.hd, ⟨vs, Ns1_to n1 (e da List.mem_cons_self), n2.ag g⟩, ⟨z.ol.1, fun k b x hb hx => OwnAt.ag g (e b (List.mem_cons_of_mem _ (List.mem_of_getElem? hb))) (z.ol.2 k b x hb hx)⟩, z.sz, z.nd, z.le⟩
  | dic w k l => obtain ⟨a, vs, rfl, y, z1, z2⟩ := x; exact ⟨a, vs, rfl, y, z1.to (e a List.mem_cons_self), z2.ag g⟩
theorem F0.grow (F : F0 X W φ h) (ow : ∀ i a, a ∈ φ i → OwO X h a) (g : Grow W h W' h') : F0 X W' φ h' where
  pin := fun a o e => g.k a o (F.pin a o e)
  mu := fun a q => ⟨(F.mu a q).1, fun w => (F.mu a q).2 (by
      rcases q with q | ⟨q1, x, q⟩ | ⟨i, q⟩
      · obtain ⟨o, _, _, e, _⟩ := F.ns; exact g.nw a o (q ▸ e) w
      · obtain ⟨o, _, e, _⟩ := F.cells x a q; exact g.nw a o e w
      · obtain ⟨_, e, _⟩ := ow i a q; exact g.nw a _ e w)⟩
  wf := g.wf
  w0 := fun a o e q => F.w0 a o e (g.nw a o (F.pin a o e) q)
  dis := F.dis
  ns := by obtain ⟨o, es, ep, e, z⟩ := F.ns; exact ⟨o, es, ep, g.k _ _ e, z⟩
  cells := fun x c hc => by obtain ⟨o, v, e, z⟩ := F.cells x c hc; exact ⟨o, v, g.k _ _ e, z⟩
theorem At.grow (F : At X W φ s ρ) {t : Nat} (g : Grow W s.heap W' h') (ht : s.toks ≤ t) : At X W' φ { s with heap := h', toks := t } ρ where
  tk := fun h => Nat.lt_of_lt_of_le (F.tk h) ht
  kv := fun x v e => (F.kv x v e).grow g.k
  gens := F.gens
  os := F.os
  f := F.f.grow F.ow g
  lr := fun x i hx o ho hk => by
    obtain ⟨v', a, b⟩ := F.lr x i hx o ho hk
    exact ⟨v', a.grow g.k, b.ag (g.ag F.f.wf) fun a q => by obtain ⟨_, e, _⟩ := F.ow i a q; exact (g.k a _ e).trans e.symm⟩
  ow := fun i a q => by obtain ⟨o, e, n⟩ := F.ow i a q; exact ⟨o, g.k _ _ e, n⟩
theorem At.toks (F : At X W φ s ρ) (t : Nat) (ht : s.toks ≤ t) : At X W φ { s with toks := t } ρ := ⟨F.gens, F.os, F.f, F.lr, F.ow, fun h => Nat.lt_of_lt_of_le (F.tk h) ht, F.kv⟩

theorem F0.turn (F : F0 X W φ h) {a : Addr} (hm : Mut X φ a) (hs : Heap.SameBut a h h') : Ag W h W h' ∧ (∀ b o, X.pin b = some o → h'.get? b = some o) ∧ (∀ b, W b → ∃ o, h'.get? b = some o) := by
  have hk : ∀ b, b ≠ a → h'.get? b = h.get? b := hs.2
  have wa := (F.mu a hm).2
  have ag : Ag W h W h' := ⟨fun _ q => q, fun b q => hk b fun e => wa (e ▸ q)⟩
  refine ⟨ag, fun b o e => (hk b fun q => ?_).trans (F.pin b o e), fun b q => ?_⟩
  · have := (F.mu a hm).1; rw [← q, e] at this; cases this
  · obtain ⟨o, e⟩ := F.wf b q; exact ⟨o, (ag.k b q).trans e⟩
end
end Mine
end

section
open PySem
set_option autoImplicit false
set_option linter.unusedVariables false
namespace Mine

def RO (X : FC) (W : WS) (φ : Nat → List Addr) (h : Heap) (o : O) (v' : Value) : Prop := ∃ p, OR W h p o v' ∧ ∀ a, a ∈ p → ¬ W a ∧ ¬ Mut X φ a ∧ X.pin a = none

def upd (φ : Nat → List Addr) (i : Nat) (p : List Addr) : Nat → List Addr := fun j => if j = i then p else φ j
theorem upd_same (φ : Nat → List Addr) (i : Nat) (p : List Addr) : upd φ i p i = p := if_pos rfl
theorem upd_ne (φ : Nat → List Addr) {i j : Nat} (p : List Addr) (h : j ≠ i) : upd φ i p j = φ j := if_neg h

theorem set_get {ρ : Loc} {i j : Nat} {o o' : O} (e : (ρ.set i (some o))[j]? = some (some o')) : (j = i ∧ o' = o) ∨ (j ≠ i ∧ ρ[j]? = some (some o')) := by
  by_cases q : j = i
  · subst q
    rw [List.getElem?_set] at e
    split at e
    · split at e
      · cases e; exact .inl ⟨rfl, rfl⟩
      · cases e
    · rename_i q; exact absurd rfl q
  · exact .inr ⟨q, by rwa [List.getElem?_set_ne (Ne.symm q)] at e⟩

section
variable {X : FC} {W W' : WS} {φ : Nat → List Addr} {h h' : Heap} {s : Shared} {ρ : Loc}

theorem RO.val {v : V} {v' : Value} (r : VR W h v v') : RO X W φ h (.val v) v' := ⟨[], ⟨rfl, r⟩, fun _ q => nomatch q⟩
theorem Ag.moreS (W : WS) (h : Heap) (D : Addr → Prop) : Ag W h (fun b => W b ∨ D b) h := ⟨fun _ q => .inl q, fun _ _ => rfl⟩
theorem VRs.rev : ∀ {l : List V} {l' : List Value}, VRs W h l l' → VRs W h l.reverse l'.reverse
  | [], _, r => by cases r; exact rfl
  | v :: l, _, r => by obtain ⟨v', r', rfl, x, y⟩ := VRs.inv r; rw [List.reverse_cons, List.reverse_cons]; exact (VRs.rev y).snoc x
theorem OwnL.frz {as : List Addr} : ∀ {r : List (List V)}, OwnL W h as r → VRs (fun b => W b ∨ b ∈ as) h (r.map fun x => .lst x.reverse) (as.map .ref) := by
  have key : ∀ (as : List Addr) (r : List (List V)) (D : Addr → Prop), (∀ a, a ∈ as → D a) → OwnL W h as r → VRs (fun b => W b ∨ D b) h (r.map fun x => .lst x.reverse) (as.map .ref) := by
    intro as
    induction as with
    | nil => intro r D _ o; cases r with
      | nil => exact rfl
      | cons x r => cases o.1
    | cons a as ih =>
      intro r D hD o
      cases r with
      | nil => cases o.1
      | cons x r =>
        obtain ⟨vs, n, y, z, t⟩ := o.2 0 a x rfl rfl
        exact .cons ⟨a, vs, n, rfl, .inr (hD a List.mem_cons_self), y, by rwa [List.length_reverse], VRs.ag (.moreS W h D) z⟩ (ih r D (fun b q => hD b (List.mem_cons_of_mem _ q)) ⟨Nat.succ.inj o.1, fun k b y hb hy => o.2 (k + 1) b y hb hy⟩)
  intro r o
  exact key as r _ (fun _ q => q) o
theorem OR.frz {p : List Addr} {o : O} {v' : Value} (x : OR W h p o v') : VR (fun b => W b ∨ b ∈ p) h o.frz v' := by
  cases o with
  | val v => exact VR.ag (.moreS W h _) x.2
  | own r =>
    obtain ⟨a, rfl, rfl, vs, n, y, z, t⟩ := x
    exact ⟨a, vs, n, rfl, .inr List.mem_cons_self, y, by rwa [List.length_reverse], VRs.ag (.moreS W h _) z⟩
  | own2 r =>
    obtain ⟨a, as, rfl, rfl, vs, n, y, z, t, o, _⟩ := x
    have hv := VRs.rev (OwnL.frz o)
    rw [← z] at hv
    exact ⟨a, vs, n, rfl, .inr List.mem_cons_self, y, by rw [List.length_reverse, List.length_map]; exact t, VRs.ag ⟨fun _ q => q.elim .inl fun q => .inr (List.mem_cons_of_mem _ q), fun _ _ => rfl⟩ hv⟩
  | obj t l r =>
    obtain ⟨oa, da, as, rfl, rfl, z⟩ := x
    obtain ⟨vs, n1, n2⟩ := z.ns
    have hv := OwnL.frz z.ol
    exact ⟨oa, da, vs ++ as.map Value.ref, rfl, .inl z.w, .inr List.mem_cons_self, z.hd, n1, (VRs.ag (.moreS W h _) n2).append (VRs.ag ⟨fun _ q => q.elim .inl fun q => .inr (List.mem_cons_of_mem _ q), fun _ _ => rfl⟩ hv)⟩
  | dic w k l =>
    obtain ⟨a, vs, rfl, rfl, z1, z2⟩ := x
    exact ⟨a, vs, rfl, .inr List.mem_cons_self, z1, VRs.ag (.moreS W h _) z2⟩
theorem OwnL.isList {as : List Addr} {r : List (List V)} (o : OwnL W h as r) {b : Addr} (q : b ∈ as) : ∃ vs n, h.get? b = some (lstO vs n) := by
  obtain ⟨k, hk, e⟩ := List.getElem_of_mem q
  obtain ⟨ws, m, y, _⟩ := o.2 k b (r[k]'(by rw [← o.1]; exact hk)) (by rw [List.getElem?_eq_getElem hk, e]) (List.getElem?_eq_getElem _)
  exact ⟨ws, m, y⟩
theorem OR.isOwn {p : List Addr} {o : O} {v' : Value} (x : OR W h p o v') : ∀ b, b ∈ p → ∃ o, h.get? b = some o ∧ ∀ v, o.data ≠ .cell v := fun b q => by
  cases o with
  | val v => rw [x.1] at q; cases q
  | own r' => obtain ⟨c, rfl, _, vs, n, z, _⟩ := x; cases List.mem_singleton.mp q; exact ⟨_, z, fun _ => by simp⟩
  | own2 r' =>
    obtain ⟨c, as, rfl, _, vs, n, z, _, _, z4, _⟩ := x
    rcases List.mem_cons.mp q with rfl | q
    · exact ⟨_, z, fun _ => by simp⟩
    · obtain ⟨ws, m, y⟩ := z4.isList q; exact ⟨_, y, fun _ => by simp⟩
  | obj t l r =>
    obtain ⟨oa, da, as, rfl, _, z⟩ := x
    rcases List.mem_cons.mp q with rfl | q
    · obtain ⟨vs, ⟨o, es, ep, n1, n2, _⟩, _⟩ := z.ns; exact ⟨o, n1, fun _ => by rw [n2]; simp⟩
    · obtain ⟨ws, m, y⟩ := z.ol.isList q; exact ⟨_, y, fun _ => by simp⟩
  | dic w k l =>
    obtain ⟨a, vs, rfl, _, z, _⟩ := x
    cases List.mem_singleton.mp q
    obtain ⟨o, es, ep, y, y2⟩ := z.is default
    exact ⟨o, y, fun _ => by rw [y2]; simp⟩
theorem At.fixS (F : At X W φ s ρ) {D : Addr → Prop} (hp : ∀ a, D a → X.pin a = none) (hm : ∀ a, D a → ¬ Mut X φ a) (he : ∀ a, D a → ∃ o, s.heap.get? a = some o) : At X (fun b => W b ∨ D b) φ s ρ where
  gens := F.gens
  os := F.os
  f := { F.f with
    mu := fun b q => ⟨(F.f.mu b q).1, fun w => w.elim (F.f.mu b q).2 fun e => hm b e q⟩
    wf := fun b q => q.elim (F.f.wf b) fun e => he b e
    w0 := fun b o e q => q.elim (F.f.w0 b o e) fun z => by rw [hp b z] at e; cases e }
  lr := fun x i hx o ho hk => by obtain ⟨v', a, b⟩ := F.lr x i hx o ho hk; exact ⟨v', a, b.ag (.moreS ..) fun _ _ => rfl⟩
  ow := F.ow
  tk := F.tk
  kv := F.kv
theorem At.frz (F : At X W φ s ρ) {o : O} {v' : Value} (r : RO X W φ s.heap o v') : ∃ W', At X W' φ s ρ ∧ Ag W s.heap W' s.heap ∧ VR W' s.heap o.frz v' := by
  obtain ⟨p, x, y⟩ := r
  exact ⟨_, F.fixS (D := (· ∈ p)) (fun a q => (y a q).2.2) (fun a q => (y a q).2.1) (fun a q => by obtain ⟨_, e, _⟩ := x.isOwn a q; exact ⟨_, e⟩), .moreS W s.heap _, x.frz⟩
theorem Mut.less {i : Nat} {a : Addr} (q : Mut X (upd φ i []) a) : Mut X φ a := by
  rcases q with q | q | ⟨j, q⟩
  · exact .inl q
  · exact .inr (.inl q)
  · refine .inr (.inr ⟨j, ?_⟩)
    unfold upd at q; split at q
    · cases q
    · exact q
theorem At.drop (F : At X W φ s ρ) (i : Nat) {ρ' : Loc} (hρ : ∀ j o, j ≠ i → ρ'[j]? = some (some o) → ρ[j]? = some (some o)) (hi : ∀ x, X.fi.tbl.lookup x = some i → ∀ o, ρ'[i]? = some (some o) → X.env.kindOf x ≠ none → ∃ v', Val X.env s.heap x v' ∧ OR W s.heap [] o v') : At X W (upd φ i []) s ρ' where
  gens := F.gens
  os := F.os
  f := { F.f with
    mu := fun b q => F.f.mu b q.less
    dis := fun j k a p q => by
      by_cases ej : j = i
      · rw [ej, upd_same] at p; cases p
      · by_cases ek : k = i
        · rw [ek, upd_same] at q; cases q
        · rw [upd_ne _ _ ej] at p; rw [upd_ne _ _ ek] at q; exact F.f.dis j k a p q }
  lr := fun x j hx o ho hk => by
    by_cases ej : j = i
    · subst ej; rw [upd_same]; exact hi x hx o ho hk
    · rw [upd_ne _ _ ej]; exact F.lr x j hx o (hρ j o ej ho) hk
  ow := fun j a q => by
    by_cases ej : j = i
    · rw [ej, upd_same] at q; cases q
    · rw [upd_ne _ _ ej] at q; exact F.ow j a q
  tk := F.tk
  kv := F.kv

theorem F0.notCell (F : F0 X W φ h) {a : Addr} {o : Obj} (e : h.get? a = some o) (n : ∀ v, o.data ≠ .cell v) (x : Str) : X.env.cells.lookup x ≠ some a := fun q => by
  obtain ⟨o', v, z, t⟩ := F.cells x a q; rw [e] at z; cases z; exact n v t
theorem F0.notOwn (F : F0 X W φ h) {a : Addr} {vs : Array Value} {n : Nat} (e : h.get? a = some (lstO vs n)) : a ≠ X.env.locals ∧ ∀ x, X.env.cells.lookup x ≠ some a := by
  refine ⟨fun q => ?_, fun x q => ?_⟩
  · obtain ⟨o, _, _, z, t, _⟩ := F.ns; rw [← q, e] at z; cases z; cases t
  · obtain ⟨o, _, z, t⟩ := F.cells x a q; rw [e] at z; cases z; cases t
theorem OwO.no {a : Addr} (x : OwO X h a) (F : F0 X W φ h) : a ≠ X.env.locals ∧ ∀ x, X.env.cells.lookup x ≠ some a :=
  let ⟨_, e, n, l⟩ := x; ⟨l, F.notCell e n⟩

theorem At.free (F : At X W φ s ρ) (i : Nat) : At X W (upd φ i []) s (ρ.set i none) ∧ ∀ a, a ∈ φ i → X.pin a = none ∧ ¬ W a ∧ ¬ Mut X (upd φ i []) a ∧ ∀ x, X.env.cells.lookup x ≠ some a := by
  refine ⟨F.drop i (fun j o q w => by rwa [List.getElem?_set_ne (Ne.symm q)] at w) fun y hy o w => by
    rw [List.getElem?_set] at w
    split at w
    · split at w <;> cases w
    · rename_i q; exact absurd rfl q, fun a q => ?_⟩
  have hmu := F.f.mu a (.inr (.inr ⟨i, q⟩))
  have hno := (F.ow i a q).no F.f
  refine ⟨hmu.1, hmu.2, fun z => ?_, hno.2⟩
  rcases z with z | ⟨_, y, z⟩ | ⟨j, z⟩
  · exact hno.1 z
  · exact hno.2 y z
  · by_cases ej : j = i
    · rw [ej, upd_same] at z; cases z
    · rw [upd_ne _ _ ej] at z; exact ej (F.f.dis j i a z q)
theorem At.frzVar (F : At X W φ s ρ) {x : Str} {i : Nat} {o : O} {v' : Value} (ti : ∀ y, X.fi.tbl.lookup y = some i → y = x) (hv : Val X.env s.heap x v') (z : OR W s.heap (φ i) o v') :
    ∃ W', At X W' (upd φ i []) s (ρ.set i (some (.val o.frz))) ∧ Ag W s.heap W' s.heap ∧ VR W' s.heap o.frz v' := by
  obtain ⟨F1, hf⟩ := F.free i
  have F2 := F1.fixS (D := (· ∈ φ i)) (fun a q => (hf a q).1) (fun a q => (hf a q).2.2.1) (fun a q => by obtain ⟨_, e, _⟩ := F.ow i a q; exact ⟨_, e⟩)
  refine ⟨_, ⟨F2.gens, F2.os, F2.f, fun y j hy o' w hk => ?_, F2.ow, F2.tk, F2.kv⟩, .moreS W s.heap _, z.frz⟩
  rcases set_get w with ⟨rfl, rfl⟩ | ⟨q, w⟩
  · cases ti y hy; exact ⟨_, hv, by rw [upd_same]; exact ⟨rfl, z.frz⟩⟩
  · exact F2.lr y j hy o' (by rwa [List.getElem?_set_ne (Ne.symm q)]) hk

theorem At.store (F : At X W φ s ρ) {x : Str} (hxk : X.kv x = none) {i : Nat} {o : O} {v' : Value} {a : Addr} {t : Nat} (ti : ∀ y, X.fi.tbl.lookup y = some i → y = x) (hx : X.fi.tbl.lookup x = some i) {p : List Addr} (r : OR W s.heap p o v') (hp : ∀ a, a ∈ p → ¬ W a ∧ ¬ Mut X φ a ∧ X.pin a = none)
    (ha : a = X.env.locals ∨ (X.cm = true ∧ ∃ y, X.env.cells.lookup y = some a)) (hs : Heap.SameBut a s.heap h') (hv : Val X.env h' x v') (ho : ∀ y w, y ≠ x → Val X.env s.heap y w → Val X.env h' y w)
    (ns : ∃ o es ep, h'.get? X.env.locals = some o ∧ o.data = .dict es ep ∧ StrKeys es) (cells : ∀ x c, X.env.cells.lookup x = some c → ∃ o v, h'.get? c = some o ∧ o.data = .cell v) (ht : s.toks ≤ t := by first | exact Nat.le_refl _ | assumption | exact Nat.le_succ _ | omega | (dsimp only; omega) | (dsimp only at *; omega)) :
    At X W (upd φ i p) { s with heap := h', toks := t } (ρ.set i (some o)) ∧ Ag W s.heap W h' := by
  have hm : Mut X φ a := ha.elim .inl fun q => .inr (.inl q)
  obtain ⟨ag, pin, wf⟩ := F.f.turn hm hs
  have hl : ∀ b, OwO X s.heap b → h'.get? b = s.heap.get? b := fun b e => hs.2 b fun q => by
    have := e.no F.f
    rcases ha with z | ⟨_, y, z⟩
    · exact this.1 (q.trans z)
    · exact this.2 y (q ▸ z)
  have hl' : ∀ b, b ∈ p → OwO X s.heap b := fun b q => by
    obtain ⟨o, e, n⟩ := r.isOwn b q
    exact ⟨o, e, n, fun z => (hp b q).2.1 (.inl z)⟩
  have case : ∀ j b, b ∈ upd φ i p j → (j = i ∧ b ∈ p) ∨ (j ≠ i ∧ b ∈ φ j) := fun j b q => by
    by_cases ej : j = i
    · rw [ej, upd_same] at q; exact .inl ⟨ej, q⟩
    · rw [upd_ne _ _ ej] at q; exact .inr ⟨ej, q⟩
  have ow : ∀ j b, b ∈ upd φ i p j → OwO X s.heap b := fun j b q => (case j b q).elim (fun z => hl' b z.2) fun z => F.ow j b z.2
  refine ⟨⟨F.gens, F.os, ⟨pin, fun b q => ?_, wf, F.f.w0, fun j k b q q' => ?_, ns, cells⟩, fun y j hy o' w hk => ?_, fun j b q => ?_, fun h => Nat.lt_of_lt_of_le (F.tk h) ht, fun y v e => ho y v (fun q => by rw [q, hxk] at e; cases e) (F.kv y v e)⟩, ag⟩
  · rcases q with q | q | ⟨j, q⟩
    · exact F.f.mu b (.inl q)
    · exact F.f.mu b (.inr (.inl q))
    · rcases case j b q with ⟨_, q⟩ | ⟨_, q⟩
      · exact ⟨(hp b q).2.2, (hp b q).1⟩
      · exact F.f.mu b (.inr (.inr ⟨j, q⟩))
  · rcases case j b q with ⟨e, q⟩ | ⟨e, q⟩ <;> rcases case k b q' with ⟨e', q'⟩ | ⟨e', q'⟩
    · exact e.trans e'.symm
    · exact absurd (.inr (.inr ⟨k, q'⟩)) (hp b q).2.1
    · exact absurd (.inr (.inr ⟨j, q⟩)) (hp b q').2.1
    · exact F.f.dis j k b q q'
  · rcases set_get w with ⟨rfl, rfl⟩ | ⟨q, w⟩
    · cases ti y hy
      refine ⟨v', hv, ?_⟩
      rw [upd_same]
      exact r.ag ag fun b q => hl b (hl' b q)
    · obtain ⟨w', b1, b2⟩ := F.lr y j hy o' w hk
      refine ⟨w', ho y w' (fun e => q ?_) b1, ?_⟩
      · rw [e, hx] at hy; exact (Option.some.inj hy).symm
      · rw [upd_ne _ _ q]
        exact b2.ag ag fun b z => hl b (F.ow j b z)
  · have e := ow j b q; have e0 := e; obtain ⟨o, e1, e2⟩ := e0; exact ⟨o, (hl b e).trans e1, e2⟩

theorem At.turn (F : At X W φ s ρ) {x : Str} {i : Nat} {a : Addr} {t : Nat} {r : List V} {vs : Array Value} {n : Nat} (ti : ∀ y, X.fi.tbl.lookup y = some i → y = x) (hi : φ i = [a]) (hs : Heap.SameBut a s.heap h') (hv : Val X.env s.heap x (.ref a))
    (he : h'.get? a = some (lstO vs n)) (hr : VRs W s.heap r.reverse vs.toList) (hz : r.length ≤ sizeLine) (ht : s.toks ≤ t := by first | exact Nat.le_refl _ | assumption | exact Nat.le_succ _ | omega | (dsimp only; omega) | (dsimp only at *; omega)) : At X W φ { s with heap := h', toks := t } (ρ.set i (some (.own r))) ∧ Ag W s.heap W h' := by
  have hmem : a ∈ φ i := hi ▸ List.mem_cons_self
  obtain ⟨ag, pin, wf⟩ := F.f.turn (.inr (.inr ⟨i, hmem⟩)) hs
  have hno := (F.ow i a hmem).no F.f
  have hL : h'.get? X.env.locals = s.heap.get? X.env.locals := hs.2 _ (Ne.symm hno.1)
  have hC : ∀ y c, X.env.cells.lookup y = some c → h'.get? c = s.heap.get? c := fun y c q => hs.2 c fun e => hno.2 y (e ▸ q)
  have val : ∀ y w, Val X.env s.heap y w → Val X.env h' y w := fun y w q => by
    obtain ⟨q, m, ⟨o, es, ep, e, z⟩, hm⟩ | ⟨q, c, hc, o, e, z⟩ := q
    · exact .inl ⟨q, m, ⟨o, es, ep, hL.trans e, z⟩, hm⟩
    · exact .inr ⟨q, c, hc, o, (hC y c hc).trans e, z⟩
  refine ⟨⟨F.gens, F.os, { F.f with pin := pin, wf := wf, ns := ?_, cells := fun y c q => ?_ }, fun y j hy o w hk => ?_, fun j b q => ?_, fun h => Nat.lt_of_lt_of_le (F.tk h) ht, fun y v e => val y v (F.kv y v e)⟩, ag⟩
  · obtain ⟨o, es, ep, e, z⟩ := F.f.ns; exact ⟨o, es, ep, hL.trans e, z⟩
  · obtain ⟨o, v, e, z⟩ := F.f.cells y c q; exact ⟨o, v, (hC y c q).trans e, z⟩
  · rcases set_get w with ⟨rfl, rfl⟩ | ⟨q, w⟩
    · cases ti y hy
      exact ⟨_, val _ _ hv, a, hi, rfl, vs, n, he, hr.ag ag, hz⟩
    · obtain ⟨w', b1, b2⟩ := F.lr y j hy o w hk
      exact ⟨w', val _ _ b1, b2.ag ag fun b z => hs.2 b fun e => q (F.f.dis j i a (e ▸ z) hmem)⟩
  · by_cases e : b = a
    · subst e; exact ⟨_, he, (fun _ => by simp), hno.1⟩
    · obtain ⟨o, z, y⟩ := F.ow j b q; exact ⟨o, (hs.2 b e).trans z, y⟩
end
end Mine
end

section
open PySem
set_option autoImplicit false
set_option linter.unusedVariables false
namespace Mine
open PySem.W (Frag kitOne keepIn Looks)

inductive Ty | tuple | str | int | bool | list deriving DecidableEq
inductive Kd | none | bool | int | str | tup | list deriving DecidableEq
noncomputable def Kd.v (k : Kd) : Value := .type (Kd.rec "NoneType" "bool" "int" "str" "tuple" "list" k)
noncomputable def Ty.n (t : Ty) : String := Ty.rec "tuple" "str" "int" "bool" "list" t
noncomputable def isiK (k : Kd) (t : Ty) : Bool := Kd.rec false (Ty.rec false false true true false t) (Ty.rec false false true false false t) (Ty.rec false true false false false t) (Ty.rec true false false false false t) (Ty.rec false false false false true t) k

structure FD where
  ps : List Str
  fi : FI
  st : List Stmt
structure Gl where
  fn : List (Str × Addr)
  fd : List (Addr × FD)
  bn : List Str
  ty : List Ty
  mo : Cx → Prop
  w : World
  cl : List (Str × CT × Addr)
  me : List (Addr × Str × Addr)
open PySem.W (clsIn findIn typeIn specialIn takesIn mroIn makesIn plainGet hasDictIn plainOver takerIn isFn InstAt kitAny lookIn)
def clsChk (K : Frag) (C fI : Addr) (attrs : List Str) : Bool :=
  makesIn K C && plainGet K C "__class__" && hasDictIn K C && (findIn K (.ref C) "__setattr__" == some (some (.builtin "object.__setattr__"))) && plainOver K C &&
  (findIn K (.ref C) "__init__" == some (some (.ref fI))) && isFn K (.ref fI) &&
  (findIn K (.ref C) "__class__" == some (some (.builtin "object.__class__"))) && (specialIn K (.builtin "object.__class__") "__get__" == some (some (.builtin "getset_descriptor.__get__"))) &&
  (takesIn K (.builtin "object.__class__") == some true) && (mroIn K C (.type "object") == some true) && attrs.all fun a => (findIn K (.ref C) a == some none) && (takerIn K C a == some none)
structure ClsAt (C : Cx) (x : Str) (t : CT) (a : Addr) : Prop where
  g : C.mg x = some (.ref t.c)
  keep : keepIn C.K (.ref t.c) = true
  chk : clsChk C.K t.c a (t.vn ++ t.ln) = true
  nd : (t.vn ++ t.ln).Nodup
  few : (t.vn ++ t.ln).length ≤ 100
  no : ∀ k : Kd, kitOne C.K k.v (.ref t.c) = some false
  yes : kitOne C.K (.ref t.c) (.ref t.c) = some true
structure MeAt (C : Cx) (c : Addr) (x : Str) (a : Addr) : Prop where
  find : findIn C.K (.ref c) x = some (some (.ref a))
  ty : typeIn C.K (.ref a) = some (.type "function")
  keep : keepIn C.K (.ref a) = true

def deep : Nat := 2000
structure FnOk (C : Cx) (a : Addr) (f : FD) (o : Obj) (fd : FuncData) : Prop where
  at_ : C.h.get? a = some o
  dat : o.data = .func fd
  body : fd.body = .stmts f.st
  clo : fd.closure = []
  gl : fd.globals = mainGlobals
  bi : fd.builtins = builtinsNs
  co : fd.scope.isCoroutine = false
  gen : fd.scope.isGenerator = false
  kind : fd.scope.kind = .function
  rec_ : C.h.CodeRec fd.code fd.qualname
  bind : ∀ vals : List Value, vals.length = f.ps.length → bindArgs fd ⟨vals, []⟩ = pure (f.ps.zip vals)
  nodup : f.ps.Nodup
  names : fd.scope.names = f.fi.names
  own : ∀ p, p ∈ f.ps → f.fi.names.lookup p = some .local ∨ f.fi.names.lookup p = some .cell
  free : ∀ x, x ∈ f.fi.names → x.2 ≠ .free
  at0 : ∀ i p, f.ps[i]? = some p → f.fi.tbl.lookup p = some i
  inj : ∀ y z j, f.fi.tbl.lookup y = some j → f.fi.tbl.lookup z = some j → y = z

structure GOk (G : Gl) (C : Cx) : Prop where
  X : C.K.In C.h
  g : C.h.Ns mainGlobals C.mg
  b : C.h.Ns builtinsNs C.mb
  bi : ∀ x : Str, x ≠ "__name__" → C.mb x = bootBuiltins x
  nolimit : C.h.NoLimit
  isi : ∀ k t, t ∈ G.ty → kitOne C.K k.v (.type t.n) = some (isiK k t)
  bn : ∀ x, x ∈ G.bn → C.mg x = none ∧ x ≠ "__name__"
  fn : ∀ x a, G.fn.lookup x = some a → C.mg x = some (.ref a) ∧ keepIn C.K (.ref a) = true
  fd : ∀ a f, G.fd.lookup a = some f → ∃ o fd, FnOk C a f o fd
  mo : G.mo C
  w : C.w = G.w
  cl : ∀ x t a, G.cl.lookup x = some (t, a) → ClsAt C x t a
  me : ∀ c x a, (c, x, a) ∈ G.me → MeAt C c x a

structure FS (G : Gl) (d : Nat) (X : FC) : Prop where
  g : GOk G X.C
  base : ∀ a o, X.C.h.get? a = some o → X.pin a = some o
  hd : X.A.handled = none
  dp : X.A.depth + 2 * d + 10 ≤ recursionLimit
  un : X.A.units + 20 * d + deep + 100 < cLine
  fn : X.env.scope.kind = .function
  gl : X.env.globals = mainGlobals
  bi : X.env.builtins = builtinsNs
  nm : X.env.scope.names = X.fi.names
  cel : ∀ x, X.fi.names.lookup x = some .cell ∨ X.fi.names.lookup x = some .free → ∃ c, X.env.cells.lookup x = some c
  inj : ∀ x y c, X.env.cells.lookup x = some c → X.env.cells.lookup y = some c → x = y
  ti : ∀ y z j, X.fi.tbl.lookup y = some j → X.fi.tbl.lookup z = some j → y = z
  kv : ∀ x v, X.kv x = some v → X.fi.kp.contains x = true

def FI.isVar (fi : FI) (x : Str) (i : Nat) : Bool := fi.tbl.lookup x == some i && (fi.names.lookup x == some .local || fi.names.lookup x == some .cell || fi.names.lookup x == some .free) && x != "__debug__" && x != "__classdict__"
def FI.isOwn (fi : FI) (x : Str) (i : Nat) : Bool := fi.tbl.lookup x == some i && (fi.names.lookup x == some .local || fi.names.lookup x == some .cell) && !fi.kp.contains x
def FI.isGlob (fi : FI) (x : Str) : Bool := fi.names.lookup x == some .globalImplicit && x != "__debug__"
def isBi (G : Gl) (fi : FI) (x : Str) : Bool := fi.isGlob x && G.bn.contains x

section
variable {G : Gl} {d : Nat} {X : FC} {W : WS} {φ : Nat → List Addr} {s : Shared} {ρ : Loc} {E : Value → Shared → Prop}

theorem FS.kind (S : FS G d X) (x : Str) : X.env.kindOf x = X.fi.names.lookup x := by unfold Env.kindOf; rw [S.nm]
theorem At.keep (F : At X W φ s ρ) (S : FS G d X) : ∀ a o, X.C.h.get? a = some o → s.heap.get? a = some o := fun a o e => F.f.pin a o (S.base a o e)
theorem At.In (F : At X W φ s ρ) (S : FS G d X) : X.C.K.In s.heap := S.g.X.keeps (F.keep S)

theorem load_ok {x : Str} {i : Nat} {p : Pos} {o : O} {Q : Value → Shared → Prop} (S : FS G d X) (F : At X W φ s ρ) (hx : X.fi.isVar x i = true) (e : ρ[i]? = some (some o))
    (h : ∀ v', X.fi.tbl.lookup x = some i → X.env.kindOf x ≠ none → Val X.env s.heap x v' → OR W s.heap (φ i) o v' → Q v' s) : wpAny X.C.M X.A (eval (.Name x p) X.env) Q E s := by
  simp only [FI.isVar, Bool.and_eq_true, beq_iff_eq, bne_iff_ne, ne_eq, Bool.or_eq_true] at hx
  obtain ⟨⟨⟨h1, h2⟩, h3⟩, h4⟩ := hx
  have hk : X.env.kindOf x ≠ none := by rw [S.kind]; rintro q; rcases h2 with (z | z) | z <;> rw [q] at z <;> cases z
  obtain ⟨v', a, b⟩ := F.lr x i h1 o e hk
  refine wpAny_Name ?_ (by simpa using h3)
  have fin := h v' h1 hk a b
  rcases a with ⟨hk, m, hn, hm⟩ | ⟨hk | hk, c, hc, hv⟩
  · exact wpAny_loadName_local S.fn hk hn hm fin
  · exact wpAny_loadName_cell S.fn hk hc hv fin
  · exact wpAny_loadName_free S.fn hk hc hv fin (by simpa using h4)

theorem store_ok {x : Str} {i : Nat} {o : O} {v' : Value} {Q : Unit → Shared → Prop} (S : FS G d X) (hcm : X.fi.names.lookup x = some .local ∨ X.cm = true) (F : At X W φ s ρ) (r : RO X W φ s.heap o v') (hx : X.fi.isOwn x i = true)
    (h : ∀ φ' s', At X W φ' s' (ρ.set i (some o)) → Ag W s.heap W s'.heap → Q () s') : wpAny X.C.M X.A (storeName X.env x v') Q E s := by
  simp only [FI.isOwn, Bool.and_eq_true, beq_iff_eq, Bool.or_eq_true, Bool.not_eq_true'] at hx
  obtain ⟨⟨h1, h2⟩, h0⟩ := hx
  have hxk : X.kv x = none := by
    cases q : X.kv x with
    | none => rfl
    | some v => have := S.kv x v q; rw [h0] at this; cases this
  obtain ⟨p, r, hp⟩ := r
  have ti : ∀ y, X.fi.tbl.lookup y = some i → y = x := fun y hy => S.ti y x i hy h1
  rcases h2 with h2 | h2
  · have hk := (S.kind x).trans h2
    obtain ⟨o1, es, ep, ho, hd, hs⟩ := F.f.ns
    have hn : s.heap.Ns X.env.locals (fun y => nsFind es y) := ⟨o1, es, ep, ho, hd, hs, fun _ => rfl⟩
    refine wpAny_storeName_local hk hn (fun h' hn' hs' => ?_) (by rw [S.fn]; rfl)
    have hC : ∀ y c, X.env.cells.lookup y = some c → c ≠ X.env.locals := fun y c hc q => by
      obtain ⟨o2, _, e2, e3⟩ := F.f.cells y c hc; rw [q, ho] at e2; cases e2; rw [hd] at e3; cases e3
    obtain ⟨A, B⟩ := F.store hxk (t := s.toks + 1) ti h1 r hp (.inl rfl) hs' (.inl ⟨hk, _, hn', by simp⟩) (fun y w hy q => by
      rcases q with ⟨a1, m, a2, a3⟩ | ⟨a1, c, a2, a3⟩
      · refine .inl ⟨a1, _, hn', ?_⟩
        rw [if_neg hy]
        obtain ⟨o2, es2, ep2, ho2, hd2, _, hf2⟩ := a2
        rw [ho] at ho2; cases ho2; rw [hd] at hd2; cases hd2
        exact (hf2 y).trans a3
      · exact .inr ⟨a1, c, a2, a3.sameBut hs' (hC y c a2)⟩)
      (by obtain ⟨o2, es2, ep2, a, b, c, _⟩ := hn'; exact ⟨o2, es2, ep2, a, b, c⟩) (fun y c hc => by
        obtain ⟨o2, v2, a, b⟩ := F.f.cells y c hc; exact ⟨o2, v2, (hs'.2 c (hC y c hc)).trans a, b⟩)
    exact h _ _ A B
  · have hcm : X.cm = true := hcm.resolve_left fun q => by rw [h2] at q; cases q
    have hk := (S.kind x).trans h2
    obtain ⟨c, hc⟩ := S.cel x (.inl h2)
    obtain ⟨o1, w, ho, hd⟩ := F.f.cells x c hc
    refine wpAny_storeName_cell S.fn hk hc ⟨o1, ho, hd⟩ fun h' hc' hs' => ?_
    have hL : X.env.locals ≠ c := fun q => by
      obtain ⟨o2, _, _, e2, e3, _⟩ := F.f.ns; rw [q, ho] at e2; cases e2; rw [hd] at e3; cases e3
    obtain ⟨A, B⟩ := F.store hxk (t := s.toks) ti h1 r hp (.inr ⟨hcm, x, hc⟩) hs' (.inr ⟨.inl hk, c, hc, hc'⟩) (fun y w hy q => by
      rcases q with ⟨a1, m, a2, a3⟩ | ⟨a1, c2, a2, a3⟩
      · exact .inl ⟨a1, m, a2.sameBut hs' hL, a3⟩
      · exact .inr ⟨a1, c2, a2, a3.sameBut hs' fun q => hy (S.inj y x c (q ▸ a2) hc)⟩)
      (by obtain ⟨o2, es2, ep2, a, b, c⟩ := F.f.ns; exact ⟨o2, es2, ep2, (hs'.2 _ hL).trans a, b, c⟩) (fun y c2 hc2 => by
        by_cases q : c2 = c
        · subst q; obtain ⟨o2, a, b⟩ := hc'; exact ⟨o2, _, a, b⟩
        · obtain ⟨o2, v2, a, b⟩ := F.f.cells y c2 hc2; exact ⟨o2, v2, (hs'.2 c2 q).trans a, b⟩)
    exact h _ _ A B

theorem glob_ok {x : Str} {p : Pos} {v : Value} {Q : Value → Shared → Prop} (S : FS G d X) (F : At X W φ s ρ) (hx : X.fi.isGlob x = true) (hv : X.C.mg x = some v) (h : Q v s) : wpAny X.C.M X.A (eval (.Name x p) X.env) Q E s := by
  simp only [FI.isGlob, Bool.and_eq_true, beq_iff_eq, bne_iff_ne, ne_eq] at hx
  refine PySem.Calls.Name_function_global S.fn ((S.kind x).trans hx.1) (PySem.Calls.loadGlobal_global (mg := X.C.mg) ?_ hv h) (by simpa using hx.2)
  rw [S.gl]; exact S.g.g.keeps (F.keep S)
theorem bi_ok {x : Str} {p : Pos} {v : Value} {Q : Value → Shared → Prop} (S : FS G d X) (F : At X W φ s ρ) (hx : isBi G X.fi x = true) (hv : bootBuiltins x = some v) (h : Q v s) : wpAny X.C.M X.A (eval (.Name x p) X.env) Q E s := by
  simp only [isBi, FI.isGlob, Bool.and_eq_true, beq_iff_eq, bne_iff_ne, ne_eq, List.contains_iff_mem] at hx
  obtain ⟨⟨h1, h2⟩, h3⟩ := hx
  obtain ⟨h4, h5⟩ := S.g.bn x h3
  refine PySem.Calls.Name_function_global S.fn ((S.kind x).trans h1) (PySem.Calls.loadGlobal_builtin (mg := X.C.mg) (mb := X.C.mb) ?_ h4 ?_ ((S.g.bi x h5).trans hv) h) (by simpa using h2)
  · rw [S.gl]; exact S.g.g.keeps (F.keep S)
  · rw [S.bi]; exact S.g.b.keeps (F.keep S)
end
end Mine
end

section
open PySem
set_option autoImplicit false
set_option linter.unusedVariables false
namespace Mine
open PySem.W (Frag kitOne keepIn Looks)

set_option genSizeOf false in
set_option genInjectivity false in
inductive Fl where
  | next
  | ret (o : O)
set_option genSizeOf false in
set_option genInjectivity false in
inductive Tk where
  | b (b : Bool)
  | r (o : O)
  | l (fl : Fl) (ρ : Loc)
  | vs (l : List V)
structure St where
  ρ : Loc
  tp : List Tk
  ob : List Prop
noncomputable def All (l : List Prop) : Prop := @List.rec Prop (fun _ => Prop) True (fun p _ q => p ∧ q) l
theorem All.app : ∀ {l m : List Prop}, All (l ++ m) → All l ∧ All m
  | [], _, h => ⟨trivial, h⟩
  | _ :: _, _, h => ⟨⟨h.1, (All.app h.2).1⟩, (All.app h.2).2⟩

noncomputable def bd {α β : Type} (x : Option (α × St)) (f : α → St → Option (β × St)) : Option (β × St) := x.bind fun p => f p.1 p.2
noncomputable def rt {α : Type} (x : Option (α × List Prop)) (σ : St) : Option (α × St) := x.bind fun p => some (p.1, ⟨σ.ρ, σ.tp, p.2 ++ σ.ob⟩)
noncomputable def pu {α : Type} (x : α) (σ : St) : Option (α × St) := some (x, σ)
noncomputable def slot (ρ : Loc) (i : Nat) : Option O := (ρ[i]?).bind id
theorem slot_some {ρ : Loc} {i : Nat} {o : O} (e : slot ρ i = some o) : ρ[i]? = some (some o) := by
  unfold slot at e; cases q : ρ[i]? with
  | none => rw [q] at e; cases e
  | some x => rw [q] at e; exact congrArg some e

def Ok {α : Type} (ev : St → Option (α × St)) (S : Loc → α → Loc → Prop) : Prop := ∀ σ a σ', ev σ = some (a, σ') → All σ'.ob → All σ.ob ∧ S σ.ρ a σ'.ρ
section
variable {α β : Type} {S : Loc → α → Loc → Prop} {S' : Loc → β → Loc → Prop}
theorem Ok.bd {f : St → Option (α × St)} {g : α → St → Option (β × St)} (hf : Ok f S) {R : α → Loc → β → Loc → Prop} (hg : ∀ a, Ok (g a) (R a)) (k : ∀ ρ a ρ₁ b ρ', S ρ a ρ₁ → R a ρ₁ b ρ' → S' ρ b ρ') : Ok (fun σ => bd (f σ) g) S' := by
  intro σ b σ' e h
  obtain ⟨⟨a, σ₁⟩, e1, e2⟩ := Option.bind_eq_some_iff.mp e
  obtain ⟨h1, h2⟩ := hg a σ₁ b σ' e2 h
  obtain ⟨h3, h4⟩ := hf σ a σ₁ e1 h1
  exact ⟨h3, k _ _ _ _ _ h4 h2⟩
theorem Ok.rt {x : Option (α × List Prop)} (k : ∀ a p ρ, x = some (a, p) → All p → S ρ a ρ) : Ok (rt x) S := by
  intro σ a σ' e h
  obtain ⟨⟨a', p⟩, e1, e2⟩ := Option.bind_eq_some_iff.mp e
  cases e2
  obtain ⟨h1, h2⟩ := All.app h
  exact ⟨h2, k _ p _ e1 h1⟩
theorem Ok.pu {x : α} (k : ∀ ρ, S ρ x ρ) : Ok (pu x) S := fun σ a σ' e h => by cases e; exact ⟨h, k _⟩
theorem Ok.none {f : St → Option (α × St)} (h : ∀ σ, f σ = none) : Ok f S := fun σ a σ' e => by rw [h] at e; cases e
end

structure Gs (W : WS) (s : Shared) (W' : WS) (s' : Shared) : Prop where
  g : Grow W s.heap W' s'.heap
  gens : s'.gens = s.gens
  os : s'.os = s.os
  tk : s.toks ≤ s'.toks
noncomputable def RN (h : Heap) (W' : WS) (h' : Heap) (o : O) (v' : Value) : Prop := O.rec (fun v => VR W' h' v v') (fun r => ∃ a, v' = .ref a ∧ h.get? a = none ∧ ¬ W' a ∧ OwnAt W' h' a r) (fun r => ∃ a as, v' = .ref a ∧ (∀ b, b ∈ a :: as → h.get? b = none ∧ ¬ W' b) ∧ Own2At W' h' a as r)
  (fun t l r => ∃ oa da as, v' = .ref oa ∧ (∀ b, b ∈ da :: as → h.get? b = none ∧ ¬ W' b) ∧ ObjAt W' h' oa da as t l r) (fun w k l => ∃ a vs, v' = .ref a ∧ h.get? a = none ∧ ¬ W' a ∧ DicAt w h' a k vs ∧ VRs W' h' l vs) o
noncomputable def BR (W : WS) (h : Heap) (o : O) (v' : Value) : Prop := O.rec (fun v => VR W h v v') (fun r => ∃ a, v' = .ref a ∧ OwnAt W h a r) (fun r => ∃ a as, v' = .ref a ∧ Own2At W h a as r) (fun t l r => ∃ oa da as, v' = .ref oa ∧ ObjAt W h oa da as t l r) (fun w k l => ∃ a vs, v' = .ref a ∧ DicAt w h a k vs ∧ VRs W h l vs) o
def Aft (W : WS) (s : Shared) (Q : Value → Shared → Prop) (o : O) : Prop := ∀ v' W' s', Gs W s W' s' → RN s.heap W' s'.heap o v' → Q v' s'

section
variable {X : FC} {W : WS} {φ : Nat → List Addr} {s : Shared} {ρ : Loc} {Q : Value → Shared → Prop}
theorem At.gs (F : At X W φ s ρ) {W' : WS} {s' : Shared} (g : Gs W s W' s') : At X W' φ s' ρ :=
  have A := F.grow (t := s'.toks) g.g g.tk
  ⟨g.gens.trans F.gens, g.os.trans F.os, A.f, A.lr, A.ow, A.tk, A.kv⟩
theorem At.fresh (F : At X W φ s ρ) {a : Addr} (e : s.heap.get? a = none) : ¬ Mut X φ a ∧ X.pin a = none := by
  refine ⟨fun m => ?_, ?_⟩
  · rcases m with m | ⟨_, x, m⟩ | ⟨i, m⟩
    · obtain ⟨o, _, _, z, _⟩ := F.f.ns; rw [← m, e] at z; cases z
    · obtain ⟨o, _, z, _⟩ := F.f.cells x a m; rw [e] at z; cases z
    · obtain ⟨_, z, _⟩ := F.ow i a m; rw [e] at z; cases z
  · cases q : X.pin a with
    | none => rfl
    | some o => have := F.f.pin a o q; rw [e] at this; cases this
theorem RN.ro (F : At X W φ s ρ) {W' : WS} {h' : Heap} {o : O} {v' : Value} (r : RN s.heap W' h' o v') : RO X W' φ h' o v' := by
  cases o with
  | val v => exact .val r
  | own r' =>
    obtain ⟨a, rfl, e, w, z⟩ := r
    refine ⟨[a], ⟨a, rfl, rfl, z⟩, fun b q => ?_⟩
    cases List.mem_singleton.mp q
    exact ⟨w, F.fresh e⟩
  | own2 r' =>
    obtain ⟨a, as, rfl, e, z⟩ := r
    exact ⟨a :: as, ⟨a, as, rfl, rfl, z⟩, fun b q => ⟨(e b q).2, F.fresh (e b q).1⟩⟩
  | obj t l r' =>
    obtain ⟨oa, da, as, rfl, e, z⟩ := r
    exact ⟨da :: as, ⟨oa, da, as, rfl, rfl, z⟩, fun b q => ⟨(e b q).2, F.fresh (e b q).1⟩⟩
  | dic w k l =>
    obtain ⟨a, vs, rfl, e, w, z1, z2⟩ := r
    refine ⟨[a], ⟨a, vs, rfl, rfl, z1, z2⟩, fun b q => ?_⟩
    cases List.mem_singleton.mp q
    exact ⟨w, F.fresh e⟩
theorem Gs.toks (wf : ∀ a, W a → ∃ o, s.heap.get? a = some o) (t : Nat) (ht : s.toks ≤ t) : Gs W s W { s with toks := t } := ⟨⟨fun _ _ e => e, fun _ q => q, wf, fun _ _ _ q => q⟩, rfl, rfl, ht⟩
theorem Aft.here {v : V} {v' : Value} {t : Nat} (k : Aft W s Q (.val v)) (wf : ∀ a, W a → ∃ o, s.heap.get? a = some o) (r : VR W s.heap v v') (ht : s.toks ≤ t := by first | exact Nat.le_refl _ | assumption | exact Nat.le_succ _ | omega | (dsimp only; omega) | (dsimp only at *; omega)) : Q v' { s with toks := t } := k _ _ _ (.toks wf t ht) r
theorem fresh_size (h : Heap) : h.get? h.objs.size = none := by
  cases q : h.get? h.objs.size with
  | none => rfl
  | some o => exact absurd (Heap.lt_size q) (Nat.lt_irrefl _)
theorem none_of_le {h : Heap} {a : Addr} (e : h.objs.size ≤ a) : h.get? a = none := by
  cases q : h.get? a with
  | none => rfl
  | some o => exact absurd (Heap.lt_size q) (Nat.not_lt.mpr e)
theorem Gs.of (wf : ∀ a, W a → ∃ o, s.heap.get? a = some o) {h' : Heap} {t : Nat} (k : ∀ a o, s.heap.get? a = some o → h'.get? a = some o) (ht : s.toks ≤ t := by first | exact Nat.le_refl _ | assumption | exact Nat.le_succ _ | omega | (dsimp only; omega) | (dsimp only at *; omega)) : Gs W s W { s with heap := h', toks := t } :=
  ⟨⟨k, fun _ q => q, fun a q => (wf a q).elim fun o e => ⟨o, k a o e⟩, fun _ _ _ q => q⟩, rfl, rfl, ht⟩
theorem Aft.tuple {l : List V} {vs : Array Value} {e t : Nat} (k : Aft W s Q (.val (.tup l))) (wf : ∀ a, W a → ∃ o, s.heap.get? a = some o) (r : VRs W s.heap l vs.toList) (hz : l.length ≤ sizeLine) (ht : s.toks ≤ t := by first | exact Nat.le_refl _ | assumption | exact Nat.le_succ _ | omega | (dsimp only; omega) | (dsimp only at *; omega)) :
    Q (.ref s.heap.objs.size) { s with heap := s.heap.push (tupO vs e), toks := t } := by
  have hk : ∀ a o, s.heap.get? a = some o → (s.heap.push (tupO vs e)).get? a = some o := fun _ _ q => Heap.get?_push_of_some _ q
  have g : Grow W s.heap (fun b => W b ∨ b = s.heap.objs.size) (s.heap.push (tupO vs e)) := by
    refine ⟨hk, fun _ q => .inl q, fun a q => ?_, fun a o z q => q.elim id fun q => by rw [q, fresh_size] at z; cases z⟩
    rcases q with q | q
    · obtain ⟨o, z⟩ := wf a q; exact ⟨o, hk a o z⟩
    · rw [q]; exact ⟨_, Heap.get?_push_size _ rfl⟩
  exact k _ _ _ ⟨g, rfl, rfl, ht⟩ ⟨_, vs, e, rfl, .inr rfl, Heap.get?_push_size _ rfl, hz, VRs.ag (g.ag wf) r⟩
theorem Aft.listAt {r : List V} {vs : Array Value} {e t a : Nat} {h' : Heap} (k : Aft W s Q (.own r)) (wf : ∀ a, W a → ∃ o, s.heap.get? a = some o) (hk : ∀ a o, s.heap.get? a = some o → h'.get? a = some o) (ha : s.heap.get? a = none)
    (ho : h'.get? a = some (lstO vs e)) (hr : VRs W s.heap r.reverse vs.toList) (hz : r.length ≤ sizeLine) (ht : s.toks ≤ t := by first | exact Nat.le_refl _ | assumption | exact Nat.le_succ _ | omega | (dsimp only; omega) | (dsimp only at *; omega)) : Q (.ref a) { s with heap := h', toks := t } :=
  have g := Gs.of (t := t) wf hk ht
  k _ _ _ g ⟨a, rfl, ha, (fun q => (wf a q).elim fun o z => by rw [ha] at z; cases z), vs, e, ho, VRs.ag (g.g.ag wf) hr, hz⟩
theorem Aft.list {r : List V} {vs : Array Value} {e t : Nat} (k : Aft W s Q (.own r)) (wf : ∀ a, W a → ∃ o, s.heap.get? a = some o) (hr : VRs W s.heap r.reverse vs.toList) (hz : r.length ≤ sizeLine) (ht : s.toks ≤ t := by first | exact Nat.le_refl _ | assumption | exact Nat.le_succ _ | omega | (dsimp only; omega) | (dsimp only at *; omega)) :
    Q (.ref s.heap.objs.size) { s with heap := s.heap.push (lstO vs e), toks := t } :=
  k.listAt wf (fun _ _ q => Heap.get?_push_of_some _ q) (fresh_size _) (Heap.get?_push_size _ rfl) hr hz ht
end

structure Pst (X : FC) (W : WS) (s : Shared) (W' : WS) (φ' : Nat → List Addr) (s' : Shared) (ρ' : Loc) : Prop where
  f : At X W' φ' s' ρ'
  ag : Ag W s.heap W' s'.heap
  vl : ∀ x v', Val X.env s.heap x v' → Val X.env s'.heap x v'

section
variable (G : Gl) (d : Nat) (fi : FI)
def EvG (x : Expr) (ρ : Loc) (o : O) (ρ' : Loc) : Prop := ∀ (X : FC) (E : Value → Shared → Prop) (W : WS) (φ : Nat → List Addr) (s : Shared), X.fi = fi → FS G d X → At X W φ s ρ →
  ∀ Q : Value → Shared → Prop, (∀ v' W' φ' s', Pst X W s W' φ' s' ρ' → RO X W' φ' s'.heap o v' → Q v' s') → wpAny X.C.M X.A (eval x X.env) Q E s
def EvV (x : Expr) (ρ : Loc) (v : V) (ρ' : Loc) : Prop := ∀ (X : FC) (E : Value → Shared → Prop) (W : WS) (φ : Nat → List Addr) (s : Shared), X.fi = fi → FS G d X → At X W φ s ρ →
  ∀ Q : Value → Shared → Prop, (∀ v' W' φ' s', Pst X W s W' φ' s' ρ' → VR W' s'.heap v v' → Q v' s') → wpAny X.C.M X.A (eval x X.env) Q E s
def PkG (x : Expr) (ρ : Loc) (o : O) (ρ' : Loc) : Prop := ∀ (X : FC) (E : Value → Shared → Prop) (W : WS) (φ : Nat → List Addr) (s : Shared), X.fi = fi → FS G d X → At X W φ s ρ →
  ∀ Q : Value → Shared → Prop, (∀ v' W' φ' s', Pst X W s W' φ' s' ρ' → BR W' s'.heap o v' → Q v' s') → wpAny X.C.M X.A (eval x X.env) Q E s
def TrG (x : Expr) (ρ : Loc) (t : Bool) (ρ' : Loc) : Prop := ∀ (X : FC) (E : Value → Shared → Prop) (W : WS) (φ : Nat → List Addr) (s : Shared), X.fi = fi → FS G d X → At X W φ s ρ →
  ∀ Q : Bool → Shared → Prop, (∀ W' φ' s', Pst X W s W' φ' s' ρ' → Q t s') → wpAny X.C.M X.A (isTrue x X.env (eval x X.env)) Q E s
abbrev plainArgs (xs : List Expr) (env : Env) : List (Bool × Sem Value) := xs.map fun x => (false, eval x env)
def RwG (xs : List Expr) (ρ : Loc) (vs : List V) (ρ' : Loc) : Prop := vs.length = xs.length ∧ ∀ (X : FC) (E : Value → Shared → Prop) (W : WS) (φ : Nat → List Addr) (s : Shared), X.fi = fi → FS G d X → At X W φ s ρ →
  ∀ Q : List Value → Shared → Prop, (∀ vs' W' φ' s', Pst X W s W' φ' s' ρ' → VRs W' s'.heap vs vs' → Q vs' s') → wpAny X.C.M X.A (spliced (plainArgs xs X.env)) Q E s
end
section
variable {G : Gl} {d : Nat} {fi : FI} {x : Expr} {ρ ρ' ρ₁ : Loc} {o : O} {X : FC} {W W' W'' : WS} {φ φ' φ'' : Nat → List Addr} {s s' s'' : Shared}
theorem Pst.refl (F : At X W φ s ρ) : Pst X W s W φ s ρ := ⟨F, .refl .., fun _ _ r => r⟩
theorem Pst.trans (p : Pst X W s W' φ' s' ρ₁) (q : Pst X W' s' W'' φ'' s'' ρ') : Pst X W s W'' φ'' s'' ρ' := ⟨q.f, p.ag.trans q.ag, fun x v r => q.vl x v (p.vl x v r)⟩
theorem Pst.gs (F : At X W φ s ρ) (g : Gs W s W' s') : Pst X W s W' φ s' ρ := ⟨F.gs g, g.g.ag F.f.wf, fun _ _ r => r.grow g.g.k⟩
theorem EvG.v (h : EvG G d fi x ρ o ρ') : EvV G d fi x ρ o.frz ρ' := fun X E W φ s e S F Q k => h X E W φ s e S F Q fun v' W' φ' s' p r => by
  obtain ⟨W'', A, B, C⟩ := p.f.frz r
  exact k v' W'' φ' s' ⟨A, p.ag.trans B, p.vl⟩ C
theorem RO.br {h : Heap} {v' : Value} (r : RO X W φ h o v') : BR W h o v' := by
  obtain ⟨p, r, _⟩ := r
  cases o with
  | val v => exact r.2
  | own r' => obtain ⟨a, _, e, z⟩ := r; exact ⟨a, e, z⟩
  | own2 r' => obtain ⟨a, as, _, e, z⟩ := r; exact ⟨a, as, e, z⟩
  | obj t l r' => obtain ⟨oa, da, as, _, e, z⟩ := r; exact ⟨oa, da, as, e, z⟩
  | dic w k l => obtain ⟨a, vs, _, e, z⟩ := r; exact ⟨a, vs, e, z⟩
theorem EvG.pk (h : EvG G d fi x ρ o ρ') : PkG G d fi x ρ o ρ' := fun X E W φ s e S F Q k => h X E W φ s e S F Q fun v' W' φ' s' p r => k v' W' φ' s' p r.br
theorem Aft.of {Q : Value → Shared → Prop} (p : Pst X W s W' φ' s' ρ') (k : ∀ v' W' φ' s', Pst X W s W' φ' s' ρ' → RO X W' φ' s'.heap o v' → Q v' s') : Aft W' s' Q o := fun v' W'' s'' g r => k v' W'' φ' s'' (p.trans (.gs p.f g)) (r.ro p.f)
end
end Mine
end

section
open PySem
set_option autoImplicit false
set_option linter.unusedVariables false
namespace Mine
open PySem.W (Frag kitOne keepIn Looks)

def plainX : Expr → Bool
  | .Starred _ _ => false
  | .Slice _ _ _ _ => false
  | .Set _ _ _ => false
  | _ => true
def isComp : Expr → Bool
  | .ListComp _ _ _ _ => true
  | .SetComp _ _ _ _ => true
  | .DictComp _ _ _ _ _ => true
  | _ => false

noncomputable def V.int? (v : V) : Option Int := V.casesOn v Option.none (fun _ => Option.none) some (fun _ => Option.none) (fun _ => Option.none) (fun _ => Option.none) (fun _ _ => Option.none) (fun _ _ _ => Option.none)
noncomputable def V.str? (v : V) : Option (List Nat) := V.casesOn v Option.none (fun _ => Option.none) (fun _ => Option.none) some (fun _ => Option.none) (fun _ => Option.none) (fun _ _ => Option.none) (fun _ _ _ => Option.none)
noncomputable def V.tup? (v : V) : Option (List V) := V.casesOn v Option.none (fun _ => Option.none) (fun _ => Option.none) (fun _ => Option.none) some (fun _ => Option.none) (fun _ _ => Option.none) (fun _ _ _ => Option.none)
noncomputable def V.lst? (v : V) : Option (List V) := V.casesOn v Option.none (fun _ => Option.none) (fun _ => Option.none) (fun _ => Option.none) (fun _ => Option.none) some (fun _ _ => Option.none) (fun _ _ _ => Option.none)
theorem V.int_of {v : V} {i : Int} (e : v.int? = some i) : v = .int i := by cases v <;> cases e; rfl
theorem V.str_of {v : V} {i : List Nat} (e : v.str? = some i) : v = .str i := by cases v <;> cases e; rfl
theorem V.tup_of {v : V} {i : List V} (e : v.tup? = some i) : v = .tup i := by cases v <;> cases e; rfl
theorem V.lst_of {v : V} {i : List V} (e : v.lst? = some i) : v = .lst i := by cases v <;> cases e; rfl
noncomputable def truthB (o : O) : Option Bool := O.rec (fun v => V.casesOn v (some false) some (fun i => some (i != 0)) (fun s => some (!s.isEmpty)) (fun l => some (!l.isEmpty)) (fun l => some (!l.isEmpty)) (fun _ _ => none) (fun _ _ _ => none)) (fun r => some (!r.isEmpty)) (fun r => some (!r.isEmpty)) (fun _ _ _ => none) (fun _ _ _ => none) o

theorem sizeLine_lt : sizeLine < 2 ^ 62 := by unfold sizeLine; omega
theorem arr_empty {l : List V} {vs : Array Value} (h : vs.size = l.length) : vs.isEmpty = l.isEmpty := by
  rw [Bool.eq_iff_iff]; simp [List.isEmpty_iff, ← List.length_eq_zero_iff, ← h]

section
variable {C : Cx} {A : Around} {E : Value → Shared → Prop} {W : WS} {s : Shared}
theorem truth_list {a : Addr} {vs : Array Value} {n : Nat} {l : List V} {Q : Bool → Shared → Prop} (e : s.heap.get? a = some (lstO vs n)) (r : VRs W s.heap l vs.toList) (hz : l.length ≤ sizeLine) (h : ∀ tk, s.toks ≤ tk → Q (!l.isEmpty) { s with toks := tk }) : wpAny C.M A (truthy (.ref a)) Q E s := by
  have hs := r.size
  have := sizeLine_lt
  refine wpAny_truthy_list ⟨_, e, rfl, _, rfl⟩ (by rw [hs]; omega) ?_
  rw [arr_empty hs]; exact h _ (by first | exact Nat.le_refl _ | assumption | exact Nat.le_succ _ | omega | (dsimp only; omega) | (dsimp only at *; omega))
theorem truth_ok {o : O} {v' : Value} {t : Bool} {Q : Bool → Shared → Prop} (r : BR W s.heap o v') (ht : truthB o = some t) (h : ∀ tk, s.toks ≤ tk → Q t { s with toks := tk }) : wpAny C.M A (truthy v') Q E s := by
  have hz := sizeLine_lt
  cases o with
  | obj _ _ _ => cases ht
  | dic _ _ _ => cases ht
  | own r' =>
    cases ht
    obtain ⟨a, rfl, vs, n, e, x, y⟩ := r
    refine truth_list e x (by simpa using y) ?_
    rw [List.isEmpty_reverse]; exact h
  | own2 r' =>
    cases ht
    obtain ⟨a, as, rfl, vs, n, e, x, y, o, _⟩ := r
    have hs : vs.size = r'.length := by rw [← Array.length_toList, x, List.length_reverse, List.length_map, o.1]
    refine wpAny_truthy_list ⟨_, e, rfl, _, rfl⟩ (by rw [hs]; omega) ?_
    have he : vs.isEmpty = r'.isEmpty := by rw [Bool.eq_iff_iff]; simp [List.isEmpty_iff, ← List.length_eq_zero_iff, ← hs]
    rw [he]; exact h _ (by first | exact Nat.le_refl _ | assumption | exact Nat.le_succ _ | omega | (dsimp only; omega) | (dsimp only at *; omega))
  | val v =>
    cases v with
    | ins _ _ => cases ht
    | dic _ _ _ => cases ht
    | none => cases ht; cases r; exact fun _ _ _ => h _ (by first | exact Nat.le_refl _ | assumption | exact Nat.le_succ _ | omega | (dsimp only; omega) | (dsimp only at *; omega))
    | bool b => cases ht; cases r; exact wpAny_truthy_bool (h s.toks (Nat.le_refl _))
    | int i => cases ht; obtain ⟨t, rfl⟩ := r; exact P.truthy_int (h s.toks (Nat.le_refl _))
    | str z =>
      cases ht
      obtain ⟨t, rfl, ok, hl⟩ := r
      refine P.truthy_str (by simp [Str.length]; omega) ?_
      have : (((⟨z.toArray⟩ : Str).length : Int) != 0) = !z.isEmpty := by cases z <;> simp [Str.length]; omega
      rw [this]; exact h _ (by first | exact Nat.le_refl _ | assumption | exact Nat.le_succ _ | omega | (dsimp only; omega) | (dsimp only at *; omega))
    | tup l =>
      cases ht
      obtain ⟨a, vs, n, rfl, _, e, hl, hr⟩ := VR.tup r
      have hs := hr.size
      refine PyProof.Rows.truthy_tuple ⟨_, e, rfl, _, rfl⟩ (by rw [hs]; omega) ?_
      rw [arr_empty hs]; exact h _ (by first | exact Nat.le_refl _ | assumption | exact Nat.le_succ _ | omega | (dsimp only; omega) | (dsimp only at *; omega))
    | lst l =>
      cases ht
      obtain ⟨a, vs, n, rfl, _, e, hl, hr⟩ := VR.lst r
      exact truth_list e hr hl h
end

structure T (G : Gl) (d : Nat) (fi : FI) where
  x : Expr
  ev : St → Option (O × St)
  pk : St → Option (O × St)
  tr : St → Option (Bool × St)
  pl : plainX x = true
  eo : Ok ev (EvG G d fi x)
  po : Ok pk (PkG G d fi x)
  to : Ok tr (TrG G d fi x)
structure Rw (G : Gl) (d : Nat) (fi : FI) where
  xs : List Expr
  ev : St → Option (List V × St)
  pl : ∀ x, x ∈ xs → plainX x = true
  eo : Ok ev (RwG G d fi xs)

section
variable {G : Gl} {d : Nat} {fi : FI}
abbrev trPlain (x : Expr) : Prop := ∀ env, isTrue x env (eval x env) = (do let v ← eval x env; standAt x.pos; holding [v] (truthy v))
theorem PkG.tr {x : Expr} {ρ ρ' : Loc} {o : O} {t : Bool} (h : PkG G d fi x ρ o ρ') (ht : trPlain x) (hb : truthB o = some t) : TrG G d fi x ρ t ρ' := fun X E W φ s e S F Q k =>
  wpAny_isTrue_value (h X E W φ s e S F _ fun v' W' φ' s' p r => truth_ok r hb fun tk ht => k W' φ' { s' with toks := tk } ⟨p.f.toks tk ht, p.ag, p.vl⟩) (ht X.env)
theorem Ok.mono {α : Type} {f : St → Option (α × St)} {S S' : Loc → α → Loc → Prop} (h : Ok f S) (k : ∀ ρ a ρ', S ρ a ρ' → S' ρ a ρ') : Ok f S' := fun σ a σ' e q => ⟨(h σ a σ' e q).1, k _ _ _ (h σ a σ' e q).2⟩
noncomputable def tb (o : O) (σ : St) : Option (Bool × St) := (truthB o).bind fun t => some (t, σ)
theorem Ok.tb (o : O) : Ok (tb o) fun ρ t ρ' => truthB o = some t ∧ ρ = ρ' := fun σ t σ' e q => by
  obtain ⟨t', e1, e⟩ := Option.bind_eq_some_iff.mp e; cases e; exact ⟨q, e1, rfl⟩
noncomputable def tst (f : St → Option (O × St)) (σ : St) : Option (Bool × St) := bd (f σ) tb
theorem Ok.tst {x : Expr} {f : St → Option (O × St)} (h : Ok f (PkG G d fi x)) (ht : trPlain x) : Ok (tst f) (TrG G d fi x) :=
  h.bd (R := fun o ρ t ρ' => truthB o = some t ∧ ρ = ρ') Ok.tb fun ρ o ρ₁ t ρ' a b => by obtain ⟨b, rfl⟩ := b; exact a.tr ht b
noncomputable def T.mk' (x : Expr) (ev : St → Option (O × St)) (pl : plainX x = true) (eo : Ok ev (EvG G d fi x)) (ht : trPlain x) : T G d fi :=
  have po := eo.mono fun _ _ _ h => h.pk
  ⟨x, ev, ev, tst ev, pl, eo, po, po.tst ht⟩

theorem EvG.here {x : Expr} {ρ : Loc} {v : V} (h : ∀ (M : Model) (A : Around) (E : Value → Shared → Prop) (env : Env) (W : WS) (s : Shared) (Q : Value → Shared → Prop), (∀ v' t, s.toks ≤ t → VR W s.heap v v' → Q v' { s with toks := t }) → wpAny M A (eval x env) Q E s) : EvG G d fi x ρ (.val v) ρ :=
  fun X E W φ s e S F Q k => h _ _ _ _ W s Q fun v' t ht r => k v' W φ _ ⟨F.toks t ht, .refl .., fun _ _ r => r⟩ (.val r)
noncomputable def eNone (k : Nat) (p : Pos) : T G d fi := .mk' (.Constant .none k p) (pu (.val .none)) rfl (.pu fun _ => .here fun _ _ _ _ W s Q k => wpAny_Constant_none (k _ s.toks (Nat.le_refl _) rfl)) fun _ => rfl
noncomputable def eBool (b : Bool) (k : Nat) (p : Pos) : T G d fi := .mk' (.Constant (.bool b) k p) (pu (.val (.bool b))) rfl (.pu fun _ => .here fun _ _ _ _ W s Q k => wpAny_Constant_bool (k _ s.toks (Nat.le_refl _) rfl)) fun _ => rfl
noncomputable def eInt (i : Int) (k : Nat) (p : Pos) : T G d fi := .mk' (.Constant (.int i) k p) (pu (.val (.int i))) rfl (.pu fun _ => .here fun _ _ _ _ W s Q k => wpAny_Constant_int (k _ _ (Nat.le_succ _) ⟨_, rfl⟩)) fun _ => rfl
noncomputable def eStr (x : Str) (z : List Nat) (k : Nat) (p : Pos) (e : x = ⟨z.toArray⟩) (h : (PyData.strOk ⟨z.toArray⟩ && Nat.ble z.length 1000) = true) : T G d fi :=
  .mk' (.Constant (.str x) k p) (pu (.val (.str z))) rfl (.pu fun _ => .here fun _ _ _ _ W s Q k => wpAny_Constant_str (k _ _ (Nat.le_succ _) (by
    subst e
    rw [Bool.and_eq_true] at h
    exact ⟨_, rfl, h.1, Nat.le_trans (Nat.le_of_ble_eq_true h.2) (by decide)⟩))) fun _ => rfl

noncomputable def evVar (i : Nat) (σ : St) : Option (O × St) := (slot σ.ρ i).bind fun o => O.casesOn o (fun v => some (.val v, σ)) (fun r => some (.val (.lst r.reverse), ⟨σ.ρ.set i (some (.val (.lst r.reverse))), σ.tp, σ.ob⟩)) (fun r => some (.val (O.own2 r).frz, ⟨σ.ρ.set i (some (.val (O.own2 r).frz)), σ.tp, σ.ob⟩)) (fun _ _ _ => none) fun w k l => some (.val (.dic w k l), ⟨σ.ρ.set i (some (.val (.dic w k l))), σ.tp, σ.ob⟩)
noncomputable def pkVar (i : Nat) (σ : St) : Option (O × St) := (slot σ.ρ i).bind fun o => some (o, σ)
theorem OR.br {W : WS} {h : Heap} {p : List Addr} {o : O} {v' : Value} (r : OR W h p o v') : BR W h o v' := by
  cases o with
  | val v => exact r.2
  | own r' => obtain ⟨a, _, e, z⟩ := r; exact ⟨a, e, z⟩
  | own2 r' => obtain ⟨a, as, _, e, z⟩ := r; exact ⟨a, as, e, z⟩
  | obj t l r' => obtain ⟨oa, da, as, _, e, z⟩ := r; exact ⟨oa, da, as, e, z⟩
  | dic w k l => obtain ⟨a, vs, _, e, z⟩ := r; exact ⟨a, vs, e, z⟩
theorem pkVar_ok {x : Str} {i : Nat} {p : Pos} (h : fi.isVar x i = true) : Ok (pkVar i) (PkG G d fi (.Name x p)) := by
  intro σ o σ' e q
  obtain ⟨o', e1, e2⟩ := Option.bind_eq_some_iff.mp e
  cases e2
  refine ⟨q, fun X E W φ s ef S F Q k => ?_⟩
  subst ef
  exact load_ok S F h (slot_some e1) fun v' _ _ _ r => k v' W φ s (.refl F) r.br
theorem evVar_ok {x : Str} {i : Nat} {p : Pos} (h : fi.isVar x i = true) : Ok (evVar i) (EvG G d fi (.Name x p)) := by
  intro σ o σ' e q
  obtain ⟨o', e1, e2⟩ := Option.bind_eq_some_iff.mp e
  have e1 := slot_some e1
  cases o' with
  | val v =>
    cases e2
    refine ⟨q, fun X E W φ s ef S F Q k => ?_⟩
    subst ef
    exact load_ok S F h e1 fun v' _ _ _ r => k v' W φ s (.refl F) (.val r.2)
  | own r' =>
    cases e2
    refine ⟨q, fun X E W φ s ef S F Q k => ?_⟩
    subst ef
    refine load_ok S F h e1 fun v' h1 h2 hv r => ?_
    obtain ⟨W', b2, b3, b4⟩ := F.frzVar (fun y hy => S.ti y x i hy h1) hv r
    exact k _ W' _ s ⟨b2, b3, fun _ _ r => r⟩ (.val b4)
  | own2 r' =>
    cases e2
    refine ⟨q, fun X E W φ s ef S F Q k => ?_⟩
    subst ef
    refine load_ok S F h e1 fun v' h1 h2 hv r => ?_
    obtain ⟨W', b2, b3, b4⟩ := F.frzVar (fun y hy => S.ti y x i hy h1) hv r
    exact k _ W' _ s ⟨b2, b3, fun _ _ r => r⟩ (.val b4)
  | obj t l r' => cases e2
  | dic w k' l =>
    cases e2
    refine ⟨q, fun X E W φ s ef S F Q k => ?_⟩
    subst ef
    refine load_ok S F h e1 fun v' h1 h2 hv r => ?_
    obtain ⟨W', b2, b3, b4⟩ := F.frzVar (fun y hy => S.ti y x i hy h1) hv r
    exact k _ W' _ s ⟨b2, b3, fun _ _ r => r⟩ (.val b4)
noncomputable def eVar (x : Str) (i : Nat) (p : Pos) (h : fi.isVar x i = true) : T G d fi := ⟨.Name x p, evVar i, pkVar i, tst (pkVar i), rfl, evVar_ok h, pkVar_ok h, (pkVar_ok h).tst fun _ => rfl⟩
end
end Mine
end

section
open PySem
set_option autoImplicit false
set_option linter.unusedVariables false
namespace Mine

theorem noStar {x : Expr} (h : plainX x = true) {rest : List Expr} {env : Env} : starEach (x :: rest) env = (false, eval x env) :: starEach rest env := by
  cases x <;> first | rfl | cases h
theorem noMark {x : Expr} (h : plainX x = true) (op : CmpOp) : behindInMarks op x = false := by
  cases x <;> first | rfl | cases h
theorem backTo_plain (pos : Pos) (xs : List Expr) (env : Env) : backTo pos (plainArgs xs env) = plainArgs xs env := by
  simp [backTo, plainArgs]

section
variable {G : Gl} {d : Nat} {fi : FI}
theorem starEach_plain {env : Env} : ∀ {xs : List Expr}, (∀ x, x ∈ xs → plainX x = true) → starEach xs env = plainArgs xs env
  | [], _ => rfl
  | x :: xs, h => by rw [noStar (h x List.mem_cons_self), starEach_plain fun y q => h y (List.mem_cons_of_mem _ q)]; rfl
theorem Rw.back (r : Rw G d fi) (pos : Pos) (env : Env) : backTo pos (starEach r.xs env) = plainArgs r.xs env := by rw [starEach_plain r.pl, backTo_plain]

noncomputable def rNil : Rw G d fi := ⟨[], pu [], fun _ q => (nomatch q), .pu fun _ => ⟨rfl, fun X E W φ s e S F Q k => wpAny_pure (k [] W φ s (.refl F) rfl)⟩⟩
theorem RwG.cons {x : Expr} {xs : List Expr} {ρ ρ₁ ρ' : Loc} {v : V} {vs : List V} (h : EvV G d fi x ρ v ρ₁) (hs : RwG G d fi xs ρ₁ vs ρ') : RwG G d fi (x :: xs) ρ (v :: vs) ρ' :=
  ⟨congrArg (· + 1) hs.1, fun X E W φ s e S F Q k => PySem.Calls.spliced_cons (h X E W φ s e S F _ fun v' W₁ φ₁ s₁ p r => hs.2 X E W₁ φ₁ s₁ e S p.f _ fun vs' W₂ φ₂ s₂ p₂ r₂ => k _ W₂ φ₂ s₂ (p.trans p₂) (.cons (r.ag p₂.ag) r₂))⟩
noncomputable def rCons (a : T G d fi) (b : Rw G d fi) : Rw G d fi :=
  ⟨a.x :: b.xs, fun σ => bd (a.ev σ) fun x σ => bd (b.ev σ) fun vs σ => pu (x.frz :: vs) σ, fun y q => (List.mem_cons.mp q).elim (fun q => q ▸ a.pl) (b.pl y),
    a.eo.bd (R := fun o ρ vs ρ' => ∃ ws, vs = o.frz :: ws ∧ RwG G d fi b.xs ρ ws ρ') (fun o => b.eo.bd (R := fun ws ρ vs ρ' => vs = o.frz :: ws ∧ ρ = ρ') (fun ws => .pu fun _ => ⟨rfl, rfl⟩) fun _ ws _ _ _ h q => by obtain ⟨rfl, rfl⟩ := q; exact ⟨ws, rfl, h⟩)
      fun _ o _ _ _ h q => by obtain ⟨ws, rfl, hs⟩ := q; exact .cons h.v hs⟩

noncomputable def eTup (r : Rw G d fi) (k : Nat) (p : Pos) (h : Nat.ble r.xs.length 1000 = true) : T G d fi :=
  .mk' (.Tuple r.xs k p) (fun σ => bd (r.ev σ) fun vs σ => pu (.val (.tup vs)) σ) rfl
    (r.eo.bd (R := fun vs ρ o ρ' => o = .val (.tup vs) ∧ ρ = ρ') (fun vs => .pu fun _ => ⟨rfl, rfl⟩) fun _ vs _ _ _ hs q => by
      obtain ⟨rfl, rfl⟩ := q
      intro X E W φ s e S F Q k
      refine wpAny_Tuple ?_
      rw [r.back]
      refine hs.2 X E W φ s e S F _ fun vs' W' φ' s' p' r' => ?_
      have hz : vs.length ≤ sizeLine := by rw [hs.1]; exact Nat.le_trans (Nat.le_of_ble_eq_true h) (by decide)
      exact ⟨by rw [r'.length]; exact hz, (Aft.of p' k).tuple (t := s'.toks) p'.f.f.wf r' hz⟩) fun _ => rfl
noncomputable def eLst (r : Rw G d fi) (p : Pos) (h : Nat.ble r.xs.length 1000 = true) : T G d fi :=
  .mk' (.List r.xs p) (fun σ => bd (r.ev σ) fun vs σ => pu (.own vs.reverse) σ) rfl
    (r.eo.bd (R := fun vs ρ o ρ' => o = .own vs.reverse ∧ ρ = ρ') (fun vs => .pu fun _ => ⟨rfl, rfl⟩) fun _ vs _ _ _ hs q => by
      obtain ⟨rfl, rfl⟩ := q
      intro X E W φ s e S F Q k
      refine wpAny_List ?_
      rw [r.back]
      refine hs.2 X E W φ s e S F _ fun vs' W' φ' s' p' r' => ?_
      have hz : vs.length ≤ sizeLine := by rw [hs.1]; exact Nat.le_trans (Nat.le_of_ble_eq_true h) (by decide)
      exact ⟨by rw [r'.length]; exact hz, (Aft.of p' k).list (t := s'.toks) p'.f.f.wf (by rw [List.reverse_reverse]; exact r') (by rwa [List.length_reverse])⟩) fun _ => rfl

def Prim2 (G : Gl) (d : Nat) (tree : Value → Value → Sem Value) (k : V → V → Option (O × List Prop)) : Prop :=
  ∀ x y o ps, k x y = some (o, ps) → All ps → ∀ (X : FC) (E : Value → Shared → Prop) (W : WS) (φ : Nat → List Addr) (s : Shared) (ρ : Loc), FS G d X → At X W φ s ρ → ∀ x' y', VR W s.heap x x' → VR W s.heap y y' →
    ∀ Q, Aft W s Q o → wpAny X.C.M X.A (tree x' y') Q E s
noncomputable def ev2 (a b : T G d fi) (k : V → V → Option (O × List Prop)) (σ : St) : Option (O × St) := bd (a.ev σ) fun x σ => bd (b.ev σ) fun y σ => rt (k x.frz y.frz) σ
theorem ok2 {a b : T G d fi} {k : V → V → Option (O × List Prop)} {x : Expr} {tree : Value → Value → Sem Value} (h : Prim2 G d tree k)
    (rule : ∀ (M : Model) (A : Around) (E : Value → Shared → Prop) (s : Shared) (env : Env) (Q : Value → Shared → Prop), wpAny M A (eval a.x env) (fun a' s₁ => wpAny M A (eval b.x env) (fun b' s₂ => wpAny M A (tree a' b') Q E s₂) E s₁) E s → wpAny M A (eval x env) Q E s) :
    Ok (ev2 a b k) (EvG G d fi x) :=
  a.eo.bd (R := fun u ρ o ρ' => ∃ v ps, EvG G d fi b.x ρ v ρ' ∧ k u.frz v.frz = some (o, ps) ∧ All ps) (fun u => b.eo.bd (R := fun v ρ o ρ' => ∃ ps, k u.frz v.frz = some (o, ps) ∧ All ps ∧ ρ = ρ') (fun v => .rt fun o ps ρ e q => ⟨ps, e, q, rfl⟩)
    fun _ v _ _ _ h q => by obtain ⟨ps, q1, q2, rfl⟩ := q; exact ⟨v, ps, h, q1, q2⟩) fun _ u _ o _ h1 q => by
      obtain ⟨v, ps, h2, q1, q2⟩ := q
      intro X E W φ s e S F Q kk
      refine rule _ _ _ _ _ _ (h1.v X E W φ s e S F _ fun u' W₁ φ₁ s₁ p₁ r₁ => h2.v X E W₁ φ₁ s₁ e S p₁.f _ fun v' W₂ φ₂ s₂ p₂ r₂ => ?_)
      exact h _ _ _ _ q1 q2 X E W₂ φ₂ s₂ _ S p₂.f _ _ (r₁.ag p₂.ag) r₂ _ (Aft.of (p₁.trans p₂) kk)
noncomputable def eBin (op : Operator) (k : V → V → Option (O × List Prop)) (h : Prim2 G d (binaryOp op) k) (a b : T G d fi) (p : Pos) : T G d fi :=
  .mk' (.BinOp a.x op b.x p) (ev2 a b k) rfl (ok2 h fun _ _ _ _ _ _ q => wpAny_BinOp q) fun _ => rfl

noncomputable def kInt (f : Int → Int → Int) (c : Int → Int → List Prop) (x y : V) : Option (O × List Prop) := x.int?.bind fun i => y.int?.bind fun j => some (.val (.int (f i j)), c i j)
theorem primInt {op : Operator} {f : Int → Int → Int} {c : Int → Int → List Prop} (h : ∀ (C : Cx) (A : Around) (E : Value → Shared → Prop) (s : Shared) (i j : Int) (t u : Tok) (Q : Value → Shared → Prop), All (c i j) → (∀ t n, s.toks ≤ n → Q (.int (f i j) t) { s with toks := n }) → wpAny C.M A (binaryOp op (.int i t) (.int j u)) Q E s) :
    Prim2 G d (binaryOp op) (kInt f c) := by
  intro x y o ps e q X E W φ s ρ S F x' y' rx ry Q k
  obtain ⟨i, e1, e⟩ := Option.bind_eq_some_iff.mp e
  obtain ⟨j, e2, e⟩ := Option.bind_eq_some_iff.mp e
  cases e
  rw [V.int_of e1] at rx; rw [V.int_of e2] at ry
  obtain ⟨t, rfl⟩ := rx
  obtain ⟨u, rfl⟩ := ry
  exact h _ _ _ _ _ _ _ _ _ q fun t n hn => k.here F.f.wf ⟨t, rfl⟩ hn
noncomputable def eAdd : T G d fi → T G d fi → Pos → T G d fi := eBin .Add (kInt (· + ·) fun _ _ => []) (primInt fun _ _ _ _ _ _ _ _ _ _ k => P.add_int (k _ _ (by first | exact Nat.le_refl _ | assumption | exact Nat.le_succ _ | omega | (dsimp only; omega) | (dsimp only at *; omega))))
noncomputable def eSub : T G d fi → T G d fi → Pos → T G d fi := eBin .Sub (kInt (· - ·) fun _ _ => []) (primInt fun _ _ _ _ _ _ _ _ _ _ k => P.sub_int (k _ _ (by first | exact Nat.le_refl _ | assumption | exact Nat.le_succ _ | omega | (dsimp only; omega) | (dsimp only at *; omega))))
noncomputable def eMul : T G d fi → T G d fi → Pos → T G d fi := eBin .Mult (kInt (· * ·) fun i j => [i.natAbs < 2 ^ 62 ∨ j.natAbs < 2 ^ 62]) (primInt fun _ _ _ _ _ _ _ _ _ q k => P.mul_int (k _ _ (by first | exact Nat.le_refl _ | assumption | exact Nat.le_succ _ | omega | (dsimp only; omega) | (dsimp only at *; omega))) (by
  rcases q.1 with hc | hc
  · exact IntMulOk.of_left (intBits_le_64 (by omega) (by omega))
  · exact IntMulOk.of_right (intBits_le_64 (by omega) (by omega))))
noncomputable def eDiv : T G d fi → T G d fi → Pos → T G d fi := eBin .FloorDiv (kInt (· / ·) fun _ j => [0 < j ∧ j < 2 ^ 29]) (primInt fun _ _ _ s i j _ _ Q q k => by
  have hc := q.1
  refine AutoIntOps.floordiv_1 (by simp; omega) (by rw [PyProof.noPylong_small (by omega)]; decide) ?_
  show Q (.int (i.fdiv j) s.toks) _
  rw [Int.fdiv_eq_ediv_of_nonneg _ (by omega)]; exact k _ _ (by first | exact Nat.le_refl _ | assumption | exact Nat.le_succ _ | omega | (dsimp only; omega) | (dsimp only at *; omega)))
noncomputable def eMod : T G d fi → T G d fi → Pos → T G d fi := eBin .Mod (kInt (· % ·) fun _ j => [0 < j]) (primInt fun _ _ _ s i j _ _ Q q k => by
  have hc := q.1
  refine AutoIntOps.mod_1 (by simp; omega) ?_
  show Q (.int (i.fmod j) s.toks) _
  rw [Int.fmod_eq_emod_of_nonneg _ (by omega)]; exact k _ _ (by first | exact Nat.le_refl _ | assumption | exact Nat.le_succ _ | omega | (dsimp only; omega) | (dsimp only at *; omega)))
noncomputable def ePow : T G d fi → T G d fi → Pos → T G d fi := eBin .Pow (kInt (fun i j => i ^ j.toNat) fun i j => [i = 10 ∧ 0 < j ∧ j ≤ 100]) (primInt fun _ _ _ s i j _ _ Q q k => by
  obtain ⟨rfl, hj0, hj1⟩ := q.1
  refine AutoIntOps.pow_4 (by omega) (by simp; omega) (by decide) (by decide) ?_ (k _ _ (by first | exact Nat.le_refl _ | assumption | exact Nat.le_succ _ | omega | (dsimp only; omega) | (dsimp only at *; omega)))
  have h10 : Builtin.Int.intBits 10 = 4 := by decide +kernel
  rw [h10]
  have hb : (bitsLine : Int) = 134217728 := by decide +kernel
  unfold Builtin.Int.intTooBig
  rw [decide_eq_true_eq, hb]
  omega)

theorem strOk_append {x y : List Nat} (hx : PyData.strOk ⟨x.toArray⟩ = true) (hy : PyData.strOk ⟨y.toArray⟩ = true) : PyData.strOk ⟨(x ++ y).toArray⟩ = true := by
  simp [PyData.strOk] at *
  exact ⟨hx, hy⟩
theorem strOk_of {x y : List Nat} (hx : PyData.strOk ⟨x.toArray⟩ = true) (h : ∀ c ∈ y, c ∈ x) : PyData.strOk ⟨y.toArray⟩ = true := by
  simp [PyData.strOk] at *
  exact fun c hc => hx c (h c hc)
theorem str_append (x y : List Nat) : (⟨x.toArray⟩ : Str) ++ ⟨y.toArray⟩ = ⟨(x ++ y).toArray⟩ := by
  show Str.mk (x.toArray ++ y.toArray) = _
  simp
def room : Nat := 1000000
theorem room_le : room ≤ sizeLine := by decide

noncomputable def kCat (x y : V) : Option (O × List Prop) := x.str?.bind fun i => y.str?.bind fun j => some (.val (.str (i ++ j)), [(i ++ j).length ≤ room])
theorem primCat : Prim2 G d (binaryOp .Add) kCat := by
  intro x y o ps e q X E W φ s ρ S F x' y' rx ry Q k
  obtain ⟨i, e1, e⟩ := Option.bind_eq_some_iff.mp e
  obtain ⟨j, e2, e⟩ := Option.bind_eq_some_iff.mp e
  cases e
  rw [V.str_of e1] at rx; rw [V.str_of e2] at ry
  obtain ⟨t, rfl, ok1, z1⟩ := rx
  obtain ⟨u, rfl, ok2, z2⟩ := ry
  have hz := Nat.le_trans q.1 room_le
  refine P.add_str ?_
  split
  · rename_i q
    have : i = [] := by simpa [Str.length] using q
    subst this
    exact k.here F.f.wf ⟨u, rfl, ok2, z2⟩
  · split
    · rename_i q
      have : j = [] := by simpa [Str.length] using q
      subst this
      rw [List.append_nil] at k
      exact k.here F.f.wf ⟨t, rfl, ok1, z1⟩
    · rw [str_append]
      exact ⟨by simpa [Str.length] using hz, k.here F.f.wf ⟨_, rfl, strOk_append ok1 ok2, hz⟩⟩
noncomputable def eCat : T G d fi → T G d fi → Pos → T G d fi := eBin .Add kCat primCat
noncomputable def kAddL (x y : V) : Option (O × List Prop) := x.lst?.bind fun i => y.lst?.bind fun j => some (.own (i ++ j).reverse, [(i ++ j).length ≤ room])
theorem primAddL : Prim2 G d (binaryOp .Add) kAddL := by
  intro x y o ps e q X E W φ s ρ S F x' y' rx ry Q k
  obtain ⟨i, e1, e⟩ := Option.bind_eq_some_iff.mp e
  obtain ⟨j, e2, e⟩ := Option.bind_eq_some_iff.mp e
  cases e
  rw [V.lst_of e1] at rx; rw [V.lst_of e2] at ry
  obtain ⟨a, vs, n, rfl, _, h1, z1, r1⟩ := VR.lst rx
  obtain ⟨b, ws, m, rfl, _, h2, z2, r2⟩ := VR.lst ry
  have hz := Nat.le_trans q.1 room_le
  refine P.add_list h1 h2 (k.list F.f.wf ?_ ?_) ?_
  · rw [Array.toList_append, List.reverse_reverse]; exact r1.append r2
  · rwa [List.length_reverse]
  · rw [r1.size, r2.size, ← List.length_append]; exact hz
noncomputable def eAddL : T G d fi → T G d fi → Pos → T G d fi := eBin .Add kAddL primAddL

theorem neg_ok {a : T G d fi} {p : Pos} : Ok (fun σ => bd (a.ev σ) fun x σ => rt (x.frz.int?.bind fun i => some (.val (.int (-i)), [])) σ) (EvG G d fi (.UnaryOp .USub a.x p)) :=
  a.eo.bd (R := fun x ρ o ρ' => ∃ i, x.frz = .int i ∧ o = .val (.int (-i)) ∧ ρ = ρ') (fun x => .rt fun o ps ρ e q => by
    obtain ⟨i, e1, e⟩ := Option.bind_eq_some_iff.mp e; cases e; exact ⟨i, V.int_of e1, rfl, rfl⟩) fun _ x _ _ _ h q => by
      obtain ⟨i, hx, rfl, rfl⟩ := q
      intro X E W φ s e S F Q k
      refine wpAny_UnaryOp (h.v X E W φ s e S F _ fun v' W' φ' s' p' r' => ?_)
      rw [hx] at r'
      obtain ⟨t, rfl⟩ := r'
      exact P.neg_int ((Aft.of p' k).here p'.f.f.wf ⟨_, rfl⟩)
noncomputable def eNeg (a : T G d fi) (p : Pos) : T G d fi := .mk' (.UnaryOp .USub a.x p) _ rfl (neg_ok (a := a)) fun _ => rfl
noncomputable def eNot (a : T G d fi) (p : Pos) : T G d fi where
  x := .UnaryOp .Not a.x p
  ev σ := bd (a.pk σ) fun x σ => bd (tb x σ) fun t σ => pu (.val (.bool (!t))) σ
  pk σ := bd (a.pk σ) fun x σ => bd (tb x σ) fun t σ => pu (.val (.bool (!t))) σ
  tr σ := bd (a.tr σ) fun t σ => pu (!t) σ
  pl := rfl
  eo := a.po.bd (R := fun x ρ o ρ' => ∃ t, truthB x = some t ∧ o = .val (.bool (!t)) ∧ ρ = ρ') (fun x => (Ok.tb x).bd (R := fun t ρ o ρ' => o = .val (.bool (!t)) ∧ ρ = ρ') (fun _ => .pu fun _ => ⟨rfl, rfl⟩) fun _ t _ _ _ h q => ⟨t, h.1, q.1, h.2.trans q.2⟩) fun _ x _ _ _ h q => by
    obtain ⟨t, ht, rfl, rfl⟩ := q
    exact fun X E W φ s e S F Q k => wpAny_UnaryOp (h X E W φ s e S F _ fun v' W' φ' s' p' r' => not_value (truth_ok r' ht fun tk ht => k _ W' φ' _ ⟨p'.f.toks tk ht, p'.ag, p'.vl⟩ (.val rfl)))
  po := a.po.bd (R := fun x ρ o ρ' => ∃ t, truthB x = some t ∧ o = .val (.bool (!t)) ∧ ρ = ρ') (fun x => (Ok.tb x).bd (R := fun t ρ o ρ' => o = .val (.bool (!t)) ∧ ρ = ρ') (fun _ => .pu fun _ => ⟨rfl, rfl⟩) fun _ t _ _ _ h q => ⟨t, h.1, q.1, h.2.trans q.2⟩) fun _ x _ _ _ h q => by
    obtain ⟨t, ht, rfl, rfl⟩ := q
    exact fun X E W φ s e S F Q k => wpAny_UnaryOp (h X E W φ s e S F _ fun v' W' φ' s' p' r' => not_value (truth_ok r' ht fun tk ht => k _ W' φ' _ ⟨p'.f.toks tk ht, p'.ag, p'.vl⟩ rfl))
  to := a.to.bd (R := fun t ρ u ρ' => u = !t ∧ ρ = ρ') (fun t => .pu fun _ => ⟨rfl, rfl⟩) fun _ t _ _ _ h q => by
    obtain ⟨rfl, rfl⟩ := q
    exact fun X E W φ s e S F Q k => wpAny_isTrue_Not (h X E W φ s e S F _ fun W' φ' s' p' => k W' φ' s' p')
end
end Mine
end

section
open PySem
set_option autoImplicit false
set_option linter.unusedVariables false
namespace Mine

noncomputable def Tk.b? (k : Tk) : Option Bool := Tk.casesOn k some (fun _ => none) (fun _ _ => none) (fun _ => none)
noncomputable def Tk.r? (k : Tk) : Option O := Tk.casesOn k (fun _ => none) some (fun _ _ => none) (fun _ => none)
noncomputable def Tk.l? (k : Tk) : Option (Fl × Loc) := Tk.casesOn k (fun _ => none) (fun _ => none) (fun a b => some (a, b)) (fun _ => none)
noncomputable def Tk.vs? (k : Tk) : Option (List V) := Tk.casesOn k (fun _ => none) (fun _ => none) (fun _ _ => none) some
noncomputable def told {α β : Type} (f : Tk → Option β) (p : Loc → β → Prop) (r : β → α) (ρ : β → Loc → Loc) (σ : St) : Option (α × St) :=
  List.casesOn σ.tp none fun k tp => (f k).bind fun b => some (r b, ⟨ρ b σ.ρ, tp, p σ.ρ b :: σ.ob⟩)
theorem Ok.told {α β : Type} {f : Tk → Option β} {p : Loc → β → Prop} {r : β → α} {ρ : β → Loc → Loc} {S : Loc → α → Loc → Prop} (k : ∀ b ρ₀, p ρ₀ b → S ρ₀ (r b) (ρ b ρ₀)) : Ok (told f p r ρ) S := by
  intro σ a σ' e h
  unfold Mine.told at e
  cases ht : σ.tp with
  | nil => rw [ht] at e; cases e
  | cons t tp =>
    rw [ht] at e
    obtain ⟨b, _, e⟩ := Option.bind_eq_some_iff.mp e
    cases e
    exact ⟨h.2, k b _ h.1⟩
noncomputable def dec (f t : Bool) (σ : St) : Option (Bool × St) := Bool.casesOn f (pu t σ) (told Tk.b? (fun _ b => t = b) id (fun _ ρ => ρ) σ)
theorem Ok.dec (f t : Bool) : Ok (dec f t) fun ρ b ρ' => b = t ∧ ρ = ρ' := by
  cases f with
  | false => exact .pu fun _ => ⟨rfl, rfl⟩
  | true => exact Ok.told (f := Tk.b?) (p := fun _ b => t = b) (r := id) (ρ := fun _ ρ => ρ) fun b _ h => ⟨h.symm, rfl⟩

section
variable {G : Gl} {d : Nat} {fi : FI}
noncomputable def sc (op : BoolOp) (t : Bool) : Bool := BoolOp.casesOn op (!t) t
def BvG (G : Gl) (d : Nat) (fi : FI) (pos : Pos) (op : BoolOp) (xs : List Expr) (ρ : Loc) (o : O) (ρ' : Loc) : Prop := ∀ (X : FC) (E : Value → Shared → Prop) (W : WS) (φ : Nat → List Addr) (s : Shared), X.fi = fi → FS G d X → At X W φ s ρ →
  ∀ Q : Value → Shared → Prop, (∀ v' W' φ' s', Pst X W s W' φ' s' ρ' → RO X W' φ' s'.heap o v' → Q v' s') → wpAny X.C.M X.A (boolOp pos op (evalEach xs X.env)) Q E s
def BtG (G : Gl) (d : Nat) (fi : FI) (op : BoolOp) (xs : List Expr) (ρ : Loc) (t : Bool) (ρ' : Loc) : Prop := ∀ (X : FC) (E : Value → Shared → Prop) (W : WS) (φ : Nat → List Addr) (s : Shared), X.fi = fi → FS G d X → At X W φ s ρ →
  ∀ Q : Bool → Shared → Prop, (∀ W' φ' s', Pst X W s W' φ' s' ρ' → Q t s') → wpAny X.C.M X.A (allTrue op xs X.env) Q E s
structure Bp (G : Gl) (d : Nat) (fi : FI) (op : BoolOp) where
  x : Expr
  xs : List Expr
  ev : St → Option (O × St)
  tr : St → Option (Bool × St)
  eo : ∀ pos, Ok ev (BvG G d fi pos op (x :: xs))
  to : Ok tr (BtG G d fi op (x :: xs))
theorem allTrue_one {op : BoolOp} {M : Model} {A : Around} {E : Value → Shared → Prop} {s : Shared} {env : Env} {x : Expr} {rest : List Expr} {Q : Bool → Shared → Prop}
    (h : wpAny M A (isTrue x env (eval x env)) (fun t s₁ => Bool.casesOn (motive := fun _ => Prop) (sc op t) (wpAny M A (allTrue op rest env) Q E s₁) (Q t s₁)) E s) : wpAny M A (allTrue op (x :: rest) env) Q E s := by
  cases op
  · exact wpAny_allTrue_And_cons (wpAny_mono h (fun t _ q => by cases t <;> exact q) fun _ _ q => q)
  · exact wpAny_allTrue_Or_cons (wpAny_mono h (fun t _ q => by cases t <;> exact q) fun _ _ q => q)
noncomputable def bLast (op : BoolOp) (a : T G d fi) : Bp G d fi op :=
  ⟨a.x, [], a.ev, a.tr, fun _ => a.eo, a.to.mono fun ρ t ρ' h X E W φ s e S F Q k => allTrue_one (h X E W φ s e S F _ fun W' φ' s' p => by
    cases op <;> cases t
    · exact k _ _ _ p
    · exact wpAny_allTrue_And_nil (k _ _ _ p)
    · exact wpAny_allTrue_Or_nil (k _ _ _ p)
    · exact k _ _ _ p)⟩
noncomputable def bCons (f : Bool) {op : BoolOp} (a : T G d fi) (b : Bp G d fi op) : Bp G d fi op where
  x := a.x
  xs := b.x :: b.xs
  ev σ := bd (a.ev σ) fun x σ => bd (tb x σ) fun t σ => bd (dec f t σ) fun t σ => Bool.casesOn (sc op t) (b.ev σ) (pu x σ)
  tr σ := bd (a.tr σ) fun t σ => bd (dec f t σ) fun t σ => Bool.casesOn (sc op t) (b.tr σ) (pu t σ)
  eo pos := a.eo.bd (R := fun x ρ o ρ' => ∃ t, truthB x = some t ∧ Bool.casesOn (motive := fun _ => Prop) (sc op t) (BvG G d fi pos op (b.x :: b.xs) ρ o ρ') (o = x ∧ ρ = ρ'))
    (fun x => (Ok.tb x).bd (R := fun t ρ o ρ' => Bool.casesOn (motive := fun _ => Prop) (sc op t) (BvG G d fi pos op (b.x :: b.xs) ρ o ρ') (o = x ∧ ρ = ρ')) (fun t => (Ok.dec f t).bd (R := fun t ρ o ρ' => Bool.casesOn (motive := fun _ => Prop) (sc op t) (BvG G d fi pos op (b.x :: b.xs) ρ o ρ') (o = x ∧ ρ = ρ')) (fun t => by
      cases sc op t
      · exact b.eo pos
      · exact .pu fun _ => ⟨rfl, rfl⟩) fun _ t _ _ _ h q => by obtain ⟨rfl, rfl⟩ := h; exact q) fun _ t _ _ _ h q => by obtain ⟨h, rfl⟩ := h; exact ⟨t, h, q⟩)
    fun _ x _ o _ h q X E W φ s e S F Q k => by
      obtain ⟨t, htb, q⟩ := q
      show wpAny _ _ (eval a.x X.env >>= fun v => standAt pos >>= fun _ => holding [v] (truthy v) >>= fun t => _) Q E s
      refine wpAny_bind (h X E W φ s e S F _ fun v' W' φ' s' p' r' => wpAny_bind (wpAny_standAt (wpAny_bind (wpAny_holding (truth_ok r'.br htb fun tk ht => ?_)))))
      have p1 : Pst X W s W' φ' { s' with toks := tk } _ := ⟨p'.f.toks tk ht, p'.ag, p'.vl⟩
      revert q
      cases t <;> cases op <;> intro q
      · obtain ⟨rfl, rfl⟩ := q; exact wpAny_pure (k _ _ _ _ p1 r')
      · exact q X E W' φ' _ e S p1.f _ fun v2 W2 φ2 s2 p2 r2 => k _ _ _ _ (p1.trans p2) r2
      · exact q X E W' φ' _ e S p1.f _ fun v2 W2 φ2 s2 p2 r2 => k _ _ _ _ (p1.trans p2) r2
      · obtain ⟨rfl, rfl⟩ := q; exact wpAny_pure (k _ _ _ _ p1 r')
  to := a.to.bd (R := fun t ρ u ρ' => Bool.casesOn (motive := fun _ => Prop) (sc op t) (BtG G d fi op (b.x :: b.xs) ρ u ρ') (u = t ∧ ρ = ρ'))
    (fun t => (Ok.dec f t).bd (R := fun t ρ u ρ' => Bool.casesOn (motive := fun _ => Prop) (sc op t) (BtG G d fi op (b.x :: b.xs) ρ u ρ') (u = t ∧ ρ = ρ')) (fun t => by
      cases sc op t
      · exact b.to
      · exact .pu fun _ => ⟨rfl, rfl⟩) fun _ t _ _ _ h q => by obtain ⟨rfl, rfl⟩ := h; exact q)
    fun _ t _ u _ h q X E W φ s e S F Q k => allTrue_one (h X E W φ s e S F _ fun W' φ' s' p' => by
      revert q
      cases sc op t <;> intro q
      · exact q X E W' φ' s' e S p'.f _ fun W2 φ2 s2 p2 => k _ _ _ (p'.trans p2)
      · obtain ⟨rfl, rfl⟩ := q; exact k _ _ _ p')
noncomputable def eBop {op : BoolOp} (r : Bp G d fi op) (p : Pos) : T G d fi :=
  ⟨.BoolOp op (r.x :: r.xs) p, r.ev, r.ev, r.tr, rfl, r.eo p, (r.eo p).mono fun ρ o ρ' h => EvG.pk h, r.to.mono fun ρ t ρ' h X E W φ s e S F Q k => wpAny_isTrue_BoolOp (h X E W φ s e S F Q k)⟩

def PrimC (G : Gl) (d : Nat) (op : CmpOp) (k : V → O → Option (Bool × List Prop)) : Prop :=
  ∀ x y t ps, k x y = some (t, ps) → All ps → ∀ (X : FC) (E : Value → Shared → Prop) (W : WS) (φ : Nat → List Addr) (s : Shared) (ρ : Loc), FS G d X → At X W φ s ρ → ∀ x' y', VR W s.heap x x' → BR W s.heap y y' →
    ∀ Q : Value → Shared → Prop, (∀ tk, s.toks ≤ tk → Q (.bool t) { s with toks := tk }) → wpAny X.C.M X.A (compareOp op x' y') Q E s
def CmG (G : Gl) (d : Nat) (fi : FI) (op : CmpOp) (a b : Expr) (ρ : Loc) (t : Bool) (ρ' : Loc) : Prop := ∀ (X : FC) (E : Value → Shared → Prop) (W : WS) (φ : Nat → List Addr) (s : Shared), X.fi = fi → FS G d X → At X W φ s ρ →
  ∀ Q : Value → Shared → Prop, (∀ W' φ' s', Pst X W s W' φ' s' ρ' → Q (.bool t) s') → wpAny X.C.M X.A (eval a X.env) (fun a' s₁ => wpAny X.C.M X.A (eval b X.env) (fun b' s₂ => wpAny X.C.M X.A (compareOp op a' b') Q E s₂) E s₁) E s
noncomputable def evC (a b : T G d fi) (k : V → O → Option (Bool × List Prop)) (σ : St) : Option (Bool × St) := bd (a.ev σ) fun x σ => bd (b.pk σ) fun y σ => rt (k x.frz y) σ
theorem evC_ok {op : CmpOp} {k : V → O → Option (Bool × List Prop)} (h : PrimC G d op k) (a b : T G d fi) : Ok (evC a b k) (CmG G d fi op a.x b.x) :=
  a.eo.bd (R := fun u ρ t ρ' => ∃ v ps, PkG G d fi b.x ρ v ρ' ∧ k u.frz v = some (t, ps) ∧ All ps) (fun u => b.po.bd (R := fun v ρ t ρ' => ∃ ps, k u.frz v = some (t, ps) ∧ All ps ∧ ρ = ρ') (fun v => .rt fun t ps ρ e q => ⟨ps, e, q, rfl⟩)
    fun _ v _ _ _ h q => by obtain ⟨ps, q1, q2, rfl⟩ := q; exact ⟨v, ps, h, q1, q2⟩) fun _ u _ t _ h1 q => by
      obtain ⟨v, ps, h2, q1, q2⟩ := q
      exact fun X E W φ s e S F Q kk => h1.v X E W φ s e S F _ fun u' W₁ φ₁ s₁ p₁ r₁ => h2 X E W₁ φ₁ s₁ e S p₁.f _ fun v' W₂ φ₂ s₂ p₂ r₂ =>
        h _ _ _ _ q1 q2 X E W₂ φ₂ s₂ _ S p₂.f _ _ (r₁.ag p₂.ag) r₂ _ fun tk ht => kk _ _ _ ⟨p₂.f.toks tk ht, p₁.ag.trans p₂.ag, (p₁.trans p₂).vl⟩
noncomputable def T.cmp (op : CmpOp) (a b : Expr) (p : Pos) (hb : plainX b = true) (c : St → Option (Bool × St)) (h : Ok c (CmG G d fi op a b)) : T G d fi :=
  have eo : Ok (fun σ => bd (c σ) fun t σ => pu (O.val (.bool t)) σ) (EvG G d fi (.Compare a [op] [b] p)) :=
    h.bd (R := fun t ρ o ρ' => o = .val (.bool t) ∧ ρ = ρ') (fun t => .pu fun _ => ⟨rfl, rfl⟩) fun _ t _ _ _ h q => by
      obtain ⟨rfl, rfl⟩ := q
      exact fun X E W φ s e S F Q k => wpAny_Compare1 (h X E W φ s e S F Q fun W' φ' s' p' => k _ _ _ _ p' (.val rfl)) (noMark hb _)
  ⟨.Compare a [op] [b] p, _, _, c, rfl, eo, eo.mono fun _ _ _ h => h.pk, h.mono fun ρ t ρ' h X E W φ s e S F Q k => wpAny_isTrue_Compare1 (h X E W φ s e S F _ fun W' φ' s' p' => wpAny_truthy_bool (k _ _ _ p')) (noMark hb _)⟩
noncomputable def eCmp (op : CmpOp) (k : V → O → Option (Bool × List Prop)) (h : PrimC G d op k) (a b : T G d fi) (p : Pos) : T G d fi := .cmp op a.x b.x p b.pl (evC a b k) (evC_ok h a b)

noncomputable def V.bool? (v : V) : Option Bool := V.casesOn v Option.none some (fun _ => Option.none) (fun _ => Option.none) (fun _ => Option.none) (fun _ => Option.none) (fun _ _ => Option.none) (fun _ _ _ => Option.none)
theorem V.bool_of {v : V} {i : Bool} (e : v.bool? = some i) : v = .bool i := by cases v <;> cases e; rfl
noncomputable def O.val? (o : O) : Option V := O.casesOn o some (fun _ => none) (fun _ => none) (fun _ _ _ => none) fun _ _ _ => none
theorem O.val_of {o : O} {v : V} (e : o.val? = some v) : o = .val v := by cases o <;> cases e; rfl
noncomputable def eqV (x y : V) : Option Bool := V.casesOn x none (fun a => y.bool?.bind fun b => some (a == b)) (fun a => y.int?.bind fun b => some (a == b)) (fun a => y.str?.bind fun b => some (a == b)) (fun _ => none) (fun _ => none) (fun _ _ => none) (fun _ _ _ => none)
theorem eqV_ok {x y : V} {t : Bool} (e : eqV x y = some t) {C : Cx} {A : Around} {E : Value → Shared → Prop} {W : WS} {s : Shared} {x' y' : Value} (rx : VR W s.heap x x') (ry : VR W s.heap y y') (hu : A.units < cLine) (Q : Value → Shared → Prop) :
    (Q (.bool t) s → wpAny C.M A (compareOp .Eq x' y') Q E s) ∧ (Q (.bool (!t)) s → wpAny C.M A (compareOp .NotEq x' y') Q E s) := by
  cases x <;> first | cases e | skip
  · obtain ⟨b, e1, e⟩ := Option.bind_eq_some_iff.mp e
    cases e; rw [V.bool_of e1] at ry; cases rx; cases ry
    exact ⟨fun k => SeqAt.compareEq_reads (.bool _) (.bool _) rfl rfl hu k, fun k => SeqAt.compareNe_reads (.bool _) (.bool _) rfl rfl hu k⟩
  · obtain ⟨b, e1, e⟩ := Option.bind_eq_some_iff.mp e
    cases e; rw [V.int_of e1] at ry; obtain ⟨t, rfl⟩ := rx; obtain ⟨u, rfl⟩ := ry
    exact ⟨fun k => P.eq_int k, fun k => P.ne_int k⟩
  · obtain ⟨b, e1, e⟩ := Option.bind_eq_some_iff.mp e
    cases e; rw [V.str_of e1] at ry; obtain ⟨t, rfl, _⟩ := rx; obtain ⟨u, rfl, _⟩ := ry
    exact ⟨fun k => P.eq_str k, fun k => P.ne_str k⟩
theorem FS.u {X : FC} (S : FS G d X) : X.A.units + deep + 1 < cLine := by have := S.un; omega
noncomputable def kEq (x : V) (y : O) : Option (Bool × List Prop) := y.val?.bind fun y => (eqV x y).bind fun t => some (t, [])
noncomputable def kNe (x : V) (y : O) : Option (Bool × List Prop) := y.val?.bind fun y => (eqV x y).bind fun t => some (!t, [])
theorem primEq : PrimC G d .Eq kEq := by
  intro x y t ps e q X E W φ s ρ S F x' y' rx ry Q k
  obtain ⟨v, e1, e⟩ := Option.bind_eq_some_iff.mp e
  obtain ⟨u, e2, e⟩ := Option.bind_eq_some_iff.mp e
  cases e; rw [O.val_of e1] at ry
  exact (eqV_ok e2 rx ry (by have := S.u; omega) Q).1 (k s.toks (Nat.le_refl _))
theorem primNe : PrimC G d .NotEq kNe := by
  intro x y t ps e q X E W φ s ρ S F x' y' rx ry Q k
  obtain ⟨v, e1, e⟩ := Option.bind_eq_some_iff.mp e
  obtain ⟨u, e2, e⟩ := Option.bind_eq_some_iff.mp e
  cases e; rw [O.val_of e1] at ry
  exact (eqV_ok e2 rx ry (by have := S.u; omega) Q).2 (k s.toks (Nat.le_refl _))
noncomputable def eEq : T G d fi → T G d fi → Pos → T G d fi := eCmp .Eq kEq primEq
noncomputable def eNe : T G d fi → T G d fi → Pos → T G d fi := eCmp .NotEq kNe primNe
noncomputable def kOrd (f : Int → Int → Bool) (x : V) (y : O) : Option (Bool × List Prop) := y.val?.bind fun y => x.int?.bind fun i => y.int?.bind fun j => some (f i j, [])
theorem primOrd {op : CmpOp} {f : Int → Int → Bool} (h : ∀ (C : Cx) (A : Around) (E : Value → Shared → Prop) (s : Shared) (i j : Int) (t u : Tok) (Q : Value → Shared → Prop), Q (.bool (f i j)) s → wpAny C.M A (compareOp op (.int i t) (.int j u)) Q E s) : PrimC G d op (kOrd f) := by
  intro x y t ps e q X E W φ s ρ S F x' y' rx ry Q k
  obtain ⟨v, e1, e⟩ := Option.bind_eq_some_iff.mp e
  obtain ⟨i, e2, e⟩ := Option.bind_eq_some_iff.mp e
  obtain ⟨j, e3, e⟩ := Option.bind_eq_some_iff.mp e
  cases e; rw [O.val_of e1, V.int_of e3] at ry; rw [V.int_of e2] at rx
  obtain ⟨t, rfl⟩ := rx; obtain ⟨u, rfl⟩ := ry
  exact h _ _ _ _ _ _ _ _ _ (k s.toks (Nat.le_refl _))
noncomputable def eLt : T G d fi → T G d fi → Pos → T G d fi := eCmp .Lt (kOrd fun i j => decide (i < j)) (primOrd fun _ _ _ _ _ _ _ _ _ k => P.lt_int k)
noncomputable def eGt : T G d fi → T G d fi → Pos → T G d fi := eCmp .Gt (kOrd fun i j => decide (i > j)) (primOrd fun _ _ _ _ _ _ _ _ _ k => P.gt_int k)
end
end Mine
end

section
open PySem
set_option autoImplicit false
set_option linter.unusedVariables false
namespace Mine
open PySem.W (Looks)

noncomputable def atI {α : Type} (l : List α) (i : Int) : Option α := Int.casesOn i (fun n => l[n]?) (fun n => l.reverse[n]?)
noncomputable def atR {α : Type} (r : List α) (i : Int) : Option α := Int.casesOn i (fun n => r.reverse[n]?) (fun n => r[n]?)
theorem atR_eq {α : Type} (r : List α) (i : Int) : atR r i = atI r.reverse i := by
  cases i with
  | ofNat n => rfl
  | negSucc n => show r[n]? = r.reverse.reverse[n]?; rw [List.reverse_reverse]
noncomputable def subO (o : O) (i : Int) : Option V := O.casesOn o (fun v => V.casesOn v none (fun _ => none) (fun _ => none) (fun s => (atI s i).bind fun c => some (.str [c])) (fun l => atI l i) (fun l => atI l i) (fun _ _ => none) (fun _ _ _ => none)) (fun r => atR r i) (fun _ => none) (fun _ _ _ => none) fun _ _ _ => none
theorem atI_inv {α : Type} {l : List α} {i : Int} {v : α} (e : atI l i = some v) : ∃ k : Nat, seqIndex? i l.length = some k ∧ l[k]? = some v ∧ ((0 ≤ i ∧ k = i.toNat) ∨ (i < 0 ∧ -(l.length : Int) ≤ i ∧ k = (i + l.length).toNat)) ∧ k < l.length := by
  cases i with
  | ofNat n =>
    have e' : l[n]? = some v := e
    have hl := (List.getElem?_eq_some_iff.mp e').1
    exact ⟨n, seqIndex_of (Int.natCast_nonneg n) (Int.ofNat_lt.mpr hl), e', .inl ⟨Int.natCast_nonneg n, rfl⟩, hl⟩
  | negSucc n =>
    have e' : l.reverse[n]? = some v := e
    have hl := (List.getElem?_eq_some_iff.mp e').1
    rw [List.length_reverse] at hl
    rw [List.getElem?_reverse hl] at e'
    have hk : (Int.negSucc n + l.length).toNat = l.length - 1 - n := by omega
    exact ⟨l.length - 1 - n, by rw [← hk]; exact seqIndex_neg (by omega) (by omega), e', .inr ⟨by omega, by omega, hk.symm⟩, by omega⟩
theorem slice_plain {e : Expr} (h : plainX e = true) (o i : Value) : subscripted e false o i = operate [o, i] (getItem o i) := by
  cases e <;> first | rfl | cases h

section
variable {C : Cx} {A : Around} {E : Value → Shared → Prop} {W : WS} {s : Shared}
theorem getList {l : List V} {vs : Array Value} {n : Nat} {a : Addr} {i : Int} {t : Tok} {v : V} {Q : Value → Shared → Prop} (ho : s.heap.get? a = some (lstO vs n)) (r : VRs W s.heap l vs.toList) (hz : l.length ≤ sizeLine) (e : atI l i = some v)
    (k : ∀ v', VR W s.heap v v' → Q v' s) : wpAny C.M A (getItem (.ref a) (.int i t)) Q E s := by
  obtain ⟨j, _, h2, h3, h4⟩ := atI_inv e
  obtain ⟨v', h5, h6⟩ := r.get h2
  have hsl := sizeLine_lt
  have hs := r.size
  have h5' : vs[j]? = some v' := by rw [← Array.getElem?_toList]; exact h5
  rcases h3 with ⟨a1, rfl⟩ | ⟨a1, a2, rfl⟩
  · exact wpAny_getItem_list ⟨_, ho, rfl, _, rfl⟩ a1 (by omega) h5' (k v' h6)
  · exact wpAny_getItem_list_neg ⟨_, ho, rfl, _, rfl⟩ a1 (by rw [hs]; exact a2) (by omega) (by rw [hs]; exact h5') (k v' h6)
theorem idx_ok {o : O} {o' : Value} {i : Int} {t : Tok} {v : V} {value slice : Expr} {Q : Value → Shared → Prop} (r : BR W s.heap o o') (e : subO o i = some v) (hs : plainX slice = true) (k : ∀ v' tk, s.toks ≤ tk → VR W s.heap v v' → Q v' { s with toks := tk }) :
    wpAny C.M A (PyProof.Rows.subscriptTail value slice o' (.int i t)) Q E s := by
  have hsl := sizeLine_lt
  cases o with
  | own r' =>
    obtain ⟨a, rfl, vs, n, h1, h2, h3⟩ := r
    exact PyProof.Rows.tail_any (T := "list") ⟨_, h1, rfl⟩ F.slot_list_getitem.lookup (getList h1 h2 (by simpa using h3) ((atR_eq r' i).symm.trans e) fun v' r => k v' s.toks (Nat.le_refl _) r) (slice_plain hs _ _)
  | own2 r' => cases e
  | obj _ _ _ => cases e
  | dic _ _ _ => cases e
  | val w =>
    cases w <;> first | cases e | skip
    · rename_i z
      obtain ⟨t1, rfl, ok, hz⟩ := r
      obtain ⟨c, e0, e'⟩ := Option.bind_eq_some_iff.mp e
      cases e'
      obtain ⟨j, e1, e2, e3, e4⟩ := atI_inv e0
      refine PyProof.Rows.tail_any (T := "str") (typeIs_str s _ t1) F.slot_str_getitem.lookup (P.getItem_str (c := c) (by simp; omega) ?_ (k _ _ (by first | exact Nat.le_refl _ | assumption | exact Nat.le_succ _ | omega | (dsimp only; omega) | (dsimp only at *; omega)) ?_)) (slice_plain hs _ _)
      · show (seqIndex? i (⟨z.toArray⟩ : Str).length).bind _ = _
        have : (⟨z.toArray⟩ : Str).length = z.length := by simp [Str.length]
        rw [this, e1]
        simpa using e2
      · exact ⟨_, rfl, strOk_of ok fun x hx => by simp at hx; subst hx; exact List.mem_of_getElem? e2, by show 1 ≤ sizeLine; decide⟩
    · obtain ⟨p, vs, n, rfl, _, h1, h2, h3⟩ := VR.tup r
      obtain ⟨j, e1, e2, e3, e4⟩ := atI_inv (show atI _ i = some v from e)
      obtain ⟨v', e5, e6⟩ := h3.get e2
      exact PyProof.Rows.tail_any (T := "tuple") ⟨_, h1, rfl⟩ F.slot_tuple_getitem.lookup (P.getItem_tuple h1 (by omega) (by omega) (by rw [h3.size]; exact e1) (by rw [← Array.getElem?_toList]; exact e5) (k _ s.toks (Nat.le_refl _) e6)) (slice_plain hs _ _)
    · obtain ⟨p, vs, n, rfl, _, h1, h2, h3⟩ := VR.lst r
      exact PyProof.Rows.tail_any (T := "list") ⟨_, h1, rfl⟩ F.slot_list_getitem.lookup (getList h1 h3 h2 (show atI _ i = some v from e) fun v' r => k v' s.toks (Nat.le_refl _) r) (slice_plain hs _ _)
end

section
variable {G : Gl} {d : Nat} {fi : FI}
noncomputable def item (f : Bool) (o : O) (y : V) (σ : St) : Option (O × St) := y.int?.bind fun i => Bool.casesOn f (rt ((subO o i).bind fun v => some (O.val v, [])) σ) (told Tk.r? (fun _ o' => (subO o i).bind (fun v => some (O.val v)) = some o') id (fun _ ρ => ρ) σ)
def ItS (o : O) (y : V) (ρ : Loc) (o' : O) (ρ' : Loc) : Prop := ∃ i v, y = .int i ∧ subO o i = some v ∧ o' = .val v ∧ ρ = ρ'
theorem item_ok {f : Bool} {o : O} {y : V} : Ok (item f o y) (ItS o y) := by
  intro σ a σ' e h
  obtain ⟨i, e1, e⟩ := Option.bind_eq_some_iff.mp e
  cases f with
  | false => exact Ok.rt (S := ItS o y) (fun a p ρ e q => by obtain ⟨v, e2, e⟩ := Option.bind_eq_some_iff.mp e; cases e; exact ⟨i, v, V.int_of e1, e2, rfl, rfl⟩) σ a σ' e h
  | true => exact Ok.told (S := ItS o y) (f := Tk.r?) (p := fun _ o' => (subO o i).bind (fun v => some (O.val v)) = some o') (r := id) (ρ := fun _ ρ => ρ) (fun b ρ q => by obtain ⟨v, e2, e⟩ := Option.bind_eq_some_iff.mp q; cases e; exact ⟨i, v, V.int_of e1, e2, rfl, rfl⟩) σ a σ' e h
noncomputable def eIdx (f : Bool) (a k : T G d fi) (p : Pos) : T G d fi :=
  .mk' (.Subscript a.x k.x p) (fun σ => bd (a.ev σ) fun x σ => bd (k.ev σ) fun y σ => item f (.val x.frz) y.frz σ) rfl
    (a.eo.bd (R := fun x ρ o ρ' => ∃ y i v, EvG G d fi k.x ρ y ρ' ∧ y.frz = .int i ∧ subO (.val x.frz) i = some v ∧ o = .val v) (fun x => k.eo.bd (fun y => item_ok (f := f) (o := .val x.frz) (y := y.frz)) fun _ y _ _ _ h q => by
      obtain ⟨i, v, e1, e2, e3, rfl⟩ := q; exact ⟨y, i, v, h, e1, e2, e3⟩) fun _ x _ _ _ h q => by
      obtain ⟨y, i, v, hk, e1, e2, rfl⟩ := q
      intro X E W φ s e S F Q kk
      refine PyProof.Rows.Subscript_ (h.v X E W φ s e S F _ fun x' W₁ φ₁ s₁ p₁ r₁ => hk.v X E W₁ φ₁ s₁ e S p₁.f _ fun y' W₂ φ₂ s₂ p₂ r₂ => ?_)
      rw [e1] at r₂
      obtain ⟨t, rfl⟩ := r₂
      exact idx_ok (show BR W₂ s₂.heap (.val x.frz) x' from r₁.ag p₂.ag) e2 k.pl fun v' tk ht r => kk _ _ _ _ ⟨p₂.f.toks tk ht, p₁.ag.trans p₂.ag, (p₁.trans p₂).vl⟩ (.val r)) fun _ => rfl
theorem Val.uniq {env : Env} {h : Heap} {x : Str} {v w : Value} (p : Val env h x v) (q : Val env h x w) : v = w := by
  rcases p with ⟨p, m, ⟨o1, es1, ep1, p1, p2, p3, p4⟩, p5⟩ | ⟨p, c1, p1, o1, p2, p3⟩ <;> rcases q with ⟨q, m', ⟨o2, es2, ep2, q1, q2, q3, q4⟩, q5⟩ | ⟨q, c2, q1, o2, q2, q3⟩
  · rw [p1] at q1; cases q1; rw [p2] at q2; cases q2
    rw [← p4, q4, q5] at p5; exact (Option.some.inj p5).symm
  · rcases q with q | q <;> rw [p] at q <;> cases q
  · rcases p with p | p <;> rw [q] at p <;> cases p
  · rw [p1] at q1; cases q1; rw [p2] at q2; cases q2; rw [p3] at q3; exact Option.some.inj (Data.cell.inj q3)
theorem still {x : Str} {i : Nat} {X : FC} {W : WS} {φ : Nat → List Addr} {s : Shared} {ρ : Loc} {o : O} {v' : Value} (F : At X W φ s ρ) (h1 : X.fi.tbl.lookup x = some i) (hk : X.env.kindOf x ≠ none) (hv : Val X.env s.heap x v') (e : ρ[i]? = some (some o)) : OR W s.heap (φ i) o v' := by
  obtain ⟨w, a, b⟩ := F.lr x i h1 o e hk
  rw [hv.uniq a]; exact b
noncomputable def eIdxV (f : Bool) (x : Str) (i : Nat) (xp : Pos) (k : T G d fi) (p : Pos) (h : fi.isVar x i = true) : T G d fi :=
  .mk' (.Subscript (.Name x xp) k.x p) (fun σ => (slot σ.ρ i).bind fun _ => bd (k.ev σ) fun y σ => (slot σ.ρ i).bind fun o => item f o y.frz σ) rfl (by
    intro σ a σ' e q
    obtain ⟨o0, e0, e⟩ := Option.bind_eq_some_iff.mp e
    obtain ⟨⟨y, σ₁⟩, e1, e⟩ := Option.bind_eq_some_iff.mp e
    obtain ⟨o, e2, e⟩ := Option.bind_eq_some_iff.mp e
    obtain ⟨q1, j, v, h1, h2, rfl, h3⟩ := item_ok _ _ _ e q
    obtain ⟨q2, hk⟩ := k.eo σ y σ₁ e1 q1
    refine ⟨q2, fun X E W φ s ef S F Q kk => PyProof.Rows.Subscript_ (load_ok S F (ef ▸ h) (slot_some e0) fun x' hx hn hv r => hk.v X E W φ s ef S F _ fun y' W₂ φ₂ s₂ p₂ r₂ => ?_)⟩
    dsimp only at h1; rw [h1] at r₂
    obtain ⟨t, rfl⟩ := r₂
    rw [← h3] at kk
    exact idx_ok (still p₂.f hx hn (p₂.vl _ _ hv) (slot_some e2)).br h2 k.pl fun v' tk ht r => kk _ _ _ _ ⟨p₂.f.toks tk ht, p₂.ag, p₂.vl⟩ (.val r)) fun _ => rfl

noncomputable def listO (o : O) : Option (List V) := O.casesOn o (fun v => v.lst?) (fun r => some r.reverse) (fun _ => none) (fun _ _ _ => none) fun _ _ _ => none
theorem BR.list {W : WS} {h : Heap} {o : O} {v' : Value} {l : List V} (r : BR W h o v') (e : listO o = some l) : ∃ a vs n, v' = .ref a ∧ h.get? a = some (lstO vs n) ∧ l.length ≤ sizeLine ∧ VRs W h l vs.toList := by
  cases o with
  | own r' => cases e; obtain ⟨a, rfl, vs, n, h1, h2, h3⟩ := r; exact ⟨a, vs, n, rfl, h1, by simpa using h3, h2⟩
  | own2 r' => cases e
  | obj _ _ _ => cases e
  | dic _ _ _ => cases e
  | val v => cases V.lst_of e; obtain ⟨a, vs, n, e1, _, e2, e3, e4⟩ := VR.lst r; exact ⟨a, vs, n, e1, e2, e3, e4⟩
noncomputable def nilO (o : O) : Option Bool := O.casesOn o (fun v => v.lst?.bind fun l => some l.isEmpty) (fun r => some r.isEmpty) (fun _ => none) (fun _ _ _ => none) fun _ _ _ => none
theorem nilO_of {o : O} {t : Bool} (e : nilO o = some t) : ∃ l, listO o = some l ∧ l.isEmpty = t := by
  cases o with
  | val v => obtain ⟨l, e1, e⟩ := Option.bind_eq_some_iff.mp e; cases e; exact ⟨l, e1, rfl⟩
  | own r => cases e; exact ⟨_, rfl, by cases r <;> simp⟩
  | own2 r => cases e
  | obj _ _ _ => cases e
  | dic _ _ _ => cases e
theorem nil_cmp {C : Cx} {A : Around} {E : Value → Shared → Prop} {W : WS} {s : Shared} {l : List V} {a b : Addr} {vs ws : Array Value} {n m : Nat} (h1 : s.heap.get? a = some (lstO vs n)) (r1 : vs.size = l.length) (h2 : s.heap.get? b = some (lstO ws m)) (r2 : ws.size = 0) (hu : A.units < cLine) (Q : Value → Shared → Prop) :
    (Q (.bool l.isEmpty) s → wpAny C.M A (compareOp .Eq (.ref a) (.ref b)) Q E s) ∧ (Q (.bool (!l.isEmpty)) s → wpAny C.M A (compareOp .NotEq (.ref a) (.ref b)) Q E s) := by
  cases l with
  | nil =>
    have r1 : vs.size = 0 := r1
    refine ⟨fun k => ?_, fun k => ?_⟩
    · have z := SeqAt.RcAt.lists (A := A) (s := s) (e := fun _ => true) ⟨_, h1, rfl, _, rfl⟩ ⟨_, h2, rfl, _, rfl⟩ (r1.trans r2.symm) hu (fun j j1 => by rw [r1] at j1; cases j1)
      rw [r1] at z; exact z _ _ E Q k
    · have z := SeqAt.RcNeAt.lists (A := A) (s := s) (e := fun _ => true) ⟨_, h1, rfl, _, rfl⟩ ⟨_, h2, rfl, _, rfl⟩ (r1.trans r2.symm) hu (fun j j1 => by rw [r1] at j1; cases j1)
      rw [r1] at z; exact z _ _ E Q k
  | cons v l =>
    have hne : (vs.size != ws.size) = true := by rw [r1, r2]; rfl
    exact ⟨fun k => SeqAt.RcAt.lists_lengths (A := A) (s := s) ⟨_, h1, rfl, _, rfl⟩ ⟨_, h2, rfl, _, rfl⟩ hne (by omega) _ _ E Q k, fun k => SeqAt.RcNeAt.lists_lengths (A := A) (s := s) ⟨_, h1, rfl, _, rfl⟩ ⟨_, h2, rfl, _, rfl⟩ hne (by omega) _ _ E Q k⟩
theorem nil_core (a : T G d fi) (ne : Bool) (lp : Pos) : Ok (fun σ => bd (a.pk σ) fun x σ => rt ((nilO x).bind fun t => some (t != ne, [])) σ) (CmG G d fi (Bool.casesOn ne .Eq .NotEq) a.x (.List [] lp)) :=
  a.po.bd (R := fun x ρ t ρ' => ∃ l, listO x = some l ∧ t = (l.isEmpty != ne) ∧ ρ = ρ') (fun x => .rt fun t ps ρ e q => by
    obtain ⟨u, e1, e⟩ := Option.bind_eq_some_iff.mp e; cases e; obtain ⟨l, e2, rfl⟩ := nilO_of e1; exact ⟨l, e2, rfl, rfl⟩) fun _ x _ t _ h q => by
      obtain ⟨l, e2, rfl, rfl⟩ := q
      intro X E W φ s e S F Q k
      refine h X E W φ s e S F _ fun x' W' φ' s' p' r' => wpAny_List (wpAny_pure ⟨Nat.zero_le _, ?_⟩)
      obtain ⟨b, vs, n, rfl, e3, e4, e5⟩ := r'.list e2
      have hk : ∀ a o, s'.heap.get? a = some o → (s'.heap.push (lstO ([] : List Value).toArray 0)).get? a = some o := fun _ _ q => Heap.get?_push_of_some _ q
      have fin : Q (.bool (l.isEmpty != ne)) { s' with heap := s'.heap.push (lstO ([] : List Value).toArray 0) } := k _ _ _ (p'.trans (.gs p'.f (Gs.of (t := s'.toks) p'.f.f.wf hk)))
      have z := nil_cmp (C := X.C) (A := X.A) (E := E) (W := W') (s := { s' with heap := s'.heap.push (lstO ([] : List Value).toArray 0) }) (hk _ _ e3) e5.size (Heap.get?_push_size _ rfl) rfl (by have := S.u; omega) Q
      cases ne
      · exact z.1 (by simpa using fin)
      · exact z.2 (by simpa using fin)
noncomputable def eNil (ne : Bool) (a : T G d fi) (lp p : Pos) : T G d fi := .cmp _ a.x (.List [] lp) p rfl _ (nil_core a ne lp)
end
end Mine
end

section
open PySem
set_option autoImplicit false
set_option linter.unusedVariables false
namespace Mine
open PySem.W (Looks keepIn)

theorem boot_len : bootBuiltins "len" = some (.builtin "len") := by kernel_rfl
theorem boot_isinstance : bootBuiltins "isinstance" = some (.builtin "isinstance") := by kernel_rfl
theorem boot_list : bootBuiltins "list" = some (.type "list") := by kernel_rfl
theorem boot_tuple : bootBuiltins "tuple" = some (.type "tuple") := by kernel_rfl
theorem boot_range : bootBuiltins "range" = some (.type "range") := by kernel_rfl
theorem boot_reversed : bootBuiltins "reversed" = some (.type "reversed") := by kernel_rfl
noncomputable def Ty.s (t : Ty) : Str := Ty.rec "tuple" "str" "int" "bool" "list" t
theorem boot_ty (t : Ty) : bootBuiltins t.s = some (.type t.n) := by
  cases t
  · exact boot_tuple
  · show bootBuiltins "str" = some (.type "str"); kernel_rfl
  · show bootBuiltins "int" = some (.type "int"); kernel_rfl
  · show bootBuiltins "bool" = some (.type "bool"); kernel_rfl
  · exact boot_list
abbrev KeepsIt (M : Model) (h : Heap) (f : Value) : Prop := ∃ k, (k = Keeper.frame ∨ k = Keeper.machine ∨ k = Keeper.boundFrame) ∧ Looks M h (keeperOf f) k
theorem keeper_builtin (M : Model) (h : Heap) (id : String) : KeepsIt M h (.builtin id) := ⟨.machine, .inr (.inl rfl), Looks.of_pure rfl⟩
theorem keeper_type (M : Model) (h : Heap) (id : String) : KeepsIt M h (.type id) := ⟨.machine, .inr (.inl rfl), Looks.of_pure rfl⟩

section
variable {M : Model} {A : Around} {E : Value → Shared → Prop} {s : Shared} {env : Env}
theorem callW {K : PySem.W.Frag} {f : Value} {pos : Pos} {first : List Value} {xs : List Expr} {Q : Value → Shared → Prop} (hk : ∀ h, K.In h → KeepsIt M h f)
    (h : wpAny M A (spliced (plainArgs xs env)) (fun vs s₁ => K.In s₁.heap ∧ wpAny M A (call f (first ++ vs)) Q E s₁) E s) : wpAny M A (callWith pos f first (plainArgs xs env) []) Q E s := by
  refine PySem.W.callWith_of (P := K.In) (by rw [show (plainArgs xs env).any (·.1) = false by simp [plainArgs]]; rfl) hk ?_
  cases xs with
  | nil =>
    unfold evalArgs
    show wpAny _ _ (spliced [] >>= _) _ _ _
    refine wpAny_bind (wpAny_mono h (fun vs s' h' => ?_) fun _ _ x => x)
    refine wpAny_holding ?_
    exact wpAny_bind (wpAny_pure (wpAny_bind (wpAny_pure (wpAny_pure h'))))
  | cons x xs => exact PySem.Calls.evalArgs_plain h
theorem method_call {o : Expr} {m : Str} {ap p : Pos} {xs : List Expr} {Q : Value → Shared → Prop} (hs : attributeBase o m env (eval o env) = eval o env) (hp : ∀ x, x ∈ xs → plainX x = true) (hl : (ap.endLine == p.line) = true) (hn : Nat.blt xs.length 30 = true)
    (h : ∀ pl, wpAny M A (eval o env) (fun ov s₁ => wpAny M A (getMethod ov m pl) (fun fx s₂ => wpAny M A (callWith p fx.1 fx.2 (plainArgs xs env) []) Q E s₂) E s₁) E s) : wpAny M A (eval (.Call (.Attribute o m ap) xs [] p) env) Q E s := by
  rw [arm_eval_Call, hs]
  refine wpAny_bind (wpAny_mono (h (do return (← importBound o env).getD true)) (fun ov s₁ h₁ => wpAny_bind (wpAny_standAt ?_)) fun _ _ x => x)
  rw [starEach_plain hp, backTo_plain]
  unfold methodCall
  have hf : methodCallForm (xs.length + ([] : List Keyword).length) (plainArgs xs env) (backToKw p (keywordEach [] env)) = true := by
    have : xs.length < 30 := Nat.le_of_ble_eq_true hn
    simp [methodCallForm, plainArgs, keywordEach, backToKw, this]
  rw [hf]
  refine wpAny_bind (wpAny_holding ?_)
  unfold calleeOf
  rw [if_pos rfl]
  refine wpAny_mono h₁ (fun fx s₂ h₂ => ?_) fun _ _ x => x
  unfold methodCallPos
  refine wpAny_bind ?_
  rw [if_pos (by rw [beq_iff_eq.mp hl]; simp)]
  exact wpAny_pure h₂
end

section
variable {G : Gl} {d : Nat} {fi : FI}
def Prim1 (G : Gl) (d : Nat) (f : Value) (k : O → Option (O × List Prop)) : Prop :=
  ∀ x o ps, k x = some (o, ps) → All ps → ∀ (X : FC) (E : Value → Shared → Prop) (W : WS) (φ : Nat → List Addr) (s : Shared) (ρ : Loc), FS G d X → At X W φ s ρ → ∀ x', BR W s.heap x x' → ∀ Q, Aft W s Q o → wpAny X.C.M X.A (call f [x']) Q E s
noncomputable def eBi (x : Str) (f : Value) (hf : bootBuiltins x = some f) (hk : ∀ M h, KeepsIt M h f) (k : O → Option (O × List Prop)) (h : Prim1 G d f k) (a : T G d fi) (p' p : Pos) (hb : isBi G fi x = true) : T G d fi :=
  .mk' (.Call (.Name x p') [a.x] [] p) (fun σ => bd (a.pk σ) fun x σ => rt (k x) σ) rfl
    (a.po.bd (R := fun x ρ o ρ' => ∃ ps, k x = some (o, ps) ∧ All ps ∧ ρ = ρ') (fun x => .rt fun o ps ρ e q => ⟨ps, e, q, rfl⟩) fun _ x _ _ _ hx q => by
      obtain ⟨ps, q1, q2, rfl⟩ := q
      intro X E W φ s e S F Q kk
      refine PyProof.Rows.Call_ (bi_ok S F (e ▸ hb) hf ?_)
      rw [starEach_plain (xs := [a.x]) (fun y q => by cases List.mem_singleton.mp q; exact a.pl), backTo_plain]
      refine callW (K := X.C.K) (fun h _ => hk _ h) (PySem.Calls.spliced_cons (hx X E W φ s e S F _ fun x' W' φ' s' p' r' => PySem.Calls.spliced_nil ⟨p'.f.In S, ?_⟩))
      exact h _ _ _ q1 q2 X E W' φ' s' _ S p'.f _ r' _ (Aft.of p' kk)) fun _ => rfl
noncomputable def lenO (o : O) : Option Nat := O.casesOn o (fun v => V.casesOn v none (fun _ => none) (fun _ => none) (fun s => some s.length) (fun l => some l.length) (fun l => some l.length) (fun _ _ => none) (fun _ _ _ => none)) (fun r => some r.length) (fun r => some r.length) (fun _ _ _ => none) (fun _ _ _ => none)
theorem primLen : Prim1 G d (.builtin "len") fun x => (lenO x).bind fun n => some (.val (.int n), []) := by
  intro x o ps e q X E W φ s ρ S F x' r Q k
  have hsl := sizeLine_lt
  obtain ⟨n, e1, e⟩ := Option.bind_eq_some_iff.mp e
  cases e
  have lst : ∀ {l : List V} {a : Addr} {vs : Array Value} {m : Nat}, s.heap.get? a = some (lstO vs m) → VRs W s.heap l vs.toList → l.length ≤ sizeLine → l.length = n → wpAny X.C.M X.A (call (.builtin "len") [.ref a]) Q E s := fun h1 h3 h2 e => by
    have hs := h3.size
    refine Calls.call_len_list ⟨_, h1, rfl, _, rfl⟩ (by rw [hs]; omega) ?_
    rw [hs, e]; exact k.here F.f.wf ⟨_, rfl⟩
  cases x with
  | obj _ _ _ => cases e1
  | dic _ _ _ => cases e1
  | own r' => cases e1; obtain ⟨a, rfl, vs, m, h1, h2, h3⟩ := r; exact lst h1 h2 (by simpa using h3) (by simp)
  | own2 r' =>
    cases e1
    obtain ⟨a, as, rfl, vs, m, h1, h2, h3, h4, _⟩ := r
    have hs : vs.size = r'.length := by rw [← Array.length_toList, h2, List.length_reverse, List.length_map, h4.1]
    refine Calls.call_len_list ⟨_, h1, rfl, _, rfl⟩ (by rw [hs]; omega) ?_
    rw [hs]; exact k.here F.f.wf ⟨_, rfl⟩
  | val v =>
    cases v <;> first | cases e1 | skip
    · rename_i z
      obtain ⟨t, rfl, ok, hz⟩ := r
      have hlen : (⟨z.toArray⟩ : Str).length = z.length := by simp [Str.length]
      refine P.len_str (by rw [hlen]; omega) ?_
      rw [hlen]; exact k.here F.f.wf ⟨_, rfl⟩
    · obtain ⟨p, vs, m, rfl, _, h1, h2, h3⟩ := VR.tup r
      have hs := h3.size
      refine P.len_tuple h1 (by rw [hs]; omega) ?_
      rw [hs]; exact k.here F.f.wf ⟨_, rfl⟩
    · obtain ⟨p, vs, m, rfl, _, h1, h2, h3⟩ := VR.lst r
      exact lst h1 h3 h2 rfl
noncomputable def eLen : T G d fi → Pos → Pos → isBi G fi "len" = true → T G d fi := eBi "len" (.builtin "len") boot_len (fun M h => keeper_builtin M h _) _ primLen
theorem primListT : Prim1 G d (.type "list") fun x => x.val?.bind fun v => v.tup?.bind fun l => some (.own l.reverse, []) := by
  intro x o ps e q X E W φ s ρ S F x' r Q k
  obtain ⟨v, e1, e⟩ := Option.bind_eq_some_iff.mp e
  obtain ⟨l, e2, e⟩ := Option.bind_eq_some_iff.mp e
  cases e
  rw [O.val_of e1, V.tup_of e2] at r
  obtain ⟨p, vs, m, rfl, _, h1, h2, h3⟩ := VR.tup r
  exact call_list_seq p (T := "tuple") (.inr rfl) h1 rfl rfl (fun h' c' hk ho => k.listAt (t := s.toks) F.f.wf hk (fresh_size _) ho (by rw [List.reverse_reverse]; exact h3) (by rwa [List.length_reverse])) (by rw [h3.size]; exact h2)
noncomputable def eListT : T G d fi → Pos → Pos → isBi G fi "list" = true → T G d fi := eBi "list" (.type "list") boot_list (fun M h => keeper_type M h _) _ primListT
noncomputable def kindO (o : O) : Option Kd := O.casesOn o (fun v => V.casesOn v (some .none) (fun _ => some .bool) (fun _ => some .int) (fun _ => some .str) (fun _ => some .tup) (fun _ => some .list) (fun _ _ => none) (fun _ _ _ => none)) (fun _ => some .list) (fun _ => some .list) (fun _ _ _ => none) (fun _ _ _ => none)
theorem isi_ok {X : FC} {W : WS} {φ : Nat → List Addr} {s : Shared} {ρ : Loc} {E : Value → Shared → Prop} {a : O} {a' : Value} {t : Ty} {Q : Value → Shared → Prop} (S : FS G d X) (F : At X W φ s ρ) (r : BR W s.heap a a') (ht : t ∈ G.ty) {kd : Kd} (hk : kindO a = some kd)
    (fin : ∀ tk, s.toks ≤ tk → Q (.bool (isiK kd t)) { s with toks := tk }) : wpAny X.C.M X.A (call (.builtin "isinstance") [a', .type t.n]) Q E s := by
  have f0 := fin s.toks (Nat.le_refl _)
  have f1 := fin (s.toks + 1) (Nat.le_succ _)
  cases a with
  | obj _ _ _ => cases hk
  | dic _ _ _ => cases hk
  | own r' =>
    cases hk
    obtain ⟨p, rfl, vs, n, h1, _⟩ := r
    cases t
    · exact IsiPair.list_tuple h1 rfl f1
    · exact IsiPair.list_str h1 rfl f1
    · exact IsiPair.list_int h1 rfl f1
    · exact IsiPair.list_bool h1 rfl f1
    · exact IsiPair.list_list h1 rfl f0
  | own2 r' =>
    cases hk
    obtain ⟨p, as, rfl, vs, n, h1, _⟩ := r
    cases t
    · exact IsiPair.list_tuple h1 rfl f1
    · exact IsiPair.list_str h1 rfl f1
    · exact IsiPair.list_int h1 rfl f1
    · exact IsiPair.list_bool h1 rfl f1
    · exact IsiPair.list_list h1 rfl f0
  | val v =>
    cases v with
    | ins _ _ => cases hk
    | dic _ _ _ => cases hk
    | none =>
      cases hk
      cases r
      cases t
      · exact IsiPair.NoneType_tuple f1
      · exact IsiPair.NoneType_str f1
      · exact IsiPair.NoneType_int f1
      · exact IsiPair.NoneType_bool f1
      · exact IsiPair.NoneType_list f1
    | bool b =>
      cases hk
      cases r
      cases t
      · exact IsiPair.bool_tuple f1
      · exact IsiPair.bool_str f1
      · exact IsiPair.bool_int f0
      · exact IsiPair.bool_bool f0
      · exact IsiPair.bool_list f1
    | int i =>
      cases hk
      obtain ⟨_, rfl⟩ := r
      cases t
      · exact IsiPair.int_tuple f1
      · exact IsiPair.int_str f1
      · exact IsiPair.int_int f0
      · exact IsiPair.int_bool f1
      · exact IsiPair.int_list f1
    | str z =>
      cases hk
      obtain ⟨_, rfl, _⟩ := r
      cases t
      · exact IsiPair.str_tuple f1
      · exact IsiPair.str_str f0
      · exact IsiPair.str_int f1
      · exact IsiPair.str_bool f1
      · exact IsiPair.str_list f1
    | tup l =>
      cases hk
      obtain ⟨p, vs, m, rfl, _, h1, _⟩ := VR.tup r
      cases t
      · exact IsiPair.tuple_tuple h1 rfl f0
      · exact IsiPair.tuple_str h1 rfl f1
      · exact IsiPair.tuple_int h1 rfl f1
      · exact IsiPair.tuple_bool h1 rfl f1
      · exact IsiPair.tuple_list h1 rfl f1
    | lst l =>
      cases hk
      obtain ⟨p, vs, m, rfl, _, h1, _⟩ := VR.lst r
      cases t
      · exact IsiPair.list_tuple h1 rfl f1
      · exact IsiPair.list_str h1 rfl f1
      · exact IsiPair.list_int h1 rfl f1
      · exact IsiPair.list_bool h1 rfl f1
      · exact IsiPair.list_list h1 rfl f0
noncomputable def eIsi (a : T G d fi) (t : Ty) (p' p'' p : Pos) (h : (isBi G fi "isinstance" && isBi G fi t.s && G.ty.contains t) = true) : T G d fi :=
  .mk' (.Call (.Name "isinstance" p') [a.x, .Name t.s p''] [] p) (fun σ => bd (a.pk σ) fun x σ => rt ((kindO x).bind fun k => some (.val (.bool (isiK k t)), [])) σ) rfl
    (a.po.bd (R := fun x ρ o ρ' => ∃ k, kindO x = some k ∧ o = .val (.bool (isiK k t)) ∧ ρ = ρ') (fun x => .rt fun o ps ρ e q => by obtain ⟨k, e1, e⟩ := Option.bind_eq_some_iff.mp e; cases e; exact ⟨k, e1, rfl, rfl⟩) fun _ x _ _ _ hx q => by
      obtain ⟨kd, hkd, rfl, rfl⟩ := q
      rw [Bool.and_eq_true, Bool.and_eq_true, List.contains_iff_mem] at h
      intro X E W φ s e S F Q kk
      refine PyProof.Rows.Call_ (bi_ok S F (e ▸ h.1.1) boot_isinstance ?_)
      rw [starEach_plain (xs := [a.x, .Name t.s p'']) (fun y q => by
        rcases List.mem_cons.mp q with rfl | q
        · exact a.pl
        · cases List.mem_singleton.mp q; rfl), backTo_plain]
      refine callW (K := X.C.K) (fun h _ => keeper_builtin _ h _) (PySem.Calls.spliced_cons (hx X E W φ s e S F _ fun x' W' φ' s' p' r' => PySem.Calls.spliced_cons (bi_ok S p'.f (e ▸ h.1.2) (boot_ty t) (PySem.Calls.spliced_nil ⟨p'.f.In S, ?_⟩))))
      exact isi_ok S p'.f r' h.2 hkd fun tk ht => kk _ _ _ _ ⟨p'.f.toks tk ht, p'.ag, p'.vl⟩ (.val rfl)) fun _ => rfl

def CallOK (G : Gl) (d : Nat) (a : Addr) (args : List V) (o : O) : Prop := ∀ (C : Cx) (A : Around) (W : WS) (s : Shared) (vals : List Value) (R : Result → Shared → Prop), GOk G C → A.handled = none → A.depth + 2 * d + 9 ≤ recursionLimit → A.units + 20 * d + deep + 90 < cLine →
  (∀ b o, C.h.get? b = some o → s.heap.get? b = some o) → s.gens = #[] → (∀ f, G.fd.lookup a = some f → f.fi.pos = true → 0 < s.toks) → s.os = C.os → (∀ a, W a → ∃ o, s.heap.get? a = some o) → VRs W s.heap args vals → Aft W s (fun v' s' => R (.ok (.ret v')) s') o → codeAny C.M A (.call (.ref a) ⟨vals, []⟩) R s
def tkOk (G : Gl) (b : Bool) (a : Addr) : Bool := match G.fd.lookup a with
  | some f => !f.fi.pos || b
  | none => true
theorem tkOk_of {G : Gl} {b : Bool} {a : Addr} {f : FD} (h : tkOk G b a = true) (hf : G.fd.lookup a = some f) (hp : f.fi.pos = true) : b = true := by
  unfold tkOk at h; rw [hf] at h; simpa [hp] using h
noncomputable def eCall (x : Str) (a : Addr) (r : Rw G d fi) (p' p : Pos) (h : (fi.isGlob x && (G.fn.lookup x == some a) && tkOk G fi.pos a) = true) : T G d fi :=
  .mk' (.Call (.Name x p') r.xs [] p) (fun σ => bd (r.ev σ) fun vs σ => told Tk.r? (fun _ o => CallOK G d a vs o) id (fun _ ρ => ρ) σ) rfl
    (r.eo.bd (R := fun vs ρ o ρ' => CallOK G d a vs o ∧ ρ = ρ') (fun vs => Ok.told (f := Tk.r?) (p := fun _ o => CallOK G d a vs o) (r := id) (ρ := fun _ ρ => ρ) fun o ρ q => ⟨q, rfl⟩) fun _ vs _ o _ hs q => by
      obtain ⟨q, rfl⟩ := q
      rw [Bool.and_eq_true, Bool.and_eq_true, beq_iff_eq] at h
      intro X E W φ s e S F Q kk
      obtain ⟨g1, g2⟩ := S.g.fn x a h.1.2
      refine PyProof.Rows.Call_ (glob_ok S F (e ▸ h.1.1) g1 ?_)
      rw [r.back]
      refine callW (K := X.C.K) (fun h hX => PySem.W.keeps_K g2 h hX) (hs.2 X E W φ s e S F _ fun vs' W' φ' s' p' r' => ⟨p'.f.In S, wpAny_call ?_⟩)
      exact q X.C X.A W' s' _ _ S.g S.hd (by have := S.dp; omega) (by have := S.un; omega) (p'.f.keep S) p'.f.gens (fun f hf hp => p'.f.tk (e ▸ tkOk_of h.2 hf hp)) p'.f.os p'.f.f.wf r' (Aft.of p' kk)) fun _ => rfl
end
end Mine
end

section
open PySem
set_option autoImplicit false
set_option linter.unusedVariables false
namespace Mine
open PySem.W (Looks keepIn)

def asI : Option Nat → Option Int := Option.map fun n => (n : Int)
noncomputable def cut {α : Type} (l : List α) (lo hi : Option Nat) : List α := (Option.casesOn hi l fun h => l.take h : List α).drop (Option.casesOn lo 0 id)
section
variable {M : Model} {A : Around} {E : Value → Shared → Prop} {s : Shared}
theorem wpAny_slicePartIndex {v : Value} {k : Option Int} {Q : Option Int → Shared → Prop} (hv : IsPart v k) (h : Q k s) : wpAny M A (Builtin.Slice.slicePartIndex v) Q E s := by
  cases hv with
  | none => exact wpAny_pure h
  | int i t =>
    unfold Builtin.Slice.slicePartIndex
    rw [if_neg (show ¬ ((Value.int i t == Value.none) = true) from Bool.false_ne_true)]
    refine wpAny_bind (wpAny_specialOf (T := "int") (typeIs_int s i t) F.slot_int_index.lookup ?_)
    simp only [Option.isNone_some, Bool.false_eq_true, if_false]
    exact wpAny_bind (wpAny_of_eq (a := i) rfl (wpAny_pure h))
end
theorem cut_eq {α : Type} (l : List α) (lo hi : Option Nat) : cut l lo hi = (l.drop (min (lo.getD 0) l.length)).take (min (hi.getD l.length) l.length - min (lo.getD 0) l.length) := by
  have e : ∀ a : Nat, (lo.getD 0) = a → cut l lo hi = (Option.casesOn hi l fun h => l.take h : List α).drop a := by intro a h; subst h; cases lo <;> rfl
  rw [e _ rfl]
  generalize lo.getD 0 = a
  cases hi with
  | none =>
    show l.drop a = _
    simp only [Option.getD_none, Nat.min_self]
    rw [List.take_of_length_le (by rw [List.length_drop]; omega)]
    by_cases h : a ≤ l.length
    · rw [Nat.min_eq_left h]
    · rw [Nat.min_eq_right (by omega), List.drop_of_length_le (by omega), List.drop_of_length_le (Nat.le_refl _)]
  | some b =>
    show (l.take b).drop a = _
    simp only [Option.getD_some]
    by_cases h : a ≤ l.length
    · rw [Nat.min_eq_left h, List.drop_take]
      by_cases h2 : b ≤ l.length
      · rw [Nat.min_eq_left h2]
      · rw [Nat.min_eq_right (by omega), List.take_of_length_le (by rw [List.length_drop]; omega), List.take_of_length_le (by rw [List.length_drop]; omega)]
    · have h3 : min a l.length = l.length := by omega
      rw [h3, List.drop_of_length_le (by rw [List.length_take]; omega), List.drop_of_length_le (Nat.le_refl _)]; simp
theorem slicePick_cut (items : Array Value) (lo hi : Option Nat) : slicePick items (asI lo) (asI hi) none = (cut items.toList lo hi).toArray := by
  rw [slicePick_plain, cut_eq]
  cases lo <;> cases hi <;> simp [asI, clipAt_nat]
theorem cut_length_le {α : Type} (l : List α) (lo hi : Option Nat) : (cut l lo hi).length ≤ l.length := by
  rw [cut_eq, List.length_take, List.length_drop]; omega
theorem VRs.cut {W : WS} {h : Heap} {l : List V} {l' : List Value} (r : VRs W h l l') (lo hi : Option Nat) : VRs W h (Mine.cut l lo hi) (Mine.cut l' lo hi) := by
  unfold Mine.cut
  cases hi with
  | none => exact r.drop _
  | some n => exact (r.take n).drop _
theorem str_cut (z : List Nat) (lo hi : Option Nat) : (Builtin.Str.strSliceIndices (asI lo) (asI hi) 1 z.length).filterMap (z.toArray[·]?) = Mine.cut z lo hi ∧ (Builtin.Str.strSliceIndices (asI lo) (asI hi) 1 z.length).length = (Mine.cut z lo hi).length := by
  have h : Builtin.Str.strSliceIndices (asI lo) (asI hi) 1 z.length = sliceRange (sliceBounds (asI lo) (asI hi) none z.length).1 (sliceBounds (asI lo) (asI hi) none z.length).2.1 1 := by
    cases lo <;> cases hi <;> rfl
  rw [h, sliceBounds_plain]
  simp only
  rw [sliceRange_one, pick_run, cut_eq, List.length_map, List.length_range, List.length_take, List.length_drop]
  cases lo <;> cases hi <;> simp [asI, clipAt_nat] <;> omega

def PR (x : Option Int) (v : Value) : Prop := Option.casesOn x (v = .none) fun i => ∃ t, v = .int i t
noncomputable def bds (x : Option Int) : Option Nat := Option.casesOn x none fun i => some i.toNat
noncomputable def bdo (x : Option Int) (ps : List Prop) : List Prop := Option.casesOn x ps fun i => (0 ≤ i ∧ i ≤ 1000000) :: ps
theorem bdo_all {x : Option Int} {ps : List Prop} (h : All (bdo x ps)) : All ps ∧ ∀ v, PR x v → IsPart v (asI (bds x)) ∧ ∃ q : Option (Int × Tok), v = partValue q ∧ q.map (·.1) = asI (bds x) := by
  cases x with
  | none => exact ⟨h, fun v r => by cases r; exact ⟨.none, none, rfl, rfl⟩⟩
  | some i =>
    have h1 : 0 ≤ i := h.1.1
    have e : asI (bds (some i)) = some i := congrArg some (Int.toNat_of_nonneg h1)
    refine ⟨h.2, fun v r => ?_⟩
    obtain ⟨t, rfl⟩ := r
    rw [e]
    exact ⟨.int i t, some (i, t), rfl, rfl⟩

section
variable {G : Gl} {d : Nat} {fi : FI}
def BdG (G : Gl) (d : Nat) (fi : FI) (x : Option Expr) (ρ : Loc) (b : Option Int) (ρ' : Loc) : Prop := ∀ (X : FC) (E : Value → Shared → Prop) (W : WS) (φ : Nat → List Addr) (s : Shared), X.fi = fi → FS G d X → At X W φ s ρ →
  ∀ Q : Value → Shared → Prop, (∀ v' W' φ' s', Pst X W s W' φ' s' ρ' → PR b v' → Q v' s') → wpAny X.C.M X.A (evalPart x X.env) Q E s
structure Bd (G : Gl) (d : Nat) (fi : FI) where
  x : Option Expr
  ev : St → Option (Option Int × St)
  eo : Ok ev (BdG G d fi x)
noncomputable def dNone : Bd G d fi := ⟨none, pu none, .pu fun _ X E W φ s e S F Q k => wpAny_pure (k _ _ _ _ (.refl F) rfl)⟩
noncomputable def dSome (a : T G d fi) : Bd G d fi := ⟨some a.x, fun σ => bd (a.ev σ) fun x σ => x.frz.int?.bind fun i => pu (some i) σ,
  a.eo.bd (R := fun x ρ b ρ' => ∃ i, x.frz = .int i ∧ b = some i ∧ ρ = ρ') (fun x σ b σ' e q => by
    obtain ⟨i, e1, e⟩ := Option.bind_eq_some_iff.mp e; cases e; exact ⟨q, i, V.int_of e1, rfl, rfl⟩) fun _ x _ _ _ h q X E W φ s e S F Q k => by
      obtain ⟨i, hx, rfl, rfl⟩ := q
      exact h.v X E W φ s e S F _ fun v' W' φ' s' p' r' => k _ _ _ _ p' (by rw [hx] at r'; exact r')⟩
noncomputable def kSlc (v : V) (lo hi : Option Int) : Option (O × List Prop) := V.casesOn v none (fun _ => none) (fun _ => none) (fun z => some (.val (.str (cut z (bds lo) (bds hi))), bdo lo (bdo hi []))) (fun l => some (.val (.tup (cut l (bds lo) (bds hi))), bdo lo (bdo hi [])))
  (fun l => some (.own (cut l (bds lo) (bds hi)).reverse, bdo lo (bdo hi []))) (fun _ _ => none) (fun _ _ _ => none)

theorem adjust_eq (lo hi : Option Nat) (n : Nat) : Builtin.Slice.sliceAdjust (asI lo) (asI hi) 1 (n : Int) = (((min (lo.getD 0) n : Nat) : Int), ((min (hi.getD n) n : Nat) : Int)) := by
  unfold Builtin.Slice.sliceAdjust asI
  cases lo <;> cases hi <;> simp <;> omega
theorem places_eq (a b : Nat) : Builtin.Slice.slicePlaces (a : Int) (b : Int) 1 = b - a := by
  unfold Builtin.Slice.slicePlaces
  simp only [Int.zero_lt_one, if_true, gt_iff_lt]
  split <;> omega
theorem range_pick (xs : Array Value) (a k : Nat) : ((List.range k).filterMap fun (i : Nat) => xs[((a : Int) + (i : Int) * 1).toNat]?) = (xs.toList.drop a).take k := by
  rw [← pick_run xs a k, List.filterMap_map]
  congr 1
  funext i
  have : ((a : Int) + (i : Int) * 1).toNat = a + i := by omega
  rw [this]; rfl
theorem tuple_getitem_slice (l : Addr) (items : Array Value) (n : Nat) (a : Addr) (vl vu : Value) (lo hi : Option Nat) (pl : IsPart vl (asI lo)) (pu : IsPart vu (asI hi)) (hz : items.size ≤ sizeLine) :
    Meets (Builtin.«tuple.__getitem__» ⟨[.ref l, .ref a], []⟩)
      (fun _ R s => s.heap.get? l = some (tupO items n) ∧ s.heap.IsSliceOf a vl vu .none ∧ (cut items.toList lo hi = items.toList → R (.ok (.ret (.ref l))) s) ∧
        R (.ok (.ret (.ref s.heap.objs.size))) { s with heap := s.heap.push (tupO (cut items.toList lo hi).toArray 0) }) :=
  .of_wp fun prog w A R s h => by
    obtain ⟨hl, hs, h1, h2⟩ := h
    obtain ⟨os, hos, hcs, hds⟩ := id hs
    have hTs : s.TypeIs (.ref a) "slice" := ⟨os, hos, hcs⟩
    have hT : s.TypeIs (.ref l) "tuple" := ⟨_, hl, rfl⟩
    unfold Builtin.«tuple.__getitem__»
    show wpAny _ _ (Builtin.Tuple.tupleItemsOf (.ref l) >>= _) _ _ s
    refine wpAny_bind (wpAny_tupleItemsOf hl rfl ?_)
    refine wpAny_bind (wpAny_typeOf hTs ?_)
    rw [if_pos (by decide)]
    unfold Builtin.Slice.sliceApplied Builtin.Slice.sliceFields
    refine wpAny_bind (wpAny_bind (wpAny_bind (wpAny_field hos hds (x := vl) rfl (wpAny_bind (wpAny_field hos hds (x := vu) rfl (wpAny_bind (wpAny_field hos hds (x := .none) rfl (wpAny_pure ?_))))))))
    refine wpAny_bind (wpAny_slicePartIndex .none ?_)
    rw [if_neg (by decide)]
    refine wpAny_bind (wpAny_slicePartIndex pl (wpAny_bind (wpAny_slicePartIndex pu (wpAny_bind (wpAny_pure ?_)))))
    simp only [Option.getD_none]
    rw [adjust_eq]
    refine wpAny_pure ?_
    simp only [places_eq]
    have hc : ((List.range (min (hi.getD items.size) items.size - min (lo.getD 0) items.size)).filterMap fun (k : Nat) => items[(((min (lo.getD 0) items.size : Nat) : Int) + (k : Int) * 1).toNat]?) = cut items.toList lo hi := by
      rw [range_pick, cut_eq]; simp
    have fin : wpAny (model prog w) A.in1 (do let x ← Builtin.Tuple.tupleExact ((List.range (min (hi.getD items.size) items.size - min (lo.getD 0) items.size)).filterMap fun (k : Nat) => items[(((min (lo.getD 0) items.size : Nat) : Int) + (k : Int) * 1).toNat]?).toArray; ret x)
        (fun fin s' => ∃ v, fin = .done (.ret v) ∧ R (.ok (.ret v)) s') (fun e s' => R (.error e) s') s := by
      rw [hc]
      refine wpAny_bind (wpAny_newObj_type (wpAny_pure ⟨_, rfl, h2⟩) ?_)
      show (cut items.toList lo hi).toArray.size ≤ sizeLine
      rw [List.size_toArray]
      exact Nat.le_trans (cut_length_le _ _ _) (by simpa using hz)
    refine wpAny_ite ?_
    split
    · rename_i q
      simp only [Bool.and_eq_true, beq_iff_eq] at q
      refine wpAny_bind (wpAny_bind (wpAny_typeOf hT (wpAny_pure ?_)))
      rw [if_pos (by decide)]
      refine wpAny_bind (wpAny_rule (wpAny_pure ⟨_, rfl, h1 ?_⟩))
      rw [cut_eq]
      have h0 : min (lo.getD 0) items.toList.length = 0 := by have := q.1.1; simp at this ⊢; omega
      rw [h0, List.drop_zero]
      refine List.take_of_length_le ?_
      have := q.2
      simp only [Array.length_toList] at h0 ⊢
      omega
    · exact fin

theorem slc_ok {C : Cx} {A : Around} {E : Value → Shared → Prop} {W : WS} {s : Shared} {v : V} {v' vl vu : Value} {lo hi : Option Int} {o : O} {ps : List Prop} {value : Expr} {lower upper : Option Expr} {p : Pos} {Q : Value → Shared → Prop} {sl : Addr} (wf : ∀ a, W a → ∃ o, s.heap.get? a = some o) (r : VR W s.heap v v')
    (rl : PR lo vl) (ru : PR hi vu) (e : kSlc v lo hi = some (o, ps)) (hq : All ps) (hsl : s.heap.IsSliceOf sl vl vu .none) (k : Aft W s Q o) : wpAny C.M A (PyProof.Rows.subscriptTail value (.Slice lower upper none p) v' (.ref sl)) Q E s := by
  have hss := sizeLine_lt
  have hsub : ∀ o i : Value, subscripted (.Slice lower upper none p) false o i = operate [i, o] (getItem o i) := fun _ _ => rfl
  cases v <;> first | cases e | skip
  · rename_i z
    obtain ⟨hq, b1⟩ := bdo_all hq
    obtain ⟨_, ql, rfl, ql2⟩ := b1 _ rl
    obtain ⟨_, qu, rfl, qu2⟩ := (bdo_all hq).2 _ ru
    obtain ⟨t1, rfl, ok, hz⟩ := r
    generalize bds lo = nlo at *
    generalize bds hi = nhi at *
    have hcl := cut_length_le z nlo nhi
    obtain ⟨hc1, hc2⟩ := str_cut z nlo nhi
    have hpk : slicePicked ⟨z.toArray⟩ ql qu none = Builtin.Str.strSliceIndices (asI nlo) (asI nhi) 1 z.length := by
      unfold slicePicked
      rw [ql2, qu2]; simp [Str.length]
    have hok : PyData.strOk ⟨(Mine.cut z nlo nhi).toArray⟩ = true := strOk_of ok fun c hc => by
      rw [cut_eq] at hc; exact List.mem_of_mem_drop (List.mem_of_mem_take hc)
    refine PyProof.Rows.tail_any (T := "str") (typeIs_str s _ t1) F.slot_str_getitem.lookup (wpAny_getItem_str_slice (l := ql) (u := qu) (st := none) ?_ rfl ?_) (hsub _ _)
    · obtain ⟨o, a1, a2, a3⟩ := hsl; exact ⟨o, a1, a2, a3⟩
    · unfold sliceMade
      rw [hpk]
      split
      · rename_i q
        simp only [Option.map_none, Option.getD_none, beq_self_eq_true, Bool.true_and, beq_iff_eq] at q
        rw [hc2] at q
        have hcz : Mine.cut z nlo nhi = z := by
          have q : (Mine.cut z nlo nhi).length = z.length := by simpa [Str.length] using q
          rw [cut_eq, List.length_take, List.length_drop] at q
          rw [cut_eq]
          have h0 : z.length = 0 ∨ min (nlo.getD 0) z.length = 0 := by omega
          rcases h0 with h0 | h0
          · rw [List.length_eq_zero_iff.mp h0]; simp
          · rw [h0, List.drop_zero]; exact List.take_of_length_le (by omega)
        rw [hcz] at k
        exact k.here (t := s.toks) wf ⟨_, rfl, ok, hz⟩
      · have hm : ((Builtin.Str.strSliceIndices (asI nlo) (asI nhi) 1 z.length).filterMap ((⟨z.toArray⟩ : Str).cps[·]?)) = Mine.cut z nlo nhi := hc1
        rw [hm]
        exact ⟨by simp [Str.length]; omega, k.here wf ⟨_, rfl, hok, by omega⟩⟩
  · rename_i l
    obtain ⟨hq, b1⟩ := bdo_all hq
    obtain ⟨pl, _⟩ := b1 _ rl
    obtain ⟨pu, _⟩ := (bdo_all hq).2 _ ru
    obtain ⟨ad, vs, n, rfl, hw, h1, h2, h3⟩ := VR.tup r
    generalize bds lo = nlo at *
    generalize bds hi = nhi at *
    have hcr := h3.cut nlo nhi
    have hcl := cut_length_le l nlo nhi
    refine PyProof.Rows.tail_any (T := "tuple") ⟨_, h1, rfl⟩ F.slot_tuple_getitem.lookup (getItem_meets ⟨_, h1, rfl⟩ (by decide) F.slot_tuple_getitem F.entry_tuple_getitem (F.args_tuple_getitem_2 _ _)
      (tuple_getitem_slice ad vs n sl vl vu nlo nhi pl pu (by rw [h3.size]; exact h2)) ⟨h1, hsl, fun hw' => ?_, ?_⟩) (hsub _ _)
    · refine k.here (t := s.toks) wf ⟨ad, vs, n, rfl, hw, h1, by omega, ?_⟩
      rw [hw'] at hcr; exact hcr
    · exact k.tuple (t := s.toks) wf (by simpa using hcr) (by omega)
  · rename_i l
    obtain ⟨hq, b1⟩ := bdo_all hq
    obtain ⟨pl, _⟩ := b1 _ rl
    obtain ⟨pu, _⟩ := (bdo_all hq).2 _ ru
    obtain ⟨ad, vs, n, rfl, hw, h1, h2, h3⟩ := VR.lst r
    generalize bds lo = nlo at *
    generalize bds hi = nhi at *
    have hcr := h3.cut nlo nhi
    have hcl := cut_length_le l nlo nhi
    refine PyProof.Rows.tail_any (T := "list") ⟨_, h1, rfl⟩ F.slot_list_getitem.lookup (wpAny_getItem_list_slice ⟨_, h1, rfl, _, rfl⟩ hsl pl pu .none (by simp) (k.list (t := s.toks) wf ?_ (by rw [List.length_reverse]; omega)) (by rw [h3.size]; exact h2)) (hsub _ _)
    rw [slicePick_cut, List.reverse_reverse]; simpa using hcr
noncomputable def eSlc (a : T G d fi) (lo hi : Bd G d fi) (p' p : Pos) : T G d fi :=
  .mk' (.Subscript a.x (.Slice lo.x hi.x none p') p) (fun σ => bd (a.ev σ) fun x σ => bd (lo.ev σ) fun l σ => bd (hi.ev σ) fun h σ => rt (kSlc x.frz l h) σ) rfl
    (a.eo.bd (R := fun x ρ o ρ' => ∃ l h ρ₁ ps, BdG G d fi lo.x ρ l ρ₁ ∧ BdG G d fi hi.x ρ₁ h ρ' ∧ kSlc x.frz l h = some (o, ps) ∧ All ps) (fun x => lo.eo.bd (R := fun l ρ o ρ' => ∃ h ps, BdG G d fi hi.x ρ h ρ' ∧ kSlc x.frz l h = some (o, ps) ∧ All ps)
      (fun l => hi.eo.bd (R := fun h ρ o ρ' => ∃ ps, kSlc x.frz l h = some (o, ps) ∧ All ps ∧ ρ = ρ') (fun h => .rt fun o ps ρ e q => ⟨ps, e, q, rfl⟩) fun _ h _ _ _ z q => by obtain ⟨ps, q1, q2, rfl⟩ := q; exact ⟨h, ps, z, q1, q2⟩)
      fun _ l ρ₁ _ _ z q => by obtain ⟨h, ps, q1, q2, q3⟩ := q; exact ⟨l, h, ρ₁, ps, z, q1, q2, q3⟩) fun _ x _ _ _ z q => by
      obtain ⟨l, h, ρ₁, ps, hl, hh, q1, q2⟩ := q
      intro X E W φ s e S F Q kk
      refine PyProof.Rows.Subscript_ (z.v X E W φ s e S F _ fun x' W₁ φ₁ s₁ p₁ r₁ => wpAny_Slice (hl X E W₁ φ₁ s₁ e S p₁.f _ fun l' W₂ φ₂ s₂ p₂ r₂ => hh X E W₂ φ₂ s₂ e S p₂.f _ fun h' W₃ φ₃ s₃ p₃ r₃ => wpAny_pure ?_))
      have hk : ∀ a o, s₃.heap.get? a = some o → (s₃.heap.push { cls := .type "slice", data := .fields #[l', h', .none] }).get? a = some o := fun _ _ q => Heap.get?_push_of_some _ q
      have g := Gs.of (t := s₃.toks) p₃.f.f.wf hk
      have p4 := Pst.gs p₃.f g
      exact slc_ok (s := { s₃ with heap := _ }) p4.f.f.wf (((r₁.ag p₂.ag).ag p₃.ag).ag p4.ag) r₂ r₃ q1 q2 (Heap.IsSliceOf.new ..) (Aft.of (((p₁.trans p₂).trans p₃).trans p4) kk)) fun _ => rfl
end
end Mine
end

section
open PySem
set_option autoImplicit false
set_option linter.unusedVariables false
namespace Mine
open PySem.W (Looks keepIn)

section
variable {G : Gl} {d : Nat} {fi : FI}
noncomputable def textsOf (l : List V) : Option (List (List Nat)) := @List.rec V (fun _ => Option (List (List Nat))) (some []) (fun v _ r => v.str?.bind fun s => r.bind fun t => some (s :: t)) l
noncomputable def popV (i : Nat) (σ : St) : Option (O × St) := (slot σ.ρ i).bind fun o => O.casesOn o (fun _ => none) (fun r => List.casesOn r none fun v r => some (.val v, ⟨σ.ρ.set i (some (.own r)), σ.tp, σ.ob⟩)) (fun _ => none) (fun _ _ _ => none) fun _ _ _ => none
noncomputable def ePop (x : Str) (i : Nat) (xp ap p : Pos) (h : (fi.isVar x i && (ap.endLine == p.line)) = true) : T G d fi :=
  .mk' (.Call (.Attribute (.Name x xp) "pop" ap) [] [] p) (popV i) rfl (by
    intro σ a σ' e q
    obtain ⟨o, e1, e⟩ := Option.bind_eq_some_iff.mp e
    rw [Bool.and_eq_true] at h
    cases o with
    | val v => cases e
    | own2 r => cases e
    | obj _ _ _ => cases e
    | dic _ _ _ => cases e
    | own r =>
      cases r with
      | nil => cases e
      | cons v r =>
        cases e
        refine ⟨q, fun X E W φ s ef S F Q kk => method_call rfl (fun z q => by cases q) h.2 rfl fun pl => load_ok S F (ef ▸ h.1) (slot_some e1) fun x' hx hn hv rr => ?_⟩
        obtain ⟨ad, hp, rfl, vs, n, h1, h2, h3⟩ := rr
        refine getMethod_builtin (T := "list") ⟨_, h1, rfl⟩ PySem.F.plainAttrs_list PySem.F.slot_list_pop PySem.F.type_list_pop (fun a q => by cases q; exact ⟨_, h1, rfl⟩) ?_
        refine callW (K := X.C.K) (fun h _ => keeper_builtin _ h _) (PySem.Calls.spliced_nil ⟨F.In S, ?_⟩)
        have hs := h2.size
        rw [List.length_reverse] at hs
        have hz : vs.size - 1 = r.length := by rw [hs]; rfl
        rw [List.reverse_cons] at h2
        obtain ⟨v', g1, g2⟩ := h2.get (i := r.length) (v := v) (by rw [← List.length_reverse]; exact List.getElem?_concat_length)
        refine call_meets PySem.F.slot_list_pop ⟨_, h1, rfl⟩ PySem.F.entry_list_pop (PySem.F.args_list_pop_1 _) (MeetsSeq.list_pop_last ad vs n v' (by rw [hz, ← Array.getElem?_toList]; exact g1) (by rw [hs]; exact h3)) ⟨h1, ?_⟩
        have hd : (vs.eraseIdxIfInBounds (vs.size - 1)).toList = vs.toList.take r.length := by
          have : r.length + 1 = vs.toList.length := by rw [Array.length_toList]; exact hs.symm
          rw [Array.toList_eraseIdxIfInBounds, hz, List.eraseIdx_eq_dropLast this, List.dropLast_eq_take, ← this]; rfl
        have ht := h2.take r.length
        rw [show ((r.reverse ++ [v]).take r.length) = r.reverse by rw [← List.length_reverse]; exact List.take_left] at ht
        have hsb : Heap.SameBut ad s.heap (s.heap.update ad (Obj.mapSeq fun xs => xs.eraseIdxIfInBounds (vs.size - 1))) := Heap.SameBut.update ..
        obtain ⟨A, B⟩ := F.turn (x := x) (i := i) (t := s.toks) (r := r) (fun y hy => S.ti y x i hy hx) hp hsb hv (Heap.get?_update_self _ h1 rfl) (by rw [hd]; exact ht) (Nat.le_of_succ_le h3)
        refine kk _ _ _ _ ⟨A, B, fun y w hw => ?_⟩ (.val (g2.ag B))
        have hno := F.f.notOwn h1
        obtain ⟨q, m, ⟨o, es, ep, e, z⟩, hm⟩ | ⟨q, c, hc, o, e, z⟩ := hw
        · exact .inl ⟨q, m, ⟨o, es, ep, (hsb.2 _ (Ne.symm hno.1)).trans e, z⟩, hm⟩
        · exact .inr ⟨q, c, hc, o, (hsb.2 c fun e => hno.2 y (e ▸ hc)).trans e, z⟩) fun _ => rfl
end
end Mine
end

section
open PySem
set_option autoImplicit false
set_option linter.unusedVariables false
namespace Mine
open PySem.W (Looks keepIn)

structure Fre (X : FC) (W : WS) (φ : Nat → List Addr) (a : Addr) : Prop where
  pin : X.pin a = none
  w : ¬ W a
  mu : ¬ Mut X φ a
  nc : ∀ x, X.env.cells.lookup x ≠ some a
noncomputable def FC.pinned (X : FC) (a : Addr) (o : Obj) : FC := { X with pin := fun b => if b = a then some o else X.pin b, W0 := fun b => b ≠ a ∧ X.W0 b }

section
variable {G : Gl} {d : Nat} {X : FC} {W : WS} {φ : Nat → List Addr} {s : Shared} {ρ : Loc} {h' : Heap} {a : Addr} {o : Obj}
theorem Fre.of (F : At X W φ s ρ) (e : s.heap.get? a = none) : Fre X W φ a := by
  have nc : ∀ x, X.env.cells.lookup x ≠ some a := fun x m => by obtain ⟨o, _, z, _⟩ := F.f.cells x a m; rw [e] at z; cases z
  refine ⟨?_, fun q => ?_, fun m => ?_, nc⟩
  · cases q : X.pin a with
    | none => rfl
    | some o => have := F.f.pin a o q; rw [e] at this; cases this
  · obtain ⟨o, z⟩ := F.f.wf a q; rw [e] at z; cases z
  · rcases m with m | ⟨_, x, m⟩ | ⟨i, m⟩
    · obtain ⟨o, _, _, z, _⟩ := F.f.ns; rw [← m, e] at z; cases z
    · exact nc x m
    · obtain ⟨_, z, _⟩ := F.ow i a m; rw [e] at z; cases z
theorem At.move (F : At X W φ s ρ) {D : Addr → Prop} (f : ∀ b, D b → Fre X W φ b) {W' : WS} {t : Nat} (hk : ∀ b o, ¬ D b → s.heap.get? b = some o → h'.get? b = some o) (hw : ∀ b, W b → W' b) (wf : ∀ b, W' b → ∃ o, h'.get? b = some o) (nw : ∀ b o, ¬ D b → s.heap.get? b = some o → W' b → W b) (ht : s.toks ≤ t := by first | exact Nat.le_refl _ | assumption | exact Nat.le_succ _ | omega | (dsimp only; omega) | (dsimp only at *; omega)) :
    At X W' φ { s with heap := h', toks := t } ρ ∧ Ag W s.heap W' h' ∧ ∀ x v, Val X.env s.heap x v → Val X.env h' x v := by
  have ne : ∀ b, W b → ¬ D b := fun b q e => (f b e).w q
  have nm : ∀ b, Mut X φ b → ¬ D b := fun b q e => (f b e).mu q
  have ag : Ag W s.heap W' h' := ⟨hw, fun b q => by obtain ⟨o, e⟩ := F.f.wf b q; exact (hk b o (ne b q) e).trans e.symm⟩
  have val : ∀ x v, Val X.env s.heap x v → Val X.env h' x v := fun x v r => by
    obtain ⟨q, m, ⟨o, es, ep, e, z⟩, hm⟩ | ⟨q, c, hc, o, e, z⟩ := r
    · exact .inl ⟨q, m, ⟨o, es, ep, hk _ _ (nm _ (.inl rfl)) e, z⟩, hm⟩
    · exact .inr ⟨q, c, hc, o, hk _ _ (fun e => (f c e).nc x hc) e, z⟩
  have ow : ∀ i b, b ∈ φ i → ¬ D b := fun i b q => nm b (.inr (.inr ⟨i, q⟩))
  have np : ∀ b o, X.pin b = some o → ¬ D b := fun b o e q => by rw [(f b q).pin] at e; cases e
  refine ⟨⟨F.gens, F.os, ⟨fun b o e => hk b o (np b o e) (F.f.pin b o e), fun b q => ⟨(F.f.mu b q).1, fun w => (F.f.mu b q).2 ?_⟩, wf, fun b o e w => F.f.w0 b o e (nw b o (np b o e) (F.f.pin b o e) w), F.f.dis, ?_, fun x c q => ?_⟩, fun x i hx o ho hn => ?_, fun i b q => ?_, fun h => Nat.lt_of_lt_of_le (F.tk h) ht, fun y v e => val y v (F.kv y v e)⟩, ag, val⟩
  · have : ∃ o, s.heap.get? b = some o := by
      rcases q with q | ⟨_, x, q⟩ | ⟨i, q⟩
      · obtain ⟨o, _, _, e, _⟩ := F.f.ns; exact ⟨o, q ▸ e⟩
      · obtain ⟨o, _, e, _⟩ := F.f.cells x b q; exact ⟨o, e⟩
      · obtain ⟨_, e, _⟩ := F.ow i b q; exact ⟨_, e⟩
    obtain ⟨o, e⟩ := this
    exact nw b o (nm b q) e w
  · obtain ⟨o, es, ep, e, z⟩ := F.f.ns; exact ⟨o, es, ep, hk _ _ (nm _ (.inl rfl)) e, z⟩
  · obtain ⟨o, v, e, z⟩ := F.f.cells x c q; exact ⟨o, v, hk c o (fun e => (f c e).nc x q) e, z⟩
  · obtain ⟨v', p, r⟩ := F.lr x i hx o ho hn
    exact ⟨v', val _ _ p, r.ag ag fun b q => by obtain ⟨_, e, _⟩ := F.ow i b q; exact (hk b _ (ow i b q) e).trans e.symm⟩
  · obtain ⟨o, e, n⟩ := F.ow i b q; exact ⟨o, hk b _ (ow i b q) e, n⟩
theorem At.loose (F : At X W φ s ρ) (f : Fre X W φ a) {t : Nat} (hk : ∀ b o, b ≠ a → s.heap.get? b = some o → h'.get? b = some o) (ht : s.toks ≤ t := by first | exact Nat.le_refl _ | assumption | exact Nat.le_succ _ | omega | (dsimp only; omega) | (dsimp only at *; omega)) :
    At X W φ { s with heap := h', toks := t } ρ ∧ Ag W s.heap W h' ∧ ∀ x v, Val X.env s.heap x v → Val X.env h' x v :=
  F.move (D := (· = a)) (fun b q => q ▸ f) hk (fun _ q => q) (fun b q => by obtain ⟨o, e⟩ := F.f.wf b q; exact ⟨o, hk b o (fun z => f.w (z ▸ q)) e⟩) (fun _ _ _ _ q => q) ht
theorem At.pinned (F : At X W φ s ρ) (f : Fre X W φ a) (e : s.heap.get? a = some o) : At (X.pinned a o) W φ s ρ where
  gens := F.gens
  os := F.os
  f := { F.f with
    pin := fun b o' q => by
      dsimp only [FC.pinned] at q
      split at q
      · rename_i z; cases q; rw [z]; exact e
      · exact F.f.pin b o' q
    mu := fun b q => by
      have q : Mut X φ b := q
      have z : b ≠ a := fun z => f.mu (z ▸ q)
      exact ⟨(if_neg z).trans (F.f.mu b q).1, (F.f.mu b q).2⟩
    w0 := fun b o' q w => by
      dsimp only [FC.pinned] at q ⊢
      split at q
      · rename_i z; exact absurd (z ▸ w) f.w
      · rename_i z; exact ⟨z, F.f.w0 b o' q w⟩ }
  lr := F.lr
  ow := F.ow
  tk := F.tk
  kv := F.kv
theorem FC.pinned_ne {b : Addr} (h : b ≠ a) : (X.pinned a o).pin b = X.pin b := if_neg h
theorem FC.pinned_same : (X.pinned a o).pin a = some o := if_pos rfl
theorem At.unpin (F : At (X.pinned a o) W φ s ρ) (hp : X.pin a = none) (nc : ∀ x, X.env.cells.lookup x ≠ some a) : At X W φ s ρ ∧ Fre X W φ a ∧ s.heap.get? a = some o := by
  have ne : ∀ b, Mut X φ b → b ≠ a := fun b q e => by have := (F.f.mu b q).1; rw [e, FC.pinned_same] at this; cases this
  refine ⟨⟨F.gens, F.os, { F.f with pin := fun b o' q => F.f.pin b o' ?_, mu := fun b q => ⟨?_, (F.f.mu b q).2⟩, w0 := fun b o' q w => (F.f.w0 b o' ?_ w).2 }, F.lr, F.ow, F.tk, F.kv⟩, ⟨hp, fun w => (F.f.w0 a o FC.pinned_same w).1 rfl, fun q => ne a q rfl, nc⟩, F.f.pin a o FC.pinned_same⟩
  · rw [FC.pinned_ne fun e => by rw [e, hp] at q; cases q]; exact q
  · rw [← FC.pinned_ne (ne b q)]; exact (F.f.mu b q).1
  · rw [FC.pinned_ne fun e => by rw [e, hp] at q; cases q]; exact q
theorem FS.pinned (S : FS G d X) (hp : X.pin a = none) : FS G d (X.pinned a o) :=
  ⟨S.g, fun b o' q => by rw [FC.pinned_ne fun e => by have := S.base b o' q; rw [e, hp] at this; cases this]; exact S.base b o' q, S.hd, S.dp, S.un, S.fn, S.gl, S.bi, S.nm, S.cel, S.inj, S.ti, S.kv⟩
theorem RO.unpin {r : O} {v' : Value} {h : Heap} (x : RO (X.pinned a o) W φ h r v') : RO X W φ h r v' := by
  obtain ⟨p, x, y⟩ := x
  refine ⟨p, x, fun b q => ⟨(y b q).1, (y b q).2.1, ?_⟩⟩
  have z := (y b q).2.2
  rwa [FC.pinned_ne fun e => by rw [e, FC.pinned_same] at z; cases z] at z
end

noncomputable def rangeL (a : Int) (n : Nat) : List V := @Nat.rec (fun _ => Int → List V) (fun _ => []) (fun _ f a => .int a :: f (a + 1)) n a
noncomputable def range2L (a : Int) (n : Nat) : List V := @Nat.rec (fun _ => Int → List V) (fun _ => []) (fun _ f a => .int a :: f (a + 2)) n a
noncomputable def signsL (l : List Nat) : List V := @List.rec Nat (fun _ => List V) [] (fun c _ r => .str [c] :: r) l
inductive ItR (W : WS) (h : Heap) (it : Addr) : List V → Prop
  | list {a : Addr} {vs : Array Value} {n i : Nat} {l : List V} : h.IsListIter it a i → W a → h.get? a = some (lstO vs n) → VRs W h l (vs.toList.drop i) → ItR W h it l
  | rev {a : Addr} {vs : Array Value} {n i : Nat} {l : List V} : h.IsRevIter it a ((i : Int) - 1) → W a → h.get? a = some (lstO vs n) → i ≤ vs.size → VRs W h l (vs.toList.take i).reverse → ItR W h it l
  | range {a : Int} {n : Nat} : IsRangeIter h it a n 1 → ItR W h it (rangeL a n)
  | tup {a : Addr} {vs : Array Value} {n i : Nat} {l : List V} : h.IsTupleIter it a i → W a → h.get? a = some (tupO vs n) → VRs W h l (vs.toList.drop i) → ItR W h it l
  | range2 {a : Int} {n : Nat} : IsRangeIter h it a n 2 → ItR W h it (range2L a n)
  | str {b : Bool} {z : List Nat} {t : Tok} {i : Nat} {l : List V} : h.IsStrIter it (Bool.casesOn b "str_iterator" "str_ascii_iterator") ⟨z.toArray⟩ t i → PyData.strOk ⟨z.toArray⟩ = true → l = signsL (z.drop i) → ItR W h it l
section
variable {X : FC} {W : WS} {φ : Nat → List Addr} {s : Shared} {ρ : Loc} {it : Addr} {E : Value → Shared → Prop}
theorem ItR.ag {h h' : Heap} {W' : WS} {l : List V} (I : ItR W h it l) (g : Ag W h W' h') (e : h'.get? it = h.get? it) : ItR W' h' it l := by
  cases I with
  | list hit w ha r => obtain ⟨o, a, b⟩ := hit; exact .list ⟨o, e.trans a, b⟩ (g.w _ w) ((g.k _ w).trans ha) (r.ag g)
  | rev hit w ha hi r => obtain ⟨o, a, b⟩ := hit; exact .rev ⟨o, e.trans a, b⟩ (g.w _ w) ((g.k _ w).trans ha) hi (r.ag g)
  | range hit => exact .range (e.trans hit)
  | tup hit w ha r => obtain ⟨o, a, b⟩ := hit; exact .tup ⟨o, e.trans a, b⟩ (g.w _ w) ((g.k _ w).trans ha) (r.ag g)
  | range2 hit => exact .range2 (e.trans hit)
  | str hit ok r => obtain ⟨o, a, b⟩ := hit; exact .str ⟨o, e.trans a, b⟩ ok r
theorem ItR.at {h : Heap} {l : List V} (I : ItR W h it l) : ∃ o, h.get? it = some o := by
  cases I with
  | list hit w ha r => obtain ⟨o, a, b⟩ := hit; exact ⟨o, a⟩
  | rev hit w ha hi r => obtain ⟨o, a, b⟩ := hit; exact ⟨o, a⟩
  | range hit => exact ⟨_, hit⟩
  | tup hit w ha r => obtain ⟨o, a, b⟩ := hit; exact ⟨o, a⟩
  | range2 hit => exact ⟨_, hit⟩
  | str hit _ _ => obtain ⟨o, a, b⟩ := hit; exact ⟨o, a⟩
theorem ItR.self {l : List V} {C : Cx} {A : Around} {Q : Value → Shared → Prop} (I : ItR W s.heap it l) (h : Q (.ref it) s) : wpAny C.M A (pyIter (.ref it)) Q E s := by
  cases I with
  | list hit _ _ _ => exact wpAny_pyIter_listiter hit h
  | rev hit _ _ _ _ => exact wpAny_pyIter_revIter hit h
  | range hit => exact wpAny_pyIter_rangeiter hit h
  | tup hit _ _ _ => exact wpAny_pyIter_tupleiter hit h
  | range2 hit => exact wpAny_pyIter_rangeiter hit h
  | @str b _ _ _ _ hit _ _ => cases b with
    | false => exact wpAny_pyIter_striter_wide hit h
    | true => exact wpAny_pyIter_striter_ascii hit h
theorem ItR.next {l : List V} {Q : Option Value → Shared → Prop} (hh : X.A.handled = none) (F : At X W φ s ρ) (f : Fre X W φ it) (I : ItR W s.heap it l)
    (k : ∀ s', At X W φ s' ρ → Ag W s.heap W s'.heap → (∀ b o, b ≠ it → s.heap.get? b = some o → s'.heap.get? b = some o) → @List.casesOn V (fun _ => Prop) l (Q none s') (fun v r => ∀ v', VR W s'.heap v v' → ItR W s'.heap it r → Q (some v') s')) :
    wpAny X.C.M X.A (pyNext (.ref it)) Q E s := by
  have go : ∀ {h' : Heap} {t : Nat}, s.toks ≤ t → (∀ b o, b ≠ it → s.heap.get? b = some o → h'.get? b = some o) → Ag W s.heap W h' ∧ @List.casesOn V (fun _ => Prop) l (Q none { s with heap := h', toks := t }) (fun v r => ∀ v', VR W h' v v' → ItR W h' it r → Q (some v') { s with heap := h', toks := t }) := fun {h' t} ht hk => by
    obtain ⟨A, B, _⟩ := F.loose (t := t) f hk ht; exact ⟨B, k _ A B hk⟩
  have go' : ∀ {h' : Heap} {t : Nat}, Heap.SameBut it s.heap h' → s.toks ≤ t → _ := fun {h' t} hs ht => go (h' := h') (t := t) ht fun b o q e => (hs.2 b q).trans e
  cases I with
  | @list a vs n i l hit w ha r =>
    cases l with
    | nil =>
      refine wpAny_pyNext_list_end hh hit ⟨_, ha, rfl, _, rfl⟩ ?_ fun h' he' => (go (t := s.toks) (Nat.le_refl _) fun b o q e => he' b o q e).2
      have := congrArg List.length (show vs.toList.drop i = [] from r)
      rw [List.length_drop, Array.length_toList] at this
      exact Array.getElem?_eq_none (by simp at this; omega)
    | cons v l =>
      obtain ⟨v', r', e, rv, rl⟩ := VRs.inv r
      have hv : vs[i]? = some v' := by rw [← Array.getElem?_toList, ← Nat.add_zero i, ← List.getElem?_drop, e]; rfl
      have hr : r' = vs.toList.drop (i + 1) := by rw [← List.drop_drop, e]; rfl
      refine wpAny_pyNext_list_item hit ⟨_, ha, rfl, _, rfl⟩ hv fun h' hit' hs' => ?_
      obtain ⟨g, k⟩ := go' (t := s.toks) hs' (Nat.le_refl _)
      exact k v' (rv.ag g) (.list hit' w ((g.k _ w).trans ha) (hr ▸ rl.ag g))
  | @tup a vs n i l hit w ha r =>
    cases l with
    | nil =>
      refine wpAny_pyNext_tuple_end hh hit ⟨_, ha, rfl, _, rfl⟩ ?_ fun h' he' => (go (t := s.toks) (Nat.le_refl _) fun b o q e => he' b o q e).2
      have := congrArg List.length (show vs.toList.drop i = [] from r)
      rw [List.length_drop, Array.length_toList] at this
      exact Array.getElem?_eq_none (by simp at this; omega)
    | cons v l =>
      obtain ⟨v', r', e, rv, rl⟩ := VRs.inv r
      have hv : vs[i]? = some v' := by rw [← Array.getElem?_toList, ← Nat.add_zero i, ← List.getElem?_drop, e]; rfl
      have hr : r' = vs.toList.drop (i + 1) := by rw [← List.drop_drop, e]; rfl
      refine wpAny_pyNext_tuple_item hit ⟨_, ha, rfl, _, rfl⟩ hv fun h' hit' hs' => ?_
      obtain ⟨g, k⟩ := go' (t := s.toks) hs' (Nat.le_refl _)
      exact k v' (rv.ag g) (.tup hit' w ((g.k _ w).trans ha) (hr ▸ rl.ag g))
  | @rev a vs n i l hit w ha hi r =>
    cases i with
    | zero =>
      have hl : l = [] := by cases l with
        | nil => rfl
        | cons v l => obtain ⟨_, _, e, _⟩ := VRs.inv r; cases e
      subst hl
      exact wpAny_pyNext_rev_end hh (by simpa using hit) fun h' he' => (go (t := s.toks) (Nat.le_refl _) fun b o q e => he' b o q e).2
    | succ i =>
      have hlt : i < vs.toList.length := by rw [Array.length_toList]; exact hi
      rw [List.take_succ_eq_append_getElem hlt, List.reverse_append] at r
      cases l with
      | nil => cases (show _ = [] from r)
      | cons v l =>
        obtain ⟨v', r', e, rv, rl⟩ := VRs.inv r
        cases e
        have hit1 : s.heap.IsRevIter it a (i : Int) := by have : ((i + 1 : Nat) : Int) - 1 = i := by omega
                                                          rw [this] at hit; exact hit
        refine wpAny_pyNext_rev_item hit1 ⟨_, ha, rfl, _, rfl⟩ (x := vs.toList[i]) (by simp [hlt]) fun h' hit' hs' => ?_
        obtain ⟨g, k⟩ := go' (t := s.toks) hs' (Nat.le_refl _)
        exact k _ (rv.ag g) (.rev hit' w ((g.k _ w).trans ha) (Nat.le_of_succ_le hi) (rl.ag g))
  | @range a n hit =>
    cases n with
    | zero => exact wpAny_pyNext_range_end hh hit (by simp) fun h' he' => (go (t := s.toks) (Nat.le_refl _) fun b o q e => he' b o q e).2
    | succ n =>
      refine wpAny_pyNext_range_item hit (by omega) fun h' hit' hs' => ?_
      obtain ⟨g, k⟩ := go' (t := s.toks + 1) hs' (Nat.le_succ _)
      refine k _ ⟨_, rfl⟩ (.range ?_)
      have : ((n + 1 : Nat) : Int) - 1 = n := by omega
      rw [this] at hit'; exact hit'
  | @range2 a n hit =>
    cases n with
    | zero => exact wpAny_pyNext_range_end hh hit (by simp) fun h' he' => (go (t := s.toks) (Nat.le_refl _) fun b o q e => he' b o q e).2
    | succ n =>
      refine wpAny_pyNext_range_item hit (by omega) fun h' hit' hs' => ?_
      obtain ⟨g, k⟩ := go' (t := s.toks + 1) hs' (Nat.le_succ _)
      refine k _ ⟨_, rfl⟩ (.range2 ?_)
      have : ((n + 1 : Nat) : Int) - 1 = n := by omega
      rw [this] at hit'; exact hit'
  | @str b z t i l hit ok r =>
    cases hz : z.drop i with
    | nil =>
      rw [hz] at r
      subst r
      have hi : z.length ≤ i := by
        have := congrArg List.length hz
        rw [List.length_drop, List.length_nil] at this; omega
      cases b with
      | false => exact wpAny_pyNext_wide_end hh hit (by simp; omega) fun h' he' => (go (t := s.toks) (Nat.le_refl _) fun b o q e => he' b o q e).2
      | true => exact wpAny_pyNext_ascii_end hh hit (by simp; omega) fun h' he' => (go (t := s.toks) (Nat.le_refl _) fun b o q e => he' b o q e).2
    | cons c l' =>
      rw [hz] at r
      subst r
      have hc : z[i]? = some c := by rw [← Nat.add_zero i, ← List.getElem?_drop, hz]; rfl
      have hr : l' = z.drop (i + 1) := by rw [← List.drop_drop, hz]; rfl
      have hv : VR W s.heap (.str [c]) (.str ⟨#[c]⟩ s.toks) := ⟨_, rfl, strOk_of ok fun x hx => by simp at hx; subst hx; exact List.mem_of_getElem? hc, by show 1 ≤ sizeLine; decide⟩
      cases b with
      | false =>
        refine wpAny_pyNext_wide_item hit (c := c) (by simpa using hc) fun h' hit' hs' => ?_
        obtain ⟨g, k⟩ := go' (t := s.toks + 1) hs' (Nat.le_succ _)
        exact k _ (hv.ag g) (.str (b := false) hit' ok (hr ▸ rfl))
      | true =>
        refine wpAny_pyNext_ascii_item hit (c := c) (by simpa using hc) fun h' hit' hs' => ?_
        obtain ⟨g, k⟩ := go' (t := s.toks + 1) hs' (Nat.le_succ _)
        exact k _ (hv.ag g) (.str (b := true) hit' ok (hr ▸ rfl))
end

def ItG (G : Gl) (d : Nat) (fi : FI) (x : Expr) (ρ : Loc) (l : List V) (ρ' : Loc) : Prop := ∀ (X : FC) (E : Value → Shared → Prop) (W : WS) (φ : Nat → List Addr) (s : Shared), X.fi = fi → FS G d X → At X W φ s ρ →
  ∀ Q : Value → Shared → Prop, (∀ it W' φ' s', Pst X W s W' φ' s' ρ' → Fre X W' φ' it → ItR W' s'.heap it l → Q (.ref it) s') → wpAny X.C.M X.A (eval x X.env) (fun v s₁ => wpAny X.C.M X.A (pyIter v) Q E s₁) E s
structure It (G : Gl) (d : Nat) (fi : FI) where
  x : Expr
  ev : St → Option (List V × St)
  pl : plainX x = true
  eo : Ok ev (ItG G d fi x)
section
variable {G : Gl} {d : Nat} {fi : FI}
theorem Pst.push {X : FC} {W W' : WS} {φ' : Nat → List Addr} {s s' : Shared} {ρ' : Loc} (p : Pst X W s W' φ' s' ρ') (o : Obj) (t : Nat) (ht : s'.toks ≤ t := by first | exact Nat.le_refl _ | assumption | exact Nat.le_succ _ | omega | (dsimp only; omega) | (dsimp only at *; omega)) : Pst X W s W' φ' { s' with heap := s'.heap.push o, toks := t } ρ' ∧ Fre X W' φ' s'.heap.objs.size :=
  ⟨p.trans (.gs p.f (Gs.of p.f.f.wf (fun _ _ q => Heap.get?_push_of_some _ q) ht)), .of p.f (fresh_size _)⟩
noncomputable def iList (a : T G d fi) : It G d fi := ⟨a.x, fun σ => bd (a.ev σ) fun x σ => x.frz.lst?.bind fun l => pu l σ, a.pl,
  a.eo.bd (R := fun x ρ l ρ' => x.frz = .lst l ∧ ρ = ρ') (fun x σ l σ' e q => by obtain ⟨i, e1, e⟩ := Option.bind_eq_some_iff.mp e; cases e; exact ⟨q, V.lst_of e1, rfl⟩) fun _ x _ l _ h q X E W φ s e S F Q k => by
    obtain ⟨hx, rfl⟩ := q
    refine h.v X E W φ s e S F _ fun v' W' φ' s' p' r' => ?_
    rw [hx] at r'
    obtain ⟨b, vs, n, rfl, hw, h1, h2, h3⟩ := VR.lst r'
    refine wpAny_pyIter_list ⟨_, h1, rfl, _, rfl⟩ ?_
    obtain ⟨p2, f⟩ := p'.push { cls := .type "list_iterator", data := .fields #[.ref b, .int 0 0] } s'.toks
    have g : Ag W' s'.heap W' (s'.heap.push { cls := .type "list_iterator", data := .fields #[.ref b, .int 0 0] }) := (Gs.of (t := s'.toks) p'.f.f.wf fun _ _ q => Heap.get?_push_of_some _ q).g.ag p'.f.f.wf
    exact k _ _ _ _ p2 f (.list (i := 0) ⟨_, Heap.get?_push_size _ rfl, rfl, rfl⟩ hw ((g.k _ hw).trans h1) (h3.ag g))⟩
noncomputable def iRev (a : T G d fi) (p' p : Pos) (hb : isBi G fi "reversed" = true) : It G d fi := ⟨.Call (.Name "reversed" p') [a.x] [] p, fun σ => bd (a.ev σ) fun x σ => O.casesOn x (fun v => v.lst?.bind fun l => pu l.reverse σ) (fun r => pu r σ) (fun _ => none) (fun _ _ _ => none) (fun _ _ _ => none), rfl,
  a.eo.bd (R := fun x ρ l ρ' => x.frz = .lst l.reverse ∧ ρ = ρ') (fun x σ l σ' e q => by
    cases x with
    | val v => obtain ⟨i, e1, e⟩ := Option.bind_eq_some_iff.mp e; cases e; exact ⟨q, by rw [List.reverse_reverse]; exact V.lst_of e1, rfl⟩
    | own2 r => cases e
    | obj _ _ _ => cases e
    | dic _ _ _ => cases e
    | own r => cases e; exact ⟨q, rfl, rfl⟩) fun _ x _ l _ h q X E W φ s e S F Q k => by
    obtain ⟨hx, rfl⟩ := q
    refine PyProof.Rows.Call_ (bi_ok S F (e ▸ hb) boot_reversed ?_)
    rw [starEach_plain (xs := [a.x]) (fun y q => by cases List.mem_singleton.mp q; exact a.pl), backTo_plain]
    refine callW (K := X.C.K) (fun h _ => keeper_type _ h _) (PySem.Calls.spliced_cons (h.v X E W φ s e S F _ fun v' W' φ' s' p' r' => PySem.Calls.spliced_nil ⟨p'.f.In S, ?_⟩))
    rw [hx] at r'
    obtain ⟨b, vs, n, rfl, hw, h1, h2, h3⟩ := VR.lst r'
    have hit : (s'.heap.push (revObj b ((vs.size : Int) - 1))).IsRevIter s'.heap.objs.size b ((vs.size : Int) - 1) := ⟨_, Heap.get?_push_size _ rfl, rfl, rfl⟩
    refine call_reversed_list ⟨_, h1, rfl, _, rfl⟩ (wpAny_pyIter_revIter hit ?_)
    obtain ⟨p2, f⟩ := p'.push (revObj b ((vs.size : Int) - 1)) s'.toks
    have g : Ag W' s'.heap W' (s'.heap.push (revObj b ((vs.size : Int) - 1))) := (Gs.of (t := s'.toks) p'.f.f.wf fun _ _ q => Heap.get?_push_of_some _ q).g.ag p'.f.f.wf
    refine k _ _ _ _ p2 f (.rev (i := vs.size) hit hw ((g.k _ hw).trans h1) (Nat.le_refl _) ?_)
    rw [← Array.length_toList, List.take_length]
    have : ∀ {l : List V} {l' : List Value}, VRs W' (s'.heap.push (revObj b ((vs.size : Int) - 1))) l l' → VRs W' (s'.heap.push (revObj b ((vs.size : Int) - 1))) l.reverse l'.reverse := by
      intro l
      induction l with
      | nil => intro l' r; cases r; exact rfl
      | cons v l ih => intro l' r; obtain ⟨v', r', rfl, x, y⟩ := VRs.inv r; rw [List.reverse_cons, List.reverse_cons]; exact (ih y).snoc x
    have z := this (h3.ag g)
    rwa [List.reverse_reverse] at z⟩
theorem range_small {a b : Int} (ha : a.natAbs ≤ 1000000) (hb : b.natAbs ≤ 1000000) : Builtin.Range.small a b 1 = true := by
  simp only [Builtin.Range.small, Builtin.Range.rangeFitsLong, Builtin.Range.rangeSize, Bool.and_eq_true, Bool.or_eq_true, decide_eq_true_eq]
  refine ⟨⟨⟨⟨⟨?_, ?_⟩, ?_, ?_⟩, ?_, ?_⟩, ?_, ?_⟩, .inr ?_⟩ <;> (try simp) <;> (try split) <;> (try simp) <;> omega
noncomputable def rangeV (vs : List V) : Option ((Int × Int) × List Prop) := List.casesOn vs none fun v r => v.int?.bind fun a => List.casesOn r (some ((0, a), [a.natAbs ≤ 1000000])) fun u r => u.int?.bind fun b => List.casesOn r (some ((a, b), [a.natAbs ≤ 1000000 ∧ b.natAbs ≤ 1000000])) fun _ _ => none
theorem range_ok {C : Cx} {A : Around} {E : Value → Shared → Prop} {W : WS} {s : Shared} {args : List V} {vals : List Value} {x : Int × Int} {ps : List Prop} {Q : Value → Shared → Prop} (r : VRs W s.heap args vals) (e : rangeV args = some (x, ps)) (q : All ps)
    (k : ∀ t u v tk, s.toks ≤ tk → Builtin.Range.small x.1 x.2 1 = true → Builtin.Range.rangeSize x.1 x.2 1 = (x.2 - x.1).toNat → (x.2 - x.1).toNat ≤ 2 ^ 24 →
      Q (.ref s.heap.objs.size) { s with heap := s.heap.push { cls := .type "range", data := .fields #[.int x.1 t, .int x.2 u, .int 1 v] }, toks := tk }) : wpAny C.M A (call (.type "range") vals) Q E s := by
  have hsz : ∀ a b : Int, Builtin.Range.rangeSize a b 1 = (b - a).toNat := fun a b => by simp only [Builtin.Range.rangeSize]; simp; split <;> omega
  cases args with
  | nil => cases e
  | cons v args =>
    obtain ⟨v', r', rfl, rv, rr⟩ := VRs.inv r
    obtain ⟨a, e1, e⟩ := Option.bind_eq_some_iff.mp e
    rw [V.int_of e1] at rv
    obtain ⟨t, rfl⟩ := rv
    cases args with
    | nil =>
      cases e; obtain rfl : r' = [] := rr
      have q1 : a.natAbs ≤ 1000000 := q.1
      exact call_range_1 (k _ _ _ _ (by first | exact Nat.le_refl _ | assumption | exact Nat.le_succ _ | omega | (dsimp only; omega) | (dsimp only at *; omega)) (range_small (show (0 : Int).natAbs ≤ 1000000 by decide) q1) (hsz _ _) (by dsimp only; omega))
    | cons u args =>
      obtain ⟨u', r2, rfl, ru, rr2⟩ := VRs.inv rr
      obtain ⟨b, e2, e⟩ := Option.bind_eq_some_iff.mp e
      rw [V.int_of e2] at ru
      obtain ⟨t2, rfl⟩ := ru
      cases args with
      | nil =>
        cases e; obtain rfl : r2 = [] := rr2
        have q1 : a.natAbs ≤ 1000000 ∧ b.natAbs ≤ 1000000 := q.1
        exact call_range_2 (k _ _ _ _ (by first | exact Nat.le_refl _ | assumption | exact Nat.le_succ _ | omega | (dsimp only; omega) | (dsimp only at *; omega)) (range_small q1.1 q1.2) (hsz _ _) (by dsimp only; omega))
      | cons _ _ => cases e
noncomputable def iRange (r : Rw G d fi) (p' p : Pos) (hb : isBi G fi "range" = true) : It G d fi := ⟨.Call (.Name "range" p') r.xs [] p, fun σ => bd (r.ev σ) fun vs σ => rt ((rangeV vs).bind fun x => some (rangeL x.1.1 (x.1.2 - x.1.1).toNat, x.2)) σ, rfl,
  r.eo.bd (R := fun vs ρ l ρ' => ∃ x ps, rangeV vs = some (x, ps) ∧ All ps ∧ l = rangeL x.1 (x.2 - x.1).toNat ∧ ρ = ρ') (fun vs => .rt fun l ps ρ e q => by
    obtain ⟨x, e1, e⟩ := Option.bind_eq_some_iff.mp e; cases e; exact ⟨x.1, x.2, e1, q, rfl, rfl⟩) fun _ vs _ l _ hs q X E W φ s e S F Q k => by
    obtain ⟨x, ps, q1, q2, rfl, rfl⟩ := q
    refine PyProof.Rows.Call_ (bi_ok S F (e ▸ hb) boot_range ?_)
    rw [r.back]
    refine callW (K := X.C.K) (fun h _ => keeper_type _ h _) (hs.2 X E W φ s e S F _ fun vs' W' φ' s' p' r' => ⟨p'.f.In S, range_ok r' q1 q2 fun t u v tk htk hsm hn _ => wpAny_pyIter_range (Heap.get?_push_size _ rfl) hsm ?_⟩)
    rw [hn]
    obtain ⟨p2, _⟩ := p'.push { cls := .type "range", data := .fields #[.int x.1 t, .int x.2 u, .int 1 v] } tk
    obtain ⟨p3, f⟩ := p2.push _ tk
    exact k _ _ _ _ p3 f (.range (Heap.get?_push_size _ rfl))⟩
noncomputable def iStr (a : T G d fi) : It G d fi := ⟨a.x, fun σ => bd (a.ev σ) fun x σ => x.frz.str?.bind fun z => pu (signsL z) σ, a.pl,
  a.eo.bd (R := fun x ρ l ρ' => ∃ z, x.frz = .str z ∧ l = signsL z ∧ ρ = ρ') (fun x σ l σ' e q => by obtain ⟨z, e1, e⟩ := Option.bind_eq_some_iff.mp e; cases e; exact ⟨q, z, V.str_of e1, rfl, rfl⟩) fun _ x _ l _ h q X E W φ s e S F Q k => by
    obtain ⟨z, hx, rfl, rfl⟩ := q
    refine h.v X E W φ s e S F _ fun v' W' φ' s' p' r' => ?_
    rw [hx] at r'
    obtain ⟨t, rfl, ok, _⟩ := r'
    refine wpAny_pyIter_strU ?_
    obtain ⟨p2, f⟩ := p'.push { cls := .type (strIterType ⟨z.toArray⟩), data := .fields #[.str ⟨z.toArray⟩ t, .int 0 0] } s'.toks
    refine k _ _ _ _ p2 f (.str (b := (⟨z.toArray⟩ : Str).cps.all (· < 128)) (z := z) (t := t) (i := 0) ⟨_, Heap.get?_push_size _ rfl, ?_, rfl⟩ ok rfl)
    show Value.type (strIterType _) = _
    unfold strIterType
    cases (⟨z.toArray⟩ : Str).cps.all (· < 128) <;> rfl⟩
end
end Mine
end

section
open PySem
set_option autoImplicit false
set_option linter.unusedVariables false
namespace Mine
open PySem.W (Looks keepIn)

def FlR (X : FC) (W : WS) (φ : Nat → List Addr) (h : Heap) (fl : Fl) (f : Flow) : Prop := Fl.casesOn fl (f = .next) fun o => ∃ v', f = .ret v' ∧ RO X W φ h o v'
def AfS (X : FC) (W : WS) (s : Shared) (fl : Fl) (ρ' : Loc) (Q : Flow → Shared → Prop) : Prop := ∀ f W' φ' s', At X W' φ' s' ρ' → Ag W s.heap W' s'.heap → FlR X W' φ' s'.heap fl f → Q f s'
section
variable (G : Gl) (d : Nat) (fi : FI)
def ExG (x : Stmt) (ρ : Loc) (fl : Fl) (ρ' : Loc) : Prop := ∀ (X : FC) (E : Value → Shared → Prop) (W : WS) (φ : Nat → List Addr) (s : Shared), X.fi = fi → X.cm = true → FS G d X → At X W φ s ρ →
  ∀ Q : Flow → Shared → Prop, AfS X W s fl ρ' Q → wpAny X.C.M X.A (exec x X.env) Q E s
def ExsG (xs : List Stmt) (ρ : Loc) (fl : Fl) (ρ' : Loc) : Prop := ∀ (X : FC) (E : Value → Shared → Prop) (W : WS) (φ : Nat → List Addr) (s : Shared), X.fi = fi → X.cm = true → FS G d X → At X W φ s ρ →
  ∀ Q : Flow → Shared → Prop, AfS X W s fl ρ' Q → wpAny X.C.M X.A (execs xs X.env) Q E s
def WhilOK (c : Expr) (b : List Stmt) (ρ : Loc) (fl : Fl) (ρ' : Loc) : Prop := ∀ (X : FC) (W : WS) (φ : Nat → List Addr) (s : Shared), X.fi = fi → X.cm = true → FS G d X → At X W φ s ρ →
  ∀ R : Result → Shared → Prop, AfS X W s fl ρ' (fun f s' => R (.ok f) s') → codeAny X.C.M X.A (.whileLoop c b [] X.env) R s
def ForOK (t : Expr) (b : List Stmt) (l : List V) (ρ : Loc) (fl : Fl) (ρ' : Loc) : Prop := ∀ (X : FC) (W : WS) (φ : Nat → List Addr) (s : Shared) (it : Addr), X.fi = fi → X.cm = true → FS G d X → At X W φ s ρ → Fre X W φ it → ItR W s.heap it l →
  ∀ R : Result → Shared → Prop, AfS X W s fl ρ' (fun f s' => R (.ok f) s') → codeAny X.C.M X.A (.forLoop t (.ref it) b [] X.env) R s
end
structure SS (G : Gl) (d : Nat) (fi : FI) where
  x : Stmt
  ex : St → Option (Fl × St)
  eo : Ok ex (ExG G d fi x)
structure SL (G : Gl) (d : Nat) (fi : FI) where
  xs : List Stmt
  ex : St → Option (Fl × St)
  eo : Ok ex (ExsG G d fi xs)

theorem noSwap {x : Expr} (h : isComp x = false) (t : Option Expr) (n : Nat) (env : Env) : swapsWith x t n env = pure false := by
  cases x <;> first | rfl | cases h
theorem noSet {x : Expr} (h : plainX x = true) (env : Env) (v : Value) : foldedSetIterable x env v = pure v := by
  cases x <;> first | rfl | cases h

section
variable {G : Gl} {d : Nat} {fi : FI}
noncomputable def lNil : SL G d fi := ⟨[], pu .next, .pu fun ρ X E W φ s e c S F Q k => wpAny_execs_nil (k _ _ _ _ F (.refl ..) rfl)⟩
noncomputable def lCons (a : SS G d fi) (b : SL G d fi) : SL G d fi := ⟨a.x :: b.xs, fun σ => bd (a.ex σ) fun fl σ => Fl.casesOn fl (b.ex σ) fun o => pu (.ret o) σ,
  a.eo.bd (R := fun f ρ fl ρ' => Fl.casesOn (motive := fun _ => Prop) f (ExsG G d fi b.xs ρ fl ρ') fun o => fl = .ret o ∧ ρ = ρ') (fun f => by
    cases f with
    | next => exact b.eo
    | ret o => exact .pu fun _ => ⟨rfl, rfl⟩) fun ρ f ρ₁ fl ρ' h q X E W φ s e c S F Q k => wpAny_execs_cons (h X E W φ s e c S F _ fun f' W' φ' s' A B C => by
    cases f with
    | next => cases C; exact q X E W' φ' s' e c S A Q fun g W2 φ2 s2 A2 B2 C2 => k _ _ _ _ A2 (B.trans B2) C2
    | ret o =>
      obtain ⟨rfl, rfl⟩ := q
      obtain ⟨v', rfl, r⟩ := C
      exact k _ _ _ _ A B ⟨v', rfl, r⟩)⟩

noncomputable def sExpr (a : T G d fi) (p : Pos) (hc : isComp a.x = false) : SS G d fi := ⟨.Expr a.x p, fun σ => bd (a.ev σ) fun _ σ => pu .next σ,
  a.eo.bd (R := fun _ ρ fl ρ' => fl = .next ∧ ρ = ρ') (fun _ => .pu fun _ => ⟨rfl, rfl⟩) fun _ _ _ _ _ h q X E W φ s e c S F Q k => by
    obtain ⟨rfl, rfl⟩ := q
    exact wpAny_Expr_any (h X E W φ s e S F _ fun v' W' φ' s' p' r' => k _ _ _ _ p'.f p'.ag rfl) (by unfold interactive; rw [S.fn]; rfl) (noSwap hc _ _ _)⟩
noncomputable def setL (i : Nat) (o : O) (σ : St) : Option (Fl × St) := some (.next, ⟨σ.ρ.set i (some o), σ.tp, σ.ob⟩)
theorem Ok.setL {i : Nat} {o : O} {S : Loc → Fl → Loc → Prop} (k : ∀ ρ, S ρ .next (ρ.set i (some o))) : Ok (setL i o) S := fun σ a σ' e h => by cases e; exact ⟨h, k _⟩
noncomputable def sAsg (x : Str) (i : Nat) (a : T G d fi) (p' p : Pos) (h : (fi.isOwn x i && !isComp a.x) = true) : SS G d fi := ⟨.Assign [.Name x p'] a.x p, fun σ => bd (a.ev σ) fun o σ => setL i o σ,
  a.eo.bd (R := fun o ρ fl ρ' => fl = .next ∧ ρ' = ρ.set i (some o)) (fun _ => .setL fun _ => ⟨rfl, rfl⟩) fun _ _ _ _ _ ha q X E W φ s e c S F Q k => by
    obtain ⟨rfl, rfl⟩ := q
    rw [Bool.and_eq_true, Bool.not_eq_true'] at h
    exact wpAny_Assign_Name (ha X E W φ s e S F _ fun v' W' φ' s' p' r' => store_ok S (.inr c) p'.f r' (e ▸ h.1) fun φ2 s2 A B => k _ _ _ _ A (p'.ag.trans B) rfl) (noSwap h.2 _ _ _)⟩
noncomputable def setN (is : List (Str × Nat × Pos)) (vs : List V) (ρ : Loc) : Option Loc := @List.rec (Str × Nat × Pos) (fun _ => List V → Loc → Option Loc) (fun vs ρ => List.casesOn vs (some ρ) fun _ _ => none) (fun i _ f vs ρ => List.casesOn vs none fun v vs => f vs (ρ.set i.2.1 (some (.val v)))) is vs ρ
abbrev nmX (is : List (Str × Nat × Pos)) : List Expr := is.map fun i => .Name i.1 i.2.2
theorem setN_ok {X : FC} {E : Value → Shared → Prop} (S : FS G d X) (c : X.cm = true) : ∀ {is : List (Str × Nat × Pos)} {vs : List V} {vs' : List Value} {ρ ρ' : Loc} {W : WS} {φ : Nat → List Addr} {s : Shared} {Q : Unit → Shared → Prop}, (is.all fun i => X.fi.isOwn i.1 i.2.1) = true → At X W φ s ρ → VRs W s.heap vs vs' → setN is vs ρ = some ρ' →
    (∀ φ' s', At X W φ' s' ρ' → Ag W s.heap W s'.heap → Q () s') → wpAny X.C.M X.A (assignInOrder ((assignEach (nmX is) X.env).map (·.2)) vs') Q E s
  | [], [], _, ρ, ρ', W, φ, s, Q, h, F, r, e, k => by cases r; cases e; exact wpAny_pure (k _ _ F (.refl ..))
  | [], _ :: _, _, ρ, ρ', W, φ, s, Q, h, F, r, e, k => by cases e
  | _ :: _, [], _, ρ, ρ', W, φ, s, Q, h, F, r, e, k => by cases e
  | i :: is, v :: vs, _, ρ, ρ', W, φ, s, Q, h, F, r, e, k => by
    obtain ⟨v', r', rfl, rv, rr⟩ := VRs.inv r
    rw [List.all_cons, Bool.and_eq_true] at h
    show wpAny _ X.A (do holding r' (assign (.Name i.1 i.2.2) X.env v'); assignInOrder ((assignEach (nmX is) X.env).map (·.2)) r') Q E s
    exact wpAny_bind (wpAny_holding (wpAny_assign_Name (store_ok S (.inr c) F (.val rv) h.1 fun φ' s' A B => setN_ok S c h.2 A (rr.ag B) e fun φ2 s2 A2 B2 => k _ _ A2 (B.trans B2))))
theorem setN_len : ∀ {is : List (Str × Nat × Pos)} {vs : List V} {ρ ρ' : Loc}, setN is vs ρ = some ρ' → is.length = vs.length
  | [], [], _, _, _ => rfl
  | [], _ :: _, _, _, e => nomatch e
  | _ :: _, [], _, _, e => nomatch e
  | _ :: _, _ :: vs, _, _, e => congrArg (· + 1) (setN_len (vs := vs) e)
theorem nmX_each (env : Env) : ∀ is : List (Str × Nat × Pos), (assignEach (nmX is) env).length = is.length ∧ (assignEach (nmX is) env).findIdx? (·.1) = none
  | [] => ⟨rfl, rfl⟩
  | i :: is => by
    have e : assignEach (nmX (i :: is)) env = (false, assign (.Name i.1 i.2.2) env) :: assignEach (nmX is) env := rfl
    rw [e, List.findIdx?_cons, (nmX_each env is).2]
    exact ⟨congrArg (· + 1) (nmX_each env is).1, rfl⟩
noncomputable def sUnp (is : List (Str × Nat × Pos)) (a : T G d fi) (k0 : Nat) (p' p : Pos) (h : ((is.all fun i => fi.isOwn i.1 i.2.1) && !isComp a.x) = true) (hw : ∀ env, swappedStores [.Tuple (nmX is) k0 p'] a.x env = pure none) : SS G d fi :=
  ⟨.Assign [.Tuple (nmX is) k0 p'] a.x p, fun σ => bd (a.ev σ) fun o σ => o.frz.tup?.bind fun vs => (setN is vs σ.ρ).bind fun ρ => some (.next, ⟨ρ, σ.tp, σ.ob⟩),
  a.eo.bd (R := fun o ρ fl ρ' => ∃ vs, o.frz = .tup vs ∧ setN is vs ρ = some ρ' ∧ fl = .next) (fun o σ f σ' e q => by
    obtain ⟨vs, e1, e⟩ := Option.bind_eq_some_iff.mp e
    obtain ⟨ρ, e2, e⟩ := Option.bind_eq_some_iff.mp e
    cases e; exact ⟨q, vs, V.tup_of e1, e2, rfl⟩) fun _ o _ _ _ ha q X E W φ s e c S F Q k => by
    obtain ⟨vs, hx, hs, rfl⟩ := q
    rw [Bool.and_eq_true, Bool.not_eq_true'] at h
    refine wpAny_Assign_stores (ha.v X E W φ s e S F _ fun v' W' φ' s' p' r' => ?_) (by unfold swapsWithSole; exact noSwap h.2 _ _ _) (hw _)
    rw [hx] at r'
    obtain ⟨b, ws, n, rfl, _, h1, h2, h3⟩ := VR.tup r'
    obtain ⟨z1, z2⟩ := nmX_each X.env is
    refine wpAny_assign_Tuple (x1 := k0) S.hd ⟨_, h1, rfl, _, rfl⟩ (by rw [z1, h3.size, setN_len hs]) z2 fun h' he' => ?_
    have g := Gs.of (t := s'.toks) p'.f.f.wf fun b o q => he' b o (fun z => absurd (Heap.lt_size q) (by rw [z]; exact Nat.lt_irrefl _)) q
    exact setN_ok S c (e ▸ h.1) (p'.f.gs g) (h3.ag (g.g.ag p'.f.f.wf)) hs fun φ2 s2 A B => k _ _ _ _ A ((p'.ag.trans (g.g.ag p'.f.f.wf)).trans B) rfl⟩
noncomputable def sIte (f : Bool) (c : T G d fi) (a b : SL G d fi) (p : Pos) : SS G d fi := ⟨.If c.x a.xs b.xs p, fun σ => bd (c.tr σ) fun t σ => bd (dec f t σ) fun t σ => Bool.casesOn t (b.ex σ) (a.ex σ),
  c.to.bd (R := fun t ρ fl ρ' => Bool.casesOn (motive := fun _ => Prop) t (ExsG G d fi b.xs ρ fl ρ') (ExsG G d fi a.xs ρ fl ρ')) (fun t => (Ok.dec f t).bd (R := fun t ρ fl ρ' => Bool.casesOn (motive := fun _ => Prop) t (ExsG G d fi b.xs ρ fl ρ') (ExsG G d fi a.xs ρ fl ρ')) (fun t => by
    cases t
    · exact b.eo
    · exact a.eo) fun _ t _ _ _ h q => by obtain ⟨rfl, rfl⟩ := h; exact q) fun _ t _ _ _ h q X E W φ s e c S F Q k => wpAny_If (h X E W φ s e S F _ fun W' φ' s' p' => by
    cases t
    · exact q X E W' φ' s' e c S p'.f Q fun g W2 φ2 s2 A2 B2 C2 => k _ _ _ _ A2 (p'.ag.trans B2) C2
    · exact q X E W' φ' s' e c S p'.f Q fun g W2 φ2 s2 A2 B2 C2 => k _ _ _ _ A2 (p'.ag.trans B2) C2)⟩
noncomputable def sRet (a : T G d fi) (p : Pos) : SS G d fi := ⟨.Return (some a.x) p, fun σ => bd (a.ev σ) fun o σ => pu (.ret o) σ,
  a.eo.bd (R := fun o ρ fl ρ' => fl = .ret o ∧ ρ = ρ') (fun _ => .pu fun _ => ⟨rfl, rfl⟩) fun _ _ _ _ _ h q X E W φ s e c S F Q k => by
    obtain ⟨rfl, rfl⟩ := q
    exact wpAny_Return_some (h X E W φ s e S F _ fun v' W' φ' s' p' r' => k _ _ _ _ p'.f p'.ag ⟨_, rfl, r'⟩)⟩
noncomputable def sRetV (x : Str) (i : Nat) (xp p : Pos) (h : fi.isVar x i = true) : SS G d fi := ⟨.Return (some (.Name x xp)) p, fun σ => (slot σ.ρ i).bind fun o => some (.ret o, ⟨σ.ρ.set i none, σ.tp, σ.ob⟩), by
  intro σ a σ' e q
  obtain ⟨o, e1, e⟩ := Option.bind_eq_some_iff.mp e
  cases e
  refine ⟨q, fun X E W φ s ef c S F Q k => wpAny_Return_some (load_ok S F (ef ▸ h) (slot_some e1) fun v' hx hn hv r => ?_)⟩
  have F1 : At X W (upd φ i []) s (σ.ρ.set i none) := F.drop i (fun j o q w => by rwa [List.getElem?_set_ne (Ne.symm q)] at w) fun y hy o w => by
    rw [List.getElem?_set] at w
    split at w
    · split at w <;> cases w
    · rename_i q; exact absurd rfl q
  refine k _ _ _ _ F1 (.refl ..) ⟨_, rfl, φ i, r, fun b q => ?_⟩
  have hm := F.f.mu b (.inr (.inr ⟨i, q⟩))
  have hno := (F.ow i b q).no F.f
  refine ⟨hm.2, fun m => ?_, hm.1⟩
  rcases m with m | ⟨_, y, m⟩ | ⟨j, m⟩
  · exact hno.1 m
  · exact hno.2 y m
  · by_cases ej : j = i
    · rw [ej, upd_same] at m; cases m
    · rw [upd_ne _ _ ej] at m; exact ej (F.f.dis j i b m q)⟩
noncomputable def sWhil (c : T G d fi) (b : SL G d fi) (p : Pos) : SS G d fi := ⟨.While c.x b.xs [] p, told Tk.l? (fun ρ x => WhilOK G d fi c.x b.xs ρ x.1 x.2) (·.1) (fun x _ => x.2),
  .told fun x ρ h X E W φ s e cm S F Q k => wpAny_While (h X W φ s e cm S F _ k)⟩
noncomputable def sFor (x : Str) (it : It G d fi) (b : SL G d fi) (p' p : Pos) : SS G d fi := ⟨.For (.Name x p') it.x b.xs [] p, fun σ => bd (it.ev σ) fun l σ => told Tk.l? (fun ρ y => ForOK G d fi (.Name x p') b.xs l ρ y.1 y.2) (·.1) (fun y _ => y.2) σ,
  it.eo.bd (R := fun l ρ fl ρ' => ForOK G d fi (.Name x p') b.xs l ρ fl ρ') (fun l => .told fun y ρ h => h) fun _ l _ _ _ h q X E W φ s e c S F Q k => wpAny_For (h X E W φ s e S F _ fun a W' φ' s' p2 f I => q X W' φ' s' a e c S p2.f f I _ fun g W3 φ3 s3 A B C => k _ _ _ _ A (p2.ag.trans B) C) (noSet it.pl _)⟩
end
end Mine
end

section
open PySem
set_option autoImplicit false
set_option linter.unusedVariables false
namespace Mine
open PySem.W (Looks keepIn)

noncomputable def ownAt (ρ : Loc) (i : Nat) : Option (List V) := (slot ρ i).bind fun o => O.casesOn o (fun _ => none) some (fun _ => none) (fun _ _ _ => none) fun _ _ _ => none
theorem ownAt_some {ρ : Loc} {i : Nat} {r : List V} (e : ownAt ρ i = some r) : ρ[i]? = some (some (.own r)) := by
  obtain ⟨o, e1, e⟩ := Option.bind_eq_some_iff.mp e
  cases o with
  | val v => cases e
  | own2 r' => cases e
  | obj _ _ _ => cases e
  | dic _ _ _ => cases e
  | own r' => cases e; exact slot_some e1
noncomputable def setR (r : List V) (i : Int) (v : V) : Option (List V) := Int.casesOn i (fun n => (r.reverse[n]?).bind fun _ => some (r.reverse.set n v).reverse) (fun n => (r[n]?).bind fun _ => some (r.set n v))
theorem rev_set (r : List V) (n : Nat) (v : V) (h : n < r.length) : (r.set n v).reverse = r.reverse.set (r.length - 1 - n) v := by
  apply List.ext_getElem?
  intro j
  by_cases hj : j < r.length
  · rw [List.getElem?_reverse (by rwa [List.length_set]), List.length_set, List.getElem?_set, List.getElem?_set, List.getElem?_reverse hj]
    by_cases e : n = r.length - 1 - j
    · rw [if_pos e, if_pos (by omega), if_pos (by omega), if_pos (by rw [List.length_reverse]; omega)]
    · rw [if_neg e, if_neg (by omega)]
  · rw [List.getElem?_eq_none (by rw [List.length_reverse, List.length_set]; omega), List.getElem?_eq_none (by rw [List.length_set, List.length_reverse]; omega)]

section
variable {G : Gl} {d : Nat} {fi : FI}
noncomputable def sApp (x : Str) (i : Nat) (a : T G d fi) (xp ap cp p : Pos) (h : (fi.isVar x i && (ap.endLine == cp.line)) = true) : SS G d fi :=
  ⟨.Expr (.Call (.Attribute (.Name x xp) "append" ap) [a.x] [] cp) p, fun σ => (ownAt σ.ρ i).bind fun _ => bd (a.ev σ) fun y σ => (ownAt σ.ρ i).bind fun r => some (.next, ⟨σ.ρ.set i (some (.own (y.frz :: r))), σ.tp, (r.length < room) :: σ.ob⟩), by
    intro σ f σ' e q
    obtain ⟨o0, e0, e⟩ := Option.bind_eq_some_iff.mp e
    obtain ⟨⟨y, σ₁⟩, e1, e⟩ := Option.bind_eq_some_iff.mp e
    obtain ⟨r, e2, e⟩ := Option.bind_eq_some_iff.mp e
    rw [Bool.and_eq_true] at h
    cases e
    obtain ⟨q2, hk⟩ := a.eo σ y σ₁ e1 q.2
    refine ⟨q2, fun X E W φ s ef c S F Q k => wpAny_Expr_any (method_call rfl (fun z q => by cases List.mem_singleton.mp q; exact a.pl) h.2 rfl fun pl => load_ok S F (ef ▸ h.1) (ownAt_some e0) fun x' hx hn hv rr => ?_) (by unfold interactive; rw [S.fn]; rfl) rfl⟩
    obtain ⟨a0, _, rfl, vs0, n0, z0, _⟩ := rr
    refine getMethod_builtin (T := "list") ⟨_, z0, rfl⟩ PySem.F.plainAttrs_list PySem.F.slot_list_append PySem.F.type_list_append (fun a q => by cases q; exact ⟨_, z0, rfl⟩) ?_
    refine callW (K := X.C.K) (fun h _ => keeper_builtin _ h _) (PySem.Calls.spliced_cons (hk.v X E W φ s ef S F _ fun y' W' φ' s' p' r' => PySem.Calls.spliced_nil ⟨p'.f.In S, ?_⟩))
    obtain ⟨ad, hp, ea, vs, n, h1, h2, h3⟩ := still p'.f hx hn (p'.vl _ _ hv) (ownAt_some e2)
    cases ea
    have hs := h2.size
    rw [List.length_reverse] at hs
    refine call_meets PySem.F.slot_list_append ⟨_, h1, rfl⟩ PySem.F.entry_list_append (PySem.F.args_list_append_2 _ _) (list_append a0 vs n _ (by rw [hs]; exact h3)) ⟨h1, ?_⟩
    have q1 : r.length < room := q.1
    have := room_le
    obtain ⟨A, B⟩ := p'.f.turn (x := x) (i := i) (t := s'.toks) (r := y.frz :: r) (h' := s'.heap.update a0 (Obj.mapSeq (·.push y'))) (fun z hz => S.ti z x i hz hx) hp (Heap.SameBut.update ..) (p'.vl _ _ hv) (Heap.get?_update_self _ h1 rfl)
      (by rw [Array.toList_push, List.reverse_cons]; exact h2.snoc r') (by rw [List.length_cons]; omega)
    exact k _ _ _ _ A (p'.ag.trans B) rfl⟩
section
variable {M : Model} {A : Around} {R : Result → Shared → Prop} {s : Shared}
theorem code_while {test : Expr} {body : List Stmt} {env : Env} {prog : Program} {w : World}
    (h : wpAny (model prog w) A (isTrue test env (eval test env)) (fun b s₂ =>
        if b then wpAny (model prog w) A (execs body env) (fun f s₃ => match f with
            | .next | .cont => codeAny (model prog w) A (.whileLoop test body [] env) R s₃
            | .brk => R (.ok .next) s₃
            | .ret v => R (.ok (.ret v)) s₃) (notedBy (model prog w) A env fun e s' => R (.error e) s') s₂
        else R (.ok .next) s₂)
        (notedBy (model prog w) A env fun e s' => R (.error e) s') s) : codeAny (model prog w) A (.whileLoop test body [] env) R s := by
  refine codeAny_of_tree ?_
  show wpAny _ A ((whileTurn test body [] env).onRaise (fun x => do noteFrame x env; theTreesLotGoes x)) _ _ s
  refine wpAny_noted ?_
  simp only [whileTurn]
  refine wpAny_bind (wpAny_mono h (fun b s₂ h₂ => ?_) fun _ _ h' => h')
  cases b with
  | false =>
    simp only [Bool.false_eq_true, if_false] at h₂ ⊢
    exact wpAny_bind (wpAny_execs_nil (wpAny_pure h₂))
  | true =>
    simp only [if_true] at h₂ ⊢
    refine wpAny_bind (wpAny_mono h₂ (fun f s₃ h₃ => ?_) fun _ _ h' => h')
    cases f with
    | next => exact wpAny_pure ⟨rfl, h₃⟩
    | cont => exact wpAny_pure ⟨rfl, h₃⟩
    | brk => exact wpAny_pure h₃
    | ret v => exact wpAny_pure h₃
theorem code_for {x : Str} {p' : Pos} {it : Value} {body : List Stmt} {env : Env} {prog : Program} {w : World}
    (h : wpAny (model prog w) A (pyNext it) (fun r s₁ => match r with
      | none => R (.ok .next) s₁
      | some v => wpAny (model prog w) A (storeName env x v) (fun _ s₂ => wpAny (model prog w) A (execs body env) (fun f s₃ => match f with
            | .next | .cont => codeAny (model prog w) A (.forLoop (.Name x p') it body [] env) R s₃
            | .brk => R (.ok .next) s₃
            | .ret v => R (.ok (.ret v)) s₃) (notedBy (model prog w) A env fun e s' => R (.error e) s') s₂) (notedBy (model prog w) A env fun e s' => R (.error e) s') s₁) (notedBy (model prog w) A env fun e s' => R (.error e) s') s) :
    codeAny (model prog w) A (.forLoop (.Name x p') it body [] env) R s := by
  refine codeAny_of_tree ?_
  show wpAny _ A ((forTurn (.Name x p') it body [] env).onRaise (fun x => do noteFrame x env; theTreesLotGoes x)) _ _ s
  refine wpAny_noted ?_
  simp only [forTurn]
  refine wpAny_bind (wpAny_standAt (wpAny_bind (wpAny_onRaise (wpAny_mono h (fun r s₁ h₁ => ?_) fun _ _ h' => wpAny_standAt h'))))
  cases r with
  | none => exact wpAny_pure ⟨rfl, codeAny_block (wpAny_execs_nil h₁)⟩
  | some v =>
    refine wpAny_bind (wpAny_pure ?_)
    refine wpAny_bind (wpAny_mono (wpAny_assign_Name h₁) (fun _ s₂ h₂ => wpAny_bind (wpAny_mono h₂ (fun f s₃ h₃ => ?_) fun _ _ h' => h')) fun _ _ h' => h')
    cases f with
    | next => exact wpAny_pure ⟨rfl, h₃⟩
    | cont => exact wpAny_pure ⟨rfl, h₃⟩
    | brk => exact wpAny_pure h₃
    | ret v => exact wpAny_pure h₃
end
noncomputable def turn (c : T G d fi) (b : SL G d fi) (f : Bool) (σ : St) : Option (Option Fl × St) := bd (c.tr σ) fun t σ => bd (dec f t σ) fun t σ => Bool.casesOn t (pu none σ) (bd (b.ex σ) fun fl σ => pu (some fl) σ)
theorem turn_ok (c : T G d fi) (b : SL G d fi) (f : Bool) : Ok (turn c b f) fun ρ r ρ' => ∀ fl ρ'', Option.casesOn (motive := fun _ => Prop) r (fl = .next ∧ ρ'' = ρ') (fun g => Fl.casesOn (motive := fun _ => Prop) g (WhilOK G d fi c.x b.xs ρ' fl ρ'') fun o => fl = .ret o ∧ ρ'' = ρ') → WhilOK G d fi c.x b.xs ρ fl ρ'' :=
  c.to.bd (R := fun t ρ r ρ' => Bool.casesOn (motive := fun _ => Prop) t (r = none ∧ ρ = ρ') (∃ g, r = some g ∧ ExsG G d fi b.xs ρ g ρ')) (fun t => (Ok.dec f t).bd (R := fun t ρ r ρ' => Bool.casesOn (motive := fun _ => Prop) t (r = none ∧ ρ = ρ') (∃ g, r = some g ∧ ExsG G d fi b.xs ρ g ρ')) (fun t => by
    cases t
    · exact .pu fun _ => ⟨rfl, rfl⟩
    · exact b.eo.bd (R := fun g ρ r ρ' => r = some g ∧ ρ = ρ') (fun g => .pu fun _ => ⟨rfl, rfl⟩) fun _ g _ _ _ h q => by obtain ⟨rfl, rfl⟩ := q; exact ⟨g, rfl, h⟩) fun _ t _ _ _ h q => by obtain ⟨rfl, rfl⟩ := h; exact q)
    fun ρ t ρ₁ r ρ' h q fl ρ'' k X W φ s e cm S F R kk => code_while (h X _ W φ s e S F _ fun W' φ' s' p' => by
      cases t with
      | false =>
        obtain ⟨rfl, rfl⟩ := q
        obtain ⟨rfl, rfl⟩ := k
        exact kk _ _ _ _ p'.f p'.ag rfl
      | true =>
        obtain ⟨g, rfl, hb⟩ := q
        refine hb X _ W' φ' s' e cm S p'.f _ fun f W2 φ2 s2 A2 B2 C2 => ?_
        cases g with
        | next => cases C2; exact k X W2 φ2 s2 e cm S A2 R fun f W3 φ3 s3 A3 B3 C3 => kk _ _ _ _ A3 ((p'.ag.trans B2).trans B3) C3
        | ret o =>
          obtain ⟨rfl, rfl⟩ := k
          obtain ⟨v', rfl, ro⟩ := C2
          exact kk _ _ _ _ A2 (p'.ag.trans B2) ⟨v', rfl, ro⟩)
theorem for_nil {x : Str} {p' : Pos} {b : List Stmt} {ρ : Loc} : ForOK G d fi (.Name x p') b [] ρ .next ρ := fun X W φ s it e cm S F f I R k =>
  code_for (I.next S.hd F f fun s' A B C => k _ _ _ _ A B rfl)
theorem for_ok {x : Str} {p' : Pos} {i : Nat} (hx : fi.isOwn x i = true) (b : SL G d fi) (v : V) (l : List V) : Ok (fun σ => b.ex ⟨σ.ρ.set i (some (.val v)), σ.tp, σ.ob⟩) fun ρ g ρ' => ∀ fl ρ'', Fl.casesOn (motive := fun _ => Prop) g (ForOK G d fi (.Name x p') b.xs l ρ' fl ρ'') (fun o => fl = .ret o ∧ ρ'' = ρ') → ForOK G d fi (.Name x p') b.xs (v :: l) ρ fl ρ'' := by
  intro σ g σ' e q
  obtain ⟨q1, hb⟩ := b.eo _ _ _ e q
  refine ⟨q1, fun fl ρ'' k X W φ s it ef cm S F f I R kk => code_for (I.next S.hd F f fun s' A B C => fun v' rv I' => ?_)⟩
  obtain ⟨o, ho⟩ := I'.at
  refine store_ok (X := X.pinned it o) (S.pinned f.pin) (.inr cm) (A.pinned f ho) (.val rv) (ef ▸ hx) fun φ2 s2 A2 B2 => ?_
  refine hb (X.pinned it o) _ W φ2 s2 ef cm (S.pinned f.pin) A2 _ fun g' W3 φ3 s3 A3 B3 C3 => ?_
  obtain ⟨A4, f4, h4⟩ := A3.unpin f.pin f.nc
  have ag := B2.trans B3
  cases g with
  | next => cases C3; exact k X W3 φ3 s3 it ef cm S A4 f4 (I'.ag ag (h4.trans ho.symm)) R fun f W3 φ3 s3 A3 B3 C3 => kk _ _ _ _ A3 ((B.trans ag).trans B3) C3
  | ret r =>
    obtain ⟨rfl, rfl⟩ := k
    obtain ⟨v', rfl, ro⟩ := C3
    exact kk _ _ _ _ A4 (B.trans ag) ⟨v', rfl, ro.unpin⟩

theorem cellsFrom_acc : ∀ (names : List (Str × NameKind)) (n : Nat) (acc : List (Str × Addr)) (x : Str), (acc.lookup x).isSome = true → ((cellsFrom n names acc).lookup x).isSome = true
  | [], _, _, _, h => h
  | (y, k) :: r, n, acc, x, h => by
    unfold cellsFrom
    split
    · refine cellsFrom_acc r _ _ x ?_
      rw [List.lookup_cons]; split <;> first | rfl | exact h
    · exact cellsFrom_acc r n acc x h
theorem cellsFrom_has : ∀ (names : List (Str × NameKind)) (n : Nat) (acc : List (Str × Addr)) (x : Str), names.lookup x = some .cell → ((cellsFrom n names acc).lookup x).isSome = true
  | [], _, _, _, h => by cases h
  | (y, k) :: r, n, acc, x, h => by
    rw [List.lookup_cons] at h
    unfold cellsFrom
    cases q : x == y with
    | true =>
      rw [q] at h; cases h
      rw [if_pos (by decide)]
      refine cellsFrom_acc r _ _ x ?_
      rw [List.lookup_cons, q]; rfl
    | false =>
      rw [q] at h
      split <;> exact cellsFrom_has r _ _ x h
section
variable {kindOf : Str → Option NameKind}
theorem bindL_not {q : Str} : ∀ (ps : List Str) (vals : List Value) (m : Str → Option Value), q ∉ ps → bindL kindOf (ps.zip vals) m q = m q
  | [], _, _, _ => rfl
  | _ :: _, [], _, _ => rfl
  | a :: ps, b :: vals, m, hq => by
    rw [List.zip_cons_cons, bindL, bindL_not ps vals _ fun z => hq (List.mem_cons_of_mem _ z)]
    split
    · exact if_neg (fun e : q = a => hq (e ▸ List.mem_cons_self))
    · rfl
theorem bindC_not {q : Str} : ∀ (ps : List Str) (vals : List Value) (m : Str → Option Value), q ∉ ps → bindC kindOf (ps.zip vals) m q = m q
  | [], _, _, _ => rfl
  | _ :: _, [], _, _ => rfl
  | a :: ps, b :: vals, m, hq => by
    rw [List.zip_cons_cons, bindC, bindC_not ps vals _ fun z => hq (List.mem_cons_of_mem _ z)]
    split
    · rfl
    · exact if_neg (fun e : q = a => hq (e ▸ List.mem_cons_self))
theorem bindL_lookup : ∀ (ps : List Str) (vals : List Value) (m : Str → Option Value) (i : Nat) (p : Str) (v : Value), ps.Nodup → ps[i]? = some p → vals[i]? = some v → kindOf p = some .local → bindL kindOf (ps.zip vals) m p = some v
  | [], _, _, _, _, _, _, h, _, _ => nomatch h
  | q :: ps, [], _, i, _, _, _, _, h, _ => nomatch h
  | q :: ps, u :: vals, m, 0, p, v, hn, h1, h2, hk => by
    cases h1; cases h2
    rw [List.zip_cons_cons, bindL, if_pos hk, bindL_not _ _ _ (List.nodup_cons.mp hn).1]; exact if_pos rfl
  | q :: ps, u :: vals, m, i + 1, p, v, hn, h1, h2, hk => by
    rw [List.zip_cons_cons, bindL]
    exact bindL_lookup ps vals _ i p v (List.nodup_cons.mp hn).2 h1 h2 hk
theorem bindC_lookup : ∀ (ps : List Str) (vals : List Value) (m : Str → Option Value) (i : Nat) (p : Str) (v : Value), ps.Nodup → ps[i]? = some p → vals[i]? = some v → kindOf p ≠ some .local → bindC kindOf (ps.zip vals) m p = some v
  | [], _, _, _, _, _, _, h, _, _ => nomatch h
  | q :: ps, [], _, i, _, _, _, _, h, _ => nomatch h
  | q :: ps, u :: vals, m, 0, p, v, hn, h1, h2, hk => by
    cases h1; cases h2
    rw [List.zip_cons_cons, bindC, if_neg hk, bindC_not _ _ _ (List.nodup_cons.mp hn).1]; exact if_pos rfl
  | q :: ps, u :: vals, m, i + 1, p, v, hn, h1, h2, hk => by
    rw [List.zip_cons_cons, bindC]
    exact bindC_lookup ps vals _ i p v (List.nodup_cons.mp hn).2 h1 h2 hk
end
theorem cells_toks {prog : Program} {w : World} {A : Around} {s : Shared} {R : Result → Shared → Prop} {a : Addr} {o : Obj} {fd : FuncData} {body : List Stmt} {vals : List Value} {binds : List (Str × Value)}
    (hroom : A.depth < recursionLimit) (ho : s.heap.get? a = some o) (hdata : o.data = .func fd) (hlim : s.heap.NoLimit) (hcd : s.heap.CodeRec fd.code fd.qualname)
    (hbody : fd.body = .stmts body) (hbind : bindArgs fd ⟨vals, []⟩ = pure binds) (hclo : fd.closure = [])
    (hkind : ∀ x ∈ binds, fd.scope.names.lookup x.1 = some .local ∨ (fd.scope.names.lookup x.1 = some .cell ∧ ((cellsFrom (s.heap.objs.size + 1) fd.scope.names []).lookup x.1).isSome = true))
    (h : ∀ s₁, InCallC s (callEnvC fd s.heap.objs.size a).locals (bindL (callEnvC fd s.heap.objs.size a).kindOf binds fun _ => none) (callEnvC fd s.heap.objs.size a).cells
        (bindC (callEnvC fd s.heap.objs.size a).kindOf binds fun _ => none) s₁ → s.toks ≤ s₁.toks →
      wpAny (model prog w) (A.deeper (callEnvC fd s.heap.objs.size a)) (execs body (callEnvC fd s.heap.objs.size a)) (fun f s' => R (.ok (.ret (match f with | .ret v => v | _ => .none))) s')
        (fun e s' => wpAny (model prog w) (A.deeper (callEnvC fd s.heap.objs.size a)) (leaving (callEnvC fd s.heap.objs.size a) e) (fun _ s'' => R (.error e) s'') (fun e' s'' => R (.error e') s'') s') s₁)
    (hco : fd.scope.isCoroutine = false) (hgen : fd.scope.isGenerator = false) (hk : fd.scope.kind = .function) :
    codeAny (model prog w) A (.call (.ref a) ⟨vals, []⟩) R s := by
  refine codeAny_call_function hroom ho hdata hco hgen hbody hcd ?_
  rw [hbind, hclo]
  refine wpAny_pure (wpAny_with_toks (Nat.le_refl _) (wpAny_newFunctionEnv_cells hk hkind fun env he s' x ht => ?_))
  subst he
  exact ⟨hlim.keeps x.toInCall.keep, codeAny_func (h s' x ht)⟩
noncomputable def loc0 (args : List V) (n : Nat) : Loc := args.map (fun v => some (.val v)) ++ List.replicate n none
theorem call_gen {a : Addr} {f : FD} {args : List V} {n : Nat} (hf : G.fd.lookup a = some f) (hn : args.length = f.ps.length) {C : Cx} {A : Around} {W : WS} {s : Shared} {vals : List Value} {R : Result → Shared → Prop} (g : GOk G C) (hh : A.handled = none) (hdp : A.depth + 2 * (d + 1) + 9 ≤ recursionLimit)
    (hun : A.units + 20 * (d + 1) + deep + 90 < cLine) (hkeep : ∀ b o, C.h.get? b = some o → s.heap.get? b = some o) (hgens : s.gens = #[]) (htk : f.fi.pos = true → 0 < s.toks) (hos : s.os = C.os) (wf : ∀ a, W a → ∃ o, s.heap.get? a = some o) (r : VRs W s.heap args vals)
    (h : ∀ env s₁, env.frame = some env.locals → env.locals = s.heap.objs.size → FS G d ⟨C, A.deeper env, env, f.fi, s.heap.get?, W, true, fun _ => none⟩ → At ⟨C, A.deeper env, env, f.fi, s.heap.get?, W, true, fun _ => none⟩ W (fun _ => []) s₁ (loc0 args n) →
      wpAny C.M (A.deeper env) (execs f.st env) (fun f s' => R (.ok (.ret (match f with | .ret v => v | _ => .none))) s') (fun e s' => wpAny C.M (A.deeper env) (leaving env e) (fun _ s'' => R (.error e) s'') (fun e' s'' => R (.error e') s'') s') s₁) :
    codeAny C.M A (.call (.ref a) ⟨vals, []⟩) R s := by
  obtain ⟨ob, fd, fo⟩ := g.fd a f hf
  have hlen : vals.length = f.ps.length := r.length.trans hn
  have hkind : ∀ x ∈ f.ps.zip vals, fd.scope.names.lookup x.1 = some .local ∨ (fd.scope.names.lookup x.1 = some .cell ∧ ((cellsFrom (s.heap.objs.size + 1) fd.scope.names []).lookup x.1).isSome = true) := fun x hx => by
    rw [fo.names]
    rcases fo.own x.1 (List.of_mem_zip hx).1 with q | q
    · exact .inl q
    · exact .inr ⟨q, cellsFrom_has _ _ _ _ q⟩
  refine cells_toks (by omega) (hkeep _ _ fo.at_) fo.dat (g.nolimit.keeps hkeep) (fo.rec_.keeps hkeep) fo.body (fo.bind vals hlen) fo.clo hkind (fun s₁ IC ht1 => ?_) fo.co fo.gen fo.kind
  generalize he : callEnvC fd s.heap.objs.size a = env at IC ⊢
  have hL : env.locals = s.heap.objs.size := by rw [← he]; rfl
  have hNm : env.scope.names = f.fi.names := by rw [← he]; exact fo.names
  have hcs : env.cells = cellsFrom (s.heap.objs.size + 1) fd.scope.names [] := by rw [← he]; rfl
  obtain ⟨h₁, tk, rfl⟩ := IC.toInCall.same
  have hk := IC.toInCall.keep
  have cAbove : ∀ x c, env.cells.lookup x = some c → s.heap.objs.size ≤ c := fun x c hc => by
    have := IC.above x c (mem_of_lookup hc); rw [hL] at this; exact Nat.le_of_lt this
  have hko : ∀ x, env.kindOf x = f.fi.names.lookup x := fun x => by unfold Env.kindOf; rw [hNm]
  let X : FC := ⟨C, A.deeper env, env, f.fi, s.heap.get?, W, true, fun _ => none⟩
  have S : FS G d X := by
    refine ⟨g, hkeep, hh, ?_, ?_, ?_, ?_, ?_, hNm, ?_, ?_, fo.inj, fun _ _ q => (by cases q)⟩
    · show A.depth + 1 + 2 * d + 10 ≤ _; omega
    · show A.units + 3 + 20 * d + deep + 100 < _; omega
    · show env.scope.kind = _; rw [← he]; exact fo.kind
    · show env.globals = _; rw [← he]; exact fo.gl
    · show env.builtins = _; rw [← he]; exact fo.bi
    · rintro x (q | q)
      · have q : f.fi.names.lookup x = some .cell := q
        rw [← fo.names] at q
        have := cellsFrom_has fd.scope.names (s.heap.objs.size + 1) [] x q
        rw [← hcs] at this
        exact Option.isSome_iff_exists.mp this
      · exact absurd rfl (fo.free _ (mem_of_lookup q))
    · intro x y c hx hy; exact name_of_addr IC.apart (mem_of_lookup hx) (mem_of_lookup hy)
  have gs : Gs W s W { s with heap := h₁, toks := tk } := Gs.of wf hk ht1
  have nof : ∀ b, s.heap.objs.size ≤ b → s.heap.get? b = none ∧ ¬ W b := fun b q => ⟨none_of_le q, fun w => by obtain ⟨_, z⟩ := wf b w; rw [none_of_le q] at z; cases z⟩
  have F : At X W (fun _ => []) { s with heap := h₁, toks := tk } (loc0 args n) := by
    refine ⟨hgens, hos, ⟨hk, ?_, gs.g.wf, fun _ _ _ q => q, fun _ _ _ q => (by cases q), ?_, ?_⟩, ?_, fun _ _ q => (by cases q), fun h => Nat.lt_of_lt_of_le (htk h) ht1, fun _ _ q => (by cases q)⟩
    · rintro b (q | ⟨_, x, q⟩ | ⟨i, q⟩)
      · exact nof b (by rw [show b = env.locals from q, hL]; exact Nat.le_refl _)
      · exact nof b (cAbove x b q)
      · cases q
    · obtain ⟨o, es, ep, h1, h2, h3, _⟩ := IC.toInCall.ns; exact ⟨o, es, ep, h1, h2, h3⟩
    · intro x c hc; obtain ⟨o, h1, h2⟩ := IC.cell x c hc; exact ⟨o, _, h1, h2⟩
    · intro x i hx w hw hkd
      have hx : f.fi.tbl.lookup x = some i := hx
      unfold loc0 at hw
      have hi : i < args.length := by
        rcases Nat.lt_or_ge i args.length with q | q
        · exact q
        · rw [List.getElem?_append_right (by rwa [List.length_map]), List.getElem?_replicate] at hw
          split at hw <;> cases hw
      rw [List.getElem?_append_left (by rwa [List.length_map]), List.getElem?_map, Option.map_eq_some_iff] at hw
      obtain ⟨w', hw1, hw2⟩ := hw
      cases hw2
      obtain ⟨u, hu, hr⟩ := r.get hw1
      obtain ⟨p, hp⟩ : ∃ p, f.ps[i]? = some p := ⟨_, List.getElem?_eq_getElem (by rw [← hn]; exact hi)⟩
      obtain rfl : x = p := fo.inj x p i hx (fo.at0 i p hp)
      refine ⟨u, ?_, rfl, hr.ag (gs.g.ag wf)⟩
      rcases fo.own x (List.mem_of_getElem? hp) with q | q
      · exact .inl ⟨(hko x).trans q, _, IC.toInCall.ns, bindL_lookup f.ps vals _ i x u fo.nodup hp hu ((hko x).trans q)⟩
      · have hc := cellsFrom_has fd.scope.names (s.heap.objs.size + 1) [] x (by rw [fo.names]; exact q)
        rw [← hcs] at hc
        obtain ⟨c, hc⟩ := Option.isSome_iff_exists.mp hc
        refine .inr ⟨.inl ((hko x).trans q), c, hc, ?_⟩
        have := IC.cell x c hc
        rw [bindC_lookup f.ps vals _ i x u fo.nodup hp hu (by rw [hko, q]; decide)] at this
        exact this
  exact h env _ (by rw [← he]; rfl) hL S F
theorem call_of {a : Addr} {f : FD} {args : List V} {o : O} {n : Nat} {g : Fl} {ρ' : Loc} (hf : G.fd.lookup a = some f) (hn : args.length = f.ps.length) (h : ExsG G d f.fi f.st (loc0 args n) g ρ') (hg : g = .ret o ∨ (g = .next ∧ o = .val .none)) : CallOK G (d + 1) a args o := by
  intro C A W s vals R g hh hdp hun hkeep hgens htk hos wf r k
  refine codeAny_with_toks (Nat.le_refl _) ?_
  refine call_gen (n := n) hf hn g hh hdp hun hkeep hgens (htk f hf) hos wf r fun env s₁ _ _ S F => ?_
  refine h ⟨C, A.deeper env, env, f.fi, s.heap.get?, W, true, fun _ => none⟩ _ W _ _ rfl rfl S F _ fun fw W' φ' s' A' B' C' => ?_
  intro tle
  have gs' : Gs W s W' s' := ⟨⟨fun b o e => A'.f.pin b o e, fun a q => B'.w a q, A'.f.wf, fun b o e q => A'.f.w0 b o e q⟩, A'.gens.trans hgens.symm, A'.os.trans hos.symm, tle⟩
  rcases hg with rfl | ⟨rfl, rfl⟩
  · obtain ⟨v', rfl, p, ro, hp⟩ := C'
    refine k v' W' s' gs' ?_
    cases o with
    | val v => exact ro.2
    | own r' =>
      obtain ⟨b, rfl, rfl, z⟩ := ro
      obtain ⟨w1, _, w3⟩ := hp b List.mem_cons_self
      exact ⟨b, rfl, w3, w1, z⟩
    | own2 r' =>
      obtain ⟨b, as, rfl, rfl, z⟩ := ro
      exact ⟨b, as, rfl, fun c q => ⟨(hp c q).2.2, (hp c q).1⟩, z⟩
    | obj t l r' =>
      obtain ⟨oa, da, as, rfl, rfl, z⟩ := ro
      exact ⟨oa, da, as, rfl, fun c q => ⟨(hp c q).2.2, (hp c q).1⟩, z⟩
    | dic w k l =>
      obtain ⟨a, vs, rfl, rfl, z⟩ := ro
      obtain ⟨w1, _, w3⟩ := hp a List.mem_cons_self
      exact ⟨a, vs, rfl, w3, w1, z⟩
  · cases C'
    exact k _ W' s' gs' rfl
end
end Mine
end

section
open PySem
set_option autoImplicit false
set_option linter.unusedVariables false
namespace Mine
open PySem.W (Looks keepIn)

def relab (outer names : List (Str × NameKind)) : List (Str × NameKind) := names.map fun (n, k) => if (k == .free && outer.lookup n == some .cell) then (n, .cell) else (n, k)
def FI.inner (fi : FI) (sc : Scope) (x : Str) (i : Nat) : FI := ⟨relab fi.names sc.names, (x, i) :: fi.tbl, fi.pos, []⟩
def compName (fi : FI) (sc : Scope) (x : Str) (y : Str × NameKind) : Bool := match y.2 with
  | .local => sc.names.lookup y.1 == some .local && (y.1 == x || (fi.tbl.lookup y.1).isNone)
  | .free => sc.names.lookup y.1 == some .free && (fi.names.lookup y.1 == some .cell || fi.names.lookup y.1 == some .free)
  | .cell => false
  | _ => (fi.tbl.lookup y.1).isNone
def compOk (fi : FI) (sc : Scope) (x : Str) (i : Nat) : Bool := sc.kind == .function && sc.names.lookup x == some .local && (sc.names.all (compName fi sc x)) && (fi.tbl.all fun p => p.2 != i)
theorem relab_lookup (outer : List (Str × NameKind)) (y : Str) : ∀ names : List (Str × NameKind), (relab outer names).lookup y = (names.lookup y).map fun k => if (k == .free && outer.lookup y == some .cell) then .cell else k
  | [] => rfl
  | (n, k) :: r => by
    have ih := relab_lookup outer y r
    show List.lookup y ((if (k == .free && outer.lookup n == some .cell) then (n, .cell) else (n, k)) :: relab outer r) = _
    have e : (if (k == .free && outer.lookup n == some .cell) then (n, NameKind.cell) else (n, k)) = (n, if (k == .free && outer.lookup n == some .cell) then NameKind.cell else k) := by split <;> rfl
    rw [e, List.lookup_cons, List.lookup_cons, ih]
    cases q : y == n with
    | true => rw [beq_iff_eq.mp q]; rfl
    | false => rfl
theorem relabel_names {fi : FI} {env : Env} (sc : Scope) (hf : env.scope.kind = .function) (hn : env.scope.names = fi.names) : (relabel sc env).names = relab fi.names sc.names := by
  unfold relabel relab
  simp only [hf, Env.kindOf, hn, beq_self_eq_true, Bool.and_true]
structure CompC (fi : FI) (sc : Scope) (x : Str) (i : Nat) : Prop where
  kind : sc.kind = .function
  own : sc.names.lookup x = some .local
  names : ∀ y, y ∈ sc.names → compName fi sc x y = true
  new : ∀ y j, fi.tbl.lookup y = some j → j ≠ i
theorem CompC.of {fi : FI} {sc : Scope} {x : Str} {i : Nat} (h : compOk fi sc x i = true) : CompC fi sc x i := by
  simp only [compOk, Bool.and_eq_true, beq_iff_eq, List.all_eq_true, bne_iff_ne, ne_eq] at h
  exact ⟨h.1.1.1, h.1.1.2, h.1.2, fun y j hy => h.2 (y, j) (mem_of_lookup hy)⟩
section
variable {fi : FI} {sc : Scope} {x : Str} {i : Nat}
theorem CompC.cell (h : CompC fi sc x i) : ∀ y ∈ sc.names, y.2 ≠ .cell := fun y hy q => by
  have := h.names y hy; unfold compName at this; rw [q] at this; cases this
theorem CompC.local (h : CompC fi sc x i) : ∀ y ∈ sc.names, y.2 = .local → sc.names.lookup y.1 = some .local := fun y hy q => by
  have := h.names y hy; unfold compName at this; rw [q] at this
  exact beq_iff_eq.mp (Bool.and_eq_true_iff.mp this).1
theorem CompC.free (h : CompC fi sc x i) {y : Str} (hy : sc.names.lookup y = some .free) : fi.names.lookup y = some .cell ∨ fi.names.lookup y = some .free := by
  have := h.names _ (mem_of_lookup hy); unfold compName at this
  simp only [Bool.and_eq_true, beq_iff_eq, Bool.or_eq_true] at this; exact this.2
theorem CompC.isFree (h : CompC fi sc x i) {y : Str} {j : Nat} (hne : y ≠ x) (hy : fi.tbl.lookup y = some j) (hk : (fi.inner sc x i).names.lookup y ≠ none) : sc.names.lookup y = some .free := by
  have hk : (relab fi.names sc.names).lookup y ≠ none := hk
  rw [relab_lookup] at hk
  cases z : sc.names.lookup y with
  | none => rw [z] at hk; exact absurd rfl hk
  | some kd =>
    have := h.names _ (mem_of_lookup z)
    unfold compName at this
    cases kd with
    | free => rfl
    | cell => cases this
    | «local» =>
      simp only [Bool.and_eq_true, Bool.or_eq_true, beq_iff_eq] at this
      rcases this.2 with z1 | z1
      · exact absurd z1 hne
      · rw [hy] at z1; cases z1
    | globalExplicit => dsimp only at this; rw [hy] at this; cases this
    | globalImplicit => dsimp only at this; rw [hy] at this; cases this
theorem CompC.cells (h : CompC fi sc x i) {y : Str} (hy : (fi.inner sc x i).names.lookup y = some .cell ∨ (fi.inner sc x i).names.lookup y = some .free) : sc.names.lookup y = some .free := by
  have hy : (relab fi.names sc.names).lookup y = some .cell ∨ (relab fi.names sc.names).lookup y = some .free := hy
  rw [relab_lookup] at hy
  cases z : sc.names.lookup y with
  | none => rw [z] at hy; rcases hy with q | q <;> cases q
  | some kd =>
    rw [z] at hy
    cases kd with
    | free => rfl
    | cell => exact absurd rfl (h.cell _ (mem_of_lookup z))
    | _ => rcases hy with q | q <;> cases q
end
theorem closure_ok (env : Env) : ∀ (names : List (Str × NameKind)), (∀ y ∈ names, y.2 = .free → ∃ c, env.cells.lookup y.1 = some c) → ∀ acc : List (Str × Addr),
    ∃ cl : List (Str × Addr), (forIn names acc fun (y : Str × NameKind) cs => if (y.2 == NameKind.free) = true then do let a ← cellOf env y.1; pure (ForInStep.yield ((y.1, a) :: cs)) else pure (ForInStep.yield cs) : Sem (List (Str × Addr))) = pure cl ∧
      (∀ n c, (n, c) ∈ cl → (n, c) ∈ acc ∨ env.cells.lookup n = some c) ∧ (∀ y ∈ names, y.2 = .free → (cl.lookup y.1).isSome = true) ∧ (∀ n, (acc.lookup n).isSome = true → (cl.lookup n).isSome = true)
  | [], _, acc => ⟨acc, rfl, fun n c h => .inl h, fun y h => (by cases h), fun n h => h⟩
  | (n, k) :: r, h, acc => by
    by_cases q : k = .free
    · subst q
      obtain ⟨c, hc⟩ := h (n, .free) List.mem_cons_self rfl
      obtain ⟨cl, e, h1, h2, h3⟩ := closure_ok env r (fun y hy => h y (List.mem_cons_of_mem _ hy)) ((n, c) :: acc)
      refine ⟨cl, ?_, fun m d hd => ?_, fun y hy hk => ?_, fun m hm => h3 m ?_⟩
      · rw [List.forIn_cons]
        have e1 : cellOf env n = pure c := by unfold cellOf; rw [hc]
        simp only [beq_self_eq_true, if_true, e1]
        exact e
      · rcases h1 m d hd with z | z
        · rcases List.mem_cons.mp z with z | z
          · cases z; exact .inr hc
          · exact .inl z
        · exact .inr z
      · rcases List.mem_cons.mp hy with z | z
        · subst z; exact h3 n (by rw [List.lookup_cons, beq_self_eq_true]; rfl)
        · exact h2 y z hk
      · rw [List.lookup_cons]; split <;> first | rfl | exact hm
    · obtain ⟨cl, e, h1, h2, h3⟩ := closure_ok env r (fun y hy => h y (List.mem_cons_of_mem _ hy)) acc
      refine ⟨cl, ?_, h1, fun y hy hk => ?_, h3⟩
      · rw [List.forIn_cons]
        have : (k == NameKind.free) = false := by simpa using q
        simp only [this, Bool.false_eq_true, if_false]
        exact e
      · rcases List.mem_cons.mp hy with z | z
        · subst z; exact absurd hk q
        · exact h2 y z hk
theorem closureFor_ok {env : Env} {scope : Scope} (h : ∀ y ∈ scope.names, y.2 = .free → ∃ c, env.cells.lookup y.1 = some c) :
    ∃ cl : List (Str × Addr), closureFor scope env = pure cl ∧ (∀ n c, cl.lookup n = some c → env.cells.lookup n = some c) ∧ (∀ y ∈ scope.names, y.2 = .free → (cl.lookup y.1).isSome = true) := by
  obtain ⟨cl, e, h1, h2, _⟩ := closure_ok env scope.names h []
  refine ⟨cl, ?_, fun n c hc => (h1 n c (mem_of_lookup hc)).elim (fun z => nomatch z) id, h2⟩
  have : closureFor scope env = (forIn scope.names ([] : List (Str × Addr)) fun (y : Str × NameKind) cs => if (y.2 == NameKind.free) = true then do let a ← cellOf env y.1; pure (ForInStep.yield ((y.1, a) :: cs)) else pure (ForInStep.yield cs) : Sem (List (Str × Addr))) >>= fun cs => pure cs := rfl
  rw [this, e]; rfl

section
variable {A : Around} {R : Result → Shared → Prop} {s : Shared}
noncomputable def TestsW (M : Model) (A : Around) (E : Value → Shared → Prop) (env : Env) (cs : List Expr) (Q : Bool → Shared → Prop) (s : Shared) : Prop := List.casesOn cs (Q true s) fun c cs => List.casesOn cs (wpAny M A (isTrue c env (eval c env)) Q E s) fun _ _ => False
theorem code_comp {elt iter : Expr} {cs : List Expr} {x : Str} {px : Pos} {scope : Scope} {pos : Pos} {it acc : Value} {env : Env} {prog : Program} {w : World}
    (h : wpAny (model prog w) A (pyNext it) (fun r s₁ => match r with
      | none => R (.ok .next) s₁
      | some v => wpAny (model prog w) A (storeName env x v) (fun _ s₂ => TestsW (model prog w) A (notedBy (model prog w) A env fun e s' => R (.error e) s') env cs (fun ok s₃ => Bool.casesOn (motive := fun _ => Prop) ok (codeAny (model prog w) A (.compLoop (.ListComp elt [⟨.Name x px, iter, cs, 0⟩] scope pos) 0 it acc env) R s₃) (wpAny (model prog w) A (eval elt env) (fun y s₄ =>
              wpAny (model prog w) A (call (.builtin "list.append") [acc, y]) (fun _ s₅ => codeAny (model prog w) A (.compLoop (.ListComp elt [⟨.Name x px, iter, cs, 0⟩] scope pos) 0 it acc env) R s₅) (notedBy (model prog w) A env fun e s' => R (.error e) s') s₄) (notedBy (model prog w) A env fun e s' => R (.error e) s') s₃)) s₂) (notedBy (model prog w) A env fun e s' => R (.error e) s') s₁) (notedBy (model prog w) A env fun e s' => R (.error e) s') s) :
    codeAny (model prog w) A (.compLoop (.ListComp elt [⟨.Name x px, iter, cs, 0⟩] scope pos) 0 it acc env) R s := by
  refine codeAny_of_tree ?_
  show wpAny _ A ((compTurn (.ListComp elt [⟨.Name x px, iter, cs, 0⟩] scope pos) 0 it acc env).onRaise (fun x => do noteFrame x env; theTreesLotGoes x)) _ _ s
  refine wpAny_noted ?_
  rw [compTurn_list]
  refine wpAny_bind (wpAny_standAt (wpAny_bind (wpAny_mono h (fun r s₁ h₁ => ?_) fun _ _ h' => h')))
  cases r with
  | none => exact wpAny_pure h₁
  | some v =>
    refine wpAny_bind (wpAny_pure ?_)
    refine wpAny_bind (wpAny_mono (wpAny_assign_Name h₁) (fun _ s₂ h₂ => ?_) fun _ _ h' => h')
    cases cs with
    | nil =>
      refine wpAny_bind (wpAny_tests_nil ?_)
      exact wpAny_bind (wpAny_bind (wpAny_mono h₂ (fun x s₄ h₄ => wpAny_bind (wpAny_mono h₄ (fun _ s₅ h₅ => wpAny_pure (wpAny_pure ⟨rfl, h₅⟩)) fun _ _ h' => h')) fun _ _ h' => h'))
    | cons c cs =>
      cases cs with
      | nil =>
        refine wpAny_bind (wpAny_tests_one (wpAny_mono h₂ (fun ok s₃ h₃ => ?_) fun _ _ h' => h'))
        cases ok with
        | true => exact wpAny_bind (wpAny_bind (wpAny_mono h₃ (fun x s₄ h₄ => wpAny_bind (wpAny_mono h₄ (fun _ s₅ h₅ => wpAny_pure (wpAny_pure ⟨rfl, h₅⟩)) fun _ _ h' => h')) fun _ _ h' => h'))
        | false => exact wpAny_bind (wpAny_pure (wpAny_pure ⟨rfl, h₃⟩))
      | cons => cases h₂
end

noncomputable def TestsG (G : Gl) (d : Nat) (fi : FI) (cs : List Expr) (ρ : Loc) (t : Bool) : Prop := List.casesOn cs (t = true) fun c cs => List.casesOn cs (TrG G d fi c ρ t ρ) fun _ _ => False
noncomputable def CompI (G : Gl) (d : Nat) (fi : FI) (cs : List Expr) (elt : Expr) (i : Nat) (ρ : Loc) (l vs : List V) : Prop :=
  @List.rec V (fun _ => List V → Prop) (fun vs => vs = []) (fun v _ ih vs => (∃ w r, vs = w :: r ∧ TestsG G d fi cs (ρ.set i (some (.val v))) true ∧ EvV G d fi elt (ρ.set i (some (.val v))) w (ρ.set i (some (.val v))) ∧ ih r) ∨ (TestsG G d fi cs (ρ.set i (some (.val v))) false ∧ ih vs)) l vs
abbrev CompL (G : Gl) (d : Nat) (fi : FI) (elt : Expr) (i : Nat) (ρ : Loc) (l vs : List V) : Prop := CompI G d fi [] elt i ρ l vs
noncomputable def shr (ρ : Loc) : Loc := ρ.map fun o => o.bind fun o => O.casesOn o (fun v => some (.val v)) (fun _ => none) (fun _ => none) (fun _ _ _ => none) fun _ _ _ => none
theorem shr_get {ρ : Loc} {j : Nat} {o : O} (e : (shr ρ)[j]? = some (some o)) : ∃ v, o = .val v ∧ ρ[j]? = some (some (.val v)) := by
  unfold shr at e
  rw [List.getElem?_map] at e
  obtain ⟨o', e1, e2⟩ := Option.map_eq_some_iff.mp e
  cases o' with
  | none => cases e2
  | some o' => cases o' with
    | own r => cases e2
    | own2 r => cases e2
    | obj _ _ _ => cases e2
    | dic _ _ _ => cases e2
    | val v => cases e2; exact ⟨v, rfl, e1⟩

noncomputable def shrL (ln : Option (Str × Nat)) (ρ : Loc) : Loc := Option.casesOn ln (shr ρ) fun p => (shr ρ).set p.2 (slot ρ p.2)
noncomputable def lentI (ln : Option (Str × Nat)) (j : Nat) : Prop := Option.casesOn ln False fun p => j = p.2
noncomputable def lnOk (fi : FI) (sc : Scope) (x : Str) (ln : Option (Str × Nat)) : Bool := Option.casesOn ln true fun p => fi.tbl.lookup p.1 == some p.2 && sc.names.lookup p.1 == some .free && p.1 != x
noncomputable def lnHas (ln : Option (Str × Nat)) (ρ : Loc) : Prop := Option.casesOn ln True fun p => ∃ o, slot ρ p.2 = some o
theorem shrL_get {ln : Option (Str × Nat)} {ρ : Loc} {j : Nat} {o : O} (e : (shrL ln ρ)[j]? = some (some o)) : ρ[j]? = some (some o) ∧ (lentI ln j ∨ ∃ v, o = .val v) := by
  cases ln with
  | none => obtain ⟨v, rfl, h⟩ := shr_get e; exact ⟨h, .inr ⟨v, rfl⟩⟩
  | some p =>
    have e : ((shr ρ).set p.2 (slot ρ p.2))[j]? = some (some o) := e
    by_cases q : j = p.2
    · subst q
      rw [List.getElem?_set] at e
      split at e
      · split at e
        · exact ⟨slot_some (Option.some.inj e), .inl rfl⟩
        · cases e
      · rename_i q; exact absurd rfl q
    · rw [List.getElem?_set_ne (Ne.symm q)] at e
      obtain ⟨v, rfl, h⟩ := shr_get e; exact ⟨h, .inr ⟨v, rfl⟩⟩
open Classical in
noncomputable def lentφ (ln : Option (Str × Nat)) (φ : Nat → List Addr) (j : Nat) : List Addr := if lentI ln j then φ j else []
theorem lentφ_in {ln : Option (Str × Nat)} {φ : Nat → List Addr} {j : Nat} (h : lentI ln j) : lentφ ln φ j = φ j := if_pos h
theorem lentφ_out {ln : Option (Str × Nat)} {φ : Nat → List Addr} {j : Nat} (h : ¬ lentI ln j) : lentφ ln φ j = [] := if_neg h
theorem lentφ_of {ln : Option (Str × Nat)} {φ : Nat → List Addr} {j : Nat} {b : Addr} (h : b ∈ lentφ ln φ j) : lentI ln j ∧ b ∈ φ j := by
  by_cases q : lentI ln j
  · rw [lentφ_in q] at h; exact ⟨q, h⟩
  · rw [lentφ_out q] at h; cases h
section
variable {X : FC} {W : WS} {φ : Nat → List Addr} {s : Shared} {ρ : Loc}
theorem At.put {x : Str} {i : Nat} {o : O} {v' : Value} {p : List Addr} (F : At X W (upd φ i []) s (ρ.set i none)) (ti : ∀ y, X.fi.tbl.lookup y = some i → y = x) (hv : Val X.env s.heap x v') (r : OR W s.heap p o v') (hp : ∀ a, a ∈ p → Fre X W (upd φ i []) a) :
    At X W (upd φ i p) s (ρ.set i (some o)) := by
  have case : ∀ j b, b ∈ upd φ i p j → (j = i ∧ b ∈ p) ∨ (j ≠ i ∧ b ∈ upd φ i [] j) := fun j b q => by
    by_cases ej : j = i
    · rw [ej, upd_same] at q; exact .inl ⟨ej, q⟩
    · rw [upd_ne _ _ ej] at q; exact .inr ⟨ej, by rw [upd_ne _ _ ej]; exact q⟩
  refine ⟨F.gens, F.os, { F.f with mu := fun b q => ?_, dis := fun j k b q q' => ?_ }, fun y j hy o' w hk => ?_, fun j b q => (case j b q).elim (fun z => by obtain ⟨o, e, n⟩ := r.isOwn b z.2; exact ⟨o, e, n, fun e' => (hp b z.2).mu (.inl e')⟩) fun z => F.ow j b z.2, F.tk, F.kv⟩
  · rcases q with q | q | ⟨j, q⟩
    · exact F.f.mu b (.inl q)
    · exact F.f.mu b (.inr (.inl q))
    · rcases case j b q with ⟨_, q⟩ | ⟨_, q⟩
      · exact ⟨(hp b q).pin, (hp b q).w⟩
      · exact F.f.mu b (.inr (.inr ⟨j, q⟩))
  · rcases case j b q with ⟨e, q⟩ | ⟨e, q⟩ <;> rcases case k b q' with ⟨e', q'⟩ | ⟨e', q'⟩
    · exact e.trans e'.symm
    · exact absurd (.inr (.inr ⟨k, q'⟩)) (hp b q).mu
    · exact absurd (.inr (.inr ⟨j, q⟩)) (hp b q').mu
    · exact F.f.dis j k b q q'
  · rcases set_get w with ⟨rfl, rfl⟩ | ⟨q, w⟩
    · cases ti y hy; exact ⟨v', hv, by rw [upd_same]; exact r⟩
    · obtain ⟨w', a, b⟩ := F.lr y j hy o' (by rwa [List.getElem?_set_ne (Ne.symm q)]) hk
      exact ⟨w', a, by rw [upd_ne _ _ q] at b ⊢; exact b⟩
theorem At.backL (F : At X W φ s ρ) {ln : Option (Str × Nat)} {a : Addr} (f : Fre X W φ a) {W' : WS} {s' : Shared} {φ' : Nat → List Addr} (hg : s'.gens = #[]) (hos : s'.os = X.C.os) (htk : X.fi.pos = true → 0 < s'.toks)
    (hk : ∀ b o, b ≠ a → (∀ j, b ∉ lentφ ln φ j) → s.heap.get? b = some o → s'.heap.get? b = some o) (hw : ∀ b, W b → W' b) (wf : ∀ b, W' b → ∃ o, s'.heap.get? b = some o) (nw : ∀ b o, b ≠ a → (∀ j, b ∉ lentφ ln φ j) → s.heap.get? b = some o → W' b → W b)
    (hl : ∀ y i, ln = some (y, i) → (∀ z, X.fi.tbl.lookup z = some i → z = y) ∧ ∃ o v', ρ[i]? = some (some o) ∧ Val X.env s.heap y v' ∧ OR W' s'.heap (φ' i) o v' ∧ ∀ b, b ∈ φ' i → ¬ W' b ∧ b ≠ a ∧ (b ∈ φ i ∨ s.heap.get? b = none)) :
    ∃ φ2, At X W' φ2 s' ρ ∧ Ag W s.heap W' s'.heap ∧ (∀ x v, Val X.env s.heap x v → Val X.env s'.heap x v) ∧ ∀ b, Fre X W φ b → ¬ W' b → (∀ y i, ln = some (y, i) → b ∉ φ' i) → Fre X W' φ2 b := by
  cases ln with
  | none =>
    have nl : ∀ b j, b ∉ lentφ none φ j := fun b j q => (lentφ_of q).1
    obtain ⟨A, B, V⟩ := F.move (D := (· = a)) (W' := W') (h' := s'.heap) (t := s.toks) (fun b q => q ▸ f) (fun b o q e => hk b o q (nl b) e) hw wf (fun b o q e => nw b o q (nl b) e)
    exact ⟨φ, ⟨hg, hos, A.f, A.lr, A.ow, htk, A.kv⟩, B, V, fun b f w _ => ⟨f.pin, w, f.mu, f.nc⟩⟩
  | some p =>
    obtain ⟨y, i⟩ := p
    obtain ⟨ti, o, v', e, hv, ro, hp⟩ := hl y i rfl
    obtain ⟨F1, hf⟩ := F.free i
    have fr : ∀ b, b ∈ φ i → Fre X W (upd φ i []) b := fun b q => ⟨(hf b q).1, (hf b q).2.1, (hf b q).2.2.1, (hf b q).2.2.2⟩
    have less : ∀ b, Fre X W φ b → Fre X W (upd φ i []) b := fun b f => ⟨f.pin, f.w, fun m => f.mu m.less, f.nc⟩
    have nl : ∀ b, b ∉ φ i → ∀ j, b ∉ lentφ (some (y, i)) φ j := fun b q j z => by
      obtain ⟨z1, z2⟩ := lentφ_of z
      have z1 : j = i := z1
      exact q (z1 ▸ z2)
    obtain ⟨F2, ag, val⟩ := F1.move (D := fun b => b = a ∨ b ∈ φ i) (h' := s'.heap) (W' := W') (t := s.toks) (fun b q => q.elim (fun q => q ▸ less a f) (fr b)) (fun b o q e => hk b o (fun z => q (.inl z)) (nl b fun z => q (.inr z)) e) hw wf (fun b o q e => nw b o (fun z => q (.inl z)) (nl b fun z => q (.inr z)) e)
    have F3 : At X W' (upd φ i []) s' (ρ.set i none) := ⟨hg, hos, F2.f, F2.lr, F2.ow, htk, F2.kv⟩
    have A := F3.put (o := o) (p := φ' i) ti (val _ _ hv) ro fun b q => by
      obtain ⟨h1, h2, h3 | h3⟩ := hp b q
      · have f := fr b h3; exact ⟨f.pin, h1, f.mu, f.nc⟩
      · have f := Fre.of F1 h3; exact ⟨f.pin, h1, f.mu, f.nc⟩
    have er : ρ.set i (some o) = ρ := by
      apply List.ext_getElem?
      intro j
      by_cases q : j = i
      · subst q; rw [e, List.getElem?_set_self (List.getElem?_eq_some_iff.mp e).1]
      · rw [List.getElem?_set_ne (Ne.symm q)]
    rw [er] at A
    refine ⟨_, A, ag, val, fun b f w n => ⟨f.pin, w, fun m => ?_, f.nc⟩⟩
    rcases m with m | m | ⟨j, m⟩
    · exact f.mu (.inl m)
    · exact f.mu (.inr (.inl m))
    · by_cases ej : j = i
      · rw [ej, upd_same] at m; exact n y i rfl m
      · rw [upd_ne _ _ ej] at m; exact f.mu (.inr (.inr ⟨j, m⟩))
end

section
variable {G : Gl} {d : Nat} {fi : FI}
theorem TestsG.go {cs : List Expr} {ρ : Loc} {t : Bool} (h : TestsG G d fi cs ρ t) {X : FC} {E : Value → Shared → Prop} {W : WS} {φ : Nat → List Addr} {s : Shared} {Q : Bool → Shared → Prop} (e : X.fi = fi) (S : FS G d X) (F : At X W φ s ρ)
    (k : ∀ W' φ' s', Pst X W s W' φ' s' ρ → Q t s') : TestsW X.C.M X.A E X.env cs Q s := by
  cases cs with
  | nil => cases h; exact k _ _ _ (.refl F)
  | cons c cs => cases cs with
    | nil => exact h X E W φ s e S F Q k
    | cons => cases h
theorem comp_loop {elt iter : Expr} {cs : List Expr} {x : Str} {px : Pos} {i : Nat} {sc : Scope} {pos : Pos} {ρ₀ : Loc} (hx : fi.isOwn x i = true) (hl : fi.names.lookup x = some .local) : ∀ {l vs : List V} {r : List V} {ρ : Loc} {X : FC} {W : WS} {φ : Nat → List Addr} {s : Shared} {it acc : Addr} {R : Result → Shared → Prop},
    CompI G d fi cs elt i ρ₀ l vs → X.fi = fi → FS G d X → (∀ o, ρ.set i o = ρ₀.set i o) → At X W φ s ρ → Fre X W φ it → ItR W s.heap it l → Fre X W φ acc → acc ≠ it → OwnAt W s.heap acc r → l.length + r.length ≤ room →
    (∀ W' φ' s' ρ', At X W' φ' s' ρ' → (∀ o, ρ'.set i o = ρ₀.set i o) → Ag W s.heap W' s'.heap → Fre X W' φ' it → Fre X W' φ' acc → OwnAt W' s'.heap acc (vs.reverse ++ r) → R (.ok .next) s') → codeAny X.C.M X.A (.compLoop (.ListComp elt [⟨.Name x px, iter, cs, 0⟩] sc pos) 0 (.ref it) (.ref acc) X.env) R s := by
  intro l
  induction l with
  | nil =>
    intro vs r ρ X W φ s it acc R h e S hρ F f I fa hne O hr k
    cases h
    refine code_comp (I.next S.hd F f fun s' A B C => k _ _ _ _ A hρ B f fa ?_)
    obtain ⟨vs, n, e, _⟩ := id O
    exact O.ag B ((C acc _ hne e).trans e.symm)
  | cons v l ih =>
    intro vs r ρ X W φ s it acc R h e S hρ F f I fa hne O hr k
    refine code_comp (I.next S.hd F f fun s' A B C => fun v' rv I' => ?_)
    obtain ⟨o, ho⟩ := I'.at
    obtain ⟨zs, n, he, _⟩ := id O
    have he1 := C acc _ hne he
    have O1 := O.ag B (he1.trans he.symm)
    have F1 := A.pinned f ho
    have fa1 : Fre (X.pinned it o) W φ acc := ⟨by rw [FC.pinned_ne hne]; exact fa.pin, fa.w, fa.mu, fa.nc⟩
    have F2 := F1.pinned fa1 he1
    have S1 : FS G d (X.pinned it o) := S.pinned f.pin
    have S2 : FS G d ((X.pinned it o).pinned acc (lstO zs n)) := S1.pinned fa1.pin
    refine store_ok (X := (X.pinned it o).pinned acc (lstO zs n)) S2 (.inl (show X.fi.names.lookup x = _ by rw [e]; exact hl)) F2 (.val rv) (show X.fi.isOwn x i = true by rw [e]; exact hx) fun φ2 s2 A2 B2 => ?_
    rw [hρ] at A2
    rw [List.length_cons] at hr
    have := room_le
    rcases h with ⟨w, ws, rfl, ht, hw, hl'⟩ | ⟨ht, hl'⟩
    · refine ht.go (X := (X.pinned it o).pinned acc (lstO zs n)) e S2 A2 fun Wt φt st pt => ?_
      refine hw ((X.pinned it o).pinned acc (lstO zs n)) _ Wt φt st e S2 pt.f _ fun w' W3 φ3 s3 p3 r3 => ?_
      obtain ⟨A4, fa4, h4⟩ := p3.f.unpin fa1.pin fa.nc
      obtain ⟨A5, f5, h5⟩ := A4.unpin f.pin f.nc
      have fa5 : Fre X W3 φ3 acc := ⟨fa.pin, fa4.w, fa4.mu, fa.nc⟩
      have ag := (B2.trans pt.ag).trans p3.ag
      have O3 := O1.ag ag (h4.trans he1.symm)
      obtain ⟨vs, m, g1, g2, g3⟩ := O3
      have hs := g2.size
      rw [List.length_reverse] at hs
      refine call_meets PySem.F.slot_list_append ⟨_, g1, rfl⟩ PySem.F.entry_list_append (PySem.F.args_list_append_2 _ _) (list_append acc vs m _ (by rw [hs]; exact g3)) ⟨g1, ?_⟩
      have hsb : Heap.SameBut acc s3.heap (s3.heap.update acc (Obj.mapSeq (·.push w'))) := Heap.SameBut.update ..
      obtain ⟨A6, B6, _⟩ := A5.loose fa5 (t := s3.toks) fun b o q e => (hsb.2 b q).trans e
      refine ih hl' e S (ρ := ρ₀.set i (some (.val v))) (fun o => by rw [List.set_set]) A6 f5 (I'.ag (ag.trans B6) ((hsb.2 it (Ne.symm hne)).trans (h5.trans ho.symm))) fa5 hne (r := w :: r) ⟨_, _, Heap.get?_update_self _ g1 rfl, ?_, ?_⟩ (by rw [List.length_cons]; omega) fun W' φ' s' ρ' a a2 b b2 c d => k W' φ' s' ρ' a a2 ((B.trans (ag.trans B6)).trans b) b2 c ?_
      · rw [Array.toList_push, List.reverse_cons]; exact (g2.snoc r3).ag B6
      · rw [List.length_cons]; omega
      · rw [List.reverse_cons, List.append_assoc]; exact d
    · refine ht.go (X := (X.pinned it o).pinned acc (lstO zs n)) e S2 A2 fun W3 φ3 s3 p3 => ?_
      obtain ⟨A4, fa4, h4⟩ := p3.f.unpin fa1.pin fa.nc
      obtain ⟨A5, f5, h5⟩ := A4.unpin f.pin f.nc
      have fa5 : Fre X W3 φ3 acc := ⟨fa.pin, fa4.w, fa4.mu, fa.nc⟩
      have ag := B2.trans p3.ag
      exact ih hl' e S (ρ := ρ₀.set i (some (.val v))) (fun o => by rw [List.set_set]) A5 f5 (I'.ag ag (h5.trans ho.symm)) fa5 hne (O1.ag ag (h4.trans he1.symm)) (by omega) fun W' φ' s' ρ' a a2 b b2 c d => k W' φ' s' ρ' a a2 ((B.trans ag).trans b) b2 c d

open Classical in
noncomputable def pinL (P : Prop) (o : Option Obj) : Option Obj := if P then none else o
theorem pinL_in {P : Prop} {o : Option Obj} (h : P) : pinL P o = none := if_pos h
theorem pinL_out {P : Prop} {o : Option Obj} (h : ¬ P) : pinL P o = o := if_neg h
theorem pinL_some {P : Prop} {o : Option Obj} {b : Obj} (e : pinL P o = some b) : ¬ P ∧ o = some b := by
  by_cases h : P
  · rw [pinL_in h] at e; cases e
  · rw [pinL_out h] at e; exact ⟨h, e⟩
theorem comp_core {ln : Option (Str × Nat)} {elt : Expr} {cs : List Expr} {x : Str} {px : Pos} {i : Nat} {sc : Scope} {pos pos' : Pos} {itx : Expr} {ρ₁ : Loc} {l vs : List V} (hc : CompC fi sc x i) (hln : lnOk fi sc x ln = true) (hlh : lnHas ln ρ₁) (hpl : plainX itx = true) (h2 : CompI G d (fi.inner sc x i) cs elt i ((shrL ln ρ₁).set i none) l vs) (hr : l.length ≤ room)
    {X : FC} {E : Value → Shared → Prop} {s : Shared} {use : Option (Value → Sem Unit)} {Q : Value → Shared → Prop} (e : X.fi = fi) (S : FS G d X) {P : Addr → WS → (Nat → List Addr) → Shared → Prop}
    (h1 : ∀ Q' : Value → Shared → Prop, (∀ it W' φ' s', P it W' φ' s' → At X W' φ' s' ρ₁ → Fre X W' φ' it → ItR W' s'.heap it l → Q' (.ref it) s') → wpAny X.C.M X.A (eval itx X.env) (fun v s₁ => wpAny X.C.M X.A (pyIter v) Q' E s₁) E s)
    (k : ∀ a W1 φ1 s1, P a W1 φ1 s1 → ∀ acc C W' φ' s', At X W' φ' s' ρ₁ → Ag W1 s1.heap W' s'.heap → (∀ x v, Val X.env s1.heap x v → Val X.env s'.heap x v) → (ln = none → ∀ b o, b ≠ a → s1.heap.get? b = some o → s'.heap.get? b = some o) → (s1.heap.get? acc = none ∧ s1.heap.get? C = none ∧ s1.toks ≤ s'.toks) → Fre X W' φ' C → (∃ m, s'.heap.Ns C m) → acc ≠ C → Fre X W' φ' acc → OwnAt W' s'.heap acc vs.reverse → compPost X.C.M X.A E use Q (.ref acc) C (.ok .next) s') :
    wpAny X.C.M X.A (comprehension (.ListComp elt [⟨.Name x px, itx, cs, 0⟩] sc pos) sc X.env pos' (newList []) false (eval itx X.env) use) Q E s := by
  subst e
  obtain ⟨cl, hcl, hcl1, hcl2⟩ := closureFor_ok (env := X.env) (scope := sc) fun y hy q => S.cel y.1 (hc.free (by
    have := hc.names y hy; unfold compName at this; rw [q] at this; exact beq_iff_eq.mp (Bool.and_eq_true_iff.mp this).1))
  refine wpAny_comprehension_free (g := ⟨.Name x px, itx, cs, 0⟩) (gs := []) rfl (noSet hpl X.env) hcl hc.kind hc.local ?_
  refine h1 _ fun a W1 φ1 s1 p0 p1 f1 I1 => wpAny_newObj_type ?_
  refine wpAny_newFunctionEnv hc.cell (by intro y hy; cases hy) (fun h3 hns hsb => ?_) hc.kind
  generalize hh2 : s1.heap.push { cls := .type "list", data := .seq ([] : List Value).toArray } = h2' at hns hsb ⊢
  have hz2 : h2'.objs.size = s1.heap.objs.size + 1 := by rw [← hh2]; exact Heap.size_push ..
  have hk2 : ∀ b o, s1.heap.get? b = some o → h2'.get? b = some o := fun b o q => by rw [← hh2]; exact Heap.get?_push_of_some _ q
  have hk3 : ∀ b o, h2'.get? b = some o → h3.get? b = some o := fun b o q => (hsb.2 b (fun z => absurd (Heap.lt_size q) (by rw [z]; exact Nat.lt_irrefl _))).trans (Heap.get?_push_of_some _ q)
  have ha3 : h3.get? s1.heap.objs.size = some (lstO ([] : List Value).toArray 0) := hk3 _ _ (by rw [← hh2]; exact Heap.get?_push_size _ rfl)
  have g3 : Gs W1 s1 W1 { s1 with heap := h3, toks := s1.toks + ([] : List (Str × Value)).length } := Gs.of p1.f.wf fun b o q => hk3 b o (hk2 b o q)
  have F3 := p1.gs g3
  have n1 : s1.heap.get? s1.heap.objs.size = none := fresh_size _
  have n2 : s1.heap.get? h2'.objs.size = none := none_of_le (by rw [hz2]; exact Nat.le_succ _)
  have fa : Fre X W1 φ1 s1.heap.objs.size := .of p1 n1
  have fC : Fre X W1 φ1 h2'.objs.size := .of p1 n2
  obtain ⟨io, hio⟩ := I1.at
  have ita : s1.heap.objs.size ≠ a := fun q => by rw [q, hio] at n1; cases n1
  have itC : a ≠ h2'.objs.size := fun q => by rw [← q, hio] at n2; cases n2
  have aC : s1.heap.objs.size ≠ h2'.objs.size := by rw [hz2]; exact Nat.ne_of_lt (Nat.lt_succ_self _)
  -- the comprehension's frame
  generalize hce : ({ newEnv sc h2'.objs.size X.env.globals cl X.env.qual none .none (some X.env) builtinsNs with scope := relabel sc X.env } : Env) = cenv
  have cL : cenv.locals = h2'.objs.size := by rw [← hce]; rfl
  have cC : cenv.cells = cl := by rw [← hce]; rfl
  have cN : cenv.scope.names = relab X.fi.names sc.names := by rw [← hce]; exact relabel_names sc S.fn S.nm
  let Y : FC := ⟨X.C, X.A, cenv, X.fi.inner sc x i, fun b => pinL ((b = s1.heap.objs.size ∨ b = h2'.objs.size ∨ b = a) ∨ ∃ j, b ∈ lentφ ln φ1 j) (h3.get? b), W1, false, fun _ => none⟩
  have pinY : ∀ b o, s1.heap.get? b = some o → b ≠ a → (∀ j, b ∉ lentφ ln φ1 j) → Y.pin b = some o := fun b o q z zl => by
    have e1 : ¬ ((b = s1.heap.objs.size ∨ b = h2'.objs.size ∨ b = a) ∨ ∃ j, b ∈ lentφ ln φ1 j) := by
      rintro ((w | w | w) | ⟨j, w⟩)
      · rw [w, n1] at q; cases q
      · rw [w, n2] at q; cases q
      · exact z w
      · exact zl j w
    exact (pinL_out e1).trans (hk3 b o (hk2 b o q))
  have cellv : ∀ y c, cl.lookup y = some c → ∃ o v, h3.get? c = some o ∧ o.data = .cell v := fun y c q => F3.f.cells y c (hcl1 y c q)
  have SY : FS G d Y := by
    refine ⟨S.g, fun b o q => pinY b o (p1.keep S b o q) (fun z => ?_) fun j z => ?_, S.hd, S.dp, S.un, ?_, ?_, ?_, cN, fun y q => ?_, ?_, ?_, fun _ _ q => (by cases q)⟩
    · have := S.base b o q; rw [z, f1.pin] at this; cases this
    · have := S.base b o q; rw [(p1.f.mu b (.inr (.inr ⟨j, (lentφ_of z).2⟩))).1] at this; cases this
    · show cenv.scope.kind = _; rw [← hce]; exact hc.kind
    · show cenv.globals = _; rw [← hce]; exact S.gl
    · show cenv.builtins = _; rw [← hce]; exact S.bi
    · show ∃ c, cenv.cells.lookup y = some c
      rw [cC]; exact Option.isSome_iff_exists.mp (hcl2 (y, .free) (mem_of_lookup (hc.cells q)) rfl)
    · intro y z c hy hz
      have hy : cenv.cells.lookup y = some c := hy
      have hz : cenv.cells.lookup z = some c := hz
      rw [cC] at hy hz
      exact S.inj y z c (hcl1 y c hy) (hcl1 z c hz)
    · intro y z j hy hz
      have hy : ((x, i) :: X.fi.tbl).lookup y = some j := hy
      have hz : ((x, i) :: X.fi.tbl).lookup z = some j := hz
      rw [List.lookup_cons] at hy hz
      split at hy <;> split at hz
      · rename_i q1 _ q2; rw [beq_iff_eq.mp q1, beq_iff_eq.mp q2]
      · cases hy; exact absurd rfl (hc.new z _ hz)
      · cases hz; exact absurd rfl (hc.new y _ hy)
      · exact S.ti y z j hy hz
  have FY : At Y W1 (lentφ ln φ1) { s1 with heap := h3, toks := s1.toks + ([] : List (Str × Value)).length } ((shrL ln ρ₁).set i none) := by
    refine ⟨F3.gens, F3.os, ⟨fun b o q => (pinL_some q).2, ?_, F3.f.wf, fun _ _ _ q => q, fun j k b q q' => F3.f.dis j k b (lentφ_of q).2 (lentφ_of q').2, ?_, fun y c q => ?_⟩, fun y j hy o ho hkd => ?_, fun j b q => ?_, F3.tk, fun _ _ q => (by cases q)⟩
    · rintro b (q | ⟨q, _⟩ | ⟨j, q⟩)
      · have q : b = h2'.objs.size := q.trans cL
        exact ⟨pinL_in (.inl (.inr (.inl q))), fun w => fC.w (q ▸ w)⟩
      · cases q
      · exact ⟨pinL_in (.inr ⟨j, q⟩), (F3.f.mu b (.inr (.inr ⟨j, (lentφ_of q).2⟩))).2⟩
    · obtain ⟨o, es, ep, e1, e2, e3, _⟩ := hns
      exact ⟨o, es, ep, (show h3.get? cenv.locals = _ by rw [cL]; exact e1), e2, e3⟩
    · have q : cenv.cells.lookup y = some c := q
      rw [cC] at q; exact cellv y c q
    · have hy : ((x, i) :: X.fi.tbl).lookup y = some j := hy
      have hkd : (X.fi.inner sc x i).names.lookup y ≠ none := by
        have hkd : cenv.kindOf y ≠ none := hkd
        unfold Env.kindOf at hkd; rw [cN] at hkd; exact hkd
      rw [List.lookup_cons] at hy
      split at hy
      · cases hy
        rw [List.getElem?_set] at ho
        split at ho
        · split at ho <;> cases ho
        · rename_i q; exact absurd rfl q
      · rename_i q
        have hj : j ≠ i := hc.new y j hy
        rw [List.getElem?_set_ne (Ne.symm hj)] at ho
        obtain ⟨ho2, hlv⟩ := shrL_get ho
        have hfree := hc.isFree (fun e => by rw [e, beq_self_eq_true] at q; cases q) hy hkd
        have hout := hc.free hfree
        have hk2 : X.env.kindOf y ≠ none := by rw [S.kind]; rcases hout with z | z <;> rw [z] <;> simp
        obtain ⟨v', a1, a2⟩ := F3.lr y j hy _ ho2 hk2
        refine ⟨v', ?_, ?_⟩
        rotate_left
        · by_cases zl : lentI ln j
          · rw [lentφ_in zl]; exact a2
          · obtain ⟨v, rfl⟩ := hlv.resolve_left zl
            rw [lentφ_out zl]; exact ⟨rfl, a2.2⟩
        rcases a1 with ⟨b1, _⟩ | ⟨b1, c, b2, b3⟩
        · rw [S.kind] at b1; rcases hout with z | z <;> rw [z] at b1 <;> cases b1
        · have hcy : cl.lookup y = some c := by
            obtain ⟨c', hc'⟩ := Option.isSome_iff_exists.mp (hcl2 (y, .free) (mem_of_lookup hfree) rfl)
            have := hcl1 y c' hc'
            rw [b2] at this; cases this; exact hc'
          refine .inr ⟨?_, c, (show cenv.cells.lookup y = _ by rw [cC]; exact hcy), b3⟩
          show cenv.kindOf y = _ ∨ cenv.kindOf y = _
          unfold Env.kindOf; rw [cN, relab_lookup, hfree]
          by_cases z : (NameKind.free == NameKind.free && X.fi.names.lookup y == some .cell) = true
          · left; exact congrArg some (if_pos z)
          · right; exact congrArg some (if_neg z)
    · obtain ⟨o, e, n, _⟩ := F3.ow j b (lentφ_of q).2
      refine ⟨o, e, n, fun z => ?_⟩
      have z : b = h2'.objs.size := z.trans cL
      obtain ⟨o2, e2, _⟩ := p1.ow j b (lentφ_of q).2
      rw [z, n2] at e2; cases e2
  have fY : ∀ b, Fre X W1 φ1 b → (b = s1.heap.objs.size ∨ b = h2'.objs.size ∨ b = a) → b ≠ h2'.objs.size → Fre Y W1 (lentφ ln φ1) b := fun b f q hb => by
    refine ⟨pinL_in (.inl q), f.w, ?_, fun y z => ?_⟩
    · rintro (z | ⟨z, _⟩ | ⟨j, z⟩)
      · exact hb (z.trans cL)
      · cases z
      · exact f.mu (.inr (.inr ⟨j, (lentφ_of z).2⟩))
    · have z : cenv.cells.lookup y = some b := z
      rw [cC] at z
      exact f.nc y (hcl1 y b z)
  have I3 : ItR W1 h3 a l := I1.ag (g3.g.ag p1.f.wf) ((hk3 _ _ (hk2 _ _ hio)).trans hio.symm)
  have O3 : OwnAt W1 h3 s1.heap.objs.size [] := ⟨_, _, ha3, rfl, Nat.zero_le _⟩
  have hxl : (X.fi.inner sc x i).names.lookup x = some .local := by
    show (relab _ _).lookup x = _
    rw [relab_lookup, hc.own]; rfl
  have hxo : (X.fi.inner sc x i).isOwn x i = true := by
    unfold FI.isOwn
    rw [hxl, show (X.fi.inner sc x i).tbl.lookup x = some i by show List.lookup x ((x, i) :: _) = _; rw [List.lookup_cons, beq_self_eq_true], beq_self_eq_true]; rfl
  have loop : codeAny X.C.M X.A (.compLoop (.ListComp elt [⟨.Name x px, itx, cs, 0⟩] sc pos) 0 (.ref a) (.ref s1.heap.objs.size) cenv) (compPost X.C.M X.A E use Q (.ref s1.heap.objs.size) h2'.objs.size) { s1 with heap := h3, toks := s1.toks + ([] : List (Str × Value)).length } := by
    refine codeAny_with_toks (Nat.le_refl _) ?_
    refine comp_loop hxo hxl h2 (X := Y) rfl SY (fun _ => rfl) FY (fY a f1 (.inr (.inr rfl)) itC) I3 (fY _ fa (.inl rfl) aC) ita O3 (by simpa using hr) fun W' φ' s' ρ' A' hρ' B' f' fa' O' => ?_
    have A2 := A'.f
    obtain ⟨φ2, A5, B4, V4, nm⟩ := p1.backL (ln := ln) (W' := W') (s' := s') (φ' := φ') f1 A'.gens A'.os A'.tk (fun b o q q2 z => A2.pin b o (pinY b o z q q2)) (fun b q => B'.w b q) A2.wf (fun b o q q2 z w => A2.w0 b o (pinY b o z q q2) w) (fun y j hj => by
      subst hj
      have hln : (X.fi.tbl.lookup y == some j && sc.names.lookup y == some .free && y != x) = true := hln
      simp only [Bool.and_eq_true, beq_iff_eq, bne_iff_ne, ne_eq] at hln
      obtain ⟨⟨ly, lf⟩, lx⟩ := hln
      obtain ⟨o, ho⟩ := hlh
      have ho : slot ρ₁ j = some o := ho
      have hji : j ≠ i := hc.new y j ly
      have hout := hc.free lf
      have hk2 : X.env.kindOf y ≠ none := by rw [S.kind]; rcases hout with z | z <;> rw [z] <;> simp
      obtain ⟨v', a1, a2⟩ := p1.lr y j ly o (slot_some ho) hk2
      refine ⟨fun z hz => S.ti z y j hz ly, o, v', slot_some ho, a1, ?_, fun b q => ⟨(A2.mu b (.inr (.inr ⟨j, q⟩))).2, fun z => f'.mu (.inr (.inr ⟨j, z ▸ q⟩)), ?_⟩⟩
      · have hr : ρ'[j]? = some (some o) := by
          have := congrArg (·[j]?) (hρ' none)
          rw [List.getElem?_set_ne (Ne.symm hji), List.set_set, List.getElem?_set_ne (Ne.symm hji)] at this
          rw [this]
          show ((shr ρ₁).set j (slot ρ₁ j))[j]? = _
          have hlt := (List.getElem?_eq_some_iff.mp (slot_some ho)).1
          rw [List.getElem?_set_self (by unfold shr; rwa [List.length_map]), ho]
        have hty : Y.fi.tbl.lookup y = some j := by
          show ((x, i) :: X.fi.tbl).lookup y = _
          rw [List.lookup_cons, beq_eq_false_iff_ne.mpr lx]; exact ly
        have hky : Y.env.kindOf y = some .cell ∨ Y.env.kindOf y = some .free := by
          show cenv.kindOf y = _ ∨ cenv.kindOf y = _
          unfold Env.kindOf; rw [cN, relab_lookup, lf]
          by_cases z : (NameKind.free == NameKind.free && X.fi.names.lookup y == some .cell) = true
          · left; exact congrArg some (if_pos z)
          · right; exact congrArg some (if_neg z)
        obtain ⟨u, u1, u2⟩ := A'.lr y j hty o hr (by rcases hky with z | z <;> rw [z] <;> simp)
        have : u = v' := by
          rcases a1 with ⟨b1, _⟩ | ⟨b1, c, b2, ⟨o1, b3, b4⟩⟩
          · rw [S.kind] at b1; rcases hout with z | z <;> rw [z] at b1 <;> cases b1
          · rcases u1 with ⟨d1, _⟩ | ⟨d1, c', d2, ⟨o2, d3, d4⟩⟩
            · rcases hky with z | z <;> rw [z] at d1 <;> cases d1
            · have d2 : cenv.cells.lookup y = some c' := d2
              rw [cC] at d2
              have := hcl1 y c' d2
              rw [b2] at this; cases this
              have := A2.pin c o1 (pinY c o1 b3 (fun z => f1.nc y (z ▸ b2)) fun k z => by
                obtain ⟨o3, z1, z2, _⟩ := p1.ow k c (lentφ_of z).2
                rw [b3] at z1; cases z1; exact z2 _ b4)
              rw [d3] at this; cases this
              rw [b4] at d4; cases d4; rfl
        rw [← this]; exact u2
      · by_cases z : b ∈ φ1 j
        · exact .inl z
        · refine .inr ?_
          cases e : s1.heap.get? b with
          | none => rfl
          | some o2 =>
            have := pinY b o2 e (fun z => f'.mu (.inr (.inr ⟨j, z ▸ q⟩))) fun k w => by
              obtain ⟨w1, w2⟩ := lentφ_of w
              have w1 : k = j := w1
              exact z (w1 ▸ w2)
            rw [(A2.mu b (.inr (.inr ⟨j, q⟩))).1] at this; cases this)
    intro tle
    refine k a W1 φ1 s1 p0 _ _ W' φ2 s' A5 B4 V4 (fun hn b o q z => A2.pin b o (pinY b o z q fun j w => by subst hn; exact (lentφ_of w).1)) ⟨n1, n2, tle⟩ (nm _ fC (A2.mu _ (.inl cL.symm)).2 fun y j _ q => by
      obtain ⟨_, _, _, z⟩ := A'.ow j _ q; exact z cL.symm) ?_ aC (nm _ fa fa'.w fun y j _ q => fa'.mu (.inr (.inr ⟨j, q⟩))) (by rw [List.append_nil] at O'; exact O')
    obtain ⟨o, es, ep, e1, e2, e3⟩ := A2.ns
    have e1 : s'.heap.get? cenv.locals = some o := e1
    rw [cL] at e1
    exact ⟨fun y => nsFind es y, o, es, ep, e1, e2, e3, fun _ => rfl⟩
  exact codeAny_compStart_list loop (I3.self (s := { s1 with heap := h3, toks := s1.toks + ([] : List (Str × Value)).length }) loop)
theorem comp_left {X : FC} {W W' : WS} {φ' : Nat → List Addr} {s s' : Shared} {ρ₁ : Loc} {C acc : Addr} {r : List V} {h' : Heap} (p : Pst X W s W' φ' s' ρ₁) (fC : Fre X W' φ' C) (hne : acc ≠ C) (fa : Fre X W' φ' acc) (O : OwnAt W' s'.heap acc r) (hs : Heap.SameBut C s'.heap h') :
    Pst X W s W' φ' { s' with heap := h' } ρ₁ ∧ RO X W' φ' h' (.own r) (.ref acc) := by
  obtain ⟨A, B, V⟩ := p.f.loose fC (t := s'.toks) fun b o q e => (hs.2 b q).trans e
  refine ⟨⟨A, p.ag.trans B, fun x v q => V x v (p.vl x v q)⟩, [acc], ⟨acc, rfl, rfl, O.ag B (hs.2 acc hne)⟩, fun b q => ?_⟩
  cases List.mem_singleton.mp q
  exact ⟨fa.w, fa.mu, fa.pin⟩
noncomputable def CompT (G : Gl) (d : Nat) (fi : FI) (ln : Option (Str × Nat)) (cs : List Expr) (elt : Expr) (i : Nat) (l : List V) (ρ : Loc) (vs : List V) : Prop := Option.casesOn ln (CompI G d fi cs elt i ((shr ρ).set i none) l vs ∧ l.length ≤ room) fun p => CompI G d fi cs elt i (((shr ρ).set p.2 (slot ρ p.2)).set i none) l vs ∧ l.length ≤ room ∧ ∃ o, slot ρ p.2 = some o
theorem CompT.to {fi : FI} {ln : Option (Str × Nat)} {cs : List Expr} {elt : Expr} {i : Nat} {l : List V} {ρ : Loc} {vs : List V} (h : CompT G d fi ln cs elt i l ρ vs) : CompI G d fi cs elt i ((shrL ln ρ).set i none) l vs ∧ l.length ≤ room ∧ lnHas ln ρ := by
  cases ln with
  | none => exact ⟨h.1, h.2, trivial⟩
  | some p => exact h
noncomputable def evComp (ln : Option (Str × Nat)) (it : It G d fi) (cs : List Expr) (elt : Expr) (fi' : FI) (i : Nat) (σ : St) : Option (O × St) := bd (it.ev σ) fun l σ => told Tk.vs? (fun ρ vs => CompT G d fi' ln cs elt i l ρ vs) (fun vs => O.own vs.reverse) (fun _ ρ => ρ) σ
theorem evComp_ok {ln : Option (Str × Nat)} {it : It G d fi} {cs : List Expr} {elt : Expr} {fi' : FI} {i : Nat} : Ok (evComp ln it cs elt fi' i) fun ρ o ρ' => ∃ l vs, ItG G d fi it.x ρ l ρ' ∧ CompT G d fi' ln cs elt i l ρ' vs ∧ o = .own vs.reverse :=
  it.eo.bd (R := fun l ρ o ρ' => ∃ vs, CompT G d fi' ln cs elt i l ρ vs ∧ o = .own vs.reverse ∧ ρ = ρ') (fun l => .told fun vs ρ q => ⟨vs, q, rfl, rfl⟩) fun _ l _ _ _ h q => by
    obtain ⟨vs, q1, q2, rfl⟩ := q; exact ⟨l, vs, h, q1, q2⟩
noncomputable def eCompW (ln : Option (Str × Nat)) (x : Str) (i : Nat) (px : Pos) (it : It G d fi) (sc : Scope) (cs : List Expr) (elt : T G d (fi.inner sc x i)) (pos : Pos) (h : compOk fi sc x i = true) (hln : lnOk fi sc x ln = true) : T G d fi :=
  .mk' (.ListComp elt.x [⟨.Name x px, it.x, cs, 0⟩] sc pos) (evComp ln it cs elt.x (fi.inner sc x i) i) rfl (evComp_ok.mono fun ρ o ρ' q X E W φ s e S F Q k => by
    obtain ⟨l, vs, h1, h2, rfl⟩ := q
    rw [eval_ListComp]
    refine comp_core (ln := ln) (use := none) (P := fun _ W1 φ1 s1 => Pst X W s W1 φ1 s1 ρ') (.of h) hln h2.to.2.2 it.pl h2.to.1 h2.to.2.1 e S (fun Q' k' => h1 X E W φ s e S F Q' fun a W1 φ1 s1 p f I => k' a W1 φ1 s1 p p.f f I) fun a W1 φ1 s1 p1 acc C W' φ' s' A' B' V' _ _ fC hn hne fa O => ?_
    have p : Pst X W s W' φ' s' ρ' := ⟨A', p1.ag.trans B', fun y v q => V' y v (p1.vl y v q)⟩
    obtain ⟨m, hn⟩ := hn
    refine ⟨m, hn, fun h' hs => ?_⟩
    obtain ⟨p2, r⟩ := comp_left p fC hne fa O hs
    exact k _ _ _ _ p2 r) fun _ => rfl
noncomputable def sAsgI (y : Str) (j : Nat) (p' p : Pos) (x : Str) (i : Nat) (px : Pos) (it : It G d fi) (sc : Scope) (cs : List Expr) (elt : T G d (fi.inner sc x i)) (pos : Pos)
    (h : (compOk fi sc x i && fi.isOwn y j && (fi.names.lookup y == some .local && p'.line == pos.line && !(sc.names.any fun (n, k) => n == y && (k == .local || k == .cell)))) = true) : SS G d fi :=
  ⟨.Assign [.Name y p'] (.ListComp elt.x [⟨.Name x px, it.x, cs, 0⟩] sc pos) p, fun σ => bd (evComp none it cs elt.x (fi.inner sc x i) i σ) fun o σ => setL j o σ,
  evComp_ok.bd (R := fun o ρ fl ρ' => fl = .next ∧ ρ' = ρ.set j (some o)) (fun _ => .setL fun _ => ⟨rfl, rfl⟩) fun ρ o ρ₁ fl ρ' q q' X E W φ s e c S F Q k => by
    obtain ⟨l, vs, h1, h2, rfl⟩ := q
    obtain ⟨rfl, rfl⟩ := q'
    rw [Bool.and_eq_true, Bool.and_eq_true] at h
    have hsw : swapsWith (.ListComp elt.x [⟨.Name x px, it.x, cs, 0⟩] sc pos) (some (.Name y p')) p.line X.env = pure true := by
      show (pure (X.env.blockKind == .function && X.env.kindOf y == some .local && p'.line == pos.line && !(sc.names.any fun (n, k) => n == y && (k == .local || k == .cell))) : Sem Bool) = _
      rw [S.kind, e, show X.env.blockKind = .function by unfold Env.blockKind; rw [S.fn]; rfl, beq_self_eq_true, Bool.true_and, h.2]
    rw [exec_Assign_Name_used _ _ _ _ hsw]
    refine wpAny_bind (wpAny_standAt (wpAny_bind ?_))
    show wpAny _ X.A (do let _ ← comprehension (.ListComp elt.x [⟨.Name x px, it.x, cs, 0⟩] sc pos) sc X.env _ (newList []) false (eval it.x X.env) (some (assign (.Name y p') X.env))) _ _ s
    refine wpAny_bind (wpAny_mono (comp_core (use := some (assign (.Name y p') X.env)) (Q := fun _ s' => Q .next s') (ln := none) (P := fun _ W1 φ1 s1 => Pst X W s W1 φ1 s1 ρ₁) (.of h.1.1) rfl trivial it.pl h2.1 h2.2 e S (fun Q' k' => h1 X E W φ s e S F Q' fun a W1 φ1 s1 p f I => k' a W1 φ1 s1 p p.f f I) fun a W1 φ1 s1 p1 acc C W' φ' s' A' B' V' _ _ fC hn hne fa O => ?_) (fun _ s' hq => wpAny_pure (wpAny_pure hq)) fun _ _ e => e)
    have p2 : Pst X W s W' φ' s' ρ₁ := ⟨A', p1.ag.trans B', fun y v q => V' y v (p1.vl y v q)⟩
    obtain ⟨m, hn⟩ := hn
    obtain ⟨o, es, ep, e1, e2, e3, _⟩ := hn
    show wpAny _ X.A (assign (.Name y p') X.env (.ref acc)) _ _ _
    have ro : RO (X.pinned C o) W' φ' s'.heap (.own vs.reverse) (.ref acc) := ⟨[acc], ⟨acc, rfl, rfl, O⟩, fun b q => by cases List.mem_singleton.mp q; exact ⟨fa.w, fa.mu, by rw [FC.pinned_ne hne]; exact fa.pin⟩⟩
    refine wpAny_assign_Name (store_ok (X := X.pinned C o) (S.pinned fC.pin) (.inr c) (p2.f.pinned fC e1) ro (show X.fi.isOwn y j = true by rw [e]; exact h.1.2) fun φ2 s2 A B => ?_)
    obtain ⟨A2, fC2, e4⟩ := A.unpin fC.pin fC.nc
    refine ⟨fun y => nsFind es y, ⟨o, es, ep, e4, e2, e3, fun _ => rfl⟩, fun h' hs => ?_⟩
    obtain ⟨A3, B3, _⟩ := A2.loose fC2 (t := s2.toks) fun b o q e => (hs.2 b q).trans e
    exact k _ _ _ _ A3 ((p2.ag.trans B).trans B3) rfl⟩
noncomputable def sAsgC (y : Str) (j : Nat) (p' p : Pos) (x : Str) (i : Nat) (px : Pos) (it : It G d fi) (sc : Scope) (elt : T G d (fi.inner sc x i)) (pos : Pos)
    (h : (compOk fi sc x i && fi.isOwn y j && (fi.names.lookup y == some .local && p'.line == pos.line && !(sc.names.any fun (n, k) => n == y && (k == .local || k == .cell)))) = true) : SS G d fi := sAsgI y j p' p x i px it sc [] elt pos h
end
end Mine
end

section
open PySem
set_option autoImplicit false
set_option linter.unusedVariables false
namespace Mine
open PySem.W (Frag kitOne keepIn Looks)

theorem texts_reads {W : WS} {h : Heap} : ∀ {l : List V} {l' : List Value} {ss : List (List Nat)}, VRs W h l l' → textsOf l = some ss → (∃ as, ReadsAll h l' (ss.map fun z => PyData.str ⟨z.toArray⟩) as) ∧ PyData.canLayAll0 (ss.map fun z => PyData.str ⟨z.toArray⟩) = true ∧ PyData.depthAll (ss.map fun z => PyData.str ⟨z.toArray⟩) = 0
  | [], _, _, r, e => by cases r; cases e; exact ⟨⟨_, .nil⟩, rfl, rfl⟩
  | v :: l, _, _, r, e => by
    obtain ⟨v', r', rfl, rv, rl⟩ := VRs.inv r
    obtain ⟨z, e1, e⟩ := Option.bind_eq_some_iff.mp e
    obtain ⟨t, e2, e⟩ := Option.bind_eq_some_iff.mp e
    cases e
    rw [V.str_of e1] at rv
    obtain ⟨tk, rfl, ok, _⟩ := rv
    obtain ⟨⟨as, a⟩, b, c⟩ := texts_reads rl e2
    refine ⟨⟨_, .cons (.str _ tk) a⟩, ?_, ?_⟩
    · show (PyData.canLay0 (.str ⟨z.toArray⟩) && PyData.canLayAll0 _) = true
      rw [b, Bool.and_true]; simpa [PyData.canLay0] using ok
    · show max (PyData.depth (.str ⟨z.toArray⟩)) (PyData.depthAll _) = 0
      rw [c]; rfl
section
variable {G : Gl} {d : Nat} {fi : FI}
noncomputable def kIn (x : V) (y : O) : Option (Bool × List Prop) := y.val?.bind fun y => x.str?.bind fun z => y.tup?.bind fun l => (textsOf l).bind fun ss => some (ss.any fun t => t == z, [])
theorem primIn : PrimC G d .In kIn := by
  intro x y t ps e q X E W φ s ρ S F x' y' rx ry Q k
  obtain ⟨v, e1, e⟩ := Option.bind_eq_some_iff.mp e
  obtain ⟨z, e2, e⟩ := Option.bind_eq_some_iff.mp e
  obtain ⟨l, e3, e⟩ := Option.bind_eq_some_iff.mp e
  obtain ⟨ss, e4, e⟩ := Option.bind_eq_some_iff.mp e
  cases e; rw [O.val_of e1, V.tup_of e3] at ry; rw [V.str_of e2] at rx
  obtain ⟨tk, rfl, ok, _⟩ := rx
  obtain ⟨a, vs, n, rfl, _, h1, h2, h3⟩ := VR.tup ry
  obtain ⟨⟨as, ra⟩, b, c⟩ := texts_reads h3 e4
  refine SeqAt.in_tuple_reads (.tuple h1 rfl rfl ra) (.str _ tk) b (by simpa [PyData.canLay0] using ok) (by rw [c]; have := S.u; simp; omega) ?_
  have he : (ss.map fun z => PyData.str ⟨z.toArray⟩).any (fun y => PyData.eqv y (.str ⟨z.toArray⟩)) = ss.any fun t => t == z := by
    rw [List.any_map]
    congr 1
    funext t
    show PyData.eqv (.str ⟨t.toArray⟩) (.str ⟨z.toArray⟩) = (t == z)
    by_cases q : t = z
    · subst q; simp [PyData.eqv]
    · have q' : (t == z) = false := by simpa using q
      rw [q']
      simp [PyData.eqv, q]
  rw [he]; exact k s.toks (Nat.le_refl _)
noncomputable def eIn : T G d fi → T G d fi → Pos → T G d fi := eCmp .In kIn primIn

noncomputable def eTell (a : T G d fi) : T G d fi :=
  have eo : Ok (fun σ => bd (a.ev σ) fun o σ => told Tk.r? (fun _ o' => o = o') id (fun _ ρ => ρ) σ) (EvG G d fi a.x) := a.eo.bd (R := fun o ρ o' ρ' => o = o' ∧ ρ = ρ') (fun o => Ok.told (f := Tk.r?) (p := fun _ o' => o = o') (r := id) (ρ := fun _ ρ => ρ) fun o' ρ q => ⟨q, rfl⟩) fun _ _ _ _ _ h q => by
    obtain ⟨rfl, rfl⟩ := q; exact h
  ⟨a.x, _, a.pk, a.tr, a.pl, eo, a.po, a.to⟩

noncomputable def namesAt (p : Program) (k : Nat) : List (Str × NameKind) := match p.main.body[k]? with
  | some (.FunctionDef _ _ _ _ _ _ sc _ _ _) => sc.names
  | _ => []
noncomputable def bodyAt (p : Program) (k : Nat) : List Stmt := match p.main.body[k]? with
  | some (.FunctionDef _ _ b _ _ _ _ _ _ _) => b
  | _ => []
noncomputable def obs {α : Type} (r : Option (α × St)) : List Prop := Option.casesOn r [] fun p => p.2.ob
noncomputable def out {α : Type} (r : Option (α × St)) : Option (α × Loc × List Tk) := r.bind fun p => some (p.1, p.2.ρ, p.2.tp)
theorem Ok.run {α : Type} {f : St → Option (α × St)} {S : Loc → α → Loc → Prop} (h : Ok f S) {ρ ρ' : Loc} {tp : List Tk} {a : α} {P : Prop} (e : out (f ⟨ρ, tp, []⟩) = some (a, ρ', [])) (o : All (obs (f ⟨ρ, tp, []⟩)) = P) (p : P) : S ρ a ρ' := by
  subst o
  obtain ⟨⟨a', ρ2, tp2, ob2⟩, e1, e2⟩ := Option.bind_eq_some_iff.mp e
  cases e2
  have : All ob2 := by rw [e1] at p; exact p
  exact (h _ _ _ e1 this).2
end
end Mine
end

section
open PySem PySem.W
set_option autoImplicit false
set_option linter.unusedVariables false
namespace Mine
open PySem.W (Frag kitOne keepIn Looks)

theorem items_ints {R : WRecords} : ∀ {xs : List WData}, WShape.hasItems R xs .int = true → ∃ ns : List Int, xs = ns.map .int
  | [], _ => ⟨[], rfl⟩
  | x :: xs, h => by
    simp only [WShape.hasItems, Bool.and_eq_true] at h
    obtain ⟨i, rfl⟩ := hasW_int h.1
    obtain ⟨ns, rfl⟩ := items_ints h.2
    exact ⟨i :: ns, rfl⟩
theorem law_args {l : OpenLaw} (hm : l.most = some 63) (hb : l.bound = none) {args : List WData} (hpre : l.row.toRowW.claim.pre args = true) : ∃ ns : List Int, args = [.list (ns.map .int)] ∧ ns.length ≤ 63 := by
  obtain ⟨h1, h2⟩ := pre_splitW hpre
  obtain ⟨d, r, rfl, h3, h4⟩ := hasAllW_cons (e := .list .int) (es := []) h1
  obtain rfl := hasAllW_nil h4
  obtain ⟨xs, rfl, h5⟩ := hasW_list h3
  obtain ⟨ns, rfl⟩ := items_ints h5
  refine ⟨ns, rfl, ?_⟩
  have h2' : l.pre.holds [] { args := [.list (ns.map .int)] } = true := h2
  unfold OpenLaw.pre at h2'
  rw [hm, hb] at h2'
  by_cases q : ns.length ≤ 63
  · exact q
  · exfalso
    have hl : less? (WData.int 63) (WData.int (ns.length : Int)) = some true := by
      simp [less?, Num.less?]; omega
    simp [WTm.holds, WTm.value, hl] at h2'
theorem reads_ints {W : WS} {h : Heap} {P : Params} : ∀ {ns : List Int} {vs : List Value}, WellAll P h vs (ns.map .int) → VRs W h (ns.map .int) vs
  | [], _, .nil => rfl
  | n :: ns, _, .cons h r => by cases h with | int i t => exact .cons ⟨t, rfl⟩ (reads_ints r)

noncomputable def codeChk (K : Frag) (cd : Value) (q : Str) : Bool := match cd with
  | .ref c => (match K.lookup c with
    | some o => (match o.data with
      | .fields vs => (match (vs[1]? : Option Value) with
        | some (.str z _) => z == q
        | _ => false)
      | _ => false)
    | none => false)
  | _ => false
theorem codeChk_of {K : Frag} {h : Heap} (X : K.In h) {cd : Value} {q : Str} (e : codeChk K cd q = true) : h.CodeRec cd q := by
  unfold codeChk at e
  split at e
  · split at e
    · rename_i o ho
      split at e
      · rename_i vs hd
        split at e
        · rename_i z t hz
          rw [beq_iff_eq.mp e] at hz
          exact ⟨_, o, vs, t, rfl, X _ _ ho, hd, hz⟩
        · cases e
      · cases e
    · cases e
  · cases e
noncomputable def fdOf (K : Frag) (a : Addr) : Option FuncData := (K.lookup a).bind fun o => match o.data with
  | .func fd => some fd
  | _ => none
noncomputable def fdChk (K : Frag) (f : FD) (fd : FuncData) : Bool :=
  fd.closure.isEmpty && fd.globals == mainGlobals && fd.builtins == builtinsNs && !fd.scope.isCoroutine && !fd.scope.isGenerator && fd.scope.kind == .function && codeChk K fd.code fd.qualname &&
  fd.params.posonlyargs.isEmpty && fd.params.args.map (·.arg) == f.ps && fd.params.vararg.isNone && fd.params.kwonlyargs.isEmpty && fd.params.kwarg.isNone && fd.defaults == .none &&
  decide f.ps.Nodup && (f.ps.all fun p => f.fi.names.lookup p == some .local || f.fi.names.lookup p == some .cell) && (f.fi.names.all fun x => x.2 != .free) &&
  (f.ps.zipIdx.all fun x => f.fi.tbl.lookup x.1 == some x.2) && decide ((f.fi.tbl.map (·.2)).Nodup)
noncomputable def bodyIs (K : Frag) (a : Addr) : Option (FuncBody × List (Str × NameKind)) := (fdOf K a).bind fun fd => some (fd.body, fd.scope.names)
structure FnAt (K : Frag) (a : Addr) (f : FD) : Prop where
  body : bodyIs K a = some (.stmts f.st, f.fi.names)
  chk : (Option.casesOn (fdOf K a) false fun fd => fdChk K f fd : Bool) = true
theorem zip_lookup : ∀ (ps : List Str) (vals : List Value), ps.Nodup → vals.length = ps.length → (ps.filterMap fun n => ((ps.zip vals).lookup n).map (n, ·)) = ps.zip vals := by
  have key : ∀ (ps : List Str) (vals : List Value) (pre : List (Str × Value)), (∀ p ∈ ps, pre.lookup p = none) → ps.Nodup → vals.length = ps.length → (ps.filterMap fun n => ((pre ++ ps.zip vals).lookup n).map (n, ·)) = ps.zip vals := by
    intro ps
    induction ps with
    | nil => intro vals pre _ _ _; rfl
    | cons p ps ih =>
      intro vals pre hpre hn hl
      cases vals with
      | nil => cases hl
      | cons v vals =>
        rw [List.zip_cons_cons, List.filterMap_cons]
        have e : ((pre ++ (p, v) :: ps.zip vals).lookup p).map (p, ·) = some (p, v) := by
          rw [List.lookup_append, hpre p List.mem_cons_self]; simp
        rw [e]
        have := ih vals (pre ++ [(p, v)]) (fun q hq => ?_) (List.nodup_cons.mp hn).2 (by simpa using hl)
        · rw [List.append_assoc] at this
          simp only [List.singleton_append] at this
          rw [this]
        · rw [List.lookup_append, hpre q (List.mem_cons_of_mem _ hq)]
          have hne : (q == p) = false := by
            rw [beq_eq_false_iff_ne]; rintro rfl; exact (List.nodup_cons.mp hn).1 hq
          simp [List.lookup_cons, hne]
  intro ps vals hn hl
  have := key ps vals [] (fun _ _ => rfl) hn hl
  simpa using this
theorem zip_some : ∀ (ps : List Str) (vals : List Value), vals.length = ps.length → ∀ p ∈ ps, ((ps.zip vals).lookup p).isSome = true
  | [], _, _, p, h => by cases h
  | q :: ps, [], hl, _, _ => by cases hl
  | q :: ps, v :: vals, hl, p, h => by
    rw [List.zip_cons_cons, List.lookup_cons]
    split
    · rfl
    · rename_i z
      rcases List.mem_cons.mp h with r | r
      · rw [r, beq_self_eq_true] at z; cases z
      · exact zip_some ps vals (by simpa using hl) p r
theorem bind_plain {fd : FuncData} {as : List Arg} {d : List Expr} {kd : List (Option Expr)} (hp : fd.params = { posonlyargs := [], args := as, vararg := none, kwonlyargs := [], kw_defaults := kd, kwarg := none, defaults := d }) (hd : fd.defaults = .none)
    (hn : (as.map (·.arg)).Nodup) (vals : List Value) (hl : vals.length = (as.map (·.arg)).length) : bindArgs fd ⟨vals, []⟩ = pure ((as.map (·.arg)).zip vals) := by
  have hmiss : ((as.map (·.arg)).filter fun n => (((as.map (·.arg)).zip vals).lookup n).isNone) = [] := by
    rw [List.filter_eq_nil_iff]
    intro p hp q
    have := zip_some (as.map (·.arg)) vals hl p hp
    cases z : ((as.map (·.arg)).zip vals).lookup p with
    | none => rw [z] at this; cases this
    | some v => rw [z] at q; cases q
  have hseq : seqItems? Value.none = pure none := rfl
  have hz := zip_lookup (as.map (·.arg)) vals hn hl
  unfold bindArgs
  rw [hp, hd, hseq]
  have hle : ¬ vals.length > (as.map (·.arg)).length := by omega
  simp only [List.map_nil, List.nil_append, List.forIn_nil, pure_bind, Option.getD_none, List.length_nil, Nat.zero_sub, List.drop_nil, Nat.sub_zero, List.zip_nil_right, List.append_nil, List.take_length]
  simp [hmiss, hz]
  intro q
  rw [List.length_map] at hl
  omega
theorem fn_of {C : Cx} {a : Addr} {f : FD} (X : C.K.In C.h) (h : FnAt C.K a f) : ∃ o fd, FnOk C a f o fd := by
  have h0 := h.body
  unfold bodyIs fdOf at h0
  obtain ⟨fd, e1, e2⟩ := Option.bind_eq_some_iff.mp h0
  obtain ⟨o, ho, e4⟩ := Option.bind_eq_some_iff.mp e1
  have hfd : fdOf C.K a = some fd := e1
  have hc := h.chk
  rw [hfd] at hc
  have h : fdChk C.K f fd = true := hc
  obtain ⟨b1, b2⟩ := Prod.mk.inj (Option.some.inj e2)
  split at e4
  · rename_i fd' hd
    cases e4
    unfold fdChk at h
    simp only [Bool.and_eq_true, Bool.not_eq_true', beq_iff_eq, decide_eq_true_eq, List.isEmpty_iff, Option.isNone_iff_eq_none, List.all_eq_true, Bool.or_eq_true, bne_iff_ne, ne_eq] at h
    obtain ⟨⟨⟨⟨⟨⟨⟨⟨⟨⟨⟨⟨⟨⟨⟨⟨⟨h2, h3⟩, h4⟩, h5⟩, h6⟩, h7⟩, h8⟩, h9⟩, h10⟩, h11⟩, h12⟩, h13⟩, h14⟩, h16⟩, h17⟩, h18⟩, h19⟩, h20⟩ := h
    refine ⟨o, fd, ⟨X _ _ ho, hd, b1, h2, h3, h4, h5, h6, h7, codeChk_of X h8, ?_, h16, b2, h17, h18, ?_, ?_⟩⟩
    · intro vals hl
      rw [← h10] at hl h16 ⊢
      refine bind_plain (as := fd.params.args) (d := fd.params.defaults) (kd := fd.params.kw_defaults) ?_ h14 h16 vals hl
      generalize fd.params = pp at h9 h11 h12 h13
      obtain ⟨a1, a2, a3, a4, a5, a6, a7⟩ := pp
      dsimp only at h9 h11 h12 h13
      subst h9 h11 h12 h13; rfl
    · intro i p hp
      exact h19 (p, i) (by rw [List.mem_zipIdx_iff_getElem?]; simpa using hp)
    · intro y z j hy hz
      have m1 := mem_of_lookup hy
      have m2 := mem_of_lookup hz
      obtain ⟨a, la, ea⟩ := List.getElem_of_mem m1
      obtain ⟨b, lb, eb⟩ := List.getElem_of_mem m2
      have : (f.fi.tbl.map (·.2))[a]'(by simpa using la) = (f.fi.tbl.map (·.2))[b]'(by simpa using lb) := by
        rw [List.getElem_map, List.getElem_map, ea, eb]
      have hab : a = b := (List.getElem_inj h20).mp this
      subst hab
      rw [ea] at eb
      exact (Prod.mk.inj eb).1
  · cases e4

noncomputable def topOf (K : Frag) : Array DictEntry := match K.lookup mainGlobals with
  | some o => (match o.data with
    | .dict es _ => es
    | _ => #[])
  | none => #[]
noncomputable def isTop (K : Frag) : Bool := match K.lookup mainGlobals with
  | some o => (match o.data with
    | .dict _ _ => true
    | _ => false)
  | none => false
theorem top_of {K : Frag} {h : Heap} {mg : Str → Option Value} (X : K.In h) (g : h.Ns mainGlobals mg) (e : isTop K = true) (x : Str) : mg x = nsFind (topOf K) x := by
  obtain ⟨o, es, ep, h1, h2, h3, h4⟩ := g
  unfold isTop at e
  split at e
  · rename_i o' ho
    split at e
    · rename_i es' ep' hd
      have h1' := X _ _ ho
      rw [h1] at h1'
      cases h1'
      rw [hd] at h2
      cases h2
      unfold topOf
      rw [ho]
      dsimp only
      rw [hd]
      exact (h4 x).symm
    · cases e
  · cases e
theorem mem_fd {a : Addr} {f : FD} : ∀ {l : List (Addr × FD)}, l.lookup a = some f → (a, f) ∈ l
  | [], e => nomatch e
  | (b, g) :: l, e => by
    rw [List.lookup_cons] at e
    split at e
    · rename_i q; cases e; rw [beq_iff_eq.mp q]; exact List.mem_cons_self
    · exact List.mem_cons_of_mem _ (mem_fd e)
structure GChk (G : Gl) (K : Frag) : Prop where
  top : isTop K = true
  fn : (G.fn.all fun x => nsFind (topOf K) x.1 == some (.ref x.2) && keepIn K (.ref x.2)) = true
  bn : (G.bn.all fun x => nsFind (topOf K) x == none && x != "__name__") = true
  isi : (([.none, .bool, .int, .str, .tup, .list] : List Kd).all fun k => G.ty.all fun t => kitOne K k.v (.type t.n) == some (isiK k t)) = true
  fd : ∀ a f, (a, f) ∈ G.fd → FnAt K a f
  cl : (G.cl.all fun x => nsFind (topOf K) x.1 == some (.ref x.2.1.c) && keepIn K (.ref x.2.1.c) && clsChk K x.2.1.c x.2.2 (x.2.1.vn ++ x.2.1.ln) && decide ((x.2.1.vn ++ x.2.1.ln).Nodup) && Nat.ble (x.2.1.vn ++ x.2.1.ln).length 100 &&
    (([.none, .bool, .int, .str, .tup, .list] : List Kd).all fun k => kitOne K k.v (.ref x.2.1.c) == some false) && kitOne K (.ref x.2.1.c) (.ref x.2.1.c) == some true) = true
  me : (G.me.all fun x => PySem.W.findIn K (.ref x.1) x.2.1 == some (some (.ref x.2.2)) && PySem.W.typeIn K (.ref x.2.2) == some (.type "function") && keepIn K (.ref x.2.2)) = true
theorem GChk.ok {G : Gl} {C : Cx} (c : GChk G C.K) (X : C.K.In C.h) (g : C.h.Ns mainGlobals C.mg) (b : C.h.Ns builtinsNs C.mb) (bi : ∀ x : Str, x ≠ "__name__" → C.mb x = bootBuiltins x) (nl : C.h.NoLimit) (hmo : G.mo C) (hw : C.w = G.w) : GOk G C where
  X := X
  g := g
  b := b
  bi := bi
  nolimit := nl
  isi := fun k t ht => beq_iff_eq.mp (List.all_eq_true.mp (List.all_eq_true.mp c.isi k (by cases k <;> decide)) t ht)
  bn := fun x hx => by
    have := List.all_eq_true.mp c.bn x hx
    rw [Bool.and_eq_true, beq_iff_eq, bne_iff_ne] at this
    rw [top_of X g c.top]; exact this
  fn := fun x a hx => by
    have := List.all_eq_true.mp c.fn _ (mem_of_lookup hx)
    rw [Bool.and_eq_true, beq_iff_eq] at this
    rw [top_of X g c.top]; exact this
  fd := fun a f hf => fn_of X (c.fd a f (mem_fd hf))
  mo := hmo
  w := hw
  cl := fun x t a hx => by
    have := List.all_eq_true.mp c.cl _ (mem_of_lookup hx)
    simp only [Bool.and_eq_true, beq_iff_eq, decide_eq_true_eq, List.all_eq_true] at this
    obtain ⟨⟨⟨⟨⟨⟨h1, h2⟩, h3⟩, h4⟩, h5⟩, h6⟩, h7⟩ := this
    exact ⟨by rw [top_of X g c.top]; exact h1, h2, h3, h4, Nat.le_of_ble_eq_true h5, fun k => h6 k (by cases k <;> decide), h7⟩
  me := fun k x a hx => by
    have := List.all_eq_true.mp c.me _ hx
    simp only [Bool.and_eq_true, beq_iff_eq] at this
    exact ⟨this.1.1, this.1.2, this.2⟩

theorem join {l : OpenLaw} {q : Program} {loose : List Str} {XP : (Str → Option Value) → Heap → Prop} {K : Params → Frag} {as' : List Addr} {e' : ∀ P, as' = (K P).map (·.1)} {d : DefRec} {kwd : List (Str × Expr)} (G : World → Gl) (a : Addr) (dep : Nat)
    (hm : l.most = some 63) (hb : l.bound = none) (hgw : ∀ w, (G w).w = w) (hname : ∀ w, (G w).fn.lookup d.name = some a) (hdep : dep ≤ 100) (hpos : ∀ w, tkOk (G w) false a = true := by exact fun _ => rfl)
    (chk : ∀ w P, GChk (G w) (K P)) (mo : ∀ (w : World) (P : Params) (C : Cx), C.K = K P → C.w.params = P → C.K.In C.h → (∀ x, C.mg x = nsFind (topOf (K P)) x) → (G w).mo C)
    (law : ∀ (w : World) (ns : List Int), ns.length ≤ 63 → CallOK (G w) dep a [.lst (ns.map .int)] (.val (.bool true))) :
    WalkO q loose XP (kHook K as' e').says l.row.toRowW d kwd fun f vs => PySem.call f vs := by
  intro w s₀ s₁ mg mb G' Y fa o pm cd doc dV kV ho hd hcd hD hmg hg args vals as hpre hlay hrd hwl hlo
  have KX := kIn_of Y
  obtain ⟨ns, rfl, hlen⟩ := law_args hm hb hpre
  cases hwl with | cons hw1 hw2 =>
  cases hw2
  cases hw1 with | @list b vs xs hob hitems =>
  let C : Cx := ⟨K w.params, s₁.heap, s₁.os, l.row.toRowW.prog, w, mg, mb⟩
  have g : GOk (G w) C := GChk.ok (C := C) (chk w w.params) KX G'.T.g G'.T.b G'.T.builtins G'.T.nolimit (mo w w.params C rfl rfl KX (top_of (K := K w.params) KX G'.T.g (chk w w.params).top)) (hgw w).symm
  have hfa : fa = a := by
    have z : some (Value.ref fa) = some (Value.ref a) := hmg.symm.trans (g.fn _ _ (hname w)).1
    cases z; rfl
  subst hfa
  have hz : (ns.map V.int).length ≤ sizeLine := by rw [List.length_map, sizeLine_eq]; omega
  have rv : VRs (fun x => x = b) s₁.heap [.lst (ns.map .int)] [.ref b] := .cons ⟨b, vs.toArray, 0, rfl, rfl, hob, hz, (List.toList_toArray (as := vs)).symm ▸ reads_ints hitems⟩ rfl
  refine wpAny_call (law w ns hlen C callerA _ s₁ [.ref b] _ g rfl (by show 1 + 300 + 2 * dep + 9 ≤ 1000; omega) (by show 4 + 20 * dep + 2000 + 90 < 9900; omega) (fun _ _ e => e) hg (fun f hf hp => nomatch tkOk_of (hpos w) hf hp) rfl (fun x q => ⟨_, q ▸ hob⟩) rv fun v' W' s' gs r => ?_)
  cases r
  refine GoodW.toG ⟨.inl ⟨.bool true, .bool true, [], rfl, ?_, .bool true, ?_, ?_⟩, gs.g.k, gs.os, gs.gens.trans hg⟩
  · intro cls; rfl
  · show (WShape.has [] (.bool true) .bool && WTm.holds [] (.eq .res (.lit (.bool true))) { args := _, res := some (.bool true), after := _ }) = true
    simp [WShape.has, WShape.arms, WTm.holds, WTm.value, same]
  · intro _; exact ⟨List.nodup_nil, fun a ha => by cases ha⟩
end Mine
end

section
open PySem
set_option autoImplicit false
set_option linter.unusedVariables false
namespace Mine
section
variable {G : Gl} {d : Nat} {fi : FI}
noncomputable def res (r : Option (Fl × St)) : Option O := r.bind fun p => Fl.casesOn p.1 none fun o => List.casesOn p.2.tp (some o) fun _ _ => none
theorem res_of {r : Option (Fl × St)} {o : O} (e : res r = some o) : ∃ ρ ob, r = some (.ret o, ⟨ρ, [], ob⟩) := by
  obtain ⟨⟨f, ρ, tp, ob⟩, e1, e⟩ := Option.bind_eq_some_iff.mp e
  cases f with
  | next => cases e
  | ret o' =>
    cases tp with
    | nil => cases e; exact ⟨ρ, ob, e1⟩
    | cons => cases e
theorem call_go {a : Addr} {f : FD} {args : List V} {o : O} {n : Nat} {tp : List Tk} {P : Prop} (B : SL G d f.fi) (hf : G.fd.lookup a = some f) (hB : B.xs = f.st) (hn : args.length = f.ps.length)
    (e : res (B.ex ⟨loc0 args n, tp, []⟩) = some o) (ob : All (obs (B.ex ⟨loc0 args n, tp, []⟩)) = P) (p : P) : CallOK G (d + 1) a args o := by
  obtain ⟨ρ, o', h⟩ := res_of e
  subst ob
  have q : All o' := by rw [h] at p; exact p
  exact call_of hf hn (hB ▸ (B.eo _ _ _ h q).2) (.inl rfl)
section
variable {c : T G d fi} {b : SL G d fi} {ρ ρ' ρ'' : Loc} {fl : Fl} {tp : List Tk} {P : Prop}
theorem whil_go (f : Bool) (e : out (turn c b f ⟨ρ, tp, []⟩) = some (some .next, ρ', [])) (o : All (obs (turn c b f ⟨ρ, tp, []⟩)) = P) (p : P) (h : WhilOK G d fi c.x b.xs ρ' fl ρ'') : WhilOK G d fi c.x b.xs ρ fl ρ'' :=
  (turn_ok c b f).run e o p fl ρ'' h
theorem whil_end (f : Bool) (e : out (turn c b f ⟨ρ, tp, []⟩) = some (none, ρ', [])) (o : All (obs (turn c b f ⟨ρ, tp, []⟩)) = P) (p : P) : WhilOK G d fi c.x b.xs ρ .next ρ' :=
  (turn_ok c b f).run e o p .next ρ' ⟨rfl, rfl⟩
theorem for_go {x : Str} {p' : Pos} {i : Nat} {v : V} {l : List V} (hx : fi.isOwn x i = true) (e : out (b.ex ⟨ρ.set i (some (.val v)), tp, []⟩) = some (.next, ρ', [])) (o : All (obs (b.ex ⟨ρ.set i (some (.val v)), tp, []⟩)) = P) (p : P)
    (h : ForOK G d fi (.Name x p') b.xs l ρ' fl ρ'') : ForOK G d fi (.Name x p') b.xs (v :: l) ρ fl ρ'' :=
  (for_ok hx b v l).run (ρ := ρ) e o p fl ρ'' h
theorem comp_nil {elt : Expr} {i : Nat} : CompL G d fi elt i ρ [] [] := rfl
theorem comp_go {elt : T G d fi} {i : Nat} {v : V} {l vs : List V} {o : O} (e : out (elt.ev ⟨ρ.set i (some (.val v)), tp, []⟩) = some (o, ρ.set i (some (.val v)), [])) (ob : All (obs (elt.ev ⟨ρ.set i (some (.val v)), tp, []⟩)) = P) (p : P)
    (h : CompL G d fi elt.x i ρ l vs) : CompL G d fi elt.x i ρ (v :: l) (o.frz :: vs) := .inl ⟨_, _, rfl, rfl, (elt.eo.run e ob p).v, h⟩
def WhP (c : T G d fi) (b : SL G d fi) (ρ : Loc) (Φ : Fl → Loc → Prop) : Prop := ∃ fl ρ', WhilOK G d fi c.x b.xs ρ fl ρ' ∧ Φ fl ρ'
theorem whp_go {Φ : Fl → Loc → Prop} (f : Bool) (e : out (turn c b f ⟨ρ, tp, []⟩) = some (some .next, ρ', [])) (o : All (obs (turn c b f ⟨ρ, tp, []⟩)) = P) (p : P) (h : WhP c b ρ' Φ) : WhP c b ρ Φ := by
  obtain ⟨fl, ρ2, h1, h2⟩ := h
  exact ⟨fl, ρ2, whil_go f e o p h1, h2⟩
theorem whp_end {Φ : Fl → Loc → Prop} (f : Bool) (e : out (turn c b f ⟨ρ, tp, []⟩) = some (none, ρ', [])) (o : All (obs (turn c b f ⟨ρ, tp, []⟩)) = P) (p : P) (h : Φ .next ρ') : WhP c b ρ Φ := ⟨_, _, whil_end f e o p, h⟩
end
end
end Mine
end

section
open PySem
set_option autoImplicit false
set_option linter.unusedVariables false
namespace Mine
open PySem.W (Frag kitOne keepIn Looks)
noncomputable def dpt (v : V) : Nat := @V.rec (fun _ => Nat) (fun _ => Nat) 0 (fun _ => 0) (fun _ => 0) (fun _ => 0) (fun _ n => n + 1) (fun _ n => n + 1) (fun _ _ n => 2000 + n) (fun _ _ _ n => 2000 + n) 0 (fun _ _ a b => max a b) v
noncomputable def dpts (l : List V) : Nat := @V.rec_1 (fun _ => Nat) (fun _ => Nat) 0 (fun _ => 0) (fun _ => 0) (fun _ => 0) (fun _ n => n + 1) (fun _ n => n + 1) (fun _ _ n => 2000 + n) (fun _ _ _ n => 2000 + n) 0 (fun _ _ a b => max a b) l
theorem dat_of (v : V) : ∃ x : PyData, dpt v ≤ 1900 → ∀ (W : WS) (h : Heap) (v' : Value), VR W h v v' → (∃ as, Reads h v' x as) ∧ x.canLay0 = true ∧ x.depth ≤ dpt v :=
  V.rec (motive_1 := fun v => ∃ x : PyData, dpt v ≤ 1900 → ∀ (W : WS) (h : Heap) (v' : Value), VR W h v v' → (∃ as, Reads h v' x as) ∧ x.canLay0 = true ∧ x.depth ≤ dpt v)
    (motive_2 := fun l => ∃ xs : List PyData, dpts l ≤ 1900 → ∀ (W : WS) (h : Heap) (l' : List Value), VRs W h l l' → (∃ as, ReadsAll h l' xs as) ∧ PyData.canLayAll0 xs = true ∧ PyData.depthAll xs ≤ dpts l)
    ⟨.none, fun _ W h v' r => by cases r; exact ⟨⟨_, .none⟩, rfl, Nat.zero_le _⟩⟩
    (fun b => ⟨.bool b, fun _ W h v' r => by cases r; exact ⟨⟨_, .bool _⟩, rfl, Nat.zero_le _⟩⟩)
    (fun i => ⟨.int i, fun _ W h v' r => by obtain ⟨t, rfl⟩ := r; exact ⟨⟨_, .int _ _⟩, rfl, Nat.zero_le _⟩⟩)
    (fun z => ⟨.str ⟨z.toArray⟩, fun _ W h v' r => by obtain ⟨t, rfl, ok, _⟩ := r; exact ⟨⟨_, .str _ _⟩, by simpa [PyData.canLay0] using ok, Nat.zero_le _⟩⟩)
    (fun l ih => by
      obtain ⟨xs, ih⟩ := ih
      refine ⟨.tuple xs, fun hd W h v' r => ?_⟩
      have hd : dpts l + 1 ≤ 1900 := hd
      obtain ⟨a, vs, n, rfl, _, h1, _, h3⟩ := VR.tup r
      obtain ⟨⟨as, A⟩, B, C⟩ := ih (by omega) W h _ h3
      refine ⟨⟨as, .tuple h1 rfl rfl A⟩, by simpa [PyData.canLay0] using B, ?_⟩
      show PyData.depthAll xs + 1 ≤ dpts l + 1
      exact Nat.succ_le_succ C)
    (fun l ih => by
      obtain ⟨xs, ih⟩ := ih
      refine ⟨.list xs, fun hd W h v' r => ?_⟩
      have hd : dpts l + 1 ≤ 1900 := hd
      obtain ⟨a, vs, n, rfl, _, h1, _, h3⟩ := VR.lst r
      obtain ⟨⟨as, A⟩, B, C⟩ := ih (by omega) W h _ h3
      refine ⟨⟨_, .list h1 rfl rfl A⟩, by simpa [PyData.canLay0] using B, ?_⟩
      show PyData.depthAll xs + 1 ≤ dpts l + 1
      exact Nat.succ_le_succ C)
    (fun t l _ => ⟨.none, fun hd => absurd (show 2000 + dpts l ≤ 1900 from hd) (by omega)⟩)
    (fun w k l _ => ⟨.none, fun hd => absurd (show 2000 + dpts l ≤ 1900 from hd) (by omega)⟩)
    ⟨[], fun _ W h l' r => by cases r; exact ⟨⟨_, .nil⟩, rfl, Nat.zero_le _⟩⟩
    (fun v l iv il => by
      obtain ⟨x, iv⟩ := iv
      obtain ⟨xs, il⟩ := il
      refine ⟨x :: xs, fun hd W h l' r => ?_⟩
      have hd : max (dpt v) (dpts l) ≤ 1900 := hd
      obtain ⟨v', r', rfl, rv, rl⟩ := VRs.inv r
      obtain ⟨⟨as, A⟩, B, C⟩ := iv (by omega) W h _ rv
      obtain ⟨⟨bs, A'⟩, B', C'⟩ := il (by omega) W h _ rl
      refine ⟨⟨_, .cons A A'⟩, ?_, ?_⟩
      · show (x.canLay0 && PyData.canLayAll0 xs) = true
        rw [B, B']; rfl
      · show max x.depth (PyData.depthAll xs) ≤ max (dpt v) (dpts l)
        omega) v
section
variable {G : Gl} {d : Nat} {fi : FI}
noncomputable def kSame (b : Bool) (x : V) (y : O) : Option (Bool × List Prop) := y.val?.bind fun y => some (b, [x = y ∧ dpt x ≤ 1900])
theorem primSame : PrimC G d .Eq (kSame true) ∧ PrimC G d .NotEq (kSame false) := by
  constructor
  all_goals
    intro x y t ps e q X E W φ s ρ S F x' y' rx ry Q k
    obtain ⟨v, e1, e⟩ := Option.bind_eq_some_iff.mp e
    cases e
    obtain ⟨rfl, hd⟩ := q.1
    rw [O.val_of e1] at ry
    obtain ⟨z, hz⟩ := dat_of x
    obtain ⟨⟨as, A⟩, B, C⟩ := hz hd W s.heap x' rx
    obtain ⟨⟨bs, A'⟩, _, _⟩ := hz hd W s.heap y' ry
    have hu : X.A.units + min z.depth z.depth < cLine := by have := S.u; unfold deep at this; omega
  · exact SeqAt.compareEq_reads A A' B B hu (by rw [SeqAt.eqv_refl z B]; exact k s.toks (Nat.le_refl _))
  · exact SeqAt.compareNe_reads A A' B B hu (by rw [SeqAt.eqv_refl z B]; exact k s.toks (Nat.le_refl _))
noncomputable def eEqS : T G d fi → T G d fi → Pos → T G d fi := eCmp .Eq (kSame true) primSame.1
noncomputable def eNeS : T G d fi → T G d fi → Pos → T G d fi := eCmp .NotEq (kSame false) primSame.2
noncomputable def kAddT (x y : V) : Option (O × List Prop) := x.tup?.bind fun i => y.tup?.bind fun j => some (.val (.tup (i ++ j)), [(i ++ j).length ≤ room])
theorem primAddT : Prim2 G d (binaryOp .Add) kAddT := by
  intro x y o ps e q X E W φ s ρ S F x' y' rx ry Q k
  obtain ⟨i, e1, e⟩ := Option.bind_eq_some_iff.mp e
  obtain ⟨j, e2, e⟩ := Option.bind_eq_some_iff.mp e
  cases e
  rw [V.tup_of e1] at rx; rw [V.tup_of e2] at ry
  obtain ⟨a, vs, n, rfl, _, h1, z1, r1⟩ := VR.tup rx
  obtain ⟨b, ws, m, rfl, _, h2, z2, r2⟩ := VR.tup ry
  have hz := Nat.le_trans q.1 room_le
  by_cases c1 : vs.isEmpty = true
  · refine concat_meets ⟨_, h1, rfl⟩ ⟨_, h2, rfl⟩ noFill_tuple_add seq_tuple_add PySem.F.slot_tuple_add PySem.F.entry_tuple_add (PySem.F.args_tuple_add_2 _ _) (PyProof.Rows.tuple_addW0 a b vs ws n m none none #[] #[] c1) ⟨h1, h2, ?_⟩
    have : i = [] := by
      have h0 := r1.size; rw [Array.isEmpty_iff] at c1; rw [c1] at h0
      exact List.length_eq_zero_iff.mp h0.symm
    subst this
    exact k.here (t := s.toks) F.f.wf ry
  · by_cases c2 : ws.isEmpty = true
    · refine concat_meets ⟨_, h1, rfl⟩ ⟨_, h2, rfl⟩ noFill_tuple_add seq_tuple_add PySem.F.slot_tuple_add PySem.F.entry_tuple_add (PySem.F.args_tuple_add_2 _ _) (PyProof.Rows.tuple_addW1 a b vs ws n m none none #[] #[] c1 c2) ⟨h1, h2, ?_⟩
      have : j = [] := by
        have h0 := r2.size; rw [Array.isEmpty_iff] at c2; rw [c2] at h0
        exact List.length_eq_zero_iff.mp h0.symm
      subst this
      rw [List.append_nil] at k
      exact k.here (t := s.toks) F.f.wf rx
    · refine concat_meets ⟨_, h1, rfl⟩ ⟨_, h2, rfl⟩ noFill_tuple_add seq_tuple_add PySem.F.slot_tuple_add PySem.F.entry_tuple_add (PySem.F.args_tuple_add_2 _ _) (PyProof.Rows.tuple_addW2 a b vs ws n m none none #[] #[] c1 c2 (by rw [r1.size, r2.size, ← List.length_append]; exact hz)) ⟨h1, h2, ?_⟩
      exact k.tuple (t := s.toks) F.f.wf (by rw [Array.toList_append]; exact r1.append r2) hz
noncomputable def eAddT : T G d fi → T G d fi → Pos → T G d fi := eBin .Add kAddT primAddT

end
end Mine
end

section
open PySem
set_option autoImplicit false
set_option linter.unusedVariables false
namespace Mine
open PySem.W (Frag kitOne keepIn Looks)
open PyProof.Rows (StrsAre)
theorem texts_are {W : WS} {h : Heap} : ∀ {l : List V} {l' : List Value} {ss : List (List Nat)}, VRs W h l l' → textsOf l = some ss → StrsAre l' (ss.map fun z => (⟨z.toArray⟩ : Str))
  | [], _, _, r, e => by cases r; cases e; exact .nil
  | v :: l, _, _, r, e => by
    obtain ⟨v', r', rfl, rv, rl⟩ := VRs.inv r
    obtain ⟨z, e1, e⟩ := Option.bind_eq_some_iff.mp e
    obtain ⟨t, e2, e⟩ := Option.bind_eq_some_iff.mp e
    cases e
    rw [V.str_of e1] at rv
    obtain ⟨tk, rfl, ok, _⟩ := rv
    exact .cons _ tk (texts_are rl e2)
theorem strs_rev : ∀ {l : List Value} {ys : List Str}, StrsAre l ys → StrsAre l.reverse ys.reverse := by
  have app : ∀ {l : List Value} {ys : List Str} {m : List Value} {zs : List Str}, StrsAre l ys → StrsAre m zs → StrsAre (l ++ m) (ys ++ zs) := by
    intro l ys m zs h k
    induction h with
    | nil => exact k
    | cons y t _ ih => exact .cons y t ih
  intro l ys h
  induction h with
  | nil => exact .nil
  | cons y t _ ih => rw [List.reverse_cons, List.reverse_cons]; exact app ih (.cons y t .nil)
theorem any_str (z : List Nat) : ∀ ss : List (List Nat), (ss.map fun z => (⟨z.toArray⟩ : Str)).any (· == ⟨z.toArray⟩) = ss.any (· == z)
  | [] => rfl
  | t :: ss => by
    rw [List.map_cons, List.any_cons, List.any_cons, any_str z ss]
    congr 1
    by_cases q : t = z
    · subst q; simp
    · have q' : (t == z) = false := by simpa using q
      rw [q', beq_eq_false_iff_ne]
      intro e; exact q (by simpa using e)
section
variable {G : Gl} {d : Nat} {fi : FI}
noncomputable def textsIn (y : O) : Option (List (List Nat)) := O.casesOn y (fun v => V.casesOn v none (fun _ => none) (fun _ => none) (fun _ => none) textsOf textsOf (fun _ _ => none) (fun _ _ _ => none)) textsOf (fun _ => none) (fun _ _ _ => none) fun _ _ _ => none
noncomputable def kInT (n : Bool) (x : V) (y : O) : Option (Bool × List Prop) := x.str?.bind fun z => (textsIn y).bind fun ss => some (Bool.casesOn n (ss.any (· == z)) (!ss.any (· == z)), [])
theorem primInT : PrimC G d .In (kInT false) ∧ PrimC G d .NotIn (kInT true) := by
  constructor
  all_goals
    intro x y t ps e q X E W φ s ρ S F x' y' rx ry Q k
    obtain ⟨z, e1, e⟩ := Option.bind_eq_some_iff.mp e
    obtain ⟨ss, e2, e⟩ := Option.bind_eq_some_iff.mp e
    cases e
    rw [V.str_of e1] at rx
    obtain ⟨tk, rfl, ok, _⟩ := rx
    have k := k s.toks (Nat.le_refl _)
    have ea := any_str z ss
    cases y with
    | own r =>
      obtain ⟨a, rfl, vs, n, h1, h2, h3⟩ := ry
      have hs := strs_rev (texts_are (l := r.reverse.reverse) (l' := vs.toList.reverse) (ss := ss) (by
        rw [List.reverse_reverse]
        have : ∀ {l : List V} {l' : List Value}, VRs W s.heap l l' → VRs W s.heap l.reverse l'.reverse := by
          intro l
          induction l with
          | nil => intro l' r; cases r; exact rfl
          | cons v l ih => intro l' r; obtain ⟨v', r', rfl, rv, rl⟩ := VRs.inv r; rw [List.reverse_cons, List.reverse_cons]; exact (ih rl).snoc rv
        have := this h2
        rwa [List.reverse_reverse] at this) (by rw [List.reverse_reverse]; exact e2))
      rw [List.reverse_reverse] at hs
      have er : (ss.map fun z => (⟨z.toArray⟩ : Str)).reverse.any (· == ⟨z.toArray⟩) = ss.any (· == z) := by rw [List.any_reverse]; exact ea
      first
      | exact PyProof.Rows.in_list_strs (vs := vs.toList) ⟨_, h1, rfl, _, rfl⟩ hs (by rw [er]; exact k)
      | exact PyProof.Rows.notin_list_strs (vs := vs.toList) ⟨_, h1, rfl, _, rfl⟩ hs (by rw [er]; exact k)
    | own2 r => cases e2
    | obj _ _ _ => cases e2
    | dic _ _ _ => cases e2
    | val v =>
      cases v with
      | ins _ _ => cases e2
      | dic _ _ _ => cases e2
      | none => cases e2
      | bool => cases e2
      | int => cases e2
      | str => cases e2
      | tup l =>
        obtain ⟨a, vs, n, rfl, _, h1, h2, h3⟩ := VR.tup ry
        have hs := texts_are h3 e2
        first
        | exact PyProof.Rows.in_tuple_strs ⟨_, h1, rfl, _, rfl⟩ hs (by rw [ea]; exact k)
        | exact PyProof.Rows.notin_tuple_strs ⟨_, h1, rfl, _, rfl⟩ hs (by rw [ea]; exact k)
      | lst l =>
        obtain ⟨a, vs, n, rfl, _, h1, h2, h3⟩ := VR.lst ry
        have hs := texts_are h3 e2
        first
        | exact PyProof.Rows.in_list_strs (vs := vs.toList) ⟨_, h1, rfl, _, rfl⟩ hs (by rw [ea]; exact k)
        | exact PyProof.Rows.notin_list_strs (vs := vs.toList) ⟨_, h1, rfl, _, rfl⟩ hs (by rw [ea]; exact k)
noncomputable def evP (a b : T G d fi) (p : V → O → Bool → Prop) (σ : St) : Option (Bool × St) := bd (a.ev σ) fun x σ => bd (b.pk σ) fun y σ => told Tk.b? (fun _ t => p x.frz y t) id (fun _ ρ => ρ) σ
def PrimP (G : Gl) (d : Nat) (op : CmpOp) (p : V → O → Bool → Prop) : Prop :=
  ∀ x y t, p x y t → ∀ (X : FC) (E : Value → Shared → Prop) (W : WS) (φ : Nat → List Addr) (s : Shared) (ρ : Loc), FS G d X → At X W φ s ρ → ∀ x' y', VR W s.heap x x' → BR W s.heap y y' →
    ∀ Q : Value → Shared → Prop, (∀ tk, s.toks ≤ tk → Q (.bool t) { s with toks := tk }) → wpAny X.C.M X.A (compareOp op x' y') Q E s
theorem evP_ok {op : CmpOp} {p : V → O → Bool → Prop} (h : PrimP G d op p) (a b : T G d fi) : Ok (evP a b p) (CmG G d fi op a.x b.x) :=
  a.eo.bd (R := fun u ρ t ρ' => ∃ v, PkG G d fi b.x ρ v ρ' ∧ p u.frz v t) (fun u => b.po.bd (R := fun v ρ t ρ' => p u.frz v t ∧ ρ = ρ') (fun v => Ok.told (f := Tk.b?) (p := fun _ t => p u.frz v t) (r := id) (ρ := fun _ ρ => ρ) fun t ρ q => ⟨q, rfl⟩)
    fun _ v _ _ _ h q => by obtain ⟨q1, rfl⟩ := q; exact ⟨v, h, q1⟩) fun _ u _ t _ h1 q => by
      obtain ⟨v, h2, q1⟩ := q
      exact fun X E W φ s e S F Q kk => h1.v X E W φ s e S F _ fun u' W₁ φ₁ s₁ p₁ r₁ => h2 X E W₁ φ₁ s₁ e S p₁.f _ fun v' W₂ φ₂ s₂ p₂ r₂ =>
        h _ _ _ q1 X E W₂ φ₂ s₂ _ S p₂.f _ _ (r₁.ag p₂.ag) r₂ _ fun tk htk => kk _ _ _ ⟨p₂.f.toks tk htk, p₁.ag.trans p₂.ag, (p₁.trans p₂).vl⟩
noncomputable def eCmpP (op : CmpOp) (p : V → O → Bool → Prop) (h : PrimP G d op p) (a b : T G d fi) (q : Pos) : T G d fi := .cmp op a.x b.x q b.pl (evP a b p) (evP_ok h a b)
def InP (n : Bool) (x : V) (y : O) (t : Bool) : Prop := kInT n x y = some (t, [])
theorem primP {op : CmpOp} {k : V → O → Option (Bool × List Prop)} (h : PrimC G d op k) : PrimP G d op (fun x y t => k x y = some (t, [])) := fun x y t e X E W φ s ρ S F x' y' rx ry Q kk => h x y t [] e trivial X E W φ s ρ S F x' y' rx ry Q kk
noncomputable def eNotInP : T G d fi → T G d fi → Pos → T G d fi := eCmpP .NotIn (InP true) (primP primInT.2)
noncomputable def sExt (x : Str) (i : Nat) (a : T G d fi) (xp ap cp p : Pos) (h : (fi.isVar x i && (ap.endLine == cp.line)) = true) : SS G d fi :=
  ⟨.Expr (.Call (.Attribute (.Name x xp) "extend" ap) [a.x] [] cp) p, fun σ => (ownAt σ.ρ i).bind fun _ => bd (a.ev σ) fun y σ => y.frz.lst?.bind fun l => (ownAt σ.ρ i).bind fun r => some (.next, ⟨σ.ρ.set i (some (.own (l.reverse ++ r))), σ.tp, (l.length + r.length < room) :: σ.ob⟩), by
    intro σ f σ' e q
    obtain ⟨o0, e0, e⟩ := Option.bind_eq_some_iff.mp e
    obtain ⟨⟨y, σ₁⟩, e1, e⟩ := Option.bind_eq_some_iff.mp e
    obtain ⟨l, e3, e⟩ := Option.bind_eq_some_iff.mp e
    obtain ⟨r, e2, e⟩ := Option.bind_eq_some_iff.mp e
    rw [Bool.and_eq_true] at h
    cases e
    obtain ⟨q2, hk⟩ := a.eo σ y σ₁ e1 q.2
    refine ⟨q2, fun X E W φ s ef c S F Q k => wpAny_Expr_any (method_call rfl (fun z q => by cases List.mem_singleton.mp q; exact a.pl) h.2 rfl fun pl => load_ok S F (ef ▸ h.1) (ownAt_some e0) fun x' hx hn hv rr => ?_) (by unfold interactive; rw [S.fn]; rfl) rfl⟩
    obtain ⟨a0, _, rfl, vs0, n0, z0, _⟩ := rr
    refine getMethod_builtin (T := "list") ⟨_, z0, rfl⟩ PySem.F.plainAttrs_list PySem.F.slot_list_extend PySem.F.type_list_extend (fun a q => by cases q; exact ⟨_, z0, rfl⟩) ?_
    refine callW (K := X.C.K) (fun h _ => keeper_builtin _ h _) (PySem.Calls.spliced_cons (hk.v X E W φ s ef S F _ fun y' W' φ' s' p' r' => PySem.Calls.spliced_nil ⟨p'.f.In S, ?_⟩))
    obtain ⟨ad, hp, ea, vs, n, h1, h2, h3⟩ := still p'.f hx hn (p'.vl _ _ hv) (ownAt_some e2)
    cases ea
    have hs := h2.size
    rw [List.length_reverse] at hs
    rw [V.lst_of e3] at r'
    obtain ⟨b, ws, m, rfl, _, g1, g2, g3⟩ := VR.lst r'
    have hs2 := g3.size
    have q1 : l.length + r.length < room := q.1
    have := room_le
    have hz : vs.size + ws.size ≤ sizeLine := by omega
    refine call_meets PySem.F.slot_list_extend ⟨_, h1, rfl⟩ PySem.F.entry_list_extend (PySem.F.args_list_extend_2 _ _) (AutoSeq1.list_extend_list_list_0 a0 vs n b ws m (PyProof.Rows.extend_door hz) (by omega)) ⟨h1, g1, ?_⟩
    obtain ⟨A, B⟩ := p'.f.turn (x := x) (i := i) (t := s'.toks) (r := l.reverse ++ r) (h' := s'.heap.update a0 (Obj.mapSeq (· ++ ws))) (fun z hz => S.ti z x i hz hx) hp (Heap.SameBut.update ..) (p'.vl _ _ hv) (Heap.get?_update_self _ h1 rfl)
      (by rw [Array.toList_append, List.reverse_append, List.reverse_reverse]; exact h2.append g3) (by rw [List.length_append, List.length_reverse]; omega)
    exact k _ _ _ _ A (p'.ag.trans B) rfl⟩
end
end Mine
end

section
open PySem
set_option autoImplicit false
set_option linter.unusedVariables false
namespace Mine
open PySem.W (Frag kitOne keepIn Looks)

def Wh (h : Heap) : WS := fun a => ∃ o, h.get? a = some o
def GVal (C : Cx) (x : Str) (v : V) : Prop := ∃ v', C.mg x = some v' ∧ VR (Wh C.h) C.h v v'
def GDic (C : Cx) (x : Str) (kvs : List (List Nat × Int)) : Prop := ∃ a kws, C.mg x = some (.ref a) ∧ C.h.DictOf (strKind C.prog C.w) a kws ∧ ∀ z i, kvs.lookup z = some i → ∃ t, valueAt kws ⟨z.toArray⟩ = some (.int i t)
section
variable {G : Gl} {d : Nat} {fi : FI}
theorem Wh.ag {X : FC} {W : WS} {φ : Nat → List Addr} {s : Shared} {ρ : Loc} (S : FS G d X) (F : At X W φ s ρ) : Ag (Wh X.C.h) X.C.h (Wh X.C.h) s.heap := ⟨fun _ q => q, fun a ⟨o, q⟩ => (F.keep S a o q).trans q.symm⟩
noncomputable def lStuck (xs : List Stmt) : SL G d fi := ⟨xs, fun _ => none, .none fun _ => rfl⟩
theorem for_ret {x : Str} {p' : Pos} {i : Nat} {v : V} {l : List V} {b : SL G d fi} {ρ ρ' : Loc} {tp : List Tk} {P : Prop} {o' : O} (hx : fi.isOwn x i = true) (e : out (b.ex ⟨ρ.set i (some (.val v)), tp, []⟩) = some (.ret o', ρ', [])) (o : All (obs (b.ex ⟨ρ.set i (some (.val v)), tp, []⟩)) = P) (p : P) :
    ForOK G d fi (.Name x p') b.xs (v :: l) ρ (.ret o') ρ' := (for_ok hx b v l).run (ρ := ρ) e o p (.ret o') ρ' ⟨rfl, rfl⟩
noncomputable def eVarF (x : Str) (i : Nat) (p : Pos) (h : fi.isVar x i = true) : T G d fi := .mk' (.Name x p) (evVar i) rfl (evVar_ok h) fun _ => rfl
noncomputable def eGlobI (x : Str) (i : Int) (p : Pos) (h : fi.isGlob x = true) (hv : ∀ C, G.mo C → GVal C x (.int i)) : T G d fi :=
  .mk' (.Name x p) (pu (.val (.int i))) rfl (.pu fun ρ X E W φ s e S F Q k => by
    obtain ⟨v', e1, t, rfl⟩ := hv X.C S.g.mo
    exact glob_ok S F (e ▸ h) e1 (k _ _ _ _ (.refl F) (.val ⟨t, rfl⟩))) fun _ => rfl
noncomputable def eGlobS (x : Str) (z : List Nat) (p : Pos) (h : fi.isGlob x = true) (hv : ∀ C, G.mo C → GVal C x (.str z)) : T G d fi :=
  .mk' (.Name x p) (pu (.val (.str z))) rfl (.pu fun ρ X E W φ s e S F Q k => by
    obtain ⟨v', e1, t, rfl, ok⟩ := hv X.C S.g.mo
    exact glob_ok S F (e ▸ h) e1 (k _ _ _ _ (.refl F) (.val ⟨t, rfl, ok⟩))) fun _ => rfl
noncomputable def evIn (n : Bool) (ss : List (List Nat)) (a : T G d fi) (σ : St) : Option (Bool × St) := bd (a.ev σ) fun u σ => u.frz.str?.bind fun z => told Tk.b? (fun _ t => t = Bool.casesOn n (ss.any (· == z)) (!ss.any (· == z))) id (fun _ ρ => ρ) σ
theorem evIn_ok (n : Bool) (a : T G d fi) (x : Str) (l : List V) (ss : List (List Nat)) (xp : Pos) (h : fi.isGlob x = true) (hl : textsOf l = some ss) (hv : ∀ C, G.mo C → GVal C x (.tup l)) :
    Ok (evIn n ss a) (CmG G d fi (Bool.casesOn n .In .NotIn) a.x (.Name x xp)) :=
  a.eo.bd (R := fun u ρ t ρ' => ∃ z, u.frz = .str z ∧ t = Bool.casesOn n (ss.any (· == z)) (!ss.any (· == z)) ∧ ρ = ρ') (fun u σ t σ' e q => by
    obtain ⟨z, e1, e⟩ := Option.bind_eq_some_iff.mp e
    obtain ⟨q1, q2, q3⟩ := Ok.told (f := Tk.b?) (p := fun _ t => t = Bool.casesOn n (ss.any (· == z)) (!ss.any (· == z))) (r := id) (ρ := fun _ ρ => ρ) (S := fun ρ t ρ' => t = Bool.casesOn n (ss.any (· == z)) (!ss.any (· == z)) ∧ ρ = ρ') (fun t ρ q => ⟨q, rfl⟩) σ t σ' e q
    exact ⟨q1, z, V.str_of e1, q2, q3⟩) fun _ u _ t _ h1 q X E W φ s e S F Q kk => by
    obtain ⟨z, e1, rfl, rfl⟩ := q
    obtain ⟨v', m1, r⟩ := hv X.C S.g.mo
    refine h1.v X E W φ s e S F _ fun u' W₁ φ₁ s₁ p₁ r₁ => glob_ok S p₁.f (e ▸ h) m1 ?_
    rw [e1] at r₁
    obtain ⟨tk, rfl, ok, _⟩ := r₁
    obtain ⟨a, vs, m, rfl, _, h1, h2, h3⟩ := VR.tup (VR.ag (Wh.ag S p₁.f) r)
    have hs := texts_are h3 hl
    have ea := any_str z ss
    have kk := kk _ _ _ p₁
    cases n with
    | false => exact PyProof.Rows.in_tuple_strs ⟨_, h1, rfl, _, rfl⟩ hs (by rw [ea]; exact kk)
    | true => exact PyProof.Rows.notin_tuple_strs ⟨_, h1, rfl, _, rfl⟩ hs (by rw [ea]; exact kk)
noncomputable def eInG (n : Bool) (a : T G d fi) (x : Str) (l : List V) (ss : List (List Nat)) (xp p : Pos) (h : fi.isGlob x = true) (hl : textsOf l = some ss) (hv : ∀ C, G.mo C → GVal C x (.tup l)) : T G d fi :=
  .cmp (Bool.casesOn n .In .NotIn) a.x (.Name x xp) p rfl (evIn n ss a) (evIn_ok n a x l ss xp h hl hv)
noncomputable def eDicG (x : Str) (kvs : List (List Nat × Int)) (k : T G d fi) (xp p : Pos) (h : fi.isGlob x = true) (hv : ∀ C, G.mo C → GDic C x kvs) : T G d fi :=
  .mk' (.Subscript (.Name x xp) k.x p) (fun σ => bd (k.ev σ) fun y σ => y.frz.str?.bind fun z => (kvs.lookup z).bind fun i => pu (.val (.int i)) σ) rfl
    (k.eo.bd (R := fun y ρ o ρ' => ∃ z i, y.frz = .str z ∧ kvs.lookup z = some i ∧ o = .val (.int i) ∧ ρ = ρ') (fun y σ o σ' e q => by
      obtain ⟨z, e1, e⟩ := Option.bind_eq_some_iff.mp e
      obtain ⟨i, e2, e⟩ := Option.bind_eq_some_iff.mp e
      cases e; exact ⟨q, z, i, V.str_of e1, e2, rfl, rfl⟩) fun _ y _ _ _ hk q X E W φ s e S F Q kk => by
      obtain ⟨z, i, e1, e2, rfl, rfl⟩ := q
      obtain ⟨a, kws, m1, hd, hz⟩ := hv X.C S.g.mo
      obtain ⟨t, ht⟩ := hz z i e2
      refine PyProof.Rows.Subscript_ (glob_ok S F (e ▸ h) m1 (hk.v X E W φ s e S F _ fun y' W₂ φ₂ s₂ p₂ r₂ => ?_))
      rw [e1] at r₂
      obtain ⟨u, rfl, _⟩ := r₂
      have hd2 := hd.keep (p₂.f.keep S)
      exact PyProof.Rows.tail_any (T := "dict") hd2.typeIs PySem.F.slot_dict_getitem.lookup (wpAny_getItem_of (knd := strKind X.C.prog X.C.w) (k := ⟨z.toArray⟩) (by simp [strKind, Value.isStrOf]) hd2.mapOf ht
        (kk _ _ _ _ ⟨p₂.f.toks (s₂.toks + 1) (Nat.le_succ _), p₂.ag, p₂.vl⟩ (.val ⟨t, rfl⟩))) (slice_plain k.pl _ _)) fun _ => rfl

noncomputable def evCh (f g : Int → Int → Bool) (a b c : T G d fi) (σ : St) : Option (Bool × St) :=
  bd (a.ev σ) fun x σ => bd (b.ev σ) fun y σ => x.frz.int?.bind fun i => y.frz.int?.bind fun j => bd (dec true (f i j) σ) fun t σ => Bool.casesOn t (pu false σ) (bd (c.ev σ) fun z σ => z.frz.int?.bind fun k => pu (g j k) σ)
def ChS (G : Gl) (d : Nat) (fi : FI) (f g : Int → Int → Bool) (a b c : Expr) (ρ : Loc) (t : Bool) (ρ' : Loc) : Prop := ∃ x i ρ₁ y j ρ₂, EvG G d fi a ρ x ρ₁ ∧ x.frz = .int i ∧ EvG G d fi b ρ₁ y ρ₂ ∧ y.frz = .int j ∧
  ((f i j = false ∧ t = false ∧ ρ' = ρ₂) ∨ (f i j = true ∧ ∃ z k, EvG G d fi c ρ₂ z ρ' ∧ z.frz = .int k ∧ t = g j k))
theorem evCh_ok (f g : Int → Int → Bool) (a b c : T G d fi) : Ok (evCh f g a b c) (ChS G d fi f g a.x b.x c.x) := by
  intro σ t σ' e q
  obtain ⟨⟨x, σ₁⟩, e1, e⟩ := Option.bind_eq_some_iff.mp e
  obtain ⟨⟨y, σ₂⟩, e2, e⟩ := Option.bind_eq_some_iff.mp e
  obtain ⟨i, e3, e⟩ := Option.bind_eq_some_iff.mp e
  obtain ⟨j, e4, e⟩ := Option.bind_eq_some_iff.mp e
  obtain ⟨⟨t', σ₃⟩, e5, e⟩ := Option.bind_eq_some_iff.mp e
  cases t' with
  | false =>
    cases e
    obtain ⟨q3, z1, z2⟩ := Ok.dec true (f i j) _ _ _ e5 q
    obtain ⟨q2, h2⟩ := b.eo _ _ _ e2 q3
    obtain ⟨q1, h1⟩ := a.eo _ _ _ e1 q2
    exact ⟨q1, x, i, _, y, j, _, h1, V.int_of e3, h2, V.int_of e4, .inl ⟨z1.symm, rfl, z2.symm⟩⟩
  | true =>
    obtain ⟨⟨z, σ₄⟩, e6, e⟩ := Option.bind_eq_some_iff.mp e
    obtain ⟨k, e7, e⟩ := Option.bind_eq_some_iff.mp e
    cases e
    obtain ⟨q4, h3⟩ := c.eo _ _ _ e6 q
    obtain ⟨q3, z1, z2⟩ := Ok.dec true (f i j) _ _ _ e5 q4
    obtain ⟨q2, h2⟩ := b.eo _ _ _ e2 q3
    obtain ⟨q1, h1⟩ := a.eo _ _ _ e1 q2
    exact ⟨q1, x, i, _, y, j, _, h1, V.int_of e3, h2, V.int_of e4, .inr ⟨z1.symm, z, k, z2 ▸ h3, V.int_of e7, rfl⟩⟩
abbrev OrdOp (op : CmpOp) (f : Int → Int → Bool) : Prop := ∀ (C : Cx) (A : Around) (E : Value → Shared → Prop) (s : Shared) (i j : Int) (t u : Tok) (Q : Value → Shared → Prop), Q (.bool (f i j)) s → wpAny C.M A (compareOp op (.int i t) (.int j u)) Q E s
noncomputable def eChn (op op' : CmpOp) (f g : Int → Int → Bool) (hf : OrdOp op f) (hg : OrdOp op' g) (a b c : T G d fi) (p : Pos) (hm : lastMarks [op, op'] [b.x, c.x] = false) : T G d fi :=
  have ev : Ok (fun σ => bd (evCh f g a b c σ) fun t σ => pu (O.val (.bool t)) σ) (EvG G d fi (.Compare a.x [op, op'] [b.x, c.x] p)) :=
    (evCh_ok f g a b c).bd (R := fun t ρ o ρ' => o = .val (.bool t) ∧ ρ = ρ') (fun t => .pu fun _ => ⟨rfl, rfl⟩) fun _ t _ _ _ h q X E W φ s e S F Q k => by
      obtain ⟨rfl, rfl⟩ := q
      obtain ⟨x, i, ρ₁, y, j, ρ₂, h1, e1, h2, e2, h3⟩ := h
      refine PyProof.Rows.Compare_chain (h1.v X E W φ s e S F _ fun x' W₁ φ₁ s₁ p₁ r₁ => PyProof.Rows.chain_link (h2.v X E W₁ φ₁ s₁ e S p₁.f _ fun y' W₂ φ₂ s₂ p₂ r₂ => ?_)) hm
      rw [e1] at r₁; rw [e2] at r₂
      obtain ⟨t1, rfl⟩ := r₁; obtain ⟨t2, rfl⟩ := r₂
      refine hf _ _ _ _ _ _ _ _ _ (wpAny_truthy_bool ?_)
      rcases h3 with ⟨h3, rfl, rfl⟩ | ⟨h3, z, k', h4, e3, rfl⟩
      · rw [h3]; exact k _ _ _ _ (p₁.trans p₂) (.val rfl)
      · rw [h3]
        refine PyProof.Rows.chain_last (h4.v X E W₂ φ₂ s₂ e S p₂.f _ fun z' W₃ φ₃ s₃ p₃ r₃ => ?_)
        rw [e3] at r₃
        obtain ⟨t3, rfl⟩ := r₃
        exact hg _ _ _ _ _ _ _ _ _ (k _ _ _ _ ((p₁.trans p₂).trans p₃) (.val rfl))
  ⟨.Compare a.x [op, op'] [b.x, c.x] p, _, _, evCh f g a b c, rfl, ev, ev.mono fun _ _ _ h => h.pk, (evCh_ok f g a b c).mono fun ρ t ρ' h X E W φ s e S F Q k => by
      obtain ⟨x, i, ρ₁, y, j, ρ₂, h1, e1, h2, e2, h3⟩ := h
      refine PyProof.Rows.isTrue_chain (h1.v X E W φ s e S F _ fun x' W₁ φ₁ s₁ p₁ r₁ => PyProof.Rows.test_link (h2.v X E W₁ φ₁ s₁ e S p₁.f _ fun y' W₂ φ₂ s₂ p₂ r₂ => ?_)) hm
      rw [e1] at r₁; rw [e2] at r₂
      obtain ⟨t1, rfl⟩ := r₁; obtain ⟨t2, rfl⟩ := r₂
      refine hf _ _ _ _ _ _ _ _ _ (wpAny_truthy_bool ?_)
      rcases h3 with ⟨h3, rfl, rfl⟩ | ⟨h3, z, k', h4, e3, rfl⟩
      · rw [h3]; exact k _ _ _ (p₁.trans p₂)
      · rw [h3]
        refine PyProof.Rows.test_last (h4.v X E W₂ φ₂ s₂ e S p₂.f _ fun z' W₃ φ₃ s₃ p₃ r₃ => ?_)
        rw [e3] at r₃
        obtain ⟨t3, rfl⟩ := r₃
        exact hg _ _ _ _ _ _ _ _ _ (wpAny_truthy_bool (k _ _ _ ((p₁.trans p₂).trans p₃)))⟩
noncomputable def eLtLt (a b c : T G d fi) (p : Pos) (hm : lastMarks [.Lt, .Lt] [b.x, c.x] = false) : T G d fi := eChn .Lt .Lt (fun i j => decide (i < j)) (fun i j => decide (i < j)) (fun _ _ _ _ _ _ _ _ _ k => P.lt_int k) (fun _ _ _ _ _ _ _ _ _ k => P.lt_int k) a b c p hm
noncomputable def eLeLe (a b c : T G d fi) (p : Pos) (hm : lastMarks [.LtE, .LtE] [b.x, c.x] = false) : T G d fi := eChn .LtE .LtE (fun i j => decide (i ≤ j)) (fun i j => decide (i ≤ j)) (fun _ _ _ _ _ _ _ _ _ k => P.le_int k) (fun _ _ _ _ _ _ _ _ _ k => P.le_int k) a b c p hm

noncomputable def kNotInS (x : V) (y : O) : Option (Bool × List Prop) := y.val?.bind fun y => x.str?.bind fun c => y.str?.bind fun z => List.casesOn c none fun a r => List.casesOn r (some (!z.contains a, [])) fun _ _ => none
theorem primNotInS : PrimC G d .NotIn kNotInS := by
  intro x y t ps e q X E W φ s ρ S F x' y' rx ry Q k
  obtain ⟨v, e1, e⟩ := Option.bind_eq_some_iff.mp e
  obtain ⟨c, e2, e⟩ := Option.bind_eq_some_iff.mp e
  obtain ⟨z, e3, e⟩ := Option.bind_eq_some_iff.mp e
  rw [O.val_of e1, V.str_of e3] at ry; rw [V.str_of e2] at rx
  obtain ⟨t1, rfl, _⟩ := rx; obtain ⟨t2, rfl, _⟩ := ry
  cases c with
  | nil => cases e
  | cons a r =>
  cases r with
  | cons _ _ => cases e
  | nil =>
  cases e
  refine P.notIn_str ?_
  have := PySem.StrLaws.found_one ⟨z.toArray⟩ a
  rw [show (⟨[a].toArray⟩ : Str) = ⟨#[a]⟩ from rfl, this]
  have e : (decide (a ∈ (⟨z.toArray⟩ : Str).cps.toList)) = z.contains a := by simp
  rw [e]; exact k s.toks (Nat.le_refl _)
noncomputable def eNotInS : T G d fi → T G d fi → Pos → T G d fi := eCmp .NotIn kNotInS primNotInS

end
end Mine
end

section
open PySem
set_option autoImplicit false
set_option linter.unusedVariables false
namespace Mine
open PySem.W (Frag kitOne keepIn Looks)

section
variable {G : Gl} {d : Nat} {fi : FI} {X : FC} {outer : List Env} {c e : Addr} {s : Shared} {E : Value → Shared → Prop} {W : WS} {φ : Nat → List Addr} {ρ : Loc}
end

section
variable (G : Gl) (d : Nat) (fi : FI) (cN : Addr)
end
section
variable {G : Gl} {d : Nat} {fi : FI} {cN : Addr}
section
variable {c : T G d fi} {b : SL G d fi} {ρ ρ' : Loc} {tp : List Tk} {P : Prop}
end
end
end Mine
end

section
open PySem PySem.W
set_option autoImplicit false
set_option linter.unusedVariables false
namespace Mine
open PySem.W (Frag kitOne keepIn Looks)

section
variable {K : Frag} {prog : Program} {w : World} {A : Around} {E : Value → Shared → Prop} {s : Shared} {Q : Value → Shared → Prop}
end

section
variable {G : Gl} {d : Nat} {X : FC}
end
end Mine
end

section
open PySem PySem.W
set_option autoImplicit false
set_option linter.unusedVariables false
namespace Mine

noncomputable def intAt (K : Frag) (x : Str) (i : Int) : Bool := match nsFind (topOf K) x with
  | some (.int j _) => j == i
  | _ => false
noncomputable def strAt (K : Frag) (x : Str) (z : List Nat) : Bool := match nsFind (topOf K) x with
  | some (.str y _) => y == ⟨z.toArray⟩
  | _ => false
noncomputable def strsM : List Value → List (List Nat) → Bool
  | [], [] => true
  | .str x _ :: vs, z :: zs => (x == ⟨z.toArray⟩) && (PyData.strOk ⟨z.toArray⟩ && Nat.ble z.length 1000) && strsM vs zs
  | _, _ => false
noncomputable def tupAt (K : Frag) (a : Addr) (zs : List (List Nat)) : Bool := match K.lookup a with
  | some ⟨c, dd, .seq vs n, sl⟩ => c == .type "tuple" && dd.isNone && sl.size == 0 && strsM vs.toList zs && Nat.ble zs.length 1000
  | _ => false
noncomputable def entM : List DictEntry → List (List Nat × Int) → Bool
  | [], [] => true
  | ⟨_, .str x _, .int j _⟩ :: es, kv :: kvs => (x == ⟨kv.1.toArray⟩) && (j == kv.2) && entM es kvs
  | _, _ => false
noncomputable def dicAt (K : Frag) (a : Addr) (kvs : List (List Nat × Int)) : Bool := match K.lookup a with
  | some ⟨c, dd, .dict es ep, sl⟩ => c == .type "dict" && dd.isNone && sl.size == 0 && entM es.toList kvs
  | _ => false
noncomputable def hashesAt (K : Frag) (a : Addr) : List Int := match K.lookup a with
  | some ⟨_, _, .dict es _, _⟩ => es.toList.map (·.hash)
  | _ => []
section
variable {K : Frag} {C : Cx} (X : K.In C.h) (hm : ∀ x, C.mg x = nsFind (topOf K) x)
include hm
theorem gval_int {x : Str} {i : Int} (h : intAt K x i = true) : GVal C x (.int i) := by
  unfold intAt at h
  split at h
  · rename_i j t e; rw [beq_iff_eq] at h; subst h; exact ⟨_, (hm x).trans e, t, rfl⟩
  · cases h
theorem gval_str {x : Str} {z : List Nat} (h : strAt K x z = true) (hk : (PyData.strOk ⟨z.toArray⟩ && Nat.ble z.length 1000) = true) : GVal C x (.str z) := by
  rw [Bool.and_eq_true] at hk
  have hl := Nat.le_of_ble_eq_true hk.2
  unfold strAt at h
  split at h
  · rename_i j t e; rw [beq_iff_eq] at h; subst h; exact ⟨_, (hm x).trans e, t, rfl, hk.1, by rw [sizeLine_eq]; omega⟩
  · cases h
omit hm
theorem strsM_ok {W : WS} {h : Heap} : ∀ {vs : List Value} {zs : List (List Nat)}, strsM vs zs = true → VRs W h (zs.map .str) vs
  | [], [], _ => rfl
  | [], _ :: _, e => nomatch e
  | v :: vs, [], e => by cases v <;> cases e
  | v :: vs, z :: zs, e => by
    unfold strsM at e
    split at e
    · rename_i h1 h2; cases h1
    · rename_i x t vs' z' zs' h1 h2
      cases h1; cases h2
      simp only [Bool.and_eq_true, beq_iff_eq] at e
      obtain ⟨⟨rfl, e2, e3⟩, e4⟩ := e
      have hl := Nat.le_of_ble_eq_true e3
      exact .cons ⟨t, rfl, e2, by rw [sizeLine_eq]; omega⟩ (strsM_ok e4)
    · cases e
include X hm
theorem gval_tup {x : Str} {a : Addr} {zs : List (List Nat)} (h1 : nsFind (topOf K) x = some (.ref a)) (h : tupAt K a zs = true) : GVal C x (.tup (zs.map .str)) := by
  unfold tupAt at h
  split at h
  · rename_i c dd vs n sl e
    simp only [Bool.and_eq_true, beq_iff_eq, Option.isNone_iff_eq_none] at h
    obtain ⟨⟨⟨⟨rfl, rfl⟩, h3⟩, h4⟩, h5⟩ := h
    have hsl : sl = #[] := Array.eq_empty_of_size_eq_zero h3
    subst hsl
    have hl := Nat.le_of_ble_eq_true h5
    exact ⟨_, (hm x).trans h1, a, vs, n, rfl, ⟨_, X _ _ e⟩, X _ _ e, by rw [List.length_map, sizeLine_eq]; omega, strsM_ok h4⟩
  · cases h
omit X hm
theorem entM_ok (prog : Program) (w : World) : ∀ {es : List DictEntry} {kvs : List (List Nat × Int)}, entM es kvs = true → es.map (·.hash) = kvs.map (fun kv => PyData.keyHash w.params ⟨kv.1.toArray⟩) →
    ∃ kws : List (Str × Value), Pairs (strKind prog w) es kws ∧ kws.map (·.1) = kvs.map (fun kv => (⟨kv.1.toArray⟩ : Str)) ∧ (∀ e ∈ es, ∃ k, (strKind prog w).is k e.key = true ∧ e.hash = (strKind prog w).hash k) ∧ ∀ z i, kvs.lookup z = some i → ∃ t, valueAt kws ⟨z.toArray⟩ = some (.int i t)
  | [], [], _, _ => ⟨[], .nil, rfl, fun _ q => (nomatch q), fun _ _ q => (nomatch q)⟩
  | [], _ :: _, e, _ => nomatch e
  | ⟨_, k, v⟩ :: es, [], e, _ => by cases k <;> cases v <;> cases e
  | e0 :: es, kv :: kvs, e, hh => by
    unfold entM at e
    split at e
    · rename_i h1 h2; cases h1
    · rename_i hs x t j t' es' kv' kvs' h1 h2
      cases h1; cases h2
      simp only [Bool.and_eq_true, beq_iff_eq] at e
      obtain ⟨⟨rfl, rfl⟩, e3⟩ := e
      rw [List.map_cons, List.map_cons, List.cons.injEq] at hh
      obtain ⟨kws, p1, p2, p3, p4⟩ := entM_ok prog w e3 hh.2
      have his : (strKind prog w).is ⟨kv.1.toArray⟩ (.str ⟨kv.1.toArray⟩ t) = true := by simp [strKind, Value.isStrOf]
      refine ⟨(⟨kv.1.toArray⟩, .int kv.2 t') :: kws, .cons his rfl p1, by rw [List.map_cons, List.map_cons, p2], fun e' q => ?_, fun z i q => ?_⟩
      · rcases List.mem_cons.mp q with rfl | q
        · exact ⟨_, his, hh.1⟩
        · exact p3 e' q
      · rw [List.lookup_cons] at q
        by_cases hz : z = kv.1
        · subst hz
          rw [beq_self_eq_true] at q
          cases q
          exact ⟨t', by simp [valueAt]⟩
        · have hz' : (z == kv.1) = false := by simpa using hz
          rw [hz'] at q
          obtain ⟨t2, q2⟩ := p4 z i q
          refine ⟨t2, ?_⟩
          rw [← q2]
          unfold valueAt
          have : ¬ (⟨kv.1.toArray⟩ : Str) = ⟨z.toArray⟩ := fun q => hz (by simpa using q.symm)
          rw [List.find?_cons_of_neg (by simpa using this)]
    · cases e
include X hm
theorem gdic_ok {x : Str} {a : Addr} {kvs : List (List Nat × Int)} (h1 : nsFind (topOf K) x = some (.ref a)) (h : dicAt K a kvs = true) (hh : hashesAt K a = kvs.map (fun kv => PyData.keyHash C.w.params ⟨kv.1.toArray⟩)) (hn : (kvs.map (fun kv => (⟨kv.1.toArray⟩ : Str))).Nodup) : GDic C x kvs := by
  unfold dicAt at h
  split at h
  · rename_i c dd es ep sl e
    simp only [Bool.and_eq_true, beq_iff_eq, Option.isNone_iff_eq_none] at h
    obtain ⟨⟨⟨rfl, rfl⟩, h3⟩, h4⟩ := h
    unfold hashesAt at hh
    rw [e] at hh
    obtain ⟨kws, p1, p2, p3, p4⟩ := entM_ok C.prog C.w h4 hh
    refine ⟨a, kws, (hm x).trans h1, ⟨_, es, ep, X _ _ e, ⟨rfl, rfl, Array.eq_empty_of_size_eq_zero h3⟩, rfl, fun e' q => p3 e' (by simpa using q), p1, by rw [p2]; exact hn⟩, p4⟩
  · cases h
omit hm
include hm
end
end Mine
end

section
open PySem
set_option autoImplicit false
set_option linter.unusedVariables false
namespace Mine
open PySem.W (Looks keepIn)
section
variable {X : FC} {W : WS} {φ : Nat → List Addr} {s : Shared} {ρ : Loc}
end
section
variable {G : Gl} {d : Nat} {fi : FI}
end
end Mine
end

section
open PySem
set_option autoImplicit false
set_option linter.unusedVariables false
namespace Mine
open Sem (wp)
section
variable {α β : Type}
end
section
variable {G : Gl} {d : Nat} {fi : FI}
end
end Mine
end

section
open PySem
set_option autoImplicit false
set_option linter.unusedVariables false
namespace Mine
section
variable {G : Gl} {d : Nat} {fi : FI}
end
end Mine
end

section
open PySem
set_option autoImplicit false
set_option linter.unusedVariables false
namespace Mine
section
variable {G : Gl} {d : Nat} {fi : FI}
end
end Mine
end

section
open PySem
set_option autoImplicit false
set_option linter.unusedVariables false
namespace Mine
section
variable {G : Gl} {d : Nat} {fi : FI}
end
end Mine
end

section
open PySem
set_option autoImplicit false
set_option linter.unusedVariables false
namespace Mine
open PySem.W (Frag kitOne keepIn Looks clsIn findIn typeIn specialIn takesIn mroIn makesIn plainGet hasDictIn plainOver takerIn isFn InstAt kitAny lookIn)
theorem lookIn_ns {o : Obj} {es : Array DictEntry} {ep : Nat} {m : Str → Option Value} {x : Str} (hd : o.data = .dict es ep) (hk : StrKeys es) (hm : ∀ y, nsFind es y = m y) : lookIn x o = some (m x) := by
  unfold lookIn
  rw [hd]
  dsimp only
  have h1 := hm x
  unfold nsFind findBy at h1
  rw [← Array.find?_toList] at h1
  split
  · rename_i e q
    rw [q] at h1; rw [← h1]; rfl
  · rename_i q
    rw [q] at h1
    rw [if_neg, ← h1]
    · rfl
    · intro z
      rw [List.any_eq_true] at z
      obtain ⟨e, he, hr⟩ := z
      obtain ⟨n, t, hke⟩ := hk e (Array.mem_toList_iff.mp he)
      unfold DictEntry.refKey at hr
      rw [hke] at hr
      cases hr
theorem clsChk_of {K : Frag} {C fI : Addr} {attrs : List Str} (h : clsChk K C fI attrs = true) :
    makesIn K C = true ∧ plainGet K C "__class__" = true ∧ hasDictIn K C = true ∧ findIn K (.ref C) "__setattr__" = some (some (.builtin "object.__setattr__")) ∧ plainOver K C = true ∧
    findIn K (.ref C) "__init__" = some (some (.ref fI)) ∧ isFn K (.ref fI) = true ∧ findIn K (.ref C) "__class__" = some (some (.builtin "object.__class__")) ∧
    specialIn K (.builtin "object.__class__") "__get__" = some (some (.builtin "getset_descriptor.__get__")) ∧ takesIn K (.builtin "object.__class__") = some true ∧ mroIn K C (.type "object") = some true ∧ ∀ a ∈ attrs, findIn K (.ref C) a = some none ∧ takerIn K C a = some none := by
  simp only [clsChk, Bool.and_eq_true, beq_iff_eq, List.all_eq_true] at h
  obtain ⟨⟨⟨⟨⟨⟨⟨⟨⟨⟨⟨h1, h2⟩, h3⟩, h4⟩, h5⟩, h6⟩, h7⟩, h9⟩, h10⟩, h11⟩, h12⟩, h8⟩ := h
  exact ⟨h1, h2, h3, h4, h5, h6, h7, h9, h10, h11, h12, h8⟩
theorem VR.handed {W : WS} {h : Heap} {v : V} {v' : Value} (r : VR W h v v') : PySem.W.handedIn v' = true := by
  cases v with
  | none => cases r; rfl
  | bool b => cases r; rfl
  | int i => obtain ⟨t, rfl⟩ := r; rfl
  | str z => obtain ⟨t, rfl, _⟩ := r; rfl
  | tup l => obtain ⟨a, vs, n, rfl, _⟩ := VR.tup r; rfl
  | lst l => obtain ⟨a, vs, n, rfl, _⟩ := VR.lst r; rfl
  | ins t l => obtain ⟨a, _, _, rfl, _⟩ := VR.ins r; rfl
  | dic w k l => obtain ⟨a, _, rfl, _⟩ := VR.dic r; rfl
section
variable {G : Gl} {d : Nat} {fi : FI} {X : FC} {W : WS} {φ : Nat → List Addr} {s : Shared} {ρ : Loc} {E : Value → Shared → Prop}
theorem inst_at {h : Heap} {oa da c : Addr} {m : Str → Option Value} (h1 : h.get? oa = some (insO c da)) (h2 : h.Ns1 da m) : ∃ od, InstAt h oa (insO c da) c (some od) ∧ ∀ x, lookIn x od = some (m x) := by
  obtain ⟨o, es, ep, h3, h4, h5, h5', h6⟩ := h2
  exact ⟨o, ⟨h1, rfl, rfl, h3⟩, fun x => lookIn_ns h4 h5 h6⟩
theorem getF {nm : Str} {t : CT} {fI oa da : Addr} {m : Str → Option Value} {x : Str} {v' : Value} {b : Bool} {Q : Value → Shared → Prop} (S : FS G d X) (F : At X W φ s ρ) (c : ClsAt X.C nm t fI) (h1 : s.heap.get? oa = some (insO t.c da)) (h2 : s.heap.Ns1 da m)
    (hx : x ∈ t.vn ++ t.ln) (hm : m x = some v') (hh : PySem.W.handedIn v' = true) (h : Q v' { s with toks := s.toks + 1 }) : wpAny X.C.M X.A (getAttr (.ref oa) x b) Q E s := by
  obtain ⟨c1, c2, c3, c4, c5, c6, c7, _, _, _, _, c8⟩ := clsChk_of c.chk
  obtain ⟨od, I, hl⟩ := inst_at h1 h2
  exact PySem.W.get_value (F.In S) I (PySem.W.plainGet_of c2).1 (PySem.W.findObj_own c3 (c8 x hx).1 rfl (by rw [hl, hm])) hh h
theorem setF {nm : Str} {t : CT} {fI oa da : Addr} {m : Str → Option Value} {x : Str} {v' : Value} {Q : Unit → Shared → Prop} (S : FS G d X) (F : At X W φ s ρ) (c : ClsAt X.C nm t fI) (h1 : s.heap.get? oa = some (insO t.c da)) (h2 : s.heap.Ns1 da m)
    (hx : x ∈ t.vn ++ t.ln) (hw : ∀ y, m y ≠ none → y ∈ t.vn ++ t.ln) (h : ∀ h', h'.Ns1 da (fun y => if y = x then some v' else m y) → Heap.SameBut da s.heap h' → Q () { s with heap := h', toks := s.toks + 1 + 1 }) : wpAny X.C.M X.A (setAttr (.ref oa) x v') Q E s := by
  obtain ⟨c1, c2, c3, c4, c5, c6, c7, _, _, _, _, c8⟩ := clsChk_of c.chk
  obtain ⟨od, I, hl⟩ := inst_at h1 h2
  refine PySem.W.set_plain (F.In S) I c4 ?_
  have F1 := F.toks (s.toks + 1) (Nat.le_succ _)
  refine PySem.W.osa_open (s := { s with toks := s.toks + 1 }) (F1.In S) I c5 (c8 x hx).2 fun b => ?_
  obtain ⟨cd, hcd, hd'⟩ := PySem.W.any_some c3
  refine wpAny_bind (wpAny_pure (wpAny_bind (wpAny_bind (wpAny_loadPart I.at_ (wpAny_bind ((PySem.W.looks_clsIn (F1.In S) hcd).here ?_))))))
  rw [hd']
  refine wpAny_pure (a := some da) (wpAny_bind (wpAny_pure (wpAny_bind (wpAny_nsSet1 h2 fun h' hn' hs' => ?_))))
  have hw' : ∀ y, (if y = x then some v' else m y) ≠ none → y ∈ t.vn ++ t.ln := fun y hy => by
    by_cases q : y = x
    · rw [q]; exact hx
    · rw [if_neg q] at hy; exact hw y hy
  obtain ⟨oD, esD, epD, hoD, hdD, hcD⟩ := hn'.count hw'
  refine wpAny_bind (wpAny_lookBehind hoD (by rw [hdD]; exact pastItsLine_dict (Nat.le_trans hcD (Nat.le_trans c.few (by rw [sizeLine_eq]; omega)))) ?_)
  exact wpAny_pure (h h' hn' hs')
noncomputable def V.ins? (v : V) : Option (CT × List V) := V.casesOn v Option.none (fun _ => Option.none) (fun _ => Option.none) (fun _ => Option.none) (fun _ => Option.none) (fun _ => Option.none) (fun t l => some (t, l)) (fun _ _ _ => Option.none)
theorem V.ins_of {v : V} {p : CT × List V} (e : v.ins? = some p) : v = .ins p.1 p.2 := by cases v <;> cases e; rfl
theorem zipF : ∀ {ns : List Str} {vs : List Value} {i : Nat} {x : Str} {v' : Value}, ns.Nodup → ns[i]? = some x → vs[i]? = some v' → (ns.zip vs).lookup x = some v'
  | [], _, _, _, _, _, h, _ => nomatch h
  | n :: ns, [], i, _, _, _, _, h => nomatch h
  | n :: ns, u :: vs, 0, x, v', hn, h1, h2 => by cases h1; cases h2; rw [List.zip_cons_cons, List.lookup_cons]; simp
  | n :: ns, u :: vs, i + 1, x, v', hn, h1, h2 => by
    have hne : (x == n) = false := beq_eq_false_iff_ne.mpr fun e => (List.nodup_cons.mp hn).1 (e ▸ List.mem_of_getElem? h1)
    rw [List.zip_cons_cons, List.lookup_cons, hne]
    exact zipF (List.nodup_cons.mp hn).2 h1 h2
noncomputable def eAttr (nm : Str) (t : CT) (fI : Addr) (y : Str) (yi : Nat) (yp : Pos) (f : Str) (i : Nat) (p : Pos) (hy : fi.isVar y yi = true) (hc : G.cl.lookup nm = some (t, fI)) (hf : t.vn[i]? = some f) : T G d fi :=
  .mk' (.Attribute (.Name y yp) f p) (fun σ => bd (evVar yi σ) fun o σ => rt (o.frz.ins?.bind fun q => (q.2[i]?).bind fun v => some (.val v, [q.1 = t])) σ) rfl
    ((evVar_ok (G := G) (d := d) (p := yp) hy).bd (R := fun o ρ r ρ' => ∃ l v, o.frz = .ins t l ∧ l[i]? = some v ∧ r = .val v ∧ ρ = ρ') (fun o => .rt fun r ps ρ e q => by
      obtain ⟨p, e1, e⟩ := Option.bind_eq_some_iff.mp e
      obtain ⟨v, e2, e⟩ := Option.bind_eq_some_iff.mp e
      cases e
      have h1 := V.ins_of e1
      rw [show p.1 = t from q.1] at h1
      exact ⟨p.2, v, h1, e2, rfl, rfl⟩) fun _ o _ _ _ h q => by
      obtain ⟨l, v, e1, e2, rfl, rfl⟩ := q
      intro X E W φ s e S F Q k
      refine PyProof.Rows.Attribute_name (h.v X E W φ s e S F _ fun v' W' φ' s' p' r' => ?_)
      rw [e1] at r'
      obtain ⟨a, da, vs, rfl, wa, wd, h1, h2, h3⟩ := VR.ins r'
      obtain ⟨u, h4, h5⟩ := h3.get e2
      have c := S.g.cl nm t fI hc
      exact getF S p'.f c h1 h2 (List.mem_append_left _ (List.mem_of_getElem? hf)) (zipF (List.nodup_append.mp c.nd).1 hf h4) h5.handed ((Aft.of p' k).here p'.f.f.wf h5)) fun _ => rfl
noncomputable def kindC (t : CT) (o : O) : Option (Bool × List Prop) := O.casesOn o (fun v => V.casesOn v (some (false, [])) (fun _ => some (false, [])) (fun _ => some (false, [])) (fun _ => some (false, [])) (fun _ => some (false, [])) (fun _ => some (false, [])) (fun t' _ => some (true, [t'.c = t.c])) (fun _ _ _ => none)) (fun _ => some (false, [])) (fun _ => some (false, [])) (fun _ _ _ => none) (fun _ _ _ => none)
theorem isC_ok {nm : Str} {t : CT} {fI : Addr} {a : O} {a' : Value} {b : Bool} {ps : List Prop} {Q : Value → Shared → Prop} (S : FS G d X) (F : At X W φ s ρ) (r : BR W s.heap a a') (c : ClsAt X.C nm t fI) (e : kindC t a = some (b, ps)) (q : All ps)
    (fin : ∀ tk, s.toks ≤ tk → Q (.bool b) { s with toks := tk }) : wpAny X.C.M X.A (call (.builtin "isinstance") [a', .ref t.c]) Q E s := by
  have IN := F.In S
  refine wpAny_with_toks (Nat.le_refl _) ?_
  have fin : ∀ tk, (fun v (s' : Shared) => s.toks ≤ s'.toks → Q v s') (.bool b) { s with toks := tk } := fun tk ht => fin tk ht
  cases a with
  | obj _ _ _ => cases e
  | dic _ _ _ => cases e
  | own r' => cases e; obtain ⟨p, rfl, vs, n, h1, _⟩ := r; exact PySem.W.kia_one PySem.W.kitx_list IN ⟨_, h1, rfl⟩ (c.no .list) (by simp) fin
  | own2 r' => cases e; obtain ⟨p, as, rfl, vs, n, h1, _⟩ := r; exact PySem.W.kia_one PySem.W.kitx_list IN ⟨_, h1, rfl⟩ (c.no .list) (by simp) fin
  | val v =>
    cases v with
    | none => cases e; cases r; exact PySem.W.kia_one PySem.W.kitx_none IN trivial (c.no .none) (by simp) fin
    | bool b => cases e; cases r; exact PySem.W.kia_one PySem.W.kitx_bool IN trivial (c.no .bool) (by simp) fin
    | int i => cases e; obtain ⟨_, rfl⟩ := r; exact PySem.W.kia_one PySem.W.kitx_int IN trivial (c.no .int) (by simp) fin
    | str z => cases e; obtain ⟨_, rfl, _⟩ := r; exact PySem.W.kia_one PySem.W.kitx_str IN trivial (c.no .str) (by simp) fin
    | tup l => cases e; obtain ⟨p, vs, m, rfl, _, h1, _⟩ := VR.tup r; exact PySem.W.kia_one PySem.W.kitx_tuple IN ⟨_, h1, rfl⟩ (c.no .tup) (by simp) fin
    | lst l => cases e; obtain ⟨p, vs, m, rfl, _, h1, _⟩ := VR.lst r; exact PySem.W.kia_one PySem.W.kitx_list IN ⟨_, h1, rfl⟩ (c.no .list) (by simp) fin
    | dic _ _ _ => cases e
    | ins t' l =>
      cases e
      have q1 : t'.c = t.c := q.1
      obtain ⟨p, da, vs, rfl, _, _, h1, h2, _⟩ := VR.ins r
      rw [q1] at h1
      obtain ⟨c1, c2, c3, c4, c5, c6, c7, c9, c10, c11, c12, c8⟩ := clsChk_of c.chk
      obtain ⟨od, I, hl⟩ := inst_at h1 h2
      exact PySem.W.kia_one (PySem.W.kitx_own c2 c3 c9 c10 c11 c12) IN I c.yes (by simp) fin
noncomputable def eIsC (nm : Str) (t : CT) (fI : Addr) (a : T G d fi) (p' p'' p : Pos) (hc : G.cl.lookup nm = some (t, fI)) (h : (isBi G fi "isinstance" && fi.isGlob nm) = true) : T G d fi :=
  .mk' (.Call (.Name "isinstance" p') [a.x, .Name nm p''] [] p) (fun σ => bd (a.pk σ) fun x σ => rt ((kindC t x).bind fun q => some (.val (.bool q.1), q.2)) σ) rfl
    (a.po.bd (R := fun x ρ o ρ' => ∃ b ps, kindC t x = some (b, ps) ∧ All ps ∧ o = .val (.bool b) ∧ ρ = ρ') (fun x => .rt fun o ps ρ e q => by obtain ⟨k, e1, e⟩ := Option.bind_eq_some_iff.mp e; cases e; exact ⟨k.1, k.2, e1, q, rfl, rfl⟩) fun _ x _ _ _ hx q => by
      obtain ⟨b, ps, e1, e2, rfl, rfl⟩ := q
      rw [Bool.and_eq_true] at h
      intro X E W φ s e S F Q kk
      have c := S.g.cl nm t fI hc
      refine PyProof.Rows.Call_ (bi_ok S F (e ▸ h.1) boot_isinstance ?_)
      rw [starEach_plain (xs := [a.x, .Name nm p'']) (fun y q => by
        rcases List.mem_cons.mp q with rfl | q
        · exact a.pl
        · cases List.mem_singleton.mp q; rfl), backTo_plain]
      refine callW (K := X.C.K) (fun h _ => keeper_builtin _ h _) (PySem.Calls.spliced_cons (hx X E W φ s e S F _ fun x' W' φ' s' p' r' => PySem.Calls.spliced_cons (glob_ok S p'.f (e ▸ h.2) c.g (PySem.Calls.spliced_nil ⟨p'.f.In S, ?_⟩))))
      exact isC_ok S p'.f r' c e1 e2 fun tk ht => kk _ _ _ _ ⟨p'.f.toks tk ht, p'.ag, p'.vl⟩ (.val rfl)) fun _ => rfl
end
end Mine
end

section
open PySem
set_option autoImplicit false
set_option linter.unusedVariables false
namespace Mine
section
variable {X : FC} {W : WS} {φ : Nat → List Addr} {s : Shared} {ρ : Loc}
theorem At.turn3 (F : At X W φ s ρ) {x : Str} {i : Nat} {h' : Heap} {t : Nat} (ti : ∀ y, X.fi.tbl.lookup y = some i → y = x) (hk : ∀ b o, b ∉ φ i → s.heap.get? b = some o → h'.get? b = some o) (ht : s.toks ≤ t := by first | exact Nat.le_refl _ | assumption | exact Nat.le_succ _ | omega | (dsimp only; omega) | (dsimp only at *; omega)) :
    Ag W s.heap W h' ∧ (∀ y v, Val X.env s.heap y v → Val X.env h' y v) ∧ ∀ {p : List Addr} {o : O} {v' : Value}, Val X.env s.heap x v' → OR W h' p o v' → (∀ b, b ∈ p → b ∈ φ i ∨ Fre X W φ b) → At X W (upd φ i p) { s with heap := h', toks := t } (ρ.set i (some o)) := by
  obtain ⟨F1, hf⟩ := F.free i
  have fr : ∀ b, b ∈ φ i → Fre X W (upd φ i []) b := fun b q => ⟨(hf b q).1, (hf b q).2.1, (hf b q).2.2.1, (hf b q).2.2.2⟩
  obtain ⟨F2, ag, val⟩ := F1.move (D := (· ∈ φ i)) (h' := h') (W' := W) (t := t) fr (fun b o q e => hk b o q e) (fun _ q => q) (fun b q => by obtain ⟨o, e⟩ := F1.f.wf b q; exact ⟨o, hk b o (fun z => (hf b z).2.1 q) e⟩) (fun _ _ _ _ q => q) ht
  refine ⟨ag, val, fun hv r hp => F2.put ti (val _ _ hv) r fun a q => ?_⟩
  rcases hp a q with z | z
  · exact fr a z
  · exact ⟨z.pin, z.w, fun m => z.mu m.less, z.nc⟩
end
noncomputable def objAt (ρ : Loc) (i : Nat) : Option (CT × List V × List (List V)) := (slot ρ i).bind fun o => O.casesOn o (fun _ => none) (fun _ => none) (fun _ => none) (fun t l r => some (t, l, r)) fun _ _ _ => none
theorem objAt_some {ρ : Loc} {i : Nat} {t : CT} {l : List V} {r : List (List V)} (e : objAt ρ i = some (t, l, r)) : ρ[i]? = some (some (.obj t l r)) := by
  obtain ⟨o, e1, e⟩ := Option.bind_eq_some_iff.mp e
  cases o with
  | obj _ _ _ => cases e; exact slot_some e1
  | _ => cases e
noncomputable def putV (v : V) (l : List V) : Nat → Option (List V) := @List.rec V (fun _ => Nat → Option (List V)) (fun k => Nat.casesOn k (some [v]) fun _ => none) (fun x r ih k => Nat.casesOn k (some (v :: r)) fun k => (ih k).bind fun q => some (x :: q)) l
theorem putV_of {v : V} : ∀ {l : List V} {k : Nat} {l' : List V}, putV v l k = some l' → (k < l.length ∧ l' = l.set k v) ∨ (k = l.length ∧ l' = l ++ [v])
  | [], 0, _, e => by cases e; exact .inr ⟨rfl, rfl⟩
  | [], k + 1, _, e => by cases e
  | x :: l, 0, _, e => by cases e; exact .inl ⟨Nat.succ_pos _, rfl⟩
  | x :: l, k + 1, l', e => by
    obtain ⟨q, e1, e⟩ := Option.bind_eq_some_iff.mp (show (putV v l k).bind (fun q => some (x :: q)) = some l' from e)
    cases e
    rcases putV_of e1 with ⟨h1, rfl⟩ | ⟨h1, rfl⟩
    · exact .inl ⟨Nat.succ_lt_succ h1, rfl⟩
    · exact .inr ⟨by rw [h1]; rfl, rfl⟩
theorem zip_set : ∀ {ns : List Str} {vs : List Value} {k : Nat} {x : Str} {v' : Value}, ns.Nodup → ns[k]? = some x → k < vs.length → ∀ y, (ns.zip (vs.set k v')).lookup y = if y = x then some v' else (ns.zip vs).lookup y
  | [], _, _, _, _, _, h, _, _ => nomatch h
  | n :: ns, [], _, _, _, _, _, h, _ => nomatch h
  | n :: ns, u :: vs, 0, x, v', hn, h1, h2, y => by
    cases h1
    rw [List.set_cons_zero, List.zip_cons_cons, List.zip_cons_cons, List.lookup_cons, List.lookup_cons]
    by_cases q : y = n
    · subst q; simp
    · rw [beq_eq_false_iff_ne.mpr q, if_neg q]
  | n :: ns, u :: vs, k + 1, x, v', hn, h1, h2, y => by
    have hne : n ≠ x := fun e => (List.nodup_cons.mp hn).1 (e ▸ List.mem_of_getElem? h1)
    rw [List.set_cons_succ, List.zip_cons_cons, List.zip_cons_cons, List.lookup_cons, List.lookup_cons]
    by_cases q : y = n
    · subst q; simp [hne]
    · rw [beq_eq_false_iff_ne.mpr q]; exact zip_set (List.nodup_cons.mp hn).2 h1 (Nat.lt_of_succ_lt_succ h2) y
theorem zip_ins : ∀ {A : List Str} {vs : List Value} {x : Str} {v' : Value} {B : List Str} {us : List Value}, A.length = vs.length → (A ++ x :: B).Nodup → ∀ y, ((A ++ x :: B).zip (vs ++ v' :: us)).lookup y = if y = x then some v' else ((A ++ B).zip (vs ++ us)).lookup y
  | [], [], x, v', B, us, _, hn, y => by
    rw [List.nil_append, List.nil_append, List.nil_append, List.nil_append, List.zip_cons_cons, List.lookup_cons]
    by_cases q : y = x
    · subst q; simp
    · rw [beq_eq_false_iff_ne.mpr q, if_neg q]
  | [], _ :: _, _, _, _, _, h, _, _ => nomatch h
  | _ :: _, [], _, _, _, _, h, _, _ => nomatch h
  | n :: A, u :: vs, x, v', B, us, hl, hn, y => by
    have hn' := List.nodup_cons.mp hn
    have hne : n ≠ x := fun e => hn'.1 (e ▸ List.mem_append_right _ List.mem_cons_self)
    rw [List.cons_append, List.cons_append, List.cons_append, List.cons_append, List.zip_cons_cons, List.zip_cons_cons, List.lookup_cons, List.lookup_cons]
    by_cases q : y = n
    · subst q; simp [hne]
    · rw [beq_eq_false_iff_ne.mpr q]; exact zip_ins (Nat.succ.inj hl) hn'.2 y
theorem flds_nd {t : CT} (h : (t.vn ++ t.ln).Nodup) (n m : Nat) : (flds t n m).Nodup := h.sublist ((List.take_sublist n _).append (List.take_sublist m _))
theorem flds_mem {t : CT} {n m : Nat} {y : Str} (h : y ∈ flds t n m) : y ∈ t.vn ++ t.ln := by
  rcases List.mem_append.mp h with h | h
  · exact List.mem_append_left _ (List.mem_of_mem_take h)
  · exact List.mem_append_right _ (List.mem_of_mem_take h)
theorem lookup_mem {ns : List Str} {vs : List Value} {y : Str} (h : (ns.zip vs).lookup y ≠ none) : y ∈ ns := by
  cases q : (ns.zip vs).lookup y with
  | none => exact absurd q h
  | some v => exact (List.of_mem_zip (mem_of_lookup q)).1
section
variable {G : Gl} {d : Nat} {fi : FI}
noncomputable def eFld (nm : Str) (t : CT) (fI : Addr) (y : Str) (yi : Nat) (yp : Pos) (f : Str) (k : Nat) (p : Pos) (hy : fi.isVar y yi = true) (hc : G.cl.lookup nm = some (t, fI)) (hf : t.vn[k]? = some f) : T G d fi :=
  .mk' (.Attribute (.Name y yp) f p) (fun σ => (objAt σ.ρ yi).bind fun q => (q.2.1[k]?).bind fun v => some (.val v, ⟨σ.ρ, σ.tp, (q.1 = t) :: σ.ob⟩)) rfl (by
    intro σ o σ' e q
    obtain ⟨⟨t', l, r⟩, e1, e⟩ := Option.bind_eq_some_iff.mp e
    obtain ⟨v, e2, e⟩ := Option.bind_eq_some_iff.mp e
    cases e
    obtain ⟨rfl, q⟩ := q
    refine ⟨q, fun X E W φ s ef S F Q kk => ?_⟩
    subst ef
    have c := S.g.cl nm t' fI hc
    refine PyProof.Rows.Attribute_name (load_ok S F hy (objAt_some e1) fun v' h1 h2 hv ro => ?_)
    obtain ⟨oa, da, as, hp, rfl, z⟩ := ro
    obtain ⟨vs, n1, n2⟩ := z.ns
    obtain ⟨u, g1, g2⟩ := n2.get e2
    have hk : k < l.length := by obtain ⟨hk, _⟩ := List.getElem?_eq_some_iff.mp e2; exact hk
    have hkf : (flds t' l.length r.length)[k]? = some f := by
      unfold flds
      rw [List.getElem?_append_left (by rw [List.length_take]; have := z.le.1; omega), List.getElem?_take_of_lt hk]; exact hf
    have hkv : (vs ++ as.map Value.ref)[k]? = some u := by
      rw [List.getElem?_append_left (by rw [n2.length]; exact hk)]; exact g1
    exact getF S F c z.hd n1 (List.mem_append_left _ (List.mem_of_getElem? hf)) (zipF (flds_nd c.nd _ _) hkf hkv) g2.handed ((Aft.of (.refl F) kk).here F.f.wf g2)) fun _ => rfl
theorem ObjAt.put {W : WS} {h h' : Heap} {oa da : Addr} {as : List Addr} {t : CT} {l l' : List V} {r : List (List V)} {f : Str} {k : Nat} {v : V} {v' : Value} (z : ObjAt W h oa da as t l r) (nd : (t.vn ++ t.ln).Nodup) (hf : t.vn[k]? = some f) (hl : putV v l k = some l')
    (rv : VR W h v v') (ag : Ag W h W h') (hs : Heap.SameBut da h h') {m : Str → Option Value} (hm : m = fun x => ((flds t l.length r.length).zip (z.ns.choose ++ as.map .ref)).lookup x) (hn : h'.Ns1 da (fun y => if y = f then some v' else m y)) : ObjAt W h' oa da as t l' r := by
  have hne : oa ≠ da := fun q => by
    obtain ⟨o, es, ep, x1, x2, _⟩ := z.ns.choose_spec.1
    have := z.hd; rw [q, x1] at this; cases this; cases x2
  obtain ⟨n1, n2⟩ := z.ns.choose_spec
  have hlen := n2.length
  have keep : ∀ b x, as[b]? = some x → h'.get? x = h.get? x := fun b x q => hs.2 x fun e => (List.nodup_cons.mp z.nd).1 (e ▸ List.mem_of_getElem? q)
  have ol : OwnL W h' as r := ⟨z.ol.1, fun j b x hb hx => OwnAt.ag ag (keep j b hb) (z.ol.2 j b x hb hx)⟩
  subst hm
  rcases putV_of hl with ⟨hk, rfl⟩ | ⟨hk, rfl⟩
  · refine ⟨z.w, (ag.k _ z.w).trans z.hd, ⟨z.ns.choose.set k v', ?_, (n2.set k rv).ag ag⟩, ol, z.sz, z.nd, by rw [List.length_set]; exact z.le⟩
    have hkf : (flds t l.length r.length)[k]? = some f := by
      unfold flds
      rw [List.getElem?_append_left (by rw [List.length_take]; have := z.le.1; omega), List.getElem?_take_of_lt hk]; exact hf
    have e : (fun y => if y = f then some v' else ((flds t l.length r.length).zip (z.ns.choose ++ as.map .ref)).lookup y) = fun y => ((flds t (l.set k v).length r.length).zip (z.ns.choose.set k v' ++ as.map .ref)).lookup y := by
      funext y
      rw [List.length_set, ← List.set_append_left _ _ (by rw [hlen]; exact hk)]
      exact (zip_set (flds_nd nd _ _) hkf (by rw [List.length_append, hlen]; omega) y).symm
    rw [e] at hn; exact hn
  · have hkl : k < t.vn.length := by obtain ⟨hk, _⟩ := List.getElem?_eq_some_iff.mp hf; exact hk
    refine ⟨z.w, (ag.k _ z.w).trans z.hd, ⟨z.ns.choose ++ [v'], ?_, (n2.snoc rv).ag ag⟩, ol, z.sz, z.nd, by rw [List.length_append, List.length_singleton]; exact ⟨by omega, z.le.2⟩⟩
    have ef : flds t (l ++ [v]).length r.length = t.vn.take l.length ++ f :: t.ln.take r.length := by
      unfold flds
      rw [List.length_append, List.length_singleton, ← hk, List.take_add_one, hf]; simp
    have e : (fun y => if y = f then some v' else ((flds t l.length r.length).zip (z.ns.choose ++ as.map .ref)).lookup y) = fun y => ((flds t (l ++ [v]).length r.length).zip (z.ns.choose ++ [v'] ++ as.map .ref)).lookup y := by
      funext y
      rw [ef, List.append_assoc, List.singleton_append]
      exact (zip_ins (by rw [List.length_take, hlen]; omega) (ef ▸ flds_nd nd _ _) y).symm
    rw [e] at hn; exact hn
noncomputable def sFld (nm : Str) (t : CT) (fI : Addr) (y : Str) (yi : Nat) (yp : Pos) (f : Str) (k : Nat) (a : T G d fi) (p' p : Pos) (hy : (fi.isVar y yi && !isComp a.x) = true) (hc : G.cl.lookup nm = some (t, fI)) (hf : t.vn[k]? = some f) : SS G d fi :=
  ⟨.Assign [.Attribute (.Name y yp) f p'] a.x p, fun σ => bd (a.ev σ) fun o σ => (objAt σ.ρ yi).bind fun q => (putV o.frz q.2.1 k).bind fun l' => some (.next, ⟨σ.ρ.set yi (some (.obj q.1 l' q.2.2)), σ.tp, (q.1 = t) :: σ.ob⟩),
  a.eo.bd (R := fun o ρ fl ρ' => ∃ l r l', ρ[yi]? = some (some (.obj t l r)) ∧ putV o.frz l k = some l' ∧ fl = .next ∧ ρ' = ρ.set yi (some (.obj t l' r))) (fun o => by
    intro σ fl σ' e q
    obtain ⟨⟨t', l, r⟩, e1, e⟩ := Option.bind_eq_some_iff.mp e
    obtain ⟨l', e2, e⟩ := Option.bind_eq_some_iff.mp e
    cases e
    obtain ⟨rfl, q⟩ := q
    exact ⟨q, l, r, l', objAt_some e1, e2, rfl, rfl⟩) fun _ o _ _ _ ha q X E W φ s e cm S F Q kk => by
    obtain ⟨l, r, l', e1, e2, rfl, rfl⟩ := q
    rw [Bool.and_eq_true, Bool.not_eq_true'] at hy
    subst e
    have c := S.g.cl nm t fI hc
    refine plainObj_wpAny_Assign_Attribute (ha.v X E W φ s rfl S F _ fun v' W' φ' s' p' r' => load_ok S p'.f hy.1 e1 fun ov h1 h2 hv ro => ?_) (noSwap hy.2 _ _ _)
    obtain ⟨oa, da, as, hp, rfl, z⟩ := ro
    obtain ⟨n1, n2⟩ := z.ns.choose_spec
    refine setF S p'.f c z.hd n1 (List.mem_append_left _ (List.mem_of_getElem? hf)) (fun y hy => flds_mem (lookup_mem hy)) fun h' hn hs => ?_
    obtain ⟨ag, val, fin⟩ := p'.f.turn3 (x := y) (i := yi) (h' := h') (t := s'.toks + 1 + 1) (fun w hw => S.ti w y yi hw h1) (fun b o q e => (hs.2 b fun z => q (by rw [hp, z]; exact List.mem_cons_self)).trans e)
    have A := fin (p := da :: as) (o := .obj t l' r) hv ⟨oa, da, as, rfl, rfl, z.put c.nd hf e2 r' ag hs rfl hn⟩ fun b q => .inl (by rw [hp]; exact q)
    exact kk _ _ _ _ A (p'.ag.trans ag) rfl⟩
end
end Mine
end

section
open PySem
set_option autoImplicit false
set_option linter.unusedVariables false
namespace Mine
theorem flds_len (t : CT) (n m : Nat) : (flds t n m).length = min n t.vn.length + min m t.ln.length := by unfold flds; rw [List.length_append, List.length_take, List.length_take]
section
variable {W : WS} {h h' : Heap} {oa da : Addr} {as : List Addr} {t : CT} {l : List V} {r : List (List V)}
theorem ObjAt.lst (z : ObjAt W h oa da as t l r) (nd : (t.vn ++ t.ln).Nodup) {i : Nat} {f : Str} {x : List V} (hf : t.ln[i]? = some f) (hx : r[i]? = some x) :
    ∃ b, as[i]? = some b ∧ OwnAt W h b x ∧ ((flds t l.length r.length).zip (z.ns.choose ++ as.map .ref)).lookup f = some (.ref b) := by
  obtain ⟨hi, _⟩ := List.getElem?_eq_some_iff.mp hx
  have hb : as[i]? = some (as[i]'(by rw [z.ol.1]; exact hi)) := List.getElem?_eq_getElem _
  obtain ⟨n1, n2⟩ := z.ns.choose_spec
  have hl := n2.length
  refine ⟨_, hb, z.ol.2 i _ x hb hx, zipF (i := l.length + i) (flds_nd nd _ _) ?_ ?_⟩
  · unfold flds
    have : (t.vn.take l.length).length = l.length := by rw [List.length_take]; have := z.le.1; omega
    rw [List.getElem?_append_right (by omega), this, Nat.add_sub_cancel_left, List.getElem?_take_of_lt hi]; exact hf
  · rw [List.getElem?_append_right (by omega), hl, Nat.add_sub_cancel_left, List.getElem?_map, hb]; rfl
theorem ObjAt.turn (z : ObjAt W h oa da as t l r) {i : Nat} {b : Addr} {x' : List V} (hb : as[i]? = some b) (ag : Ag W h W h') (hs : Heap.SameBut b h h') (o : OwnAt W h' b x') : ObjAt W h' oa da as t l (r.set i x') := by
  obtain ⟨vs, n1, n2⟩ := z.ns
  have hda : da ≠ b := fun e => (List.nodup_cons.mp z.nd).1 (e ▸ List.mem_of_getElem? hb)
  refine ⟨z.w, (ag.k _ z.w).trans z.hd, ⟨vs, by rw [List.length_set]; exact Ns1_to n1 (hs.2 da hda), n2.ag ag⟩, ⟨by rw [List.length_set]; exact z.ol.1, fun j c x hc hx => ?_⟩, fun x q => ?_, z.nd, by rw [List.length_set]; exact z.le⟩
  · by_cases e : j = i
    · subst e
      rw [hb] at hc; cases hc
      rw [List.getElem?_set] at hx
      simp only [if_true] at hx
      split at hx
      · cases hx; exact o
      · cases hx
    · rw [List.getElem?_set_ne (Ne.symm e)] at hx
      have hcb : c ≠ b := fun q => by
        subst q
        obtain ⟨l1, e1⟩ := List.getElem?_eq_some_iff.mp hc
        obtain ⟨l2, e2⟩ := List.getElem?_eq_some_iff.mp hb
        exact e ((List.getElem?_inj l1 (List.nodup_cons.mp z.nd).2).mp (hc.trans hb.symm))
      exact OwnAt.ag ag (hs.2 c hcb) (z.ol.2 j c x hc hx)
  · rcases List.mem_or_eq_of_mem_set q with q | rfl
    · exact z.sz x q
    · obtain ⟨_, _, _, _, q⟩ := o; exact q
theorem ObjAt.push (z : ObjAt W h oa da as t l r) (nd : (t.vn ++ t.ln).Nodup) {f : Str} {b : Addr} {x : List V} (hf : t.ln[r.length]? = some f) (ag : Ag W h W h') (hs : Heap.SameBut da h h') (o : OwnAt W h b x) (hb : b ∉ da :: as)
    (hn : h'.Ns1 da (fun y => if y = f then some (.ref b) else ((flds t l.length r.length).zip (z.ns.choose ++ as.map .ref)).lookup y)) : ObjAt W h' oa da (as ++ [b]) t l (r ++ [x]) := by
  obtain ⟨n1, n2⟩ := z.ns.choose_spec
  have hlen := n2.length
  have hda : ∀ c, c ∈ as → c ≠ da := fun c q e => (List.nodup_cons.mp z.nd).1 (e ▸ q)
  have hbd : b ≠ da := fun e => hb (e ▸ List.mem_cons_self)
  have hkl : r.length < t.ln.length := by obtain ⟨hk, _⟩ := List.getElem?_eq_some_iff.mp hf; exact hk
  have ol := z.ol.1
  refine ⟨z.w, (ag.k _ z.w).trans z.hd, ⟨z.ns.choose, ?_, n2.ag ag⟩, ⟨by rw [List.length_append, List.length_append, ol]; rfl, fun j c y hc hy => ?_⟩, fun y q => ?_, ?_, ⟨z.le.1, by rw [List.length_append, List.length_singleton]; omega⟩⟩
  · have ef : flds t l.length (r ++ [x]).length = flds t l.length r.length ++ [f] := by
      unfold flds
      rw [List.length_append, List.length_singleton, List.take_add_one, hf]; simp
    have e : (fun y => if y = f then some (Value.ref b) else ((flds t l.length r.length).zip (z.ns.choose ++ as.map .ref)).lookup y) = fun y => ((flds t l.length (r ++ [x]).length).zip (z.ns.choose ++ (as ++ [b]).map .ref)).lookup y := by
      funext y
      rw [ef, List.map_append, ← List.append_assoc]
      have hlf : (flds t l.length r.length).length = (z.ns.choose ++ as.map Value.ref).length := by
        rw [flds_len, List.length_append, List.length_map, hlen, ol]; have := z.le; omega
      have := zip_ins (x := f) (v' := .ref b) (B := []) (us := []) hlf (ef ▸ flds_nd nd _ _) y
      rw [List.append_nil, List.append_nil] at this
      exact this.symm
    rw [e] at hn; exact hn
  · by_cases q : j < as.length
    · rw [List.getElem?_append_left q] at hc
      rw [List.getElem?_append_left (by omega)] at hy
      exact OwnAt.ag ag (hs.2 c (hda c (List.mem_of_getElem? hc))) (z.ol.2 j c y hc hy)
    · rw [List.getElem?_append_right (by omega)] at hc hy
      rw [ol] at hc
      cases hj : j - r.length with
      | zero => rw [hj] at hc hy; cases hc; cases hy; exact OwnAt.ag ag (hs.2 b hbd) o
      | succ k => rw [hj] at hc; cases hc
  · rcases List.mem_append.mp q with q | q
    · exact z.sz y q
    · cases List.mem_singleton.mp q; obtain ⟨_, _, _, _, q⟩ := o; exact q
  · have hz := List.nodup_cons.mp z.nd
    refine List.nodup_cons.mpr ⟨fun q => ?_, List.nodup_append.mpr ⟨hz.2, List.nodup_cons.mpr ⟨List.not_mem_nil, List.nodup_nil⟩, fun c q d q' => ?_⟩⟩
    · rcases List.mem_append.mp q with q | q
      · exact hz.1 q
      · exact hbd (List.mem_singleton.mp q).symm
    · cases List.mem_singleton.mp q'; exact fun e => hb (List.mem_cons_of_mem _ (e ▸ q))
end
section
variable (G : Gl) (d : Nat) (fi : FI)
def PuG (x : Expr) (ρ : Loc) (v : V) : Prop := ∀ (X : FC) (E : Value → Shared → Prop) (W : WS) (φ : Nat → List Addr) (s : Shared), X.fi = fi → FS G d X → At X W φ s ρ →
  ∀ Q : Value → Shared → Prop, (∀ v' W' s', Gs W s W' s' → VR W' s'.heap v v' → Q v' s') → wpAny X.C.M X.A (eval x X.env) Q E s
def PusG (xs : List Expr) (ρ : Loc) (vs : List V) : Prop := vs.length = xs.length ∧ ∀ (X : FC) (E : Value → Shared → Prop) (W : WS) (φ : Nat → List Addr) (s : Shared), X.fi = fi → FS G d X → At X W φ s ρ →
  ∀ Q : List Value → Shared → Prop, (∀ vs' W' s', Gs W s W' s' → VRs W' s'.heap vs vs' → Q vs' s') → wpAny X.C.M X.A (spliced (plainArgs xs X.env)) Q E s
structure Pu where
  x : Expr
  ev : Loc → Option (V × List Prop)
  pl : plainX x = true
  eo : ∀ ρ v ps, ev ρ = some (v, ps) → All ps → PuG G d fi x ρ v
structure Pus where
  xs : List Expr
  ev : Loc → Option (List V × List Prop)
  pl : ∀ x, x ∈ xs → plainX x = true
  eo : ∀ ρ vs ps, ev ρ = some (vs, ps) → All ps → PusG G d fi xs ρ vs
end
theorem Gs.refl {X : FC} {W : WS} {φ : Nat → List Addr} {s : Shared} {ρ : Loc} (F : At X W φ s ρ) : Gs W s W s := ⟨⟨fun _ _ e => e, fun _ q => q, F.f.wf, fun _ _ _ q => q⟩, rfl, rfl, Nat.le_refl _⟩
theorem Gs.trans {W W' W'' : WS} {s s' s'' : Shared} (g : Gs W s W' s') (g' : Gs W' s' W'' s'') : Gs W s W'' s'' := ⟨g.g.trans g'.g, g'.gens.trans g.gens, g'.os.trans g.os, Nat.le_trans g.tk g'.tk⟩
section
variable {G : Gl} {d : Nat} {fi : FI}
noncomputable def uVar (x : Str) (i : Nat) (p : Pos) (h : fi.isVar x i = true) : Pu G d fi := ⟨.Name x p, fun ρ => (slot ρ i).bind fun o => o.val?.bind fun v => some (v, []), rfl, fun ρ v ps e q => by
  obtain ⟨o, e1, e⟩ := Option.bind_eq_some_iff.mp e
  obtain ⟨v', e2, e⟩ := Option.bind_eq_some_iff.mp e
  cases e
  rw [O.val_of e2] at e1
  intro X E W φ s ef S F Q k
  subst ef
  exact load_ok S F h (slot_some e1) fun v' _ _ _ r => k v' W s (.refl F) r.2⟩
noncomputable def uFld (nm : Str) (t : CT) (fI : Addr) (y : Str) (yi : Nat) (yp : Pos) (f : Str) (k : Nat) (p : Pos) (hy : fi.isVar y yi = true) (hc : G.cl.lookup nm = some (t, fI)) (hf : t.vn[k]? = some f) : Pu G d fi :=
  ⟨.Attribute (.Name y yp) f p, fun ρ => (objAt ρ yi).bind fun q => (q.2.1[k]?).bind fun v => some (v, [q.1 = t]), rfl, fun ρ v ps e q => by
    obtain ⟨⟨t', l, r⟩, e1, e⟩ := Option.bind_eq_some_iff.mp e
    obtain ⟨v', e2, e⟩ := Option.bind_eq_some_iff.mp e
    cases e
    obtain ⟨rfl, q⟩ := q
    intro X E W φ s ef S F Q kk
    subst ef
    have c := S.g.cl nm t' fI hc
    refine PyProof.Rows.Attribute_name (load_ok S F hy (objAt_some e1) fun v' h1 h2 hv ro => ?_)
    obtain ⟨oa, da, as, hp, rfl, z⟩ := ro
    obtain ⟨vs, n1, n2⟩ := z.ns
    obtain ⟨u, g1, g2⟩ := n2.get e2
    have hk : k < l.length := by obtain ⟨hk, _⟩ := List.getElem?_eq_some_iff.mp e2; exact hk
    have hkf : (flds t' l.length r.length)[k]? = some f := by
      unfold flds
      rw [List.getElem?_append_left (by rw [List.length_take]; have := z.le.1; omega), List.getElem?_take_of_lt hk]; exact hf
    have hkv : (vs ++ as.map Value.ref)[k]? = some u := by
      rw [List.getElem?_append_left (by rw [n2.length]; exact hk)]; exact g1
    exact getF S F c z.hd n1 (List.mem_append_left _ (List.mem_of_getElem? hf)) (zipF (flds_nd c.nd _ _) hkf hkv) g2.handed (kk _ W _ (.toks F.f.wf _ (Nat.le_succ _)) g2)⟩
noncomputable def uNil : Pus G d fi := ⟨[], fun _ => some ([], []), fun _ q => (nomatch q), fun ρ vs ps e q => by cases e; exact ⟨rfl, fun X E W φ s e S F Q k => wpAny_pure (k [] W s (.refl F) rfl)⟩⟩
noncomputable def uCons (a : Pu G d fi) (b : Pus G d fi) : Pus G d fi := ⟨a.x :: b.xs, fun ρ => (a.ev ρ).bind fun p => (b.ev ρ).bind fun q => some (p.1 :: q.1, q.2 ++ p.2), fun y q => (List.mem_cons.mp q).elim (fun q => q ▸ a.pl) (b.pl y), fun ρ vs ps e q => by
  obtain ⟨⟨v, p1⟩, e1, e⟩ := Option.bind_eq_some_iff.mp e
  obtain ⟨⟨ws, p2⟩, e2, e⟩ := Option.bind_eq_some_iff.mp e
  cases e
  obtain ⟨q2, q1⟩ := All.app q
  have ha := a.eo ρ v p1 e1 q1
  have hb := b.eo ρ ws p2 e2 q2
  exact ⟨congrArg (· + 1) hb.1, fun X E W φ s e S F Q k => PySem.Calls.spliced_cons (ha X E W φ s e S F _ fun v' W₁ s₁ g r => hb.2 X E W₁ φ s₁ e S (F.gs g) _ fun vs' W₂ s₂ g₂ r₂ => k _ W₂ s₂ (g.trans g₂) (.cons (r.ag (g₂.g.ag (F.gs g).f.wf)) r₂))⟩⟩
noncomputable def uTup (r : Pus G d fi) (k : Nat) (p : Pos) (h : Nat.ble r.xs.length 1000 = true) : Pu G d fi := ⟨.Tuple r.xs k p, fun ρ => (r.ev ρ).bind fun q => some (.tup q.1, q.2), rfl, fun ρ v ps e q => by
  obtain ⟨⟨vs, p1⟩, e1, e⟩ := Option.bind_eq_some_iff.mp e
  cases e
  have hs := r.eo ρ vs p1 e1 q
  intro X E W φ s ef S F Q k
  refine wpAny_Tuple ?_
  rw [starEach_plain r.pl, backTo_plain]
  refine hs.2 X E W φ s ef S F _ fun vs' W' s' g r' => ?_
  have hz : vs.length ≤ sizeLine := by rw [hs.1]; exact Nat.le_trans (Nat.le_of_ble_eq_true h) (by decide)
  exact ⟨by rw [r'.length]; exact hz, Aft.tuple (t := s'.toks) (fun v' W'' s'' g' r => k v' W'' s'' (g.trans g') r) (F.gs g).f.wf r' hz⟩⟩
end
end Mine
end

section
open PySem
set_option autoImplicit false
set_option linter.unusedVariables false
namespace Mine
section
variable {G : Gl} {d : Nat} {fi : FI}
theorem lstF {nm : Str} {t : CT} {fI : Addr} {y : Str} {yi : Nat} {yp p : Pos} {f : Str} {i : Nat} {X : FC} {E : Value → Shared → Prop} {W : WS} {φ : Nat → List Addr} {s : Shared} {ρ : Loc} {l : List V} {r : List (List V)} {x : List V} {Q : Value → Shared → Prop} (S : FS G d X) (F : At X W φ s ρ)
    (hy : X.fi.isVar y yi = true) (hc : G.cl.lookup nm = some (t, fI)) (hf : t.ln[i]? = some f) (e1 : ρ[yi]? = some (some (.obj t l r))) (e2 : r[i]? = some x)
    (h : ∀ oa da as b, X.fi.tbl.lookup y = some yi → X.env.kindOf y ≠ none → Val X.env s.heap y (.ref oa) → φ yi = da :: as → ObjAt W s.heap oa da as t l r → as[i]? = some b → OwnAt W s.heap b x → Q (.ref b) { s with toks := s.toks + 1 }) :
    wpAny X.C.M X.A (eval (.Attribute (.Name y yp) f p) X.env) Q E s := by
  have c := S.g.cl nm t fI hc
  refine PyProof.Rows.Attribute_name (load_ok S F hy e1 fun v' h1 h2 hv ro => ?_)
  obtain ⟨oa, da, as, hp, rfl, z⟩ := ro
  obtain ⟨b, b1, b2, b3⟩ := z.lst c.nd hf e2
  exact getF S F c z.hd z.ns.choose_spec.1 (List.mem_append_right _ (List.mem_of_getElem? hf)) b3 rfl (h oa da as b h1 h2 hv hp z b1 b2)
noncomputable def eFldL (nm : Str) (t : CT) (fI : Addr) (y : Str) (yi : Nat) (yp : Pos) (f : Str) (i : Nat) (p : Pos) (hy : fi.isVar y yi = true) (hc : G.cl.lookup nm = some (t, fI)) (hf : t.ln[i]? = some f) : T G d fi :=
  have po : Ok (fun σ => (objAt σ.ρ yi).bind fun q => (q.2.2[i]?).bind fun x => some (O.own x, ⟨σ.ρ, σ.tp, (q.1 = t) :: σ.ob⟩)) (PkG G d fi (.Attribute (.Name y yp) f p)) := by
    intro σ o σ' e q
    obtain ⟨⟨t', l, r⟩, e1, e⟩ := Option.bind_eq_some_iff.mp e
    obtain ⟨x, e2, e⟩ := Option.bind_eq_some_iff.mp e
    cases e
    obtain ⟨rfl, q⟩ := q
    refine ⟨q, fun X E W φ s ef S F Q kk => ?_⟩
    subst ef
    exact lstF S F hy hc hf (objAt_some e1) e2 fun oa da as b _ _ _ _ _ _ o => kk _ W φ _ ⟨F.toks _ (Nat.le_succ _), .refl .., fun _ _ r => r⟩ ⟨b, rfl, o⟩
  ⟨.Attribute (.Name y yp) f p, fun σ => (objAt σ.ρ yi).bind fun q => (q.2.2[i]?).bind fun x => some (.val (.lst x.reverse), ⟨σ.ρ.set yi none, σ.tp, (q.1 = t) :: σ.ob⟩), _, tst _, rfl, (by
    intro σ o σ' e q
    obtain ⟨⟨t', l, r⟩, e1, e⟩ := Option.bind_eq_some_iff.mp e
    obtain ⟨x, e2, e⟩ := Option.bind_eq_some_iff.mp e
    cases e
    obtain ⟨rfl, q⟩ := q
    refine ⟨q, fun X E W φ s ef S F Q kk => ?_⟩
    subst ef
    refine lstF S F hy hc hf (objAt_some e1) e2 fun oa da as b _ _ _ hp z hb o => ?_
    have F0 := F.toks (s.toks + 1) (Nat.le_succ _)
    obtain ⟨F1, hfr⟩ := F0.free yi
    have F2 := F1.fixS (D := (· ∈ φ yi)) (fun a q => (hfr a q).1) (fun a q => (hfr a q).2.2.1) (fun a q => by obtain ⟨_, e, _⟩ := F.ow yi a q; exact ⟨_, e⟩)
    obtain ⟨vs, n, o1, o2, o3⟩ := o
    exact kk _ _ _ _ ⟨F2, .moreS W s.heap _, fun _ _ r => r⟩ (.val ⟨b, vs, n, rfl, .inr (by rw [hp]; exact List.mem_cons_of_mem _ (List.mem_of_getElem? hb)), o1, by rwa [List.length_reverse], VRs.ag (.moreS W s.heap _) o2⟩)), po, po.tst fun _ => rfl⟩
noncomputable def sFldL (nm : Str) (t : CT) (fI : Addr) (y : Str) (yi : Nat) (yp : Pos) (f : Str) (i : Nat) (a : T G d fi) (p' p : Pos) (hy : (fi.isVar y yi && !isComp a.x) = true) (hc : G.cl.lookup nm = some (t, fI)) (hf : t.ln[i]? = some f) : SS G d fi :=
  ⟨.Assign [.Attribute (.Name y yp) f p'] a.x p, fun σ => bd (a.ev σ) fun o σ => O.casesOn o (fun _ => none) (fun x => (objAt σ.ρ yi).bind fun q => some (.next, ⟨σ.ρ.set yi (some (.obj q.1 q.2.1 (q.2.2 ++ [x]))), σ.tp, (q.1 = t) :: (q.2.2.length = i) :: σ.ob⟩)) (fun _ => none) (fun _ _ _ => none) fun _ _ _ => none,
  a.eo.bd (R := fun o ρ fl ρ' => ∃ x l r, o = .own x ∧ ρ[yi]? = some (some (.obj t l r)) ∧ r.length = i ∧ fl = .next ∧ ρ' = ρ.set yi (some (.obj t l (r ++ [x])))) (fun o => by
    intro σ fl σ' e q
    cases o with
    | own x =>
      obtain ⟨⟨t', l, r⟩, e1, e⟩ := Option.bind_eq_some_iff.mp e
      cases e
      obtain ⟨rfl, q1, q⟩ := q
      exact ⟨q, x, l, r, rfl, objAt_some e1, q1, rfl, rfl⟩
    | _ => cases e) fun _ o _ _ _ ha q X E W φ s e cm S F Q kk => by
    obtain ⟨x, l, r, rfl, e1, rfl, rfl, rfl⟩ := q
    rw [Bool.and_eq_true, Bool.not_eq_true'] at hy
    subst e
    have c := S.g.cl nm t fI hc
    refine plainObj_wpAny_Assign_Attribute (ha X E W φ s rfl S F _ fun v' W' φ' s' p' r' => load_ok S p'.f hy.1 e1 fun ov h1 h2 hv ro => ?_) (noSwap hy.2 _ _ _)
    obtain ⟨oa, da, as, hp, rfl, z⟩ := ro
    obtain ⟨n1, n2⟩ := z.ns.choose_spec
    obtain ⟨pp, ⟨b, rfl, rfl, ob⟩, hpp⟩ := r'
    obtain ⟨b1, b2, b3⟩ := hpp b List.mem_cons_self
    have fb : Fre X W' φ' b := ⟨b3, b1, b2, by obtain ⟨_, _, o1, _⟩ := ob; exact (p'.f.f.notOwn o1).2⟩
    have hbn : b ∉ da :: as := fun q => b2 (.inr (.inr ⟨yi, by rw [hp]; exact q⟩))
    refine setF S p'.f c z.hd n1 (List.mem_append_right _ (List.mem_of_getElem? hf)) (fun y hy => flds_mem (lookup_mem hy)) fun h' hn hs => ?_
    obtain ⟨ag, val, fin⟩ := p'.f.turn3 (x := y) (i := yi) (h' := h') (t := s'.toks + 1 + 1) (fun w hw => S.ti w y yi hw h1) (fun b o q e => (hs.2 b fun z => q (by rw [hp, z]; exact List.mem_cons_self)).trans e)
    have A := fin (p := da :: (as ++ [b])) (o := .obj t l (r ++ [x])) hv ⟨oa, da, as ++ [b], rfl, rfl, z.push c.nd hf ag hs ob hbn hn⟩ fun c q => by
      rw [← List.cons_append] at q
      rcases List.mem_append.mp q with q | q
      · exact .inl (by rw [hp]; exact q)
      · cases List.mem_singleton.mp q; exact .inr fb
    exact kk _ _ _ _ A (p'.ag.trans ag) rfl⟩
noncomputable def sAppF (nm : Str) (t : CT) (fI : Addr) (y : Str) (yi : Nat) (yp : Pos) (f : Str) (i : Nat) (a : Pu G d fi) (fp ap cp p : Pos) (hy : (fi.isVar y yi && (ap.endLine == cp.line)) = true) (hc : G.cl.lookup nm = some (t, fI)) (hf : t.ln[i]? = some f) : SS G d fi :=
  ⟨.Expr (.Call (.Attribute (.Attribute (.Name y yp) f fp) "append" ap) [a.x] [] cp) p, fun σ => (objAt σ.ρ yi).bind fun q => (q.2.2[i]?).bind fun x => (a.ev σ.ρ).bind fun v => some (.next, ⟨σ.ρ.set yi (some (.obj q.1 q.2.1 (q.2.2.set i (v.1 :: x)))), σ.tp, (q.1 = t) :: (x.length < room) :: (v.2 ++ σ.ob)⟩), by
    intro σ fl σ' e q
    obtain ⟨⟨t', l, r⟩, e1, e⟩ := Option.bind_eq_some_iff.mp e
    obtain ⟨x, e2, e⟩ := Option.bind_eq_some_iff.mp e
    obtain ⟨⟨v, ps⟩, e3, e⟩ := Option.bind_eq_some_iff.mp e
    cases e
    obtain ⟨rfl, q1, q⟩ := q
    obtain ⟨qp, q⟩ := All.app q
    have ha := a.eo _ v ps e3 qp
    rw [Bool.and_eq_true] at hy
    refine ⟨q, fun X E W φ s ef cm S F Q kk => ?_⟩
    subst ef
    refine wpAny_Expr_any (method_call rfl (fun z q => by cases List.mem_singleton.mp q; exact a.pl) hy.2 rfl fun pl => lstF S F hy.1 hc hf (objAt_some e1) e2 fun oa da as b h1 h2 hv hp z hb ob => ?_) (by unfold interactive; rw [S.fn]; rfl) rfl
    obtain ⟨vs0, n0, z0, z1, z2⟩ := ob
    refine getMethod_builtin (T := "list") ⟨_, z0, rfl⟩ PySem.F.plainAttrs_list PySem.F.slot_list_append PySem.F.type_list_append (fun a q => by cases q; exact ⟨_, z0, rfl⟩) ?_
    have F1 := F.toks (s.toks + 1) (Nat.le_succ _)
    refine callW (K := X.C.K) (fun h _ => keeper_builtin _ h _) (PySem.Calls.spliced_cons (ha X E W φ _ rfl S F1 _ fun v' W' s' g r' => PySem.Calls.spliced_nil ⟨(F1.gs g).In S, ?_⟩))
    have F2 := F1.gs g
    have ag1 := g.g.ag F1.f.wf
    have g0 : s'.heap.get? b = some (lstO vs0 n0) := g.g.k _ _ z0
    have hs := z1.size
    rw [List.length_reverse] at hs
    refine call_meets PySem.F.slot_list_append ⟨_, g0, rfl⟩ PySem.F.entry_list_append (PySem.F.args_list_append_2 _ _) (list_append b vs0 n0 _ (by rw [hs]; exact z2)) ⟨g0, ?_⟩
    have q1 : x.length < room := q1
    have := room_le
    have hsb : Heap.SameBut b s'.heap (s'.heap.update b (Obj.mapSeq (·.push v'))) := Heap.SameBut.update ..
    have hbφ : b ∈ φ yi := by rw [hp]; exact List.mem_cons_of_mem _ (List.mem_of_getElem? hb)
    obtain ⟨ag, val, fin⟩ := F2.turn3 (x := y) (i := yi) (h' := s'.heap.update b (Obj.mapSeq (·.push v'))) (t := s'.toks) (fun w hw => S.ti w y yi hw h1) (fun c o q e => (hsb.2 c fun z => q (z ▸ hbφ)).trans e)
    have z' : ObjAt W' s'.heap oa da as t' l r := by
      have : OR W' s'.heap (da :: as) (.obj t' l r) (.ref oa) := OR.ag ag1 (fun a q => by
        obtain ⟨o, e, _⟩ := F.ow yi a (by rw [hp]; exact q)
        exact (g.g.k _ _ e).trans e.symm) ⟨oa, da, as, rfl, rfl, z⟩
      obtain ⟨oa', da', as', e1, e2, z'⟩ := this
      cases e1; cases e2; exact z'
    have A := fin (p := da :: as) (o := .obj t' l (r.set i (v :: x))) (hv.grow g.g.k) ⟨oa, da, as, rfl, rfl, z'.turn hb ag hsb ⟨_, _, Heap.get?_update_self _ g0 rfl, by rw [Array.toList_push, List.reverse_cons]; exact (VRs.ag (ag1.trans ag) z1).snoc (r'.ag ag), by rw [List.length_cons]; omega⟩⟩ fun c q => .inl (by rw [hp]; exact q)
    exact kk _ _ _ _ A (ag1.trans ag) rfl⟩
noncomputable def ePopF (nm : Str) (t : CT) (fI : Addr) (y : Str) (yi : Nat) (yp : Pos) (f : Str) (i : Nat) (fp ap p : Pos) (hy : (fi.isVar y yi && (ap.endLine == p.line)) = true) (hc : G.cl.lookup nm = some (t, fI)) (hf : t.ln[i]? = some f) : T G d fi :=
  .mk' (.Call (.Attribute (.Attribute (.Name y yp) f fp) "pop" ap) [] [] p) (fun σ => (objAt σ.ρ yi).bind fun q => (q.2.2[i]?).bind fun x => List.casesOn x none fun v x => some (.val v, ⟨σ.ρ.set yi (some (.obj q.1 q.2.1 (q.2.2.set i x))), σ.tp, (q.1 = t) :: σ.ob⟩)) rfl (by
    intro σ o σ' e q
    obtain ⟨⟨t', l, rr⟩, e1, e⟩ := Option.bind_eq_some_iff.mp e
    obtain ⟨x, e2, e⟩ := Option.bind_eq_some_iff.mp e
    cases x with
    | nil => cases e
    | cons v r =>
      cases e
      obtain ⟨rfl, q⟩ := q
      rw [Bool.and_eq_true] at hy
      refine ⟨q, fun X E W φ s ef S F Q kk => ?_⟩
      subst ef
      refine method_call rfl (fun z q => by cases q) hy.2 rfl fun pl => lstF S F hy.1 hc hf (objAt_some e1) e2 fun oa da as b g1 g2 hv hp z hb ob => ?_
      obtain ⟨vs, n, h1, h2, h3⟩ := ob
      refine getMethod_builtin (T := "list") ⟨_, h1, rfl⟩ PySem.F.plainAttrs_list PySem.F.slot_list_pop PySem.F.type_list_pop (fun a q => by cases q; exact ⟨_, h1, rfl⟩) ?_
      have F1 := F.toks (s.toks + 1) (Nat.le_succ _)
      refine callW (K := X.C.K) (fun h _ => keeper_builtin _ h _) (PySem.Calls.spliced_nil ⟨F1.In S, ?_⟩)
      have hs := h2.size
      rw [List.length_reverse] at hs
      have hz : vs.size - 1 = r.length := by rw [hs]; rfl
      rw [List.reverse_cons] at h2
      obtain ⟨v', k1, k2⟩ := h2.get (i := r.length) (v := v) (by rw [← List.length_reverse]; exact List.getElem?_concat_length)
      refine call_meets PySem.F.slot_list_pop ⟨_, h1, rfl⟩ PySem.F.entry_list_pop (PySem.F.args_list_pop_1 _) (MeetsSeq.list_pop_last b vs n v' (by rw [hz, ← Array.getElem?_toList]; exact k1) (by rw [hs]; exact h3)) ⟨h1, ?_⟩
      have hd : (vs.eraseIdxIfInBounds (vs.size - 1)).toList = vs.toList.take r.length := by
        have : r.length + 1 = vs.toList.length := by rw [Array.length_toList]; exact hs.symm
        rw [Array.toList_eraseIdxIfInBounds, hz, List.eraseIdx_eq_dropLast this, List.dropLast_eq_take, ← this]; rfl
      have ht := h2.take r.length
      rw [show ((r.reverse ++ [v]).take r.length) = r.reverse by rw [← List.length_reverse]; exact List.take_left] at ht
      have hsb : Heap.SameBut b s.heap (s.heap.update b (Obj.mapSeq fun xs => xs.eraseIdxIfInBounds (vs.size - 1))) := Heap.SameBut.update ..
      have hbφ : b ∈ φ yi := by rw [hp]; exact List.mem_cons_of_mem _ (List.mem_of_getElem? hb)
      obtain ⟨ag, val, fin⟩ := F1.turn3 (x := y) (i := yi) (h' := s.heap.update b (Obj.mapSeq fun xs => xs.eraseIdxIfInBounds (vs.size - 1))) (t := s.toks + 1) (fun w hw => S.ti w y yi hw g1) (fun c o q e => (hsb.2 c fun z => q (z ▸ hbφ)).trans e)
      have A := fin (p := da :: as) (o := .obj t' l (rr.set i r)) hv ⟨oa, da, as, rfl, rfl, z.turn hb ag hsb ⟨_, _, Heap.get?_update_self _ h1 rfl, by rw [hd]; exact VRs.ag ag ht, Nat.le_of_succ_le h3⟩⟩ fun c q => .inl (by rw [hp]; exact q)
      exact kk _ _ _ _ ⟨A, ag, val⟩ (.val (k2.ag ag))) fun _ => rfl
end
end Mine
end

section
open PySem
set_option autoImplicit false
set_option linter.unusedVariables false
namespace Mine
structure Lent (C : Cx) (W : WS) (h : Heap) (os : List O) (vals : List Value) (φ : Nat → List Addr) : Prop where
  len : vals.length = os.length
  or : ∀ i o, os[i]? = some o → ∃ v', vals[i]? = some v' ∧ OR W h (φ i) o v'
  dis : ∀ i j a, a ∈ φ i → a ∈ φ j → i = j
  own : ∀ i a, a ∈ φ i → i < os.length ∧ ¬ W a ∧ C.h.get? a = none
structure GsX (D : Addr → Prop) (W : WS) (s : Shared) (W' : WS) (s' : Shared) : Prop where
  k : ∀ a o, ¬ D a → s.heap.get? a = some o → s'.heap.get? a = some o
  w : ∀ a, W a → W' a
  wf : ∀ a, W' a → ∃ o, s'.heap.get? a = some o
  nw : ∀ a o, ¬ D a → s.heap.get? a = some o → W' a → W a
  gens : s'.gens = s.gens
  os : s'.os = s.os
  tk : s.toks ≤ s'.toks
def CallB (G : Gl) (d : Nat) (a : Addr) (os : List O) (v : V) (os' : List O) : Prop := ∀ (C : Cx) (A : Around) (W : WS) (s : Shared) (vals : List Value) (φ : Nat → List Addr) (R : Result → Shared → Prop), GOk G C → A.handled = none → A.depth + 2 * d + 9 ≤ recursionLimit → A.units + 20 * d + deep + 90 < cLine →
  (∀ b o, C.h.get? b = some o → s.heap.get? b = some o) → s.gens = #[] → (∀ f, G.fd.lookup a = some f → f.fi.pos = true → 0 < s.toks) → s.os = C.os → (∀ a, W a → ∃ o, s.heap.get? a = some o) → Lent C W s.heap os vals φ →
  (∀ v' W' s' φ', GsX (fun b => ∃ i, b ∈ φ i) W s W' s' → Lent C W' s'.heap os' vals φ' → (∀ i b, b ∈ φ' i → (∃ j, b ∈ φ j) ∨ s.heap.get? b = none) → VR W' s'.heap v v' → R (.ok (.ret v')) s') → codeAny C.M A (.call (.ref a) ⟨vals, []⟩) R s
noncomputable def locB (os : List O) (n : Nat) : Loc := os.map some ++ List.replicate n none
theorem locB_some {os : List O} {n i : Nat} {w : O} (hw : (locB os n)[i]? = some (some w)) : os[i]? = some w := by
  unfold locB at hw
  rcases Nat.lt_or_ge i os.length with q | q
  · rw [List.getElem?_append_left (by rwa [List.length_map]), List.getElem?_map, Option.map_eq_some_iff] at hw
    obtain ⟨w', h1, h2⟩ := hw; cases h2; exact h1
  · rw [List.getElem?_append_right (by rwa [List.length_map]), List.getElem?_replicate] at hw
    split at hw <;> cases hw
open Classical in
noncomputable def pinX (h : Heap) (φ : Nat → List Addr) (b : Addr) : Option Obj := if ∃ i, b ∈ φ i then none else h.get? b
theorem pinX_in {h : Heap} {φ : Nat → List Addr} {b : Addr} (q : ∃ i, b ∈ φ i) : pinX h φ b = none := if_pos q
theorem pinX_out {h : Heap} {φ : Nat → List Addr} {b : Addr} (q : ¬ ∃ i, b ∈ φ i) : pinX h φ b = h.get? b := if_neg q
theorem pinX_some {h : Heap} {φ : Nat → List Addr} {b : Addr} {o : Obj} (e : pinX h φ b = some o) : (¬ ∃ i, b ∈ φ i) ∧ h.get? b = some o := by
  by_cases q : ∃ i, b ∈ φ i
  · rw [pinX_in q] at e; cases e
  · rw [pinX_out q] at e; exact ⟨q, e⟩
theorem zip_get : ∀ {ns : List Str} {vs : List Value} {x : Str} {v : Value}, (ns.zip vs).lookup x = some v → ∃ i : Nat, ns[i]? = some x ∧ vs[i]? = some v
  | [], _, _, _, e => by cases e
  | _ :: _, [], _, _, e => by cases e
  | n :: ns, u :: vs, x, v, e => by
    rw [List.zip_cons_cons, List.lookup_cons] at e
    split at e
    · rename_i q; cases e; exact ⟨0, by rw [beq_iff_eq.mp q]; rfl, rfl⟩
    · obtain ⟨i, h1, h2⟩ := zip_get e; exact ⟨i + 1, h1, h2⟩
section
variable {G : Gl} {d : Nat} {fi : FI}
noncomputable def kvB (f : FD) (vals : List Value) (x : Str) : Option Value := if f.fi.kp.contains x = true then (f.ps.zip vals).lookup x else none
noncomputable abbrev XB (C : Cx) (A : Around) (env : Env) (f : FD) (s : Shared) (φ : Nat → List Addr) (W : WS) (vals : List Value) : FC := ⟨C, A.deeper env, env, f.fi, pinX s.heap φ, W, true, kvB f vals⟩
theorem callB_gen {a : Addr} {f : FD} {os : List O} {n : Nat} (hf : G.fd.lookup a = some f) (hn : os.length = f.ps.length) {C : Cx} {A : Around} {W : WS} {s : Shared} {vals : List Value} {φ : Nat → List Addr} {R : Result → Shared → Prop} (g : GOk G C) (hh : A.handled = none) (hdp : A.depth + 2 * (d + 1) + 9 ≤ recursionLimit)
    (hun : A.units + 20 * (d + 1) + deep + 90 < cLine) (hkeep : ∀ b o, C.h.get? b = some o → s.heap.get? b = some o) (hgens : s.gens = #[]) (htk : f.fi.pos = true → 0 < s.toks) (hos : s.os = C.os) (wf : ∀ a, W a → ∃ o, s.heap.get? a = some o) (r : Lent C W s.heap os vals φ)
    (h : ∀ env s₁, FS G d (XB C A env f s φ W vals) → (∀ x, env.kindOf x = f.fi.names.lookup x) → At (XB C A env f s φ W vals) W φ s₁ (locB os n) → Ag W s.heap W s₁.heap →
      wpAny C.M (A.deeper env) (execs f.st env) (fun f s' => R (.ok (.ret (match f with | .ret v => v | _ => .none))) s') (fun e s' => wpAny C.M (A.deeper env) (leaving env e) (fun _ s'' => R (.error e) s'') (fun e' s'' => R (.error e') s'') s') s₁) :
    codeAny C.M A (.call (.ref a) ⟨vals, []⟩) R s := by
  obtain ⟨ob, fd, fo⟩ := g.fd a f hf
  have hlen : vals.length = f.ps.length := r.len.trans hn
  have hkind : ∀ x ∈ f.ps.zip vals, fd.scope.names.lookup x.1 = some .local ∨ (fd.scope.names.lookup x.1 = some .cell ∧ ((cellsFrom (s.heap.objs.size + 1) fd.scope.names []).lookup x.1).isSome = true) := fun x hx => by
    rw [fo.names]
    rcases fo.own x.1 (List.of_mem_zip hx).1 with q | q
    · exact .inl q
    · exact .inr ⟨q, cellsFrom_has _ _ _ _ q⟩
  refine cells_toks (by omega) (hkeep _ _ fo.at_) fo.dat (g.nolimit.keeps hkeep) (fo.rec_.keeps hkeep) fo.body (fo.bind vals hlen) fo.clo hkind (fun s₁ IC ht1 => ?_) fo.co fo.gen fo.kind
  generalize he : callEnvC fd s.heap.objs.size a = env at IC ⊢
  have hL : env.locals = s.heap.objs.size := by rw [← he]; rfl
  have hNm : env.scope.names = f.fi.names := by rw [← he]; exact fo.names
  have hcs : env.cells = cellsFrom (s.heap.objs.size + 1) fd.scope.names [] := by rw [← he]; rfl
  obtain ⟨h₁, tk, rfl⟩ := IC.toInCall.same
  have hk := IC.toInCall.keep
  have cAbove : ∀ x c, env.cells.lookup x = some c → s.heap.objs.size ≤ c := fun x c hc => by
    have := IC.above x c (mem_of_lookup hc); rw [hL] at this; exact Nat.le_of_lt this
  have hko : ∀ x, env.kindOf x = f.fi.names.lookup x := fun x => by unfold Env.kindOf; rw [hNm]
  have isO : ∀ i b, b ∈ φ i → ∃ o, s.heap.get? b = some o ∧ ∀ v, o.data ≠ .cell v := fun i b q => by
    obtain ⟨hi, _⟩ := r.own i b q
    obtain ⟨v', _, ro⟩ := r.or i _ (List.getElem?_eq_getElem hi)
    exact ro.isOwn b q
  have hb0 : ∀ b o, C.h.get? b = some o → ¬ ∃ i, b ∈ φ i := fun b o e ⟨i, q⟩ => by have := (r.own i b q).2.2; rw [e] at this; cases this
  have S : FS G d (XB C A env f s φ W vals) := by
    refine ⟨g, fun b o e => (pinX_out (hb0 b o e)).trans (hkeep b o e), hh, ?_, ?_, ?_, ?_, ?_, hNm, ?_, ?_, fo.inj, fun x v q => ?_⟩
    · show A.depth + 1 + 2 * d + 10 ≤ _; omega
    · show A.units + 3 + 20 * d + deep + 100 < _; omega
    · show env.scope.kind = _; rw [← he]; exact fo.kind
    · show env.globals = _; rw [← he]; exact fo.gl
    · show env.builtins = _; rw [← he]; exact fo.bi
    · rintro x (q | q)
      · have q : f.fi.names.lookup x = some .cell := q
        rw [← fo.names] at q
        have := cellsFrom_has fd.scope.names (s.heap.objs.size + 1) [] x q
        rw [← hcs] at this
        exact Option.isSome_iff_exists.mp this
      · exact absurd rfl (fo.free _ (mem_of_lookup q))
    · intro x y c hx hy; exact name_of_addr IC.apart (mem_of_lookup hx) (mem_of_lookup hy)
    · have q : kvB f vals x = some v := q
      unfold kvB at q
      split at q
      · rename_i z; exact z
      · cases q
  have gs : Gs W s W { s with heap := h₁, toks := tk } := Gs.of wf hk ht1
  have nof : ∀ b, s.heap.objs.size ≤ b → pinX s.heap φ b = none ∧ ¬ W b := fun b q => ⟨by
    by_cases z : ∃ i, b ∈ φ i
    · exact pinX_in z
    · rw [pinX_out z]; exact none_of_le q, fun w => by obtain ⟨_, z⟩ := wf b w; rw [none_of_le q] at z; cases z⟩
  have bnd : ∀ i p u, f.ps[i]? = some p → vals[i]? = some u → Val env h₁ p u := fun i p u hp hu => by
    rcases fo.own p (List.mem_of_getElem? hp) with q | q
    · exact .inl ⟨(hko p).trans q, _, IC.toInCall.ns, bindL_lookup f.ps vals _ i p u fo.nodup hp hu ((hko p).trans q)⟩
    · have hc := cellsFrom_has fd.scope.names (s.heap.objs.size + 1) [] p (by rw [fo.names]; exact q)
      rw [← hcs] at hc
      obtain ⟨c, hc⟩ := Option.isSome_iff_exists.mp hc
      refine .inr ⟨.inl ((hko p).trans q), c, hc, ?_⟩
      have := IC.cell p c hc
      rw [bindC_lookup f.ps vals _ i p u fo.nodup hp hu (by rw [hko, q]; decide)] at this
      exact this
  have F : At (XB C A env f s φ W vals) W φ { s with heap := h₁, toks := tk } (locB os n) := by
    refine ⟨hgens, hos, ⟨fun b o e => hk b o (pinX_some e).2, ?_, gs.g.wf, fun _ _ _ q => q, r.dis, ?_, ?_⟩, ?_, fun i b q => ?_, fun h => Nat.lt_of_lt_of_le (htk h) ht1, fun x v q => ?_⟩
    · rintro b (q | ⟨_, x, q⟩ | ⟨i, q⟩)
      · exact nof b (by rw [show b = env.locals from q, hL]; exact Nat.le_refl _)
      · exact nof b (cAbove x b q)
      · exact ⟨pinX_in ⟨i, q⟩, (r.own i b q).2.1⟩
    · obtain ⟨o, es, ep, h1, h2, h3, _⟩ := IC.toInCall.ns; exact ⟨o, es, ep, h1, h2, h3⟩
    · intro x c hc; obtain ⟨o, h1, h2⟩ := IC.cell x c hc; exact ⟨o, _, h1, h2⟩
    · intro x i hx w hw hkd
      have hx : f.fi.tbl.lookup x = some i := hx
      have hw1 := locB_some hw
      obtain ⟨hi, _⟩ := List.getElem?_eq_some_iff.mp hw1
      obtain ⟨u, hu, hr⟩ := r.or i w hw1
      obtain ⟨p, hp⟩ : ∃ p, f.ps[i]? = some p := ⟨_, List.getElem?_eq_getElem (by rw [← hn]; exact hi)⟩
      obtain rfl : x = p := fo.inj x p i hx (fo.at0 i p hp)
      exact ⟨u, bnd i x u hp hu, hr.ag (gs.g.ag wf) fun b q => by obtain ⟨o, e, _⟩ := isO i b q; exact (hk _ _ e).trans e.symm⟩
    · obtain ⟨o, e, nc⟩ := isO i b q
      exact ⟨o, hk _ _ e, nc, fun z => by have z : b = env.locals := z; rw [z, hL, fresh_size] at e; cases e⟩
    · have q : kvB f vals x = some v := q
      unfold kvB at q
      split at q
      · obtain ⟨i, h1, h2⟩ := zip_get q; exact bnd i x v h1 h2
      · cases q
  exact h env _ S hko F (gs.g.ag wf)
theorem callB_of {a : Addr} {f : FD} {os os' : List O} {v : V} {n : Nat} {gf : Fl} {ρ' : Loc} (hf : G.fd.lookup a = some f) (hn : os.length = f.ps.length) (hn' : os'.length = os.length) (hkp : (f.ps.all fun p => f.fi.kp.contains p) = true) (h : ExsG G d f.fi f.st (locB os n) gf ρ')
    (hρ : ∀ (i : Nat) (o : O), os'[i]? = some o → ρ'[i]? = some (some o)) (hg : gf = .ret (.val v) ∨ (gf = .next ∧ v = .none)) : CallB G (d + 1) a os v os' := by
  intro C A W s vals φ R g hh hdp hun hkeep hgens htk hos wf r k
  refine codeAny_with_toks (Nat.le_refl _) ?_
  refine callB_gen (n := n) hf hn g hh hdp hun hkeep hgens (htk f hf) hos wf r fun env s₁ S hko F ag0 => ?_
  obtain ⟨ob, fd, fo⟩ := g.fd a f hf
  refine h (XB C A env f s φ W vals) _ W φ s₁ rfl rfl S F _ fun fw W' φ' s' A' B' C' => ?_
  intro tle
  have gx : GsX (fun b => ∃ i, b ∈ φ i) W s W' s' := ⟨fun b o q e => A'.f.pin b o ((pinX_out q).trans e), fun a q => B'.w a q, A'.f.wf, fun b o q e w => A'.f.w0 b o ((pinX_out q).trans e) w, A'.gens.trans hgens.symm, A'.os.trans hos.symm, tle⟩
  have pn : ∀ i b, b ∈ φ' i → (∃ j, b ∈ φ j) ∨ s.heap.get? b = none := fun i b q => by
    by_cases z : ∃ j, b ∈ φ j
    · exact .inl z
    · have := (A'.f.mu b (.inr (.inr ⟨i, q⟩))).1
      rw [show (XB C A env f s φ W vals).pin b = s.heap.get? b from pinX_out z] at this
      exact .inr this
  have L : Lent C W' s'.heap os' vals (fun i => if i < os'.length then φ' i else []) := by
    have low : ∀ i b, b ∈ (if i < os'.length then φ' i else []) → i < os'.length ∧ b ∈ φ' i := fun i b q => by
      by_cases z : i < os'.length
      · rw [if_pos z] at q; exact ⟨z, q⟩
      · rw [if_neg z] at q; cases q
    refine ⟨r.len.trans hn'.symm, fun i o e => ?_, fun i j b q q' => A'.f.dis i j b (low i b q).2 (low j b q').2, fun i b q => ?_⟩
    · obtain ⟨hi, _⟩ := List.getElem?_eq_some_iff.mp e
      have hip : i < f.ps.length := by rw [← hn, ← hn']; exact hi
      have hp : f.ps[i]? = some f.ps[i] := List.getElem?_eq_getElem hip
      have hu : vals[i]? = some (vals[i]'(by rw [r.len, hn]; exact hip)) := List.getElem?_eq_getElem _
      refine ⟨_, hu, ?_⟩
      rw [if_pos hi]
      have hkv : kvB f vals f.ps[i] = some (vals[i]'(by rw [r.len, hn]; exact hip)) := by
        unfold kvB
        rw [if_pos (List.all_eq_true.mp hkp _ (List.getElem_mem hip))]
        exact zipF fo.nodup hp hu
      refine still A' (fo.at0 i _ hp) ?_ (A'.kv _ _ hkv) (hρ i o e)
      show env.kindOf _ ≠ none
      rw [hko]
      rcases fo.own _ (List.getElem_mem hip) with q | q <;> rw [q] <;> simp
    · obtain ⟨z, q⟩ := low i b q
      refine ⟨z, (A'.f.mu b (.inr (.inr ⟨i, q⟩))).2, ?_⟩
      rcases pn i b q with ⟨j, w⟩ | w
      · exact (r.own j b w).2.2
      · cases e : C.h.get? b with
        | none => rfl
        | some o => have := hkeep b o e; rw [w] at this; cases this
  have fin : ∀ v', VR W' s'.heap v v' → R (.ok (.ret v')) s' := fun v' rv => k v' W' s' _ gx L (fun i b q => by
    by_cases z : i < os'.length
    · have q : b ∈ (if i < os'.length then φ' i else []) := q
      rw [if_pos z] at q; exact pn i b q
    · have q : b ∈ (if i < os'.length then φ' i else []) := q
      rw [if_neg z] at q; cases q) rv
  rcases hg with rfl | ⟨rfl, rfl⟩
  · obtain ⟨v', rfl, p, ro, hp⟩ := C'
    exact fin v' ro.2
  · cases C'; exact fin _ rfl
end
end Mine
end

section
open PySem
set_option autoImplicit false
set_option linter.unusedVariables false
namespace Mine
open PySem.W (Frag kitOne keepIn Looks clsIn findIn typeIn specialIn takesIn mroIn makesIn plainGet hasDictIn plainOver takerIn isFn InstAt kitAny lookIn)
section
variable {X : FC} {W : WS} {φ : Nat → List Addr} {s : Shared} {ρ : Loc}
theorem At.back (F : At X W φ s ρ) {x : Str} {i : Nat} {W' : WS} {s' : Shared} (ti : ∀ y, X.fi.tbl.lookup y = some i → y = x) (g : GsX (fun b => b ∈ φ i) W s W' s') :
    Ag W s.heap W' s'.heap ∧ (∀ y v, Val X.env s.heap y v → Val X.env s'.heap y v) ∧ ∀ {p : List Addr} {o : O} {v' : Value}, Val X.env s.heap x v' → OR W' s'.heap p o v' → (∀ b, b ∈ p → ¬ W' b ∧ (b ∈ φ i ∨ s.heap.get? b = none)) → At X W' (upd φ i p) s' (ρ.set i (some o)) := by
  obtain ⟨F1, hf⟩ := F.free i
  have fr : ∀ b, b ∈ φ i → Fre X W (upd φ i []) b := fun b q => ⟨(hf b q).1, (hf b q).2.1, (hf b q).2.2.1, (hf b q).2.2.2⟩
  obtain ⟨F2, ag, val⟩ := F1.move (D := (· ∈ φ i)) (h' := s'.heap) (W' := W') (t := s'.toks) fr g.k g.w g.wf g.nw g.tk
  have F3 : At X W' (upd φ i []) s' (ρ.set i none) := ⟨g.gens.trans F.gens, g.os.trans F.os, F2.f, F2.lr, F2.ow, F2.tk, F2.kv⟩
  refine ⟨ag, val, fun hv r hp => F3.put ti (val _ _ hv) r fun a q => ?_⟩
  obtain ⟨hw, z | z⟩ := hp a q
  · have f := fr a z; exact ⟨f.pin, hw, f.mu, f.nc⟩
  · have f := Fre.of F1 z; exact ⟨f.pin, hw, f.mu, f.nc⟩
end
section
variable {G : Gl} {d : Nat} {fi : FI}
theorem lent_one {X : FC} {W : WS} {φ : Nat → List Addr} {s : Shared} {ρ : Loc} {i : Nat} {o : O} {vs : List V} {v0 : Value} {vs' : List Value} (S : FS G d X) (F : At X W φ s ρ) (ro : OR W s.heap (φ i) o v0) (r : VRs W s.heap vs vs') :
    Lent X.C W s.heap (o :: vs.map .val) (v0 :: vs') (fun j => if j = 0 then φ i else []) where
  len := by rw [List.length_cons, List.length_cons, List.length_map, r.length]
  or := fun j w e => by
    cases j with
    | zero => cases e; exact ⟨v0, rfl, ro⟩
    | succ j =>
      have e : (vs.map O.val)[j]? = some w := e
      rw [List.getElem?_map, Option.map_eq_some_iff] at e
      obtain ⟨v, e1, rfl⟩ := e
      obtain ⟨v', h1, h2⟩ := r.get e1
      exact ⟨v', h1, rfl, h2⟩
  dis := fun j k a q q' => by
    by_cases hj : j = 0
    · by_cases hk : k = 0
      · rw [hj, hk]
      · rw [if_neg hk] at q'; cases q'
    · rw [if_neg hj] at q; cases q
  own := fun j a q => by
    by_cases hj : j = 0
    · rw [if_pos hj] at q
      have m := F.f.mu a (.inr (.inr ⟨i, q⟩))
      refine ⟨by rw [hj]; exact Nat.succ_pos _, m.2, ?_⟩
      cases e : X.C.h.get? a with
      | none => rfl
      | some o => have := S.base a o e; rw [m.1] at this; cases this
    · rw [if_neg hj] at q; cases q
theorem one_iff {φ : Nat → List Addr} {i : Nat} {b : Addr} : (∃ j, b ∈ (if j = 0 then φ i else [])) ↔ b ∈ φ i := by
  constructor
  · rintro ⟨j, q⟩
    by_cases hj : j = 0
    · rw [if_pos hj] at q; exact q
    · rw [if_neg hj] at q; cases q
  · intro q; exact ⟨0, q⟩
theorem GsX.one {φ : Nat → List Addr} {i : Nat} {W W' : WS} {s s' : Shared} (g : GsX (fun b => ∃ j, b ∈ (if j = 0 then φ i else [])) W s W' s') : GsX (fun b => b ∈ φ i) W s W' s' :=
  ⟨fun a o q => g.k a o fun z => q (one_iff.mp z), g.w, g.wf, fun a o q => g.nw a o fun z => q (one_iff.mp z), g.gens, g.os, g.tk⟩
noncomputable def eMeth (nm : Str) (t : CT) (fI : Addr) (y : Str) (yi : Nat) (yp : Pos) (m : Str) (a : Addr) (r : Rw G d fi) (ap p : Pos) (hc : G.cl.lookup nm = some (t, fI)) (hm : (t.c, m, a) ∈ G.me)
    (h : (fi.isVar y yi && (ap.endLine == p.line) && Nat.blt r.xs.length 30 && tkOk G fi.pos a && !(t.vn ++ t.ln).contains m) = true) : T G d fi :=
  .mk' (.Call (.Attribute (.Name y yp) m ap) r.xs [] p) (fun σ => (objAt σ.ρ yi).bind fun q0 => bd (r.ev σ) fun vs σ => (objAt σ.ρ yi).bind fun q => List.casesOn σ.tp none fun k tp => (Tk.l? k).bind fun b => Fl.casesOn b.1 none fun o => o.val?.bind fun v => (slot b.2 0).bind fun o' =>
      some (.val v, ⟨σ.ρ.set yi (some o'), tp, CallB G d a (.obj q.1 q.2.1 q.2.2 :: vs.map .val) v (o' :: vs.map .val) :: (q0.1 = t) :: σ.ob⟩)) rfl (by
    intro σ o σ' e q
    obtain ⟨⟨t0, l0, r0⟩, e0, e⟩ := Option.bind_eq_some_iff.mp e
    obtain ⟨⟨vs, σ₁⟩, e1, e⟩ := Option.bind_eq_some_iff.mp e
    obtain ⟨⟨t1, l1, r1⟩, e2, e⟩ := Option.bind_eq_some_iff.mp e
    have e : (List.casesOn σ₁.tp none fun k tp => (Tk.l? k).bind fun b => Fl.casesOn b.1 none fun o => o.val?.bind fun v => (slot b.2 0).bind fun o' => some (O.val v, (⟨σ₁.ρ.set yi (some o'), tp, CallB G d a (.obj t1 l1 r1 :: vs.map .val) v (o' :: vs.map .val) :: (t0 = t) :: σ₁.ob⟩ : St))) = some (o, σ') := e
    cases htp : σ₁.tp with
    | nil => rw [htp] at e; cases e
    | cons k tp =>
      rw [htp] at e
      obtain ⟨⟨fl, ρb⟩, e3, e⟩ := Option.bind_eq_some_iff.mp (show (Tk.l? k).bind _ = _ from e)
      cases fl with
      | next => cases e
      | ret ob =>
        obtain ⟨v, e4, e⟩ := Option.bind_eq_some_iff.mp (show ob.val?.bind _ = _ from e)
        obtain ⟨o', e5, e⟩ := Option.bind_eq_some_iff.mp e
        cases e
        obtain ⟨hcall, rfl, q⟩ := q
        obtain ⟨q1, hs⟩ := r.eo σ vs σ₁ e1 q
        simp only [Bool.and_eq_true, Bool.not_eq_true'] at h
        obtain ⟨⟨⟨⟨g1, g2⟩, g3⟩, g4⟩, g5⟩ := h
        refine ⟨q1, fun X E W φ s ef S F Q kk => method_call rfl r.pl g2 g3 fun pl => ?_⟩
        subst ef
        have c := S.g.cl nm t0 fI hc
        have me := S.g.me _ _ _ hm
        refine load_ok S F g1 (objAt_some e0) fun v' h1 h2 hv ro => ?_
        obtain ⟨oa, da, as, hp, rfl, z⟩ := ro
        obtain ⟨c1, c2, c3, c4, c5, c6, c7, _, _, _, _, c8⟩ := clsChk_of c.chk
        obtain ⟨od, I, hl⟩ := inst_at z.hd z.ns.choose_spec.1
        have hsh : PySem.W.shadowIn (some od) m = some false := by
          show (lookIn m od).map (·.isSome) = some false
          rw [hl, Option.map_some]
          congr 1
          cases q : ((flds t0 l0.length r0.length).zip (z.ns.choose ++ as.map Value.ref)).lookup m with
          | none => rfl
          | some w =>
            have := flds_mem (lookup_mem (show ((flds t0 l0.length r0.length).zip (z.ns.choose ++ as.map Value.ref)).lookup m ≠ none by rw [q]; simp))
            rw [← List.contains_iff_mem, g5] at this; cases this
        refine PySem.W.method_fn (F.In S) I (PySem.W.plainGet_of c2).1 (PySem.W.plainGet_of c2).2 me.find me.ty hsh ?_
        refine callW (K := X.C.K) (fun h hX => PySem.W.keeps_K me.keep h hX) (hs.2 X E W φ s rfl S F _ fun vs' W' φ' s' p' r' => ⟨p'.f.In S, wpAny_call ?_⟩)
        have ro' := still p'.f h1 h2 (p'.vl _ _ hv) (objAt_some e2)
        refine hcall X.C X.A W' s' (.ref oa :: vs') (fun j => if j = 0 then φ' yi else []) _ S.g S.hd (by have := S.dp; omega) (by have := S.un; omega) (p'.f.keep S) p'.f.gens (fun f hf hp => p'.f.tk (tkOk_of g4 hf hp)) p'.f.os p'.f.f.wf (lent_one S p'.f ro' r') fun v2 W2 s2 φ2 gx L pn rv => ?_
        obtain ⟨ag, val, fin⟩ := p'.f.back (x := y) (fun w hw => S.ti w y yi hw h1) gx.one
        obtain ⟨u, hu, ru⟩ := L.or 0 o' rfl
        cases hu
        have A := fin (p'.vl _ _ hv) ru fun b q => ⟨(L.own 0 b q).2.1, (pn 0 b q).imp one_iff.mp id⟩
        exact kk v2 W2 _ s2 ⟨A, p'.ag.trans ag, fun w x hw => val _ _ (p'.vl _ _ hw)⟩ (.val rv)) fun _ => rfl
end
end Mine
end

section
open PySem
set_option autoImplicit false
set_option linter.unusedVariables false
namespace Mine
open PySem.W (Frag kitOne keepIn Looks clsIn findIn typeIn specialIn takesIn mroIn makesIn plainGet hasDictIn plainOver takerIn isFn InstAt kitAny lookIn)
theorem Ns1_empty (h : Heap) (c : Value) : (h.push { cls := c, data := .dict #[] }).Ns1 h.objs.size fun _ => none :=
  ⟨_, #[], 0, Heap.get?_push_size _ rfl, rfl, fun _ he => by simp at he, .nil, fun _ => rfl⟩
theorem under_tc (A : Around) (C : Addr) (rest : List Value) : (A.under (.builtin "type.__call__" ⟨.ref C :: rest, []⟩)).handled = A.handled ∧ (A.under (.builtin "type.__call__" ⟨.ref C :: rest, []⟩)).depth = A.depth + 1 ∧ (A.under (.builtin "type.__call__" ⟨.ref C :: rest, []⟩)).units ≤ A.units + 10 := by
  refine ⟨rfl, by show A.depth + Code.weight _ = A.depth + 1; congr 1, ?_⟩
  show A.units + Code.cUnits _ ≤ A.units + 10
  have : Code.cUnits (.builtin "type.__call__" ⟨.ref C :: rest, []⟩) = 1 := rfl
  omega
section
variable {G : Gl} {d : Nat} {fi : FI}
noncomputable def eNewO (nm : Str) (t : CT) (fI : Addr) (r : Rw G d fi) (p' p : Pos) (hc : G.cl.lookup nm = some (t, fI)) (h : (fi.isGlob nm && tkOk G fi.pos fI) = true) : T G d fi :=
  .mk' (.Call (.Name nm p') r.xs [] p) (fun σ => bd (r.ev σ) fun vs σ => List.casesOn σ.tp none fun k tp => (Tk.r? k).bind fun o => O.casesOn o (fun _ => none) (fun _ => none) (fun _ => none) (fun t' l ls => some (.obj t' l ls, ⟨σ.ρ, tp, CallB G d fI (.obj t [] [] :: vs.map .val) .none (.obj t' l ls :: vs.map .val) :: σ.ob⟩)) fun _ _ _ => none) rfl
    (r.eo.bd (R := fun vs ρ o ρ' => ∃ t' l ls, o = .obj t' l ls ∧ CallB G d fI (.obj t [] [] :: vs.map .val) .none (.obj t' l ls :: vs.map .val) ∧ ρ = ρ') (fun vs => by
      intro σ o σ' e q
      dsimp only at e
      cases htp : σ.tp with
      | nil => rw [htp] at e; cases e
      | cons k tp =>
        rw [htp] at e
        obtain ⟨ob, e1, e⟩ := Option.bind_eq_some_iff.mp (show (Tk.r? k).bind _ = _ from e)
        cases ob with
        | obj t' l ls => cases e; exact ⟨q.2, t', l, ls, rfl, q.1, rfl⟩
        | _ => cases e) fun _ vs _ o _ hs q => by
      obtain ⟨t', l, ls, rfl, hcall, rfl⟩ := q
      rw [Bool.and_eq_true] at h
      intro X E W φ s e S F Q kk
      have c := S.g.cl nm t fI hc
      obtain ⟨c1, c2, c3, c4, c5, c6, c7, _, _, _, _, c8⟩ := clsChk_of c.chk
      refine PyProof.Rows.Call_ (glob_ok S F (e ▸ h.1) c.g ?_)
      rw [r.back]
      refine callW (K := X.C.K) (fun h hX => PySem.W.keeps_K c.keep h hX) (hs.2 X E W φ s e S F _ fun vs' W' φ' s' p' r' => ⟨p'.f.In S, wpAny_call ?_⟩)
      have IN := p'.f.In S
      have K := Aft.of p' kk
      have F' := p'.f
      obtain ⟨hh, gg, dd, tt, oo⟩ := s'
      have hfn : typeIn X.C.K (.ref fI) = some (.type "function") := by unfold PySem.W.isFn at c7; exact beq_iff_eq.mp c7
      refine PySem.W.make_core (PySem.W.makes_of IN c1) (PySem.W.looks_findIn IN c6) (fun self => PySem.W.bind_fn IN self hfn) (.inl rfl) ?_
      have hk : ∀ b o, hh.get? b = some o → ((hh.push PySem.W.emptyDict).push (PySem.W.instObj t.c hh.objs.size)).get? b = some o := fun b o e => Heap.get?_push_of_some _ (Heap.get?_push_of_some _ e)
      have hz : (hh.push PySem.W.emptyDict).objs.size = hh.objs.size + 1 := Heap.size_push ..
      have hhead : ((hh.push PySem.W.emptyDict).push (PySem.W.instObj t.c hh.objs.size)).get? (hh.objs.size + 1) = some (insO t.c hh.objs.size) := by
        rw [← hz]; exact Heap.get?_push_size _ rfl
      have fr0 : hh.get? hh.objs.size = none := fresh_size _
      have fr1 : hh.get? (hh.objs.size + 1) = none := none_of_le (Nat.le_succ _)
      have nW : ∀ b, hh.get? b = none → ¬ W' b := fun b e q => by obtain ⟨o, z⟩ := F'.f.wf b q; rw [e] at z; cases z
      let W2 : WS := fun b => W' b ∨ b = hh.objs.size + 1
      have ag2 : Ag W' hh W2 ((hh.push PySem.W.emptyDict).push (PySem.W.instObj t.c hh.objs.size)) := ⟨fun _ q => .inl q, fun b q => by obtain ⟨o, z⟩ := F'.f.wf b q; exact (hk _ _ z).trans z.symm⟩
      have wf2 : ∀ b, W2 b → ∃ o, ((hh.push PySem.W.emptyDict).push (PySem.W.instObj t.c hh.objs.size)).get? b = some o := fun b q => q.elim (fun q => by obtain ⟨o, z⟩ := F'.f.wf b q; exact ⟨o, hk _ _ z⟩) fun q => ⟨_, q ▸ hhead⟩
      have kN : ∀ b, hh.get? b = none → X.C.h.get? b = none := fun b e => by
        cases q : X.C.h.get? b with
        | none => rfl
        | some o => have := p'.f.keep S b o q; rw [show (⟨hh, gg, dd, tt, oo⟩ : Shared).heap.get? b = hh.get? b from rfl, e] at this; cases this
      have ob : ObjAt W2 ((hh.push PySem.W.emptyDict).push (PySem.W.instObj t.c hh.objs.size)) (hh.objs.size + 1) hh.objs.size [] t [] [] :=
        ⟨.inr rfl, hhead, ⟨[], (Ns1_empty hh (.type "dict")).at fun o e => Heap.get?_push_of_some _ e, rfl⟩, ⟨rfl, fun _ _ _ q => (by cases q)⟩, fun _ q => (by cases q), List.nodup_cons.mpr ⟨List.not_mem_nil, List.nodup_nil⟩, ⟨Nat.zero_le _, Nat.zero_le _⟩⟩
      obtain ⟨u1, u2, u3⟩ := under_tc X.A t.c ([] ++ vs')
      have L : Lent X.C W2 ((hh.push PySem.W.emptyDict).push (PySem.W.instObj t.c hh.objs.size)) (.obj t [] [] :: vs.map .val) (.ref (hh.objs.size + 1) :: vs') (fun j => if j = 0 then [hh.objs.size] else []) := by
        refine ⟨by rw [List.length_cons, List.length_cons, List.length_map, r'.length], fun j w e => ?_, fun j k b q q' => ?_, fun j b q => ?_⟩
        · cases j with
          | zero => cases e; exact ⟨_, rfl, _, _, [], rfl, rfl, ob⟩
          | succ j =>
            have e : (vs.map O.val)[j]? = some w := e
            rw [List.getElem?_map, Option.map_eq_some_iff] at e
            obtain ⟨v, e1, rfl⟩ := e
            obtain ⟨v', h1, h2⟩ := r'.get e1
            exact ⟨v', h1, rfl, h2.ag ag2⟩
        · by_cases hj : j = 0
          · by_cases hk : k = 0
            · rw [hj, hk]
            · rw [if_neg hk] at q'; cases q'
          · rw [if_neg hj] at q; cases q
        · by_cases hj : j = 0
          · rw [if_pos hj] at q
            cases List.mem_singleton.mp q
            exact ⟨by rw [hj]; exact Nat.succ_pos _, fun z => z.elim (nW _ fr0) fun z => absurd z (Nat.ne_of_lt (Nat.lt_succ_self _)), kN _ fr0⟩
          · rw [if_neg hj] at q; cases q
      refine hcall X.C _ W2 _ _ _ _ S.g (u1.trans S.hd) (by rw [u2]; have := S.dp; omega) (by have := S.un; omega) (fun b o e => hk _ _ (p'.f.keep S b o e)) F'.gens (fun f hf hp => F'.tk (e ▸ tkOk_of h.2 hf hp)) F'.os wf2 L fun v2 W3 s3 φ3 gx L3 pn rv => ?_
      cases rv
      refine ⟨rfl, ?_⟩
      have notD : ∀ b o, hh.get? b = some o → ¬ ∃ j, b ∈ (if j = 0 then [hh.objs.size] else []) := fun b o e ⟨j, q⟩ => by
        by_cases hj : j = 0
        · rw [if_pos hj] at q; cases List.mem_singleton.mp q; rw [fr0] at e; cases e
        · rw [if_neg hj] at q; cases q
      have g3 : Gs W' ⟨hh, gg, dd, tt, oo⟩ W3 s3 := ⟨⟨fun b o e => gx.k b o (notD b o e) (hk _ _ e), fun b q => gx.w b (.inl q), gx.wf, fun b o e q => (gx.nw b o (notD b o e) (hk _ _ e) q).elim id fun z => by rw [z] at e; have e : hh.get? _ = some o := e; rw [fr1] at e; cases e⟩, gx.gens, gx.os, gx.tk⟩
      obtain ⟨u, hu, oa, da, as, hp, rfl, z⟩ := L3.or 0 _ rfl
      cases hu
      refine K _ W3 s3 g3 ⟨_, da, as, rfl, fun b q => ?_, z⟩
      have q : b ∈ φ3 0 := by rw [hp]; exact q
      refine ⟨?_, (L3.own 0 b q).2.1⟩
      show hh.get? b = none
      rcases pn 0 b q with ⟨j, w⟩ | w
      · by_cases hj : j = 0
        · rw [if_pos hj] at w; cases List.mem_singleton.mp w; exact fr0
        · rw [if_neg hj] at w; cases w
      · cases q' : hh.get? b with
        | none => rfl
        | some o => have := hk _ _ q'; rw [show ((hh.push PySem.W.emptyDict).push (PySem.W.instObj t.c hh.objs.size)).get? b = none from w] at this; cases this) fun _ => rfl
end
end Mine
end

section
open PySem
set_option autoImplicit false
set_option linter.unusedVariables false
namespace Mine
noncomputable def takeO (m : Nat) : Loc → Option (List O) := @Nat.rec (fun _ => Loc → Option (List O)) (fun _ => some []) (fun _ ih ρ => List.casesOn ρ none fun o ρ => o.bind fun o => (ih ρ).bind fun os => some (o :: os)) m
theorem takeO_get : ∀ {m : Nat} {ρ : Loc} {os : List O}, takeO m ρ = some os → os.length = m ∧ ∀ (i : Nat) (o : O), os[i]? = some o → ρ[i]? = some (some o)
  | 0, ρ, os, e => by cases e; exact ⟨rfl, fun i o q => by cases q⟩
  | m + 1, [], os, e => by cases e
  | m + 1, x :: ρ, os, e => by
    obtain ⟨o, e1, e⟩ := Option.bind_eq_some_iff.mp (show x.bind (fun o => (takeO m ρ).bind fun os => some (o :: os)) = some os from e)
    obtain ⟨os', e2, e⟩ := Option.bind_eq_some_iff.mp e
    cases e
    obtain ⟨h1, h2⟩ := takeO_get e2
    refine ⟨congrArg (· + 1) h1, fun i w q => ?_⟩
    cases i with
    | zero => cases q; rw [e1]; rfl
    | succ i => exact h2 i w q
noncomputable def flV (fl : Fl) : Option V := Fl.casesOn fl (some V.none) fun o => o.val?
noncomputable def resB (m : Nat) (r : Option (Fl × St)) : Option (V × List O) := r.bind fun p => (flV p.1).bind fun v => List.casesOn p.2.tp ((takeO m p.2.ρ).bind fun os => some (v, os)) fun _ _ => none
section
variable {G : Gl} {d : Nat}
theorem callB_go {a : Addr} {f : FD} {os os' : List O} {v : V} {n : Nat} {tp : List Tk} {P : Prop} (B : SL G d f.fi) (hf : G.fd.lookup a = some f) (hB : B.xs = f.st) (hn : os.length = f.ps.length) (hkp : (f.ps.all fun p => f.fi.kp.contains p) = true)
    (e : resB os.length (B.ex ⟨locB os n, tp, []⟩) = some (v, os')) (ob : All (obs (B.ex ⟨locB os n, tp, []⟩)) = P) (p : P) : CallB G (d + 1) a os v os' := by
  obtain ⟨⟨fl, ρ, tp', o'⟩, h, e⟩ := Option.bind_eq_some_iff.mp e
  obtain ⟨v', e1, e⟩ := Option.bind_eq_some_iff.mp e
  cases tp' with
  | cons _ _ => cases e
  | nil =>
    obtain ⟨os2, e2, e⟩ := Option.bind_eq_some_iff.mp e
    cases e
    subst ob
    have q : All o' := by rw [h] at p; exact p
    obtain ⟨h1, h2⟩ := takeO_get e2
    refine callB_of hf hn h1 hkp (hB ▸ (B.eo _ _ _ h q).2) h2 ?_
    cases fl with
    | next => cases e1; exact .inr ⟨rfl, rfl⟩
    | ret o => have e1 : o.val? = some v := e1; rw [O.val_of e1]; exact .inl rfl
end
end Mine
end

section
open PySem
set_option autoImplicit false
set_option linter.unusedVariables false
namespace Mine
abbrev mkS (z : List Nat) : Str := ⟨z.toArray⟩
theorem mkS_inj {a b : List Nat} (e : mkS a = mkS b) : a = b := by simpa using congrArg (fun x : Str => x.cps.toList) e
noncomputable def repl1 (z : List Nat) {α : Type} (v : α) (k : List (List Nat)) (l : List α) : List α := (k.zip l).map fun p => if p.1 = z then v else p.2
noncomputable def dput (k : List (List Nat)) (l : List V) (z : List Nat) (v : V) : List (List Nat) × List V := if z ∈ k then (k, repl1 z v k l) else (k ++ [z], l ++ [v])
theorem st_any (z : List Nat) : ∀ {k : List (List Nat)} {vs : List Value}, vs.length = k.length → (((k.map mkS).zip vs).any fun kv => kv.1 = mkS z) = decide (z ∈ k)
  | [], [], _ => rfl
  | [], _ :: _, h => by cases h
  | _ :: _, [], h => by cases h
  | a :: k, u :: vs, h => by
    rw [List.map_cons, List.zip_cons_cons, List.any_cons, st_any z (Nat.succ.inj h)]
    by_cases q : a = z
    · subst q; simp
    · have h1 : ¬ mkS a = mkS z := fun e => q (mkS_inj e)
      have h2 : ¬ z = a := fun e => q e.symm
      rw [decide_eq_false h1, Bool.false_or]
      simp [h2]
theorem st_map (z : List Nat) (v' : Value) : ∀ {k : List (List Nat)} {vs : List Value}, vs.length = k.length → ((k.map mkS).zip vs).map (fun kv => if kv.1 = mkS z then (kv.1, v') else kv) = (k.map mkS).zip (repl1 z v' k vs)
  | [], [], _ => rfl
  | [], _ :: _, h => by cases h
  | _ :: _, [], h => by cases h
  | a :: k, u :: vs, h => by
    have ih := st_map z v' (Nat.succ.inj h)
    show (if mkS a = mkS z then (mkS a, v') else (mkS a, u)) :: ((k.map mkS).zip vs).map _ = (mkS a, if a = z then v' else u) :: (k.map mkS).zip (repl1 z v' k vs)
    rw [ih]
    by_cases q : a = z
    · subst q; simp
    · rw [if_neg (fun e => q (mkS_inj e)), if_neg q]
theorem repl1_len {α : Type} (z : List Nat) (v : α) : ∀ {k : List (List Nat)} {l : List α}, l.length = k.length → (repl1 z v k l).length = k.length := fun h => by
  unfold repl1; rw [List.length_map, List.length_zip, h, Nat.min_self]
theorem repl1_vr {W : WS} {h : Heap} {z : List Nat} {v : V} {v' : Value} (rv : VR W h v v') : ∀ {k : List (List Nat)} {l : List V} {vs : List Value}, VRs W h l vs → VRs W h (repl1 z v k l) (repl1 z v' k vs)
  | [], _, _, _ => rfl
  | a :: k, [], _, r => by cases r; exact rfl
  | a :: k, u :: l, _, r => by
    obtain ⟨w, r', rfl, x, y⟩ := VRs.inv r
    show VRs W h ((if a = z then v else u) :: repl1 z v k l) ((if a = z then v' else w) :: repl1 z v' k r')
    refine .cons ?_ (repl1_vr rv y)
    by_cases q : a = z
    · rw [if_pos q, if_pos q]; exact rv
    · rw [if_neg q, if_neg q]; exact x
theorem DicAt.get {w : World} {W : WS} {h : Heap} {a : Addr} {k : List (List Nat)} {l : List V} {vs : List Value} {z : List Nat} {v : V} (r : VRs W h l vs) (e : (k.zip l).lookup z = some v) : ∃ v', valueAt ((k.map mkS).zip vs) (mkS z) = some v' ∧ VR W h v v' := by
  induction k generalizing l vs with
  | nil => cases e
  | cons b k ih =>
    cases l with
    | nil => cases e
    | cons u l =>
      obtain ⟨u', r', rfl, x, y⟩ := VRs.inv r
      rw [List.zip_cons_cons, List.lookup_cons] at e
      unfold valueAt
      rw [List.map_cons, List.zip_cons_cons, List.find?_cons]
      by_cases q : b = z
      · subst q
        rw [beq_self_eq_true] at e
        cases e
        exact ⟨u', by simp, x⟩
      · rw [beq_eq_false_iff_ne.mpr (fun e => q e.symm)] at e
        have h1 : ¬ mkS b = mkS z := fun e => q (mkS_inj e)
        rw [decide_eq_false h1]
        exact ih y e
theorem DicAt.put {w : World} {W : WS} {h h' : Heap} {a : Addr} {k : List (List Nat)} {l : List V} {vs : List Value} {z : List Nat} {v : V} {v' : Value} (x : DicAt w h a k vs) (r : VRs W h l vs) (rv : VR W h v v') (ok : PyData.strOk (mkS z) = true ∧ z.length ≤ sizeLine) (hz : k.length + 1 ≤ sizeLine)
    (ag : Ag W h W h') (prog0 : Program) (hd : ∀ prog, h'.DictOf (strKind prog w) a (stored ((k.map mkS).zip vs) (mkS z) v')) : ∃ vs', DicAt w h' a (dput k l z v).1 vs' ∧ VRs W h' (dput k l z v).2 vs' := by
  have hl := x.len
  by_cases q : z ∈ k
  · have e : stored ((k.map mkS).zip vs) (mkS z) v' = (k.map mkS).zip (repl1 z v' k vs) := by
      unfold stored; rw [st_any z hl, decide_eq_true q, if_pos rfl, st_map z v' hl]
    unfold dput; rw [if_pos q]
    exact ⟨repl1 z v' k vs, ⟨repl1_len z v' hl, x.few, x.ns, x.ok, fun prog => e ▸ hd prog⟩, (repl1_vr rv r).ag ag⟩
  · have e : stored ((k.map mkS).zip vs) (mkS z) v' = ((k ++ [z]).map mkS).zip (vs ++ [v']) := by
      unfold stored; rw [st_any z hl, decide_eq_false q, if_neg Bool.false_ne_true, List.map_append, List.zip_append (by rw [List.length_map]; exact hl.symm)]; rfl
    unfold dput; rw [if_neg q]
    refine ⟨vs ++ [v'], ⟨by rw [List.length_append, List.length_append, hl]; rfl, by rw [List.length_append]; exact hz, x.ns, fun y hy => ?_, fun prog => e ▸ hd prog⟩, (r.snoc rv).ag ag⟩
    rcases List.mem_append.mp hy with hy | hy
    · exact x.ok y hy
    · cases List.mem_singleton.mp hy; exact ok
section
variable {G : Gl} {d : Nat} {fi : FI}
noncomputable def dicO (o : O) : Option (World × List (List Nat) × List V) := O.casesOn o (fun v => V.casesOn v none (fun _ => none) (fun _ => none) (fun _ => none) (fun _ => none) (fun _ => none) (fun _ _ => none) fun w k l => some (w, k, l)) (fun _ => none) (fun _ => none) (fun _ _ _ => none) fun w k l => some (w, k, l)
theorem dicO_br {W : WS} {h : Heap} {o : O} {v' : Value} {w : World} {k : List (List Nat)} {l : List V} (r : BR W h o v') (e : dicO o = some (w, k, l)) : ∃ a vs, v' = .ref a ∧ DicAt w h a k vs ∧ VRs W h l vs := by
  cases o with
  | val v =>
    cases v with
    | dic w' k' l' => cases e; obtain ⟨a, vs, h1, _, h2, h3⟩ := VR.dic r; exact ⟨a, vs, h1, h2, h3⟩
    | _ => cases e
  | dic w' k' l' => cases e; obtain ⟨a, vs, h1, h2, h3⟩ := r; exact ⟨a, vs, h1, h2, h3⟩
  | _ => cases e
def DGet (w : World) (k : List (List Nat)) (l : List V) (z : List Nat) (o : O) : Prop := ∃ v, o = .val v ∧ (k.zip l).lookup z = some v
noncomputable def eDicV (y : Str) (yi : Nat) (yp : Pos) (k : T G d fi) (p : Pos) (h : fi.isVar y yi = true) : T G d fi :=
  .mk' (.Subscript (.Name y yp) k.x p) (fun σ => (slot σ.ρ yi).bind fun _ => bd (k.ev σ) fun z σ => z.frz.str?.bind fun z => (slot σ.ρ yi).bind fun o => (dicO o).bind fun q => List.casesOn σ.tp none fun t tp => (Tk.r? t).bind fun r => some (r, ⟨σ.ρ, tp, DGet q.1 q.2.1 q.2.2 z r :: (q.1 = G.w) :: σ.ob⟩)) rfl (by
    intro σ r σ' e q
    obtain ⟨o0, e0, e⟩ := Option.bind_eq_some_iff.mp e
    obtain ⟨⟨zz, σ₁⟩, e1, e⟩ := Option.bind_eq_some_iff.mp e
    obtain ⟨z, e2, e⟩ := Option.bind_eq_some_iff.mp e
    obtain ⟨o1, e3, e⟩ := Option.bind_eq_some_iff.mp e
    obtain ⟨⟨w, ks, l⟩, e4, e⟩ := Option.bind_eq_some_iff.mp e
    dsimp only at e e2 e3
    cases htp : σ₁.tp with
    | nil => rw [htp] at e; cases e
    | cons t tp =>
      rw [htp] at e
      obtain ⟨r', e5, e⟩ := Option.bind_eq_some_iff.mp (show (Tk.r? t).bind _ = _ from e)
      cases e
      obtain ⟨⟨v, rfl, hg⟩, hw, q⟩ := q
      obtain ⟨q1, hk⟩ := k.eo _ _ _ e1 q
      have hw : w = G.w := hw
      refine ⟨q1, fun X E W φ s ef S F Q kk => PyProof.Rows.Subscript_ (load_ok S F (ef ▸ h) (slot_some e0) fun x' hx hn hv ro => hk.v X E W φ s ef S F _ fun z' W₂ φ₂ s₂ p₂ r₂ => ?_)⟩
      rw [V.str_of e2] at r₂
      obtain ⟨u, rfl, _⟩ := r₂
      obtain ⟨a, vs, rfl, D, V⟩ := dicO_br (still p₂.f hx hn (p₂.vl _ _ hv) (slot_some e3)).br e4
      obtain ⟨v', g1, g2⟩ := DicAt.get (w := w) (a := a) V hg
      have hd := D.at_ X.C.prog
      rw [hw, ← S.g.w] at hd
      exact PyProof.Rows.tail_any (T := "dict") hd.typeIs PySem.F.slot_dict_getitem.lookup (wpAny_getItem_of (knd := strKind X.C.prog X.C.w) (k := mkS z) (by simp [strKind, Value.isStrOf]) hd.mapOf g1
        (kk _ _ _ _ ⟨p₂.f.toks (s₂.toks + 1) (Nat.le_succ _), p₂.ag, p₂.vl⟩ (.val g2))) (slice_plain k.pl _ _)) fun _ => rfl
end
end Mine
end

section
open PySem
set_option autoImplicit false
set_option linter.unusedVariables false
namespace Mine
theorem pairs_prog {p p' : Program} {w : World} {es : List DictEntry} {kvs : List (Str × Value)} (h : Pairs (strKind p w) es kvs) : Pairs (strKind p' w) es kvs := by
  induction h with
  | nil => exact .nil
  | cons h1 h2 _ ih => exact .cons h1 h2 ih
theorem dictOf_prog {p p' : Program} {w : World} {h : Heap} {a : Addr} {kvs : List (Str × Value)} (x : h.DictOf (strKind p w) a kvs) : h.DictOf (strKind p' w) a kvs :=
  let ⟨o, es, ep, h1, h2, h3, h4, h5, h6⟩ := x; ⟨o, es, ep, h1, h2, h3, h4, pairs_prog h5, h6⟩
noncomputable def dicAt' (ρ : Loc) (i : Nat) : Option (World × List (List Nat) × List V) := (slot ρ i).bind fun o => O.casesOn o (fun _ => none) (fun _ => none) (fun _ => none) (fun _ _ _ => none) fun w k l => some (w, k, l)
theorem dicAt_some {ρ : Loc} {i : Nat} {w : World} {k : List (List Nat)} {l : List V} (e : dicAt' ρ i = some (w, k, l)) : ρ[i]? = some (some (.dic w k l)) := by
  obtain ⟨o, e1, e⟩ := Option.bind_eq_some_iff.mp e
  cases o with
  | dic _ _ _ => cases e; exact slot_some e1
  | _ => cases e
noncomputable def Tk.d? (t : Tk) : Option (List (List Nat) × List V) := (Tk.r? t).bind fun o => O.casesOn o (fun _ => none) (fun _ => none) (fun _ => none) (fun _ _ _ => none) fun _ k l => some (k, l)
section
variable {G : Gl} {d : Nat} {fi : FI}
noncomputable def sDic (y : Str) (yi : Nat) (k a : T G d fi) (yp sp p : Pos) (h : (fi.isVar y yi && !isComp a.x) = true) : SS G d fi :=
  ⟨.Assign [.Subscript (.Name y yp) k.x sp] a.x p, fun σ => bd (a.ev σ) fun v σ => (dicAt' σ.ρ yi).bind fun _ => bd (k.ev σ) fun z σ => z.frz.str?.bind fun z => (dicAt' σ.ρ yi).bind fun q => List.casesOn σ.tp none fun t tp => (Tk.d? t).bind fun r => some (.next, ⟨σ.ρ.set yi (some (.dic q.1 r.1 r.2)), tp, (r = dput q.2.1 q.2.2 z v.frz) :: (q.1 = G.w) :: (q.2.1.length < room) :: σ.ob⟩), by
    intro σ f σ' e q
    obtain ⟨⟨v, σ₁⟩, e1, e⟩ := Option.bind_eq_some_iff.mp e
    obtain ⟨⟨w0, k0, l0⟩, e0, e⟩ := Option.bind_eq_some_iff.mp e
    obtain ⟨⟨zz, σ₂⟩, e2, e⟩ := Option.bind_eq_some_iff.mp e
    obtain ⟨z, e3, e⟩ := Option.bind_eq_some_iff.mp e
    obtain ⟨⟨w, ks, l⟩, e4, e⟩ := Option.bind_eq_some_iff.mp e
    rw [Bool.and_eq_true, Bool.not_eq_true'] at h
    dsimp only at e e3 e4 e0
    cases htp : σ₂.tp with
    | nil => rw [htp] at e; cases e
    | cons t tp =>
      rw [htp] at e
      obtain ⟨r, e5, e⟩ := Option.bind_eq_some_iff.mp (show (Tk.d? t).bind _ = _ from e)
      cases e
      obtain ⟨rfl, hw, hl, q⟩ := q
      have hw : w = G.w := hw
      have hl : ks.length < room := hl
      obtain ⟨q1, hz⟩ := k.eo _ _ _ e2 q
      obtain ⟨q2, hy⟩ := a.eo _ _ _ e1 q1
      refine ⟨q2, fun X E W φ s ef c S F Q kk => wpAny_Assign_Subscript (hy.v X E W φ s ef S F _ fun y' W1 φ1 s1 p1 r1 => load_ok S p1.f (ef ▸ h.1) (dicAt_some e0) fun x' hx hn hv rr => hz.v X E W1 φ1 s1 ef S p1.f _ fun z' W2 φ2 s2 p2 r2 => ?_) (noSwap h.2 _ _ _)⟩
      rw [V.str_of e3] at r2
      obtain ⟨u, rfl, ok, hzl⟩ := r2
      obtain ⟨ad, vs, hp, rfl, D, V⟩ := still p2.f hx hn (p2.vl _ _ hv) (dicAt_some e4)
      have hd := D.at_ X.C.prog
      rw [hw, ← S.g.w] at hd
      have := room_le
      refine wpAny_setItem_pairs (knd := strKind X.C.prog X.C.w) (k := mkS z) (by simp [strKind, Value.isStrOf]) hd (fun h' hd' hs' => ?_) (by rw [List.length_zip, List.length_map]; have := D.few; omega)
      obtain ⟨ag, val, fin⟩ := p2.f.turn3 (x := y) (i := yi) (h' := h') (t := s2.toks + 1) (fun w hw => S.ti w y yi hw hx) (fun b o q e => (hs'.2 b fun z => q (by rw [hp, z]; exact List.mem_cons_self)).trans e)
      rw [S.g.w, ← hw] at hd'
      obtain ⟨vs', D', V'⟩ := D.put V (r1.ag p2.ag) ⟨ok, hzl⟩ (by omega) ag X.C.prog fun prog => dictOf_prog hd'
      have A := fin (p := [ad]) (o := .dic w (dput ks l z v.frz).1 (dput ks l z v.frz).2) (p2.vl _ _ hv) ⟨ad, vs', rfl, rfl, D', V'⟩ fun b q => .inl (by rw [hp]; exact q)
      exact kk _ _ _ _ A ((p1.ag.trans p2.ag).trans ag) rfl⟩
end
end Mine
end

section
open PySem
set_option autoImplicit false
set_option linter.unusedVariables false
namespace Mine
section
variable {G : Gl} {d : Nat} {fi : FI}
end
end Mine
end

section
open PySem
set_option autoImplicit false
set_option linter.unusedVariables false
namespace Mine
section
variable {G : Gl} {d : Nat} {fi : FI}
end
end Mine
end

section
open PySem
set_option autoImplicit false
set_option linter.unusedVariables false
namespace Mine
noncomputable def FC.pins (X : FC) (L : List (Addr × Obj)) : FC := @List.rec (Addr × Obj) (fun _ => FC) X (fun p _ Y => Y.pinned p.1 p.2) L
section
variable {G : Gl} {d : Nat} {X : FC} {W : WS} {φ : Nat → List Addr} {s : Shared} {ρ : Loc}
theorem pins_same (X : FC) : ∀ L, (X.pins L).C = X.C ∧ (X.pins L).A = X.A ∧ (X.pins L).env = X.env ∧ (X.pins L).fi = X.fi ∧ (X.pins L).cm = X.cm
  | [] => ⟨rfl, rfl, rfl, rfl, rfl⟩
  | p :: L => pins_same X L
theorem pins_ne (X : FC) {a : Addr} : ∀ {L : List (Addr × Obj)}, a ∉ L.map (·.1) → (X.pins L).pin a = X.pin a
  | [], _ => rfl
  | p :: L, h => (FC.pinned_ne (X := X.pins L) (o := p.2) (fun e => h (by rw [e]; exact List.mem_cons_self))).trans (pins_ne X fun q => h (List.mem_cons_of_mem _ q))
theorem Fre.pins {a : Addr} (f : Fre X W φ a) {L : List (Addr × Obj)} (h : a ∉ L.map (·.1)) : Fre (X.pins L) W φ a := by
  obtain ⟨_, _, e3, _, e5⟩ := pins_same X L
  refine ⟨(pins_ne X h).trans f.pin, f.w, fun m => f.mu ?_, fun x q => f.nc x (by rw [← e3]; exact q)⟩
  unfold Mut at m ⊢
  rw [e3, e5] at m; exact m
theorem FS.pins (S : FS G d X) : ∀ {L : List (Addr × Obj)}, (L.map (·.1)).Nodup → (∀ p, p ∈ L → X.pin p.1 = none) → FS G d (X.pins L)
  | [], _, _ => S
  | p :: L, hn, hp => (FS.pins S (List.nodup_cons.mp hn).2 fun q hq => hp q (List.mem_cons_of_mem _ hq)).pinned ((pins_ne X (List.nodup_cons.mp hn).1).trans (hp p List.mem_cons_self))
theorem At.pins (F : At X W φ s ρ) : ∀ {L : List (Addr × Obj)}, (L.map (·.1)).Nodup → (∀ p, p ∈ L → Fre X W φ p.1 ∧ s.heap.get? p.1 = some p.2) → At (X.pins L) W φ s ρ
  | [], _, _ => F
  | p :: L, hn, hp => (At.pins F (List.nodup_cons.mp hn).2 fun q hq => hp q (List.mem_cons_of_mem _ hq)).pinned ((hp p List.mem_cons_self).1.pins (List.nodup_cons.mp hn).1) (hp p List.mem_cons_self).2
theorem At.unpins : ∀ {L : List (Addr × Obj)}, (L.map (·.1)).Nodup → (∀ p, p ∈ L → X.pin p.1 = none ∧ ∀ x, X.env.cells.lookup x ≠ some p.1) → At (X.pins L) W φ s ρ → At X W φ s ρ ∧ ∀ p, p ∈ L → Fre X W φ p.1 ∧ s.heap.get? p.1 = some p.2
  | [], _, _, F => ⟨F, fun _ q => (by cases q)⟩
  | p :: L, hn, hp, F => by
    obtain ⟨_, _, e3, _, e5⟩ := pins_same X L
    obtain ⟨A, f, e⟩ := At.unpin (X := X.pins L) F ((pins_ne X (List.nodup_cons.mp hn).1).trans (hp p List.mem_cons_self).1) (by rw [e3]; exact (hp p List.mem_cons_self).2)
    obtain ⟨B, hB⟩ := At.unpins (List.nodup_cons.mp hn).2 (fun q hq => hp q (List.mem_cons_of_mem _ hq)) A
    refine ⟨B, fun q hq => ?_⟩
    rcases List.mem_cons.mp hq with rfl | hq
    · refine ⟨⟨(hp q List.mem_cons_self).1, f.w, fun m => f.mu ?_, (hp q List.mem_cons_self).2⟩, e⟩
      unfold Mut at m ⊢
      rw [e3, e5]; exact m
    · exact hB q hq
end
section
variable {A : Around} {R : Result → Shared → Prop} {s : Shared}
theorem code_forT {es : List Expr} {x1 : Nat} {p' : Pos} {it : Value} {body : List Stmt} {env : Env} {prog : Program} {w : World}
    (h : wpAny (model prog w) A (pyNext it) (fun r s₁ => match r with
      | none => R (.ok .next) s₁
      | some v => wpAny (model prog w) A (letOwnedTupleGo (.Tuple es x1 p') it v) (fun _ s₁ => wpAny (model prog w) A (assign (.Tuple es x1 p') env v) (fun _ s₂ => wpAny (model prog w) A (execs body env) (fun f s₃ => match f with
            | .next | .cont => codeAny (model prog w) A (.forLoop (.Tuple es x1 p') it body [] env) R s₃
            | .brk => R (.ok .next) s₃
            | .ret v => R (.ok (.ret v)) s₃) (notedBy (model prog w) A env fun e s' => R (.error e) s') s₂) (notedBy (model prog w) A env fun e s' => R (.error e) s') s₁) (notedBy (model prog w) A env fun e s' => R (.error e) s') s₁) (notedBy (model prog w) A env fun e s' => R (.error e) s') s) :
    codeAny (model prog w) A (.forLoop (.Tuple es x1 p') it body [] env) R s := by
  refine codeAny_of_tree ?_
  show wpAny _ A ((forTurn (.Tuple es x1 p') it body [] env).onRaise (fun x => do noteFrame x env; theTreesLotGoes x)) _ _ s
  refine wpAny_noted ?_
  simp only [forTurn]
  refine wpAny_bind (wpAny_standAt (wpAny_bind (wpAny_onRaise (wpAny_mono h (fun r s₁ h₁ => ?_) fun _ _ h' => wpAny_standAt h'))))
  cases r with
  | none => exact wpAny_pure ⟨rfl, codeAny_block (wpAny_execs_nil h₁)⟩
  | some v =>
    refine wpAny_bind (wpAny_mono h₁ (fun _ s₁ h₁ => ?_) fun _ _ h' => h')
    refine wpAny_bind (wpAny_mono h₁ (fun _ s₂ h₂ => wpAny_bind (wpAny_mono h₂ (fun f s₃ h₃ => ?_) fun _ _ h' => h')) fun _ _ h' => h')
    cases f with
    | next => exact wpAny_pure ⟨rfl, h₃⟩
    | cont => exact wpAny_pure ⟨rfl, h₃⟩
    | brk => exact wpAny_pure h₃
    | ret v => exact wpAny_pure h₃
end
end Mine
end

section
open PySem
set_option autoImplicit false
set_option linter.unusedVariables false
namespace Mine
structure ZipR (W : WS) (h : Heap) (z TI TO i1 i2 : Addr) (l1 l2 : List V) (a1 a2 : Addr) (vs1 vs2 : Array Value) (n1 n2 k1 k2 : Nat) (x y : Value) : Prop where
  D : ZipApart z TI TO i1 i2 a1 a2
  hz : IsZip h z TI TO .none
  hI : IsPair h TI (.ref i1) (.ref i2)
  hO : IsPair h TO x y
  t1 : h.IsListIter i1 a1 k1
  t2 : h.IsListIter i2 a2 k2
  w1 : W a1
  w2 : W a2
  g1 : h.get? a1 = some (lstO vs1 n1)
  g2 : h.get? a2 = some (lstO vs2 n2)
  r1 : VRs W h l1 (vs1.toList.drop k1)
  r2 : VRs W h l2 (vs2.toList.drop k2)
def places (z TI TO i1 i2 : Addr) : List Addr := [z, TI, TO, i1, i2]
section
variable (G : Gl) (d : Nat) (fi : FI)
def ForZ (t : Expr) (b : List Stmt) (l1 l2 : List V) (ρ : Loc) (fl : Fl) (ρ' : Loc) : Prop := ∀ (X : FC) (W : WS) (φ : Nat → List Addr) (s : Shared) (z TI TO i1 i2 a1 a2 : Addr) (vs1 vs2 : Array Value) (n1 n2 k1 k2 : Nat) (x y : Value), X.fi = fi → X.cm = true → FS G d X → At X W φ s ρ →
  (∀ b, b ∈ places z TI TO i1 i2 → Fre X W φ b) → ZipR W s.heap z TI TO i1 i2 l1 l2 a1 a2 vs1 vs2 n1 n2 k1 k2 x y →
  ∀ R : Result → Shared → Prop, AfS X W s fl ρ' (fun f s' => R (.ok f) s') → codeAny X.C.M X.A (.forLoop t (.ref z) b [] X.env) R s
end
theorem drop_cons {vs : Array Value} {k : Nat} {v : Value} {r : List Value} (e : vs.toList.drop k = v :: r) : vs[k]? = some v ∧ vs.toList.drop (k + 1) = r := by
  constructor
  · rw [← Array.getElem?_toList, ← Nat.add_zero k, ← List.getElem?_drop, e]; rfl
  · rw [← List.drop_drop, e]; rfl
theorem drop_nil {vs : Array Value} {k : Nat} (e : vs.toList.drop k = []) : vs[k]? = none := by
  have := congrArg List.length e
  rw [List.length_drop, Array.length_toList] at this
  exact Array.getElem?_eq_none (by simp at this; omega)
section
variable {G : Gl} {d : Nat} {fi : FI}
theorem forz_nil {es : List Expr} {x1 : Nat} {p' : Pos} {b : List Stmt} {l1 l2 : List V} {ρ : Loc} (hl : l1 = [] ∨ l2 = []) : ForZ G d fi (.Tuple es x1 p') b l1 l2 ρ .next ρ := by
  intro X W φ s z TI TO i1 i2 a1 a2 vs1 vs2 n1 n2 k1 k2 x y e cm S F f I R k
  refine code_forT (wpAny_pyNext_zip_end S.hd I.D I.hz I.hI I.hO I.t1 I.t2 ⟨_, I.g1, rfl, _, rfl⟩ ⟨_, I.g2, rfl, _, rfl⟩ (hl.imp (fun q => ?_) fun q => ?_) fun h' hk => ?_)
  · subst q; exact drop_nil I.r1
  · subst q; exact drop_nil I.r2
  · obtain ⟨A, B, _⟩ := F.move (D := fun c => c = z ∨ c = TO ∨ c = i1 ∨ c = i2) (h' := h') (W' := W) (t := s.toks) (fun c q => by
      rcases q with rfl | rfl | rfl | rfl <;> exact f _ (by simp [places])) (fun c o q e => by
      simp only [not_or] at q; exact hk c o q.1 q.2.1 q.2.2.1 q.2.2.2 e) (fun _ q => q) (fun c q => by
      obtain ⟨o, e⟩ := F.f.wf c q
      have nD : ∀ d, d ∈ places z TI TO i1 i2 → c ≠ d := fun d hd e => (f d hd).w (e ▸ q)
      exact ⟨o, hk c o (nD _ (by simp [places])) (nD _ (by simp [places])) (nD _ (by simp [places])) (nD _ (by simp [places])) e⟩) (fun _ _ _ _ q => q)
    exact k _ _ _ _ A B rfl
theorem forz_ok {is : List (Str × Nat × Pos)} {x1 : Nat} {p' : Pos} (hx : (is.all fun i => fi.isOwn i.1 i.2.1) = true) (b : SL G d fi) (v u : V) (l1 l2 : List V) {ρ ρ₁ ρ₂ : Loc} {tp : List Tk} {P : Prop} {fl : Fl} {ρ'' : Loc} (hs : setN is [v, u] ρ = some ρ₁) (e : out (b.ex ⟨ρ₁, tp, []⟩) = some (.next, ρ₂, [])) (o : All (obs (b.ex ⟨ρ₁, tp, []⟩)) = P) (p : P)
    (h : ForZ G d fi (.Tuple (nmX is) x1 p') b.xs l1 l2 ρ₂ fl ρ'') : ForZ G d fi (.Tuple (nmX is) x1 p') b.xs (v :: l1) (u :: l2) ρ fl ρ'' := by
  have hb : ExsG G d fi b.xs ρ₁ .next ρ₂ := b.eo.run e o p
  intro X W φ s z TI TO i1 i2 a1 a2 vs1 vs2 n1 n2 k1 k2 x y ef cm S F f I R kk
  obtain ⟨v', r1', d1, rv, rl1⟩ := VRs.inv I.r1
  obtain ⟨u', r2', d2, ru, rl2⟩ := VRs.inv I.r2
  obtain ⟨hv, hv'⟩ := drop_cons d1
  obtain ⟨hu, hu'⟩ := drop_cons d2
  refine code_forT (wpAny_pyNext_zip_item I.D I.hz I.hI I.hO I.t1 I.t2 ⟨_, I.g1, rfl, _, rfl⟩ ⟨_, I.g2, rfl, _, rfl⟩ hv hu fun h1 hz1 hO1 t1 t2 hP hsz hk => ?_)
  refine wpAny_letOwnedTupleGo_zip (s := { s with heap := h1 }) hz1 fun h2 hz2 hs2 => ?_
  have hk2 : ∀ c o, ¬ (c = z ∨ c = TO ∨ c = i1 ∨ c = i2) → s.heap.get? c = some o → h2.get? c = some o := fun c o q e => by
    simp only [not_or] at q
    exact (hs2.2 c q.1).trans (hk c o q.1 q.2.1 q.2.2.1 q.2.2.2 e)
  have hne : s.heap.objs.size ≠ z := fun q => by have := Heap.lt_size I.hz; rw [q] at this; exact absurd this (Nat.lt_irrefl _)
  have hP2 : h2.get? s.heap.objs.size = some (tupO #[v', u'] 0) := (hs2.2 _ hne).trans hP
  have hO2 : IsPair h2 TO v' u' := (hs2.2 _ I.D.TOz).trans hO1
  have t1' : h2.IsListIter i1 a1 (k1 + 1) := t1.at fun o e => (hs2.2 _ I.D.i1z).trans e
  have t2' : h2.IsListIter i2 a2 (k2 + 1) := t2.at fun o e => (hs2.2 _ I.D.i2z).trans e
  have hI2 : IsPair h2 TI (.ref i1) (.ref i2) := hk2 _ _ (by simp only [not_or]; exact ⟨I.D.TIz, I.D.TITO, I.D.TIi1, I.D.TIi2⟩) I.hI
  have nD : ∀ c, W c → ¬ (c = z ∨ c = TO ∨ c = i1 ∨ c = i2) := fun c q e => by
    rcases e with rfl | rfl | rfl | rfl <;> exact (f _ (by simp [places])).w q
  obtain ⟨A, B, V0⟩ := F.move (D := fun c => c = z ∨ c = TO ∨ c = i1 ∨ c = i2) (h' := h2) (W' := fun c => W c ∨ c = s.heap.objs.size) (t := s.toks) (fun c q => by
      rcases q with rfl | rfl | rfl | rfl <;> exact f _ (by simp [places])) hk2 (fun _ q => .inl q) (fun c q => q.elim (fun q => by obtain ⟨o, e⟩ := F.f.wf c q; exact ⟨o, hk2 c o (nD c q) e⟩) fun q => ⟨_, q ▸ hP2⟩) (fun c o _ e q => q.elim id fun q => by rw [q, fresh_size] at e; cases e)
  have fz : ∀ c, c ∈ places z TI TO i1 i2 → Fre X (fun c => W c ∨ c = s.heap.objs.size) φ c := fun c q => by
    have g := f c q
    refine ⟨g.pin, fun w => w.elim g.w fun e => ?_, g.mu, g.nc⟩
    have hex : ∃ o, s.heap.get? c = some o := by
      simp only [places, List.mem_cons, List.not_mem_nil, or_false] at q
      rcases q with rfl | rfl | rfl | rfl | rfl
      · exact ⟨_, I.hz⟩
      · exact ⟨_, I.hI⟩
      · exact ⟨_, I.hO⟩
      · obtain ⟨o, e, _⟩ := I.t1; exact ⟨o, e⟩
      · obtain ⟨o, e, _⟩ := I.t2; exact ⟨o, e⟩
    obtain ⟨o, e'⟩ := hex
    rw [e, fresh_size] at e'; cases e'
  obtain ⟨oz, hoz⟩ : ∃ o, h2.get? z = some o := ⟨_, hz2⟩
  obtain ⟨oI, hoI⟩ : ∃ o, h2.get? TI = some o := ⟨_, hI2⟩
  obtain ⟨oO, hoO⟩ : ∃ o, h2.get? TO = some o := ⟨_, hO2⟩
  obtain ⟨o1, ho1⟩ : ∃ o, h2.get? i1 = some o := by obtain ⟨o, e, _⟩ := t1'; exact ⟨o, e⟩
  obtain ⟨o2, ho2⟩ : ∃ o, h2.get? i2 = some o := by obtain ⟨o, e, _⟩ := t2'; exact ⟨o, e⟩
  have nd : (([(z, oz), (TI, oI), (TO, oO), (i1, o1), (i2, o2)] : List (Addr × Obj)).map (·.1)).Nodup := by
    have D := I.D
    simp only [List.map_cons, List.map_nil, List.nodup_cons, List.mem_cons, List.not_mem_nil, or_false, not_or, List.nodup_nil, and_true, not_false_eq_true]
    exact ⟨⟨D.TIz.symm, D.TOz.symm, D.i1z.symm, D.i2z.symm⟩, ⟨D.TITO, D.TIi1, D.TIi2⟩, ⟨D.TOi1, D.TOi2⟩, D.i12⟩
  have hL : ∀ p, p ∈ ([(z, oz), (TI, oI), (TO, oO), (i1, o1), (i2, o2)] : List (Addr × Obj)) → Fre X (fun c => W c ∨ c = s.heap.objs.size) φ p.1 ∧ h2.get? p.1 = some p.2 := fun p q => by
    simp only [List.mem_cons, List.not_mem_nil, or_false] at q
    rcases q with rfl | rfl | rfl | rfl | rfl
    · exact ⟨fz _ (by simp [places]), hoz⟩
    · exact ⟨fz _ (by simp [places]), hoI⟩
    · exact ⟨fz _ (by simp [places]), hoO⟩
    · exact ⟨fz _ (by simp [places]), ho1⟩
    · exact ⟨fz _ (by simp [places]), ho2⟩
  have AP := A.pins nd hL
  have SP := S.pins nd fun p q => (hL p q).1.pin
  generalize hLe : ([(z, oz), (TI, oI), (TO, oO), (i1, o1), (i2, o2)] : List (Addr × Obj)) = L at nd hL AP SP
  obtain ⟨c1, c2, c3, c4, c5⟩ := pins_same X L
  obtain ⟨m1, m2⟩ := nmX_each X.env is
  refine wpAny_assign_Tuple (x1 := x1) S.hd ⟨_, hP2, rfl, _, rfl⟩ (by rw [m1, setN_len hs]; rfl) m2 fun h3 he3 => ?_
  have wfA := AP.f.wf
  have g3 := Gs.of (s := { s with heap := h2, toks := s.toks }) (t := s.toks) wfA fun c o q => he3 c o (fun z => absurd (Heap.lt_size q) (by rw [z]; exact Nat.lt_irrefl _)) q
  have rvu : VRs (fun c => W c ∨ c = s.heap.objs.size) h2 [v, u] (#[v', u'] : Array Value).toList := .cons (rv.ag B) (.cons (ru.ag B) rfl)
  have st := setN_ok (E := notedBy X.C.M X.A X.env fun e s' => R (.error e) s') SP (c5.trans cm) (by rw [c4, ef]; exact hx) (AP.gs g3) (rvu.ag (g3.g.ag wfA)) hs (Q := fun _ s₂ => wpAny X.C.M X.A (execs b.xs X.env) (fun f s₃ => match f with
            | .next | .cont => codeAny X.C.M X.A (.forLoop (.Tuple (nmX is) x1 p') (.ref z) b.xs [] X.env) R s₃
            | .brk => R (.ok .next) s₃
            | .ret v => R (.ok (.ret v)) s₃) (notedBy X.C.M X.A X.env fun e s' => R (.error e) s') s₂) fun φ4 s4 A4 B4 => by
    have hb' := hb (X.pins L) (notedBy X.C.M X.A X.env fun e s' => R (.error e) s') _ φ4 s4 (c4.trans ef) (c5.trans cm) SP A4 (fun f s₃ => match f with
            | .next | .cont => codeAny X.C.M X.A (.forLoop (.Tuple (nmX is) x1 p') (.ref z) b.xs [] X.env) R s₃
            | .brk => R (.ok .next) s₃
            | .ret v => R (.ok (.ret v)) s₃) fun g' W5 φ5 s5 A5 B5 C5 => by
      cases C5
      obtain ⟨A6, h6⟩ := A5.unpins nd fun p q => ⟨(hL p q).1.pin, (hL p q).1.nc⟩
      have ag : Ag (fun c => W c ∨ c = s.heap.objs.size) h2 W5 s5.heap := ((g3.g.ag wfA).trans B4).trans B5
      subst hLe
      have same : ∀ c o, (c, o) ∈ ([(z, oz), (TI, oI), (TO, oO), (i1, o1), (i2, o2)] : List (Addr × Obj)) → s5.heap.get? c = h2.get? c := fun c o q => ((h6 _ q).2).trans ((hL _ q).2).symm
      have kp : ∀ c, W c → s5.heap.get? c = s.heap.get? c := fun c q => (ag.k c (.inl q)).trans (B.k c q)
      refine h X W5 φ5 s5 z TI TO i1 i2 a1 a2 vs1 vs2 n1 n2 (k1 + 1) (k2 + 1) v' u' ef cm S A6 (fun c q => ?_) ?_ R fun f W6 φ6 s6 A7 B7 C7 => kk _ _ _ _ A7 ((B.trans ag).trans B7) C7
      · simp only [places, List.mem_cons, List.not_mem_nil, or_false] at q
        rcases q with rfl | rfl | rfl | rfl | rfl
        · exact (h6 (_, oz) (by simp)).1
        · exact (h6 (_, oI) (by simp)).1
        · exact (h6 (_, oO) (by simp)).1
        · exact (h6 (_, o1) (by simp)).1
        · exact (h6 (_, o2) (by simp)).1
      · exact ⟨I.D, (same z oz (by simp)).trans hz2, (same TI oI (by simp)).trans hI2, (same TO oO (by simp)).trans hO2, t1'.at fun o e => (same i1 o1 (by simp)).trans e, t2'.at fun o e => (same i2 o2 (by simp)).trans e,
          ag.w _ (.inl I.w1), ag.w _ (.inl I.w2), (kp _ I.w1).trans I.g1, (kp _ I.w2).trans I.g2, by rw [hv']; exact VRs.ag (B.trans ag) rl1, by rw [hu']; exact VRs.ag (B.trans ag) rl2⟩
    rw [c1, c2, c3] at hb'; exact hb'
  rw [c1, c2, c3] at st; exact st
end
end Mine
end

section
open PySem
set_option autoImplicit false
set_option linter.unusedVariables false
namespace Mine
theorem boot_zip : bootBuiltins "zip" = some (.type "zip") := by kernel_rfl
section
variable {G : Gl} {d : Nat} {fi : FI}
noncomputable def sForZ (is : List (Str × Nat × Pos)) (x1 : Nat) (a c : T G d fi) (b : SL G d fi) (zp pz p' p : Pos) (hb : isBi G fi "zip" = true) : SS G d fi :=
  ⟨.For (.Tuple (nmX is) x1 p') (.Call (.Name "zip" zp) [a.x, c.x] [] pz) b.xs [] p, fun σ => bd (a.ev σ) fun o1 σ => bd (c.ev σ) fun o2 σ => o1.frz.lst?.bind fun l1 => o2.frz.lst?.bind fun l2 => told Tk.l? (fun ρ y => ForZ G d fi (.Tuple (nmX is) x1 p') b.xs l1 l2 ρ y.1 y.2) (·.1) (fun y _ => y.2) σ,
  a.eo.bd (R := fun o1 ρ fl ρ' => ∃ o2 l1 l2 ρ₁, EvG G d fi c.x ρ o2 ρ₁ ∧ o1.frz = .lst l1 ∧ o2.frz = .lst l2 ∧ ForZ G d fi (.Tuple (nmX is) x1 p') b.xs l1 l2 ρ₁ fl ρ') (fun o1 => c.eo.bd (R := fun o2 ρ fl ρ' => ∃ l1 l2, o1.frz = .lst l1 ∧ o2.frz = .lst l2 ∧ ForZ G d fi (.Tuple (nmX is) x1 p') b.xs l1 l2 ρ fl ρ') (fun o2 => by
    intro σ fl σ' e q
    obtain ⟨l1, e1, e⟩ := Option.bind_eq_some_iff.mp e
    obtain ⟨l2, e2, e⟩ := Option.bind_eq_some_iff.mp e
    have := Ok.told (f := Tk.l?) (p := fun ρ y => ForZ G d fi (.Tuple (nmX is) x1 p') b.xs l1 l2 ρ y.1 y.2) (r := (·.1)) (ρ := fun y _ => y.2) (S := fun ρ fl ρ' => ForZ G d fi (.Tuple (nmX is) x1 p') b.xs l1 l2 ρ fl ρ') (fun y ρ h => h) σ fl σ' e q
    exact ⟨this.1, l1, l2, V.lst_of e1, V.lst_of e2, this.2⟩) fun _ o2 _ _ _ h q => by obtain ⟨l1, l2, q1, q2, q3⟩ := q; exact ⟨o2, l1, l2, _, h, q1, q2, q3⟩) fun _ o1 _ _ _ h1 q X E W φ s e cm S F Q k => by
    obtain ⟨o2, l1, l2, ρ₁, h2, q1, q2, q3⟩ := q
    refine wpAny_For ?_
    refine PyProof.Rows.Call_ (bi_ok S F (e ▸ hb) boot_zip ?_)
    rw [starEach_plain (xs := [a.x, c.x]) (fun y q => by
      rcases List.mem_cons.mp q with rfl | q
      · exact a.pl
      · cases List.mem_singleton.mp q; exact c.pl), backTo_plain]
    refine callW (K := X.C.K) (fun h _ => keeper_type _ h _) (PySem.Calls.spliced_cons (h1.v X E W φ s e S F _ fun v1 W1 φ1 s1 p1 r1 => PySem.Calls.spliced_cons (h2.v X E W1 φ1 s1 e S p1.f _ fun v2 W2 φ2 s2 p2 r2 => PySem.Calls.spliced_nil ⟨p2.f.In S, ?_⟩)))
    rw [q1] at r1
    rw [q2] at r2
    obtain ⟨a1, vs1, n1, rfl, w1, g1, z1, v1⟩ := VR.lst (r1.ag p2.ag)
    obtain ⟨a2, vs2, n2, rfl, w2, g2, z2, v2⟩ := VR.lst r2
    refine call_zip_2 ⟨_, g1, rfl, _, rfl⟩ ⟨_, g2, rfl, _, rfl⟩ fun h' hz hI hO i1 i2 hsz hk => wpAny_pyIter_zip hz ?_
    have F2 := p2.f
    have gs := Gs.of (t := s2.toks) F2.f.wf hk
    have F3 : At X W2 φ2 { s2 with heap := h', toks := s2.toks } ρ₁ := F2.gs gs
    have fr : ∀ j, Fre X W2 φ2 (s2.heap.objs.size + j) := fun j => Fre.of F2 (none_of_le (Nat.le_add_right _ _))
    have e1 : @LT.lt Nat _ a1 s2.heap.objs.size := Heap.lt_size g1
    have e2 : @LT.lt Nat _ a2 s2.heap.objs.size := Heap.lt_size g2
    refine q3 X W2 φ2 { s2 with heap := h', toks := s2.toks } (s2.heap.objs.size + 4) (s2.heap.objs.size + 2) (s2.heap.objs.size + 3) (s2.heap.objs.size) (s2.heap.objs.size + 1) a1 a2 vs1 vs2 n1 n2 0 0 _ _ e cm S F3 (fun c q => ?_) ⟨?_, hz, hI, hO, i1, i2, w1, w2, hk _ _ g1, hk _ _ g2, by rw [List.drop_zero]; exact v1.ag (gs.g.ag F2.f.wf), by rw [List.drop_zero]; exact v2.ag (gs.g.ag F2.f.wf)⟩ _ fun f W3 φ3 s3 A B C => k _ _ _ _ A ((p1.ag.trans p2.ag).trans ((gs.g.ag F2.f.wf).trans B)) C
    · simp only [places, List.mem_cons, List.not_mem_nil, or_false] at q
      rcases q with rfl | rfl | rfl | rfl | rfl
      · exact fr 4
      · exact fr 2
      · exact fr 3
      · exact fr 0
      · exact fr 1
    · constructor <;> (intro q; change @Eq Nat _ _ at q; omega)⟩
end
end Mine
end

section
open PySem
set_option autoImplicit false
set_option linter.unusedVariables false
namespace Mine
noncomputable def mAt (p : Program) (k m : Nat) : Option Stmt := match p.main.body[k]? with
  | some (.ClassDef _ _ _ b _ _ _ _ _ _ _) => b[m]?
  | _ => none
noncomputable def mNames (p : Program) (k m : Nat) : List (Str × NameKind) := match mAt p k m with
  | some (.FunctionDef _ _ _ _ _ _ sc _ _ _) => sc.names
  | _ => []
noncomputable def mBody (p : Program) (k m : Nat) : List Stmt := match mAt p k m with
  | some (.FunctionDef _ _ b _ _ _ _ _ _ _) => b
  | _ => []
section
variable {G : Gl} {d : Nat} {fi : FI}
noncomputable def kIsS (x : V) (y : O) : Option (Bool × List Prop) := y.val?.bind fun y => V.casesOn y (some (V.casesOn x false (fun _ => true) (fun _ => true) (fun _ => true) (fun _ => true) (fun _ => true) (fun _ _ => true) (fun _ _ _ => true), [])) (fun _ => none) (fun _ => none) (fun _ => none) (fun _ => none) (fun _ => none) (fun _ _ => none) (fun _ _ _ => none)
theorem primIsS : PrimC G d .IsNot kIsS := by
  intro x y t ps e q X E W φ s ρ S F x' y' rx ry Q k
  obtain ⟨v, e1, e⟩ := Option.bind_eq_some_iff.mp e
  rw [O.val_of e1] at ry
  cases v <;> cases e
  cases ry
  have k := k s.toks (Nat.le_refl _)
  cases x with
  | none => cases rx; exact wpAny_isNot_self rfl k
  | bool b => cases rx; exact PyProof.Rows.isnot_bool_none k
  | int i => obtain ⟨_, rfl⟩ := rx; exact PyProof.Rows.isnot_int_none k
  | str z => obtain ⟨_, rfl, _⟩ := rx; exact PyProof.Rows.isnot_str_none k
  | tup l => obtain ⟨p, _, _, rfl, _⟩ := VR.tup rx; exact PyProof.Rows.isnot_ref_none k
  | lst l => obtain ⟨p, _, _, rfl, _⟩ := VR.lst rx; exact PyProof.Rows.isnot_ref_none k
  | ins t l => obtain ⟨p, _, _, rfl, _⟩ := VR.ins rx; exact PyProof.Rows.isnot_ref_none k
  | dic w k' l => obtain ⟨p, _, rfl, _⟩ := VR.dic rx; exact PyProof.Rows.isnot_ref_none k
noncomputable def eIsNot : T G d fi → T G d fi → Pos → T G d fi := eCmp .IsNot kIsS primIsS
noncomputable def sRet0 (p : Pos) : SS G d fi := ⟨.Return none p, fun σ => pu (.ret (.val .none)) σ, .pu fun ρ X E W φ s e c S F Q k => wpAny_Return_none (k _ _ _ _ F (.refl ..) ⟨_, rfl, .val rfl⟩)⟩
theorem call_end {a : Addr} {f : FD} {args : List V} {n : Nat} {ρ' : Loc} {tp : List Tk} {P : Prop} (B : SL G d f.fi) (hf : G.fd.lookup a = some f) (hB : B.xs = f.st) (hn : args.length = f.ps.length)
    (e : out (B.ex ⟨loc0 args n, tp, []⟩) = some (.next, ρ', [])) (ob : All (obs (B.ex ⟨loc0 args n, tp, []⟩)) = P) (p : P) : CallOK G (d + 1) a args (.val .none) :=
  call_of hf hn (hB ▸ B.eo.run e ob p) (.inr ⟨rfl, rfl⟩)
theorem whil_ret {c : T G d fi} {b : SL G d fi} {ρ ρ' : Loc} {o : O} {tp : List Tk} {P : Prop} (f : Bool) (e : out (turn c b f ⟨ρ, tp, []⟩) = some (some (.ret o), ρ', [])) (ob : All (obs (turn c b f ⟨ρ, tp, []⟩)) = P) (p : P) : WhilOK G d fi c.x b.xs ρ (.ret o) ρ' :=
  (turn_ok c b f).run e ob p (.ret o) ρ' ⟨rfl, rfl⟩
theorem exs_go {a : SS G d fi} {ρ ρ1 ρ' : Loc} {xs : List Stmt} {fl : Fl} {tp : List Tk} {P : Prop} (e : out (a.ex ⟨ρ, tp, []⟩) = some (.next, ρ1, [])) (o : All (obs (a.ex ⟨ρ, tp, []⟩)) = P) (p : P) (h : ExsG G d fi xs ρ1 fl ρ') : ExsG G d fi (a.x :: xs) ρ fl ρ' :=
  fun X E W φ s ef c S F Q k => wpAny_execs_cons ((a.eo.run e o p) X E W φ s ef c S F _ fun f' W' φ' s' A B C => by
    cases C; exact h X E W' φ' s' ef c S A Q fun g W2 φ2 s2 A2 B2 C2 => k _ _ _ _ A2 (B.trans B2) C2)
theorem exs_ret {a : SS G d fi} {ρ ρ1 : Loc} {xs : List Stmt} {r : O} {tp : List Tk} {P : Prop} (e : out (a.ex ⟨ρ, tp, []⟩) = some (.ret r, ρ1, [])) (o : All (obs (a.ex ⟨ρ, tp, []⟩)) = P) (p : P) : ExsG G d fi (a.x :: xs) ρ (.ret r) ρ1 :=
  fun X E W φ s ef c S F Q k => wpAny_execs_cons ((a.eo.run e o p) X E W φ s ef c S F _ fun f' W' φ' s' A B C => by
    obtain ⟨v', rfl, ro⟩ := C; exact k _ _ _ _ A B ⟨v', rfl, ro⟩)
end
end Mine
end

section
open PySem
set_option autoImplicit false
set_option linter.unusedVariables false
namespace Mine
theorem boot_int' : bootBuiltins "int" = some (.type "int") := by kernel_rfl
theorem boot_dict : bootBuiltins "dict" = some (.type "dict") := by kernel_rfl
section
variable {G : Gl} {d : Nat} {fi : FI}
noncomputable def eIte (f : Bool) (c a b : T G d fi) (p : Pos) (hp : plainX (.IfExp c.x a.x b.x p) = true) : T G d fi :=
  have eo : Ok (fun σ => bd (c.tr σ) fun t σ => bd (dec f t σ) fun t σ => Bool.casesOn t (b.ev σ) (a.ev σ)) (EvG G d fi (.IfExp c.x a.x b.x p)) :=
    c.to.bd (R := fun t ρ o ρ' => Bool.casesOn (motive := fun _ => Prop) t (EvG G d fi b.x ρ o ρ') (EvG G d fi a.x ρ o ρ')) (fun t => (Ok.dec f t).bd (R := fun t ρ o ρ' => Bool.casesOn (motive := fun _ => Prop) t (EvG G d fi b.x ρ o ρ') (EvG G d fi a.x ρ o ρ')) (fun t => by
      cases t
      · exact b.eo
      · exact a.eo) fun _ t _ _ _ h q => by obtain ⟨rfl, rfl⟩ := h; exact q) fun _ t _ _ _ h q X E W φ s e S F Q k => wpAny_IfExp (h X E W φ s e S F _ fun W' φ' s' p' => by
        cases t
        · exact q X E W' φ' s' e S p'.f Q fun v' W2 φ2 s2 p2 r2 => k v' W2 φ2 s2 (p'.trans p2) r2
        · exact q X E W' φ' s' e S p'.f Q fun v' W2 φ2 s2 p2 r2 => k v' W2 φ2 s2 (p'.trans p2) r2)
  ⟨.IfExp c.x a.x b.x p, _, _, fun _ => none, hp, eo, eo.mono fun _ _ _ h => h.pk, .none fun _ => rfl⟩
noncomputable def kIntB (x : O) : Option (O × List Prop) := x.val?.bind fun v => V.casesOn v none (fun b => some (.val (.int (Bool.casesOn b 0 1)), [])) (fun _ => none) (fun _ => none) (fun _ => none) (fun _ => none) (fun _ _ => none) (fun _ _ _ => none)
theorem primIntB : Prim1 G d (.type "int") kIntB := by
  intro x o ps e q X E W φ s ρ S F x' r Q k
  obtain ⟨v, e1, e⟩ := Option.bind_eq_some_iff.mp e
  rw [O.val_of e1] at r
  cases v <;> cases e
  rename_i b
  cases r
  refine call_int_bool ?_
  have k := k.here (v' := .int (if b = true then 1 else 0) s.toks) (t := s.toks + 1) F.f.wf ⟨_, by cases b <;> rfl⟩
  exact k
noncomputable def eIntB : T G d fi → Pos → Pos → isBi G fi "int" = true → T G d fi := eBi "int" (.type "int") boot_int' (fun M h => keeper_type M h _) _ primIntB
noncomputable def intsOf (l : List V) : Option (List Int) := @List.rec V (fun _ => Option (List Int)) (some []) (fun v _ r => v.int?.bind fun i => r.bind fun l => some (i :: l)) l
theorem ints_reads {W : WS} {h : Heap} : ∀ {l : List V} {l' : List Value} {is : List Int}, VRs W h l l' → intsOf l = some is → (∃ as, ReadsAll h l' (is.map PyData.int) as) ∧ PyData.canLayAll0 (is.map PyData.int) = true ∧ PyData.depthAll (is.map PyData.int) = 0
  | [], _, _, r, e => by cases r; cases e; exact ⟨⟨_, .nil⟩, rfl, rfl⟩
  | v :: l, _, _, r, e => by
    obtain ⟨v', r', rfl, rv, rl⟩ := VRs.inv r
    obtain ⟨i, e1, e⟩ := Option.bind_eq_some_iff.mp (show v.int?.bind (fun i => (intsOf l).bind fun l => some (i :: l)) = _ from e)
    obtain ⟨is, e2, e⟩ := Option.bind_eq_some_iff.mp e
    cases e
    rw [V.int_of e1] at rv
    obtain ⟨t, rfl⟩ := rv
    obtain ⟨⟨as, a⟩, b, c⟩ := ints_reads rl e2
    refine ⟨⟨_, .cons (.int _ t) a⟩, ?_, ?_⟩
    · show (PyData.canLay0 (.int i) && PyData.canLayAll0 _) = true
      rw [b]; rfl
    · show max (PyData.depth (.int i)) (PyData.depthAll _) = 0
      rw [c]; rfl
def InI (x : V) (y : O) (t : Bool) : Prop := ∃ i l is, x = .int i ∧ y = .val (.tup l) ∧ intsOf l = some is ∧ t = is.any fun j => j == i
theorem primInI : PrimP G d .In InI := by
  rintro x y t ⟨i, l, is, rfl, rfl, h1, rfl⟩ X E W φ s ρ S F x' y' ⟨tk, rfl⟩ ry Q k
  obtain ⟨a, vs, n, rfl, _, g1, g2, g3⟩ := VR.tup ry
  obtain ⟨⟨as, ra⟩, b, c⟩ := ints_reads g3 h1
  refine SeqAt.in_tuple_reads (xs := is.map PyData.int) (d := .int i) (.tuple g1 rfl rfl ra) (.int i tk) b rfl (by rw [c]; have := S.u; show X.A.units + 1 + min 0 _ < _; omega) ?_
  have e : (is.map PyData.int).any (fun y => PyData.eqv y (.int i)) = is.any fun j => j == i := by rw [List.any_map]; rfl
  rw [e]; exact k s.toks (Nat.le_refl _)
noncomputable def eInI : T G d fi → T G d fi → Pos → T G d fi := eCmpP .In InI primInI
noncomputable def kMulL (x y : V) : Option (O × List Prop) := x.lst?.bind fun l => y.int?.bind fun n => Int.casesOn n (fun m => some (.own (List.replicate m l).flatten.reverse, [l.length * m ≤ 1000 ∧ m ≤ 1000])) (fun _ => none)
theorem fold_flat (vs : Array Value) : ∀ (m : Nat) (acc : Array Value), (List.foldl (fun x1 x2 => x1 ++ x2) acc (List.replicate m vs)).toList = acc.toList ++ (List.replicate m vs.toList).flatten
  | 0, acc => by simp
  | m + 1, acc => by rw [List.replicate_succ, List.foldl_cons, fold_flat vs m, List.replicate_succ, List.flatten_cons, Array.toList_append, List.append_assoc]
theorem VRs.flat_rep {W : WS} {h : Heap} {l : List V} {l' : List Value} (r : VRs W h l l') : ∀ m : Nat, VRs W h (List.replicate m l).flatten (List.replicate m l').flatten
  | 0 => rfl
  | m + 1 => by rw [List.replicate_succ, List.replicate_succ, List.flatten_cons, List.flatten_cons]; exact r.append (r.flat_rep m)
theorem len_rep {α : Type} (l : List α) : ∀ m : Nat, (List.replicate m l).flatten.length = l.length * m
  | 0 => rfl
  | m + 1 => by rw [List.replicate_succ, List.flatten_cons, List.length_append, len_rep l m, Nat.mul_succ, Nat.add_comm]
set_option maxRecDepth 100000 in
theorem primMulL : Prim2 G d (binaryOp .Mult) kMulL := by
  intro x y o ps e q X E W φ s ρ S F x' y' rx ry Q k
  obtain ⟨l, e1, e⟩ := Option.bind_eq_some_iff.mp e
  obtain ⟨n, e2, e⟩ := Option.bind_eq_some_iff.mp e
  cases n with
  | negSucc m => cases e
  | ofNat m =>
    cases e
    rw [V.lst_of e1] at rx; rw [V.int_of e2] at ry
    obtain ⟨a, vs, n, rfl, _, h1, z1, r1⟩ := VR.lst rx
    obtain ⟨t, rfl⟩ := ry
    have q1 : l.length * m ≤ 1000 ∧ m ≤ 1000 := q.1
    have hz := r1.size
    · obtain ⟨x, hx⟩ : ∃ x : Int, x = Int.ofNat m := ⟨_, rfl⟩
      have c0 : -(2 ^ 63 : Int) ≤ x := by rw [hx]; show _ ≤ ((m : Nat) : Int); omega
      have c1 : x < 2 ^ 63 := by rw [hx]; show ((m : Nat) : Int) < _; omega
      have c2 : vs.size * x.toNat ≤ 2 ^ 24 := by rw [hx, hz]; show l.length * m ≤ _; omega
      have c3 : 0 ≤ x := by rw [hx]; exact Int.natCast_nonneg m
      have c4 : x.toNat = m := by rw [hx]; rfl
      rw [← hx]
      refine wpAny_binaryOp_repeat_ref (T := "list") (U := "int") (by decide) ⟨_, h1, rfl⟩ (fun s' => typeIs_int s' _ _) noFill_list_mul PySem.F.fills_int_mul PySem.F.slot_int_rmul repeat_list PySem.F.slot_int_index.lookup
        (call_meets PySem.F.slot_int_rmul (typeIs_int s _ _) PySem.F.entry_int_rmul (PySem.F.args_int_rmul_2 _ _) (int___rmul___int_list _ _ a vs n)
          ⟨h1, rfl, ⟨_, h1, rfl⟩, call_meets PySem.F.slot_list_mul ⟨_, h1, rfl⟩ PySem.F.entry_list_mul (PySem.F.args_list_mul_2 _ _)
            (AutoListH.list___mul___list_int_3 a vs n x t (by simp [Builtin.List.listFitsIndex]; omega) (by omega) (by simp [Builtin.List.listTooLong, sizeLine]; omega))
            ⟨h1, k.list (t := s.toks) F.f.wf ?_ ?_⟩⟩)
      · rw [List.reverse_reverse, fold_flat]
        show VRs W s.heap _ ([] ++ _)
        rw [List.nil_append]
        by_cases hv : vs.isEmpty = true
        · rw [if_pos hv]
          have : l = [] := by
            rw [Array.isEmpty_iff] at hv; rw [hv] at hz; exact List.length_eq_zero_iff.mp hz.symm
          subst this
          rw [List.replicate_zero]
          have : (List.replicate m ([] : List V)).flatten = [] := by simp
          rw [this]; exact rfl
        · rw [if_neg hv, c4]; exact r1.flat_rep m
      · rw [List.length_reverse, len_rep]; have := sizeLine_lt; have : (1000 : Nat) ≤ sizeLine := by rw [sizeLine_eq]; decide
        omega
noncomputable def eMulL : T G d fi → T G d fi → Pos → T G d fi := eBin .Mult kMulL primMulL
end
end Mine
end

section
open PySem
set_option autoImplicit false
set_option linter.unusedVariables false
namespace Mine
section
variable {G : Gl} {d : Nat} {fi : FI}
theorem not_sys {X : FC} {W : WS} {φ : Nat → List Addr} {s : Shared} {ρ : Loc} (S : FS G d X) (F : At X W φ s ρ) : s.heap.objs.size ≠ sysModules := fun q => by
  obtain ⟨mc, h0, _⟩ := S.g.nolimit
  have h1 := (h0.keeps (F.keep S)).lt
  rw [q] at h1; revert h1; decide
theorem primDicC : Prim1 G d (.type "dict") fun x => (dicO x).bind fun q => some (.dic q.1 q.2.1 q.2.2, [q.1 = G.w]) := by
  intro x o ps e q X E W φ s ρ S F x' r Q k
  obtain ⟨⟨w, ks, l⟩, e1, e⟩ := Option.bind_eq_some_iff.mp e
  cases e
  obtain ⟨a, vs, rfl, D, V⟩ := dicO_br r e1
  have hw : w = G.w := q.1
  have hd := D.at_ X.C.prog
  rw [hw, ← S.g.w] at hd
  refine kt_call_dict (knd := strKind X.C.prog X.C.w) D.ns hd (by rw [List.length_zip, List.length_map]; have := D.few; omega) fun h' hd' hs' => ?_
  have hk : ∀ b o, s.heap.get? b = some o → h'.get? b = some o := fun b o e => (hs'.2 b fun z => absurd (Heap.lt_size e) (by rw [z]; exact Nat.lt_irrefl _)).trans (Heap.get?_push_of_some _ e)
  have gs := Gs.of (t := s.toks) F.f.wf hk
  rw [S.g.w, ← hw] at hd'
  exact k _ W _ gs ⟨s.heap.objs.size, vs, rfl, fresh_size _, (fun q => by obtain ⟨o, z⟩ := F.f.wf _ q; rw [fresh_size] at z; cases z), ⟨D.len, D.few, beq_eq_false_iff_ne.mpr (not_sys S F), D.ok, fun prog => dictOf_prog hd'⟩, V.ag (gs.g.ag F.f.wf)⟩
noncomputable def eDicC : T G d fi → Pos → Pos → isBi G fi "dict" = true → T G d fi := eBi "dict" (.type "dict") boot_dict (fun M h => keeper_type M h _) _ primDicC
noncomputable def eDic1 (a b : T G d fi) (p : Pos) : T G d fi :=
  .mk' (.Dict [some a.x] [b.x] p) (fun σ => bd (a.ev σ) fun z σ => bd (b.ev σ) fun u σ => z.frz.str?.bind fun z => pu (.dic G.w [z] [u.frz]) σ) rfl
    (a.eo.bd (R := fun z ρ o ρ' => ∃ u zz, EvG G d fi b.x ρ u ρ' ∧ z.frz = .str zz ∧ o = .dic G.w [zz] [u.frz]) (fun z => b.eo.bd (R := fun u ρ o ρ' => ∃ zz, z.frz = .str zz ∧ o = .dic G.w [zz] [u.frz] ∧ ρ = ρ') (fun u σ o σ' e q => by
      obtain ⟨zz, e1, e⟩ := Option.bind_eq_some_iff.mp e; cases e; exact ⟨q, zz, V.str_of e1, rfl, rfl⟩) fun _ u _ _ _ h q => by obtain ⟨zz, q1, q2, rfl⟩ := q; exact ⟨u, zz, h, q1, q2⟩) fun ρ z ρ₁ o ρ' ha q X E W φ s e S F Q k => by
      obtain ⟨u, zz, hb, hz, rfl⟩ := q
      have gs : Gs W s W { s with heap := s.heap.push { cls := .type "dict", data := .dict #[] } } := Gs.of (t := s.toks) F.f.wf fun _ _ q => Heap.get?_push_of_some _ q
      have F0 := F.gs gs
      have fr : Fre X W φ s.heap.objs.size := .of F (fresh_size _)
      have hget : (s.heap.push { cls := .type "dict", data := .dict #[] }).get? s.heap.objs.size = some { cls := .type "dict", data := .dict #[] } := Heap.get?_push_size _ rfl
      have F1 := F0.pinned fr hget
      have S1 : FS G d (X.pinned s.heap.objs.size { cls := .type "dict", data := .dict #[] }) := S.pinned fr.pin
      refine wpAny_Dict_pairs (knd := strKind X.C.prog X.C.w) (pairs := [(eval a.x X.env, do let x ← eval b.x X.env; standAt p; pure x)]) rfl (by simp) (by simp) ?_
      refine evalPairs_cons (ha.v (X.pinned s.heap.objs.size { cls := .type "dict", data := .dict #[] }) E W φ _ e S1 F1 _ fun z' W1 φ1 s1 p1 r1 => ?_)
      refine wpAny_bind (hb.v (X.pinned s.heap.objs.size { cls := .type "dict", data := .dict #[] }) E W1 φ1 s1 e S1 p1.f _ fun u' W2 φ2 s2 p2 r2 => wpAny_bind (wpAny_standAt (wpAny_pure (evalPairs_nil ?_))))
      rw [hz] at r1
      obtain ⟨t, rfl, ok, hl⟩ := r1
      obtain ⟨A, fr2, hg⟩ := p2.f.unpin fr.pin fr.nc
      have hd0 : s2.heap.DictOf (strKind X.C.prog X.C.w) s.heap.objs.size [] := by
        obtain ⟨o, es, ep, y, r⟩ := Heap.DictOf.new (knd := strKind X.C.prog X.C.w) s.heap
        rw [hget] at y
        exact ⟨o, es, ep, hg.trans y, r⟩
      refine ⟨[(mkS zz, u')], ⟨by simp [strKind, Value.isStrOf], rfl, trivial⟩, hd0, fun h' hd' hs' => ?_⟩
      have hd' : h'.DictOf (strKind X.C.prog X.C.w) s.heap.objs.size [(mkS zz, u')] := by simpa [merged, stored] using hd'
      obtain ⟨A3, B3, V3⟩ := A.loose fr2 (h' := h') (t := s2.toks + 1) fun b o q e => (hs'.2 b q).trans e
      rw [S.g.w] at hd'
      have hle : zz.length ≤ sizeLine := hl
      have p3 : Pst X W s W2 φ2 { s2 with heap := h', toks := s2.toks + 1 } ρ' := ⟨A3, ((gs.g.ag F.f.wf).trans (p1.ag.trans p2.ag)).trans B3, fun x v q => V3 x v (p2.vl x v (p1.vl x v (q.grow gs.g.k)))⟩
      refine k _ W2 φ2 _ p3 ⟨[s.heap.objs.size], ⟨s.heap.objs.size, [u'], rfl, rfl, ⟨rfl, by show 1 ≤ sizeLine; rw [sizeLine_eq]; decide, beq_eq_false_iff_ne.mpr (not_sys S F), fun z hz => ?_, fun prog => dictOf_prog hd'⟩, .cons (r2.ag B3) rfl⟩, fun b q => ?_⟩
      · cases List.mem_singleton.mp hz; exact ⟨ok, hle⟩
      · cases List.mem_singleton.mp q; exact ⟨fr2.w, fr2.mu, fr2.pin⟩) fun _ => rfl
noncomputable def sSetT (x : Str) (i : Nat) (kx a : T G d fi) (xp sp p : Pos) (h : (fi.isVar x i && !isComp a.x) = true) : SS G d fi :=
  ⟨.Assign [.Subscript (.Name x xp) kx.x sp] a.x p, fun σ => bd (a.ev σ) fun y σ => (ownAt σ.ρ i).bind fun _ => bd (kx.ev σ) fun z σ => (ownAt σ.ρ i).bind fun r => z.frz.int?.bind fun j => List.casesOn σ.tp none fun t tp => (Tk.r? t).bind fun o => O.casesOn o (fun _ => none) (fun r' => some (.next, ⟨σ.ρ.set i (some (.own r')), tp, (setR r j y.frz = some r') :: σ.ob⟩)) (fun _ => none) (fun _ _ _ => none) fun _ _ _ => none, by
    intro σ f σ' e q
    obtain ⟨⟨y, σ₁⟩, e1, e⟩ := Option.bind_eq_some_iff.mp e
    obtain ⟨o0, e0, e⟩ := Option.bind_eq_some_iff.mp e
    obtain ⟨⟨z, σ₂⟩, e2, e⟩ := Option.bind_eq_some_iff.mp e
    obtain ⟨r, e3, e⟩ := Option.bind_eq_some_iff.mp e
    obtain ⟨j, e4, e⟩ := Option.bind_eq_some_iff.mp e
    rw [Bool.and_eq_true, Bool.not_eq_true'] at h
    dsimp only at e
    cases htp : σ₂.tp with
    | nil => rw [htp] at e; cases e
    | cons t tp =>
    rw [htp] at e
    obtain ⟨oo, e7, e⟩ := Option.bind_eq_some_iff.mp (show (Tk.r? t).bind _ = _ from e)
    cases oo with
    | own r' =>
      cases e
      obtain ⟨e5, q⟩ := q
      have e5 : setR r j y.frz = some r' := e5
      obtain ⟨q1, hz⟩ := kx.eo _ _ _ e2 q
      obtain ⟨q2, hy⟩ := a.eo _ _ _ e1 q1
      refine ⟨q2, fun X E W φ s ef c S F Q k => wpAny_Assign_Subscript (hy.v X E W φ s ef S F _ fun y' W1 φ1 s1 p1 r1 => load_ok S p1.f (ef ▸ h.1) (ownAt_some e0) fun x' hx hn hv rr => hz.v X E W1 φ1 s1 ef S p1.f _ fun z' W2 φ2 s2 p2 r2 => ?_) (noSwap h.2 _ _ _)⟩
      dsimp only at e4; rw [V.int_of e4] at r2
      obtain ⟨t, rfl⟩ := r2
      obtain ⟨ad, hp, rfl, vs, n, h1, h2, h3⟩ := still p2.f hx hn (p2.vl _ _ hv) (ownAt_some e3)
      have hs := h2.size
      rw [List.length_reverse] at hs
      have hsl := sizeLine_lt
      have ry := r1.ag p2.ag
      have fin : ∀ m : Nat, r'.length = r.length → r'.reverse = r.reverse.set m y.frz → Q .next { s2 with heap := s2.heap.update ad (Obj.mapSeq (·.setIfInBounds m y')) } := fun m hl hr => by
        obtain ⟨A, B⟩ := p2.f.turn (x := x) (i := i) (t := s2.toks) (r := r') (h' := s2.heap.update ad (Obj.mapSeq (·.setIfInBounds m y'))) (fun z hz => S.ti z x i hz hx) hp (Heap.SameBut.update ..) (p2.vl _ _ hv) (Heap.get?_update_self _ h1 rfl)
          (by rw [Array.toList_setIfInBounds, hr]; exact h2.set m ry) (by rw [hl]; exact h3)
        exact k _ _ _ _ A ((p1.ag.trans p2.ag).trans B) rfl
      cases j with
      | ofNat m =>
        obtain ⟨w, e6, e5⟩ := Option.bind_eq_some_iff.mp e5
        have e5 := Option.some.inj e5
        subst e5
        have hm := (List.getElem?_eq_some_iff.mp e6).1
        rw [List.length_reverse] at hm
        exact PySem.W.ki_setAt h1 (Int.natCast_nonneg m) (by show (m : Int) < _; omega) (by rw [hs]; exact Int.ofNat_lt.mpr hm) (fin m (by simp) (by rw [List.reverse_reverse]))
      | negSucc m =>
        obtain ⟨w, e6, e5⟩ := Option.bind_eq_some_iff.mp e5
        have e5 := Option.some.inj e5
        subst e5
        have hm := (List.getElem?_eq_some_iff.mp e6).1
        refine PySem.W.ki_setBack h1 (by omega) (by rw [hs]; omega) (by omega) ?_
        have he : (Int.negSucc m + (vs.size : Int)).toNat = r.length - 1 - m := by rw [hs]; omega
        rw [he]
        exact fin _ (List.length_set ..) (rev_set r m _ hm)
    | _ => cases e⟩
end
end Mine
end

section
open PySem
set_option autoImplicit false
set_option linter.unusedVariables false
namespace Mine
set_option genSizeOf false in
set_option genInjectivity false in
inductive LA where
  | v (v : V)
  | l (i : Nat)
def LAR (X : FC) (W : WS) (h : Heap) (a : LA) (v' : Value) : Prop := LA.casesOn a (fun v => VR W h v v') fun i => ∃ x, X.fi.tbl.lookup x = some i ∧ X.env.kindOf x ≠ none ∧ Val X.env h x v'
def LARs (X : FC) (W : WS) (h : Heap) (as : List LA) : List Value → Prop := @List.rec LA (fun _ => List Value → Prop) (fun vs => vs = []) (fun a _ ih vs => ∃ v' r, vs = v' :: r ∧ LAR X W h a v' ∧ ih r) as
theorem LARs.length {X : FC} {W : WS} {h : Heap} : ∀ {as : List LA} {vs : List Value}, LARs X W h as vs → vs.length = as.length
  | [], _, r => by cases r; rfl
  | _ :: as, _, ⟨v', r, e, _, y⟩ => by subst e; exact congrArg (· + 1) (LARs.length (as := as) y)
theorem LARs.get {X : FC} {W : WS} {h : Heap} : ∀ {as : List LA} {vs : List Value}, LARs X W h as vs → ∀ {j : Nat} {a : LA}, as[j]? = some a → ∃ v', vs[j]? = some v' ∧ LAR X W h a v'
  | [], _, _, _, _, e => by cases e
  | _ :: as, _, ⟨v', r, e, x, y⟩, 0, a, q => by subst e; cases q; exact ⟨v', rfl, x⟩
  | _ :: as, _, ⟨v', r, e, x, y⟩, j + 1, a, q => by subst e; exact LARs.get (as := as) y (j := j) q
noncomputable def lis (as : List LA) : List Nat := @List.rec LA (fun _ => List Nat) [] (fun a _ r => LA.casesOn a (fun _ => r) fun i => i :: r) as
noncomputable def frL (is : List Nat) (ρ : Loc) : Loc := @List.rec Nat (fun _ => Loc) ρ (fun i _ r => r.set i none) is
noncomputable def osOf (as : List LA) (ρ : Loc) : Option (List O) := @List.rec LA (fun _ => Option (List O)) (some []) (fun a _ r => r.bind fun os => LA.casesOn a (fun v => some (.val v :: os)) fun i => (slot ρ i).bind fun o => some (o :: os)) as
noncomputable def updL (as : List LA) : Loc → Loc → Option (List O × Loc) := @List.rec LA (fun _ => Loc → Loc → Option (List O × Loc)) (fun ns ρ => some ([], ρ)) (fun a _ f ns ρ => LA.casesOn a (fun v => (f ns ρ).bind fun q => some (.val v :: q.1, q.2)) fun i => List.casesOn ns none fun n ns => n.bind fun o => (f ns (ρ.set i (some o))).bind fun q => some (o :: q.1, q.2)) as
theorem osOf_get {ρ : Loc} : ∀ {as : List LA} {os : List O}, osOf as ρ = some os → os.length = as.length ∧ ∀ (j : Nat) (o : O), os[j]? = some o → ∃ a, as[j]? = some a ∧ LA.casesOn (motive := fun _ => Prop) a (fun v => o = .val v) fun i => slot ρ i = some o
  | [], os, e => by cases e; exact ⟨rfl, fun j o q => by cases q⟩
  | a :: as, os, e => by
    obtain ⟨os1, e1, e⟩ := Option.bind_eq_some_iff.mp (show (osOf as ρ).bind _ = _ from e)
    obtain ⟨h1, h2⟩ := osOf_get e1
    cases a with
    | v v =>
      cases e
      refine ⟨congrArg (· + 1) h1, fun j o q => ?_⟩
      cases j with
      | zero => cases q; exact ⟨_, rfl, rfl⟩
      | succ j => exact h2 j o q
    | l i =>
      obtain ⟨o1, e2, e⟩ := Option.bind_eq_some_iff.mp (show (slot ρ i).bind _ = _ from e)
      cases e
      refine ⟨congrArg (· + 1) h1, fun j o q => ?_⟩
      cases j with
      | zero => cases q; exact ⟨_, rfl, e2⟩
      | succ j => exact h2 j o q
theorem lis_mem : ∀ {as : List LA} {j i : Nat}, as[j]? = some (.l i) → i ∈ lis as
  | [], _, _, e => by cases e
  | a :: as, 0, i, e => by cases e; exact List.mem_cons_self
  | a :: as, j + 1, i, e => by
    have := lis_mem (as := as) (j := j) e
    cases a with
    | v v => exact this
    | l k => exact List.mem_cons_of_mem _ this
theorem lis_nd : ∀ {as : List LA} {j k i : Nat}, (lis as).Nodup → as[j]? = some (.l i) → as[k]? = some (.l i) → j = k
  | [], _, _, _, _, e, _ => by cases e
  | a :: as, j, k, i, nd, e1, e2 => by
    cases a with
    | v v =>
      cases j with
      | zero => cases e1
      | succ j => cases k with
        | zero => cases e2
        | succ k => exact congrArg (· + 1) (lis_nd (as := as) nd e1 e2)
    | l i0 =>
      have nd : (i0 :: lis as).Nodup := nd
      obtain ⟨n1, n2⟩ := List.nodup_cons.mp nd
      cases j with
      | zero => cases k with
        | zero => rfl
        | succ k => cases e1; exact absurd (lis_mem (as := as) (j := k) e2) n1
      | succ j => cases k with
        | zero => cases e2; exact absurd (lis_mem (as := as) (j := j) e1) n1
        | succ k => exact congrArg (· + 1) (lis_nd (as := as) n2 e1 e2)
theorem frL_at : ∀ {is : List Nat} {ρ : Loc} {i : Nat}, i ∈ is → (frL is ρ)[i]? = some none ∨ (frL is ρ)[i]? = none
  | [], _, _, h => by cases h
  | k :: is, ρ, i, h => by
    show ((frL is ρ).set k none)[i]? = some none ∨ ((frL is ρ).set k none)[i]? = none
    by_cases e : i = k
    · subst e
      rw [List.getElem?_set]
      by_cases q : i < (frL is ρ).length
      · left; simp [q]
      · right; simp [q]
    · rw [List.getElem?_set_ne (Ne.symm e)]
      exact frL_at ((List.mem_cons.mp h).resolve_left e)
section
variable {X : FC} {W : WS} {φ : Nat → List Addr} {s : Shared} {ρ : Loc}
theorem At.frees (F : At X W φ s ρ) : ∀ is : List Nat, ∃ φ1, At X W φ1 s (frL is ρ) ∧ (∀ i, i ∈ is → φ1 i = []) ∧ (∀ j, j ∉ is → φ1 j = φ j) ∧ ∀ i, i ∈ is → ∀ b, b ∈ φ i → Fre X W φ1 b
  | [] => ⟨φ, F, fun _ h => (by cases h), fun _ _ => rfl, fun _ h => (by cases h)⟩
  | k :: is => by
    obtain ⟨φ1, F1, h1, h2, h3⟩ := F.frees is
    obtain ⟨F2, hf⟩ := F1.free k
    have less : ∀ b, Fre X W φ1 b → Fre X W (upd φ1 k []) b := fun b f => ⟨f.pin, f.w, fun m => f.mu m.less, f.nc⟩
    refine ⟨upd φ1 k [], F2, fun i hi => ?_, fun j hj => ?_, fun i hi b hb => ?_⟩
    · by_cases e : i = k
      · rw [e, upd_same]
      · rw [upd_ne _ _ e]; exact h1 i ((List.mem_cons.mp hi).resolve_left e)
    · rw [upd_ne _ _ fun e => hj (by rw [e]; exact List.mem_cons_self)]; exact h2 j fun q => hj (List.mem_cons_of_mem _ q)
    · by_cases e : i ∈ is
      · exact less b (h3 i e b hb)
      · have ek : i = k := (List.mem_cons.mp hi).resolve_right e
        subst ek
        rw [← h2 i e] at hb
        exact ⟨(hf b hb).1, (hf b hb).2.1, (hf b hb).2.2.1, (hf b hb).2.2.2⟩
theorem At.puts : ∀ (as : List LA) {ns ρ ρ3 : Loc} {os' : List O} {vals : List Value} {ψ φ : Nat → List Addr}, updL as ns ρ = some (os', ρ3) → At X W φ s ρ → (∀ y z j, X.fi.tbl.lookup y = some j → X.fi.tbl.lookup z = some j → y = z) → (∀ i, i ∈ lis as → φ i = [] ∧ (ρ[i]? = some none ∨ ρ[i]? = none)) → (lis as).Nodup →
    (∀ (j i : Nat), as[j]? = some (.l i) → ∃ x v', vals[j]? = some v' ∧ X.fi.tbl.lookup x = some i ∧ Val X.env s.heap x v') → (∀ (j : Nat) (o : O), os'[j]? = some o → ∃ v', vals[j]? = some v' ∧ OR W s.heap (ψ j) o v') → (∀ j a, a ∈ ψ j → Fre X W φ a) → (∀ j k a, a ∈ ψ j → a ∈ ψ k → j = k) → ∃ φ3, At X W φ3 s ρ3
  | [], ns, ρ, ρ3, os', vals, ψ, φ, e, F, _, _, _, _, _, _, _ => by cases e; exact ⟨φ, F⟩
  | .v v :: as, ns, ρ, ρ3, os', vals, ψ, φ, e, F, ti, h0, nd, hv, ho, hf, hd => by
    obtain ⟨⟨os1, ρ1⟩, e1, e⟩ := Option.bind_eq_some_iff.mp (show (updL as ns ρ).bind _ = _ from e)
    cases e
    exact At.puts as (vals := vals.drop 1) (ψ := fun j => ψ (j + 1)) e1 F ti h0 nd (fun j i q => by obtain ⟨x, v', a, b⟩ := hv (j + 1) i q; exact ⟨x, v', by rw [List.getElem?_drop, Nat.add_comm]; exact a, b⟩) (fun j o q => by obtain ⟨v', a, b⟩ := ho (j + 1) o q; exact ⟨v', by rw [List.getElem?_drop, Nat.add_comm]; exact a, b⟩)
      (fun j a q => hf (j + 1) a q) fun j k a p q => by have := hd (j + 1) (k + 1) a p q; omega
  | .l i :: as, [], ρ, ρ3, os', vals, ψ, φ, e, F, ti, h0, nd, hv, ho, hf, hd => by cases e
  | .l i :: as, n :: ns, ρ, ρ3, os', vals, ψ, φ, e, F, ti, h0, nd, hv, ho, hf, hd => by
    obtain ⟨o, rfl, e⟩ := Option.bind_eq_some_iff.mp (show n.bind _ = _ from e)
    obtain ⟨⟨os1, ρ1⟩, e1, e⟩ := Option.bind_eq_some_iff.mp (show (updL as ns (ρ.set i (some o))).bind _ = _ from e)
    cases e
    obtain ⟨x, v0, g1, g2, g3⟩ := hv 0 i rfl
    obtain ⟨v1, g4, g5⟩ := ho 0 o rfl
    rw [g1] at g4; cases g4
    obtain ⟨z1, z2⟩ := h0 i List.mem_cons_self
    have nd : (i :: lis as).Nodup := nd
    obtain ⟨n1, n2⟩ := List.nodup_cons.mp nd
    have eφ : upd φ i [] = φ := funext fun j => by
      by_cases q : j = i
      · rw [q, upd_same, z1]
      · rw [upd_ne _ _ q]
    have eρ : ρ.set i none = ρ := by
      apply List.ext_getElem?
      intro j
      by_cases q : j = i
      · subst q
        rcases z2 with z2 | z2
        · rw [List.getElem?_set_self (List.getElem?_eq_some_iff.mp z2).1, z2]
        · rw [z2, List.getElem?_eq_none_iff, List.length_set]; exact List.getElem?_eq_none_iff.mp z2
      · rw [List.getElem?_set_ne (Ne.symm q)]
    have F' : At X W (upd φ i []) s (ρ.set i none) := by rw [eφ, eρ]; exact F
    have F2 := F'.put (fun y hy => ti y x i hy g2) g3 g5 fun a q => by rw [eφ]; exact hf 0 a q
    exact At.puts as (vals := vals.drop 1) (ψ := fun j => ψ (j + 1)) e1 F2 ti (fun i' hi' => by
        have hne : i' ≠ i := fun q => n1 (q ▸ hi')
        rw [upd_ne _ _ hne, List.getElem?_set_ne (Ne.symm hne)]
        exact h0 i' (List.mem_cons_of_mem _ hi')) n2 (fun j i q => by obtain ⟨x, v', a, b⟩ := hv (j + 1) i q; exact ⟨x, v', by rw [List.getElem?_drop, Nat.add_comm]; exact a, b⟩) (fun j o q => by obtain ⟨v', a, b⟩ := ho (j + 1) o q; exact ⟨v', by rw [List.getElem?_drop, Nat.add_comm]; exact a, b⟩)
      (fun j a q => by
        have f := hf (j + 1) a q
        refine ⟨f.pin, f.w, fun m => ?_, f.nc⟩
        rcases m with m | m | ⟨k, m⟩
        · exact f.mu (.inl m)
        · exact f.mu (.inr (.inl m))
        · by_cases ek : k = i
          · rw [ek, upd_same] at m
            have := hd 0 (j + 1) a m q; omega
          · rw [upd_ne _ _ ek] at m; exact f.mu (.inr (.inr ⟨k, m⟩))) fun j k a p q => by have := hd (j + 1) (k + 1) a p q; omega
end
def RlG (G : Gl) (d : Nat) (fi : FI) (xs : List Expr) (ρ : Loc) (as : List LA) (ρ' : Loc) : Prop := ∀ (X : FC) (E : Value → Shared → Prop) (W : WS) (φ : Nat → List Addr) (s : Shared), X.fi = fi → FS G d X → At X W φ s ρ →
  ∀ Q : List Value → Shared → Prop, (∀ vs' W' φ' s', Pst X W s W' φ' s' ρ' → LARs X W' s'.heap as vs' → Q vs' s') → wpAny X.C.M X.A (spliced (plainArgs xs X.env)) Q E s
structure Rl (G : Gl) (d : Nat) (fi : FI) where
  xs : List Expr
  ev : St → Option (List LA × St)
  pl : ∀ x, x ∈ xs → plainX x = true
  eo : Ok ev (RlG G d fi xs)
section
variable {G : Gl} {d : Nat} {fi : FI}
noncomputable def jNil : Rl G d fi := ⟨[], pu [], fun _ q => (nomatch q), .pu fun _ X E W φ s e S F Q k => wpAny_pure (k [] W φ s (.refl F) rfl)⟩
noncomputable def jVal (a : T G d fi) (b : Rl G d fi) : Rl G d fi := ⟨a.x :: b.xs, fun σ => bd (a.ev σ) fun o σ => bd (b.ev σ) fun as σ => pu (.v o.frz :: as) σ, fun y q => (List.mem_cons.mp q).elim (fun q => q ▸ a.pl) (b.pl y),
  a.eo.bd (R := fun o ρ as ρ' => ∃ as1, RlG G d fi b.xs ρ as1 ρ' ∧ as = .v o.frz :: as1) (fun o => b.eo.bd (R := fun as1 ρ as ρ' => as = .v o.frz :: as1 ∧ ρ = ρ') (fun as1 => .pu fun _ => ⟨rfl, rfl⟩) fun _ as1 _ _ _ h q => by obtain ⟨q1, rfl⟩ := q; exact ⟨as1, h, q1⟩) fun _ o _ _ _ h q X E W φ s e S F Q k => by
    obtain ⟨as1, h1, rfl⟩ := q
    exact PySem.Calls.spliced_cons (h.v X E W φ s e S F _ fun v' W1 φ1 s1 p1 r1 => h1 X E W1 φ1 s1 e S p1.f _ fun vs' W2 φ2 s2 p2 r2 => k _ W2 φ2 s2 (p1.trans p2) ⟨v', vs', rfl, VR.ag p2.ag r1, r2⟩)⟩
noncomputable def jVar (x : Str) (i : Nat) (p : Pos) (b : Rl G d fi) (h : fi.isVar x i = true) : Rl G d fi := ⟨.Name x p :: b.xs, fun σ => (slot σ.ρ i).bind fun _ => bd (b.ev σ) fun as σ => pu (.l i :: as) σ, fun y q => (List.mem_cons.mp q).elim (fun q => by rw [q]; rfl) (b.pl y), by
    intro σ as σ' e q
    obtain ⟨o, e0, e⟩ := Option.bind_eq_some_iff.mp e
    obtain ⟨⟨as1, σ₁⟩, e1, e⟩ := Option.bind_eq_some_iff.mp e
    cases e
    obtain ⟨q1, hb⟩ := b.eo σ as1 σ₁ e1 q
    refine ⟨q1, fun X E W φ s ef S F Q k => PySem.Calls.spliced_cons (load_ok S F (ef ▸ h) (slot_some e0) fun v' h1 h2 hv ro => hb X E W φ s ef S F _ fun vs' W2 φ2 s2 p2 r2 => k _ W2 φ2 s2 p2 ⟨v', vs', rfl, ⟨x, h1, h2, p2.vl _ _ hv⟩, r2⟩)⟩⟩
noncomputable def lentA (as : List LA) (φ : Nat → List Addr) (j : Nat) : List Addr := Option.casesOn as[j]? [] fun a => LA.casesOn a (fun _ => []) fun i => φ i
theorem lentA_of {as : List LA} {φ : Nat → List Addr} {j : Nat} {b : Addr} (q : b ∈ lentA as φ j) : ∃ i, as[j]? = some (LA.l i) ∧ b ∈ φ i := by
  unfold lentA at q
  cases e : as[j]? with
  | none => rw [e] at q; cases q
  | some a => cases a with
    | v v => rw [e] at q; cases q
    | l i => rw [e] at q; exact ⟨i, rfl, q⟩
noncomputable def eCallL (x : Str) (a : Addr) (r : Rl G d fi) (p' p : Pos) (h : (fi.isGlob x && (G.fn.lookup x == some a) && tkOk G fi.pos a) = true) : T G d fi :=
  .mk' (.Call (.Name x p') r.xs [] p) (fun σ => bd (r.ev σ) fun as σ => (osOf as σ.ρ).bind fun os => List.casesOn σ.tp none fun k tp => (Tk.l? k).bind fun b => Fl.casesOn b.1 none fun o => o.val?.bind fun v => (updL as b.2 (frL (lis as) σ.ρ)).bind fun q =>
      some (.val v, ⟨q.2, tp, CallB G d a os v q.1 :: (lis as).Nodup :: σ.ob⟩)) rfl (by
    intro σ o σ' e q
    obtain ⟨⟨as, σ₁⟩, e1, e⟩ := Option.bind_eq_some_iff.mp e
    obtain ⟨os, e2, e⟩ := Option.bind_eq_some_iff.mp e
    dsimp only at e e2
    cases htp : σ₁.tp with
    | nil => rw [htp] at e; cases e
    | cons k tp =>
      rw [htp] at e
      obtain ⟨⟨fl, ρb⟩, e3, e⟩ := Option.bind_eq_some_iff.mp (show (Tk.l? k).bind _ = _ from e)
      cases fl with
      | next => cases e
      | ret ob =>
        obtain ⟨v, e4, e⟩ := Option.bind_eq_some_iff.mp (show ob.val?.bind _ = _ from e)
        obtain ⟨⟨os', ρ3⟩, e5, e⟩ := Option.bind_eq_some_iff.mp e
        cases e
        obtain ⟨hcall, nd, q⟩ := q
        have hcall : CallB G d a os v os' := hcall
        obtain ⟨q1, hs⟩ := r.eo σ as σ₁ e1 q
        rw [Bool.and_eq_true, Bool.and_eq_true, beq_iff_eq] at h
        refine ⟨q1, fun X E W φ s e S F Q kk => ?_⟩
        obtain ⟨g1, g2⟩ := S.g.fn x a h.1.2
        refine PyProof.Rows.Call_ (glob_ok S F (e ▸ h.1.1) g1 ?_)
        rw [starEach_plain r.pl, backTo_plain]
        refine callW (K := X.C.K) (fun h hX => PySem.W.keeps_K g2 h hX) (hs X E W φ s e S F _ fun vs' W' φ' s' p' r' => ⟨p'.f.In S, wpAny_call ?_⟩)
        obtain ⟨ol, og⟩ := osOf_get e2
        -- what is lent
        have hφ : ∀ j b, b ∈ lentA as φ' j → ∃ i, as[j]? = some (LA.l i) ∧ b ∈ φ' i := fun j b q => lentA_of q
        have L : Lent X.C W' s'.heap os vs' (lentA as φ') := by
          refine ⟨by rw [r'.length, ol], fun j o ho => ?_, fun j k b p q => ?_, fun j b q => ?_⟩
          · obtain ⟨la, ha, hq⟩ := og j o ho
            obtain ⟨v', hv, hr⟩ := r'.get ha
            refine ⟨v', hv, ?_⟩
            unfold lentA
            rw [ha]
            cases la with
            | v v => have hq : o = .val v := hq; subst hq; exact ⟨rfl, hr⟩
            | l i =>
              obtain ⟨x, k1, k2, k3⟩ := hr
              exact still p'.f k1 k2 k3 (slot_some hq)
          · obtain ⟨i, a1, a2⟩ := hφ j b p
            obtain ⟨i', b1, b2⟩ := hφ k b q
            have := p'.f.f.dis i i' b a2 b2
            subst this
            exact lis_nd nd a1 b1
          · obtain ⟨i, a1, a2⟩ := hφ j b q
            have m := p'.f.f.mu b (.inr (.inr ⟨i, a2⟩))
            refine ⟨by rw [ol]; exact (List.getElem?_eq_some_iff.mp a1).1, m.2, ?_⟩
            cases e : X.C.h.get? b with
            | none => rfl
            | some o => have := S.base b o e; rw [m.1] at this; cases this
        refine hcall X.C X.A W' s' vs' _ _ S.g S.hd (by have := S.dp; omega) (by have := S.un; omega) (p'.f.keep S) p'.f.gens (fun f hf hp => p'.f.tk (e ▸ tkOk_of h.2 hf hp)) p'.f.os p'.f.f.wf L fun v2 W2 s2 φ2 gx L2 pn rv => ?_
        obtain ⟨φ1, F1, f1, f2, f3⟩ := p'.f.frees (lis as)
        have hD : ∀ b, (∃ j, b ∈ lentA as φ' j) → Fre X W' φ1 b := fun b ⟨j, q⟩ => by
          obtain ⟨i, a1, a2⟩ := hφ j b q
          exact f3 i (lis_mem a1) b a2
        obtain ⟨F2, ag, val⟩ := F1.move (D := fun b => ∃ j, b ∈ lentA as φ' j) (h' := s2.heap) (W' := W2) (t := s2.toks) hD gx.k gx.w gx.wf gx.nw gx.tk
        have F3 : At X W2 φ1 s2 (frL (lis as) σ₁.ρ) := ⟨gx.gens.trans p'.f.gens, gx.os.trans p'.f.os, F2.f, F2.lr, F2.ow, F2.tk, F2.kv⟩
        obtain ⟨φ3, A⟩ := F3.puts as (vals := vs') (ψ := φ2) e5 S.ti (fun i hi => ⟨f1 i hi, frL_at hi⟩) nd (fun j i q => by
            obtain ⟨v', hv, x, k1, k2, k3⟩ := r'.get q
            exact ⟨x, v', hv, k1, val _ _ k3⟩) (fun j o q => L2.or j o q) (fun j b q => by
            obtain ⟨o1, o2, o3⟩ := L2.own j b q
            rcases pn j b q with z | z
            · have f := hD b z; exact ⟨f.pin, o2, f.mu, f.nc⟩
            · have f := Fre.of F1 z; exact ⟨f.pin, o2, f.mu, f.nc⟩) L2.dis
        exact kk v2 W2 _ s2 ⟨A, p'.ag.trans ag, fun w x hw => val _ _ (p'.vl _ _ hw)⟩ (.val rv)) fun _ => rfl
end
end Mine
end

section
open PySem
set_option autoImplicit false
set_option maxRecDepth 100000
namespace Mine.L12
noncomputable def z_num : List Nat := [110, 117, 109]
theorem z_num_e : ("num" : Str) = ⟨z_num.toArray⟩ := by kernel_rfl
theorem z_num_k : (PyData.strOk ⟨z_num.toArray⟩ && Nat.ble z_num.length 1000) = true := by kernel_rfl
noncomputable def z_name : List Nat := [110, 97, 109, 101]
theorem z_name_e : ("name" : Str) = ⟨z_name.toArray⟩ := by kernel_rfl
theorem z_name_k : (PyData.strOk ⟨z_name.toArray⟩ && Nat.ble z_name.length 1000) = true := by kernel_rfl
noncomputable def z_fun : List Nat := [102, 117, 110]
theorem z_fun_e : ("fun" : Str) = ⟨z_fun.toArray⟩ := by kernel_rfl
theorem z_fun_k : (PyData.strOk ⟨z_fun.toArray⟩ && Nat.ble z_fun.length 1000) = true := by kernel_rfl
noncomputable def z_let : List Nat := [108, 101, 116]
theorem z_let_e : ("let" : Str) = ⟨z_let.toArray⟩ := by kernel_rfl
theorem z_let_k : (PyData.strOk ⟨z_let.toArray⟩ && Nat.ble z_let.length 1000) = true := by kernel_rfl
noncomputable def z_call : List Nat := [99, 97, 108, 108]
theorem z_call_e : ("call" : Str) = ⟨z_call.toArray⟩ := by kernel_rfl
theorem z_call_k : (PyData.strOk ⟨z_call.toArray⟩ && Nat.ble z_call.length 1000) = true := by kernel_rfl
noncomputable def z_plus : List Nat := [112, 108, 117, 115]
theorem z_plus_e : ("plus" : Str) = ⟨z_plus.toArray⟩ := by kernel_rfl
theorem z_plus_k : (PyData.strOk ⟨z_plus.toArray⟩ && Nat.ble z_plus.length 1000) = true := by kernel_rfl
noncomputable def z_less : List Nat := [108, 101, 115, 115]
theorem z_less_e : ("less" : Str) = ⟨z_less.toArray⟩ := by kernel_rfl
theorem z_less_k : (PyData.strOk ⟨z_less.toArray⟩ && Nat.ble z_less.length 1000) = true := by kernel_rfl
noncomputable def z_abcdefghijklmnopqrstuvwxyz : List Nat := [97, 98, 99, 100, 101, 102, 103, 104, 105, 106, 107, 108, 109, 110, 111, 112, 113, 114, 115, 116, 117, 118, 119, 120, 121, 122]
theorem z_abcdefghijklmnopqrstuvwxyz_e : ("abcdefghijklmnopqrstuvwxyz" : Str) = ⟨z_abcdefghijklmnopqrstuvwxyz.toArray⟩ := by kernel_rfl
theorem z_abcdefghijklmnopqrstuvwxyz_k : (PyData.strOk ⟨z_abcdefghijklmnopqrstuvwxyz.toArray⟩ && Nat.ble z_abcdefghijklmnopqrstuvwxyz.length 1000) = true := by kernel_rfl
noncomputable def z_ : List Nat := []
theorem z__e : ("" : Str) = ⟨z_.toArray⟩ := by kernel_rfl
theorem z__k : (PyData.strOk ⟨z_.toArray⟩ && Nat.ble z_.length 1000) = true := by kernel_rfl
noncomputable def z_if : List Nat := [105, 102]
theorem z_if_e : ("if" : Str) = ⟨z_if.toArray⟩ := by kernel_rfl
theorem z_if_k : (PyData.strOk ⟨z_if.toArray⟩ && Nat.ble z_if.length 1000) = true := by kernel_rfl
noncomputable def fi_is_name : FI := ⟨(namesAt PySem.Challenge.pw_uf010023_12 14), [("word", 0), ("sign", 1)], false, []⟩
noncomputable def fd_is_name : FD := ⟨["word"], fi_is_name, (bodyAt PySem.Challenge.pw_uf010023_12 14)⟩
noncomputable def fi_is_whole : FI := ⟨(namesAt PySem.Challenge.pw_uf010023_12 15), [("number", 0)], false, []⟩
noncomputable def fd_is_whole : FD := ⟨["number"], fi_is_whole, (bodyAt PySem.Challenge.pw_uf010023_12 15)⟩
noncomputable def fi_is_node : FI := ⟨(namesAt PySem.Challenge.pw_uf010023_12 16), [("node", 0)], false, []⟩
noncomputable def fd_is_node : FD := ⟨["node"], fi_is_node, (bodyAt PySem.Challenge.pw_uf010023_12 16)⟩
noncomputable def fi_parts : FI := ⟨(namesAt PySem.Challenge.pw_uf010023_12 17), [("tree", 0)], false, []⟩
noncomputable def fd_parts : FD := ⟨["tree"], fi_parts, (bodyAt PySem.Challenge.pw_uf010023_12 17)⟩
noncomputable def fi_need_tree : FI := ⟨(namesAt PySem.Challenge.pw_uf010023_12 18), [("tree", 0), ("waiting", 1), ("many", 2), ("node", 3)], false, []⟩
noncomputable def fd_need_tree : FD := ⟨["tree"], fi_need_tree, (bodyAt PySem.Challenge.pw_uf010023_12 18)⟩
noncomputable def fi_free : FI := ⟨(namesAt PySem.Challenge.pw_uf010023_12 19), [("tree", 0), ("found", 1), ("waiting", 2), ("node", 3), ("bound", 4), ("part", 5)], false, []⟩
noncomputable def fd_free : FD := ⟨["tree"], fi_free, (bodyAt PySem.Challenge.pw_uf010023_12 19)⟩
noncomputable def fi_need : FI := ⟨(namesAt PySem.Challenge.pw_uf010023_12 22), [("tree", 0), ("most", 1)], false, []⟩
noncomputable def fd_need : FD := ⟨["tree", "most"], fi_need, (bodyAt PySem.Challenge.pw_uf010023_12 22)⟩
noncomputable def fi_Kept_init : FI := ⟨(mNames PySem.Challenge.pw_uf010023_12 24 0), [("self", 0), ("name", 1), ("body", 2), ("names", 3), ("held", 4)], false, ["self", "name", "body", "names", "held"]⟩
noncomputable def fd_Kept_init : FD := ⟨["self", "name", "body", "names", "held"], fi_Kept_init, (mBody PySem.Challenge.pw_uf010023_12 24 0)⟩
noncomputable def fi_Mill_init : FI := ⟨(mNames PySem.Challenge.pw_uf010023_12 25 0), [("self", 0), ("tree", 1), ("most", 2)], false, ["self", "tree", "most"]⟩
noncomputable def fd_Mill_init : FD := ⟨["self", "tree", "most"], fi_Mill_init, (mBody PySem.Challenge.pw_uf010023_12 25 0)⟩
noncomputable def fi_Mill_stands_for : FI := ⟨(mNames PySem.Challenge.pw_uf010023_12 25 1), [("self", 0), ("name", 1), ("place", 2)], false, ["self", "name"]⟩
noncomputable def fd_Mill_stands_for : FD := ⟨["self", "name"], fi_Mill_stands_for, (mBody PySem.Challenge.pw_uf010023_12 25 1)⟩
noncomputable def fi_Mill_through : FI := ⟨(mNames PySem.Challenge.pw_uf010023_12 25 2), [("self", 0)], false, ["self"]⟩
noncomputable def fd_Mill_through : FD := ⟨["self"], fi_Mill_through, (mBody PySem.Challenge.pw_uf010023_12 25 2)⟩
noncomputable def fi_Mill_come : FI := ⟨(mNames PySem.Challenge.pw_uf010023_12 25 3), [("self", 0), ("node", 1), ("names", 2)], false, ["self"]⟩
noncomputable def fd_Mill_come : FD := ⟨["self"], fi_Mill_come, (mBody PySem.Challenge.pw_uf010023_12 25 3)⟩
noncomputable def fi_Mill_back : FI := ⟨(mNames PySem.Challenge.pw_uf010023_12 25 4), [("self", 0), ("node", 1), ("around", 2), ("ahead", 3), ("values", 4)], false, ["self"]⟩
noncomputable def fd_Mill_back : FD := ⟨["self"], fi_Mill_back, (mBody PySem.Challenge.pw_uf010023_12 25 4)⟩
noncomputable def fi_Mill_reckon : FI := ⟨(mNames PySem.Challenge.pw_uf010023_12 25 5), [("self", 0), ("word", 1), ("one", 2), ("other", 3)], false, ["self", "word", "one", "other"]⟩
noncomputable def fd_Mill_reckon : FD := ⟨["self", "word", "one", "other"], fi_Mill_reckon, (mBody PySem.Challenge.pw_uf010023_12 25 5)⟩
noncomputable def fi_Mill_enter : FI := ⟨(mNames PySem.Challenge.pw_uf010023_12 25 6), [("self", 0), ("kept", 1), ("worth", 2), ("around", 3), ("name", 4), ("held", 5)], false, ["self", "kept", "worth"]⟩
noncomputable def fd_Mill_enter : FD := ⟨["self", "kept", "worth"], fi_Mill_enter, (mBody PySem.Challenge.pw_uf010023_12 25 6)⟩
noncomputable def fi_Mill_choose : FI := ⟨(mNames PySem.Challenge.pw_uf010023_12 25 7), [("self", 0), ("node", 1), ("worth", 2), ("around", 3)], false, ["self", "node", "worth", "around"]⟩
noncomputable def fd_Mill_choose : FD := ⟨["self", "node", "worth", "around"], fi_Mill_choose, (mBody PySem.Challenge.pw_uf010023_12 25 7)⟩
noncomputable def fi_made : FI := ⟨(namesAt PySem.Challenge.pw_uf010023_12 26), [("tree", 0), ("most", 1), ("mill", 2)], false, []⟩
noncomputable def fd_made : FD := ⟨["tree", "most"], fi_made, (bodyAt PySem.Challenge.pw_uf010023_12 26)⟩
noncomputable def fi__law_cell_at : FI := ⟨(namesAt PySem.Challenge.pw_uf010023_12 28), [("_law_script", 0), ("_law_k", 1)], false, []⟩
noncomputable def fd__law_cell_at : FD := ⟨["_law_script", "_law_k"], fi__law_cell_at, (bodyAt PySem.Challenge.pw_uf010023_12 28)⟩
noncomputable def fi__law_name_by : FI := ⟨(namesAt PySem.Challenge.pw_uf010023_12 29), [("_law_cell", 0), ("_law_letters", 1), ("_law_common", 2), ("_law_turn", 3), ("_law_at", 4), ("_law_word", 5)], false, []⟩
noncomputable def fd__law_name_by : FD := ⟨["_law_cell"], fi__law_name_by, (bodyAt PySem.Challenge.pw_uf010023_12 29)⟩
noncomputable def fi__law_body : FI := ⟨(namesAt PySem.Challenge.pw_uf010023_12 30), [("_law_row_here", 0), ("_law_number", 1), ("_law_tree", 2), ("_law_name", 3)], false, []⟩
noncomputable def fd__law_body : FD := ⟨["_law_row_here", "_law_number"], fi__law_body, (bodyAt PySem.Challenge.pw_uf010023_12 30)⟩
noncomputable def fi__law_row : FI := ⟨(namesAt PySem.Challenge.pw_uf010023_12 31), [("_law_cell", 0), ("_law_names", 1), ("_law_row_here", 2), ("_law_turn", 3)], false, []⟩
noncomputable def fd__law_row : FD := ⟨["_law_cell", "_law_names"], fi__law_row, (bodyAt PySem.Challenge.pw_uf010023_12 31)⟩
noncomputable def fi__law_once : FI := ⟨(namesAt PySem.Challenge.pw_uf010023_12 32), [("_law_row_here", 0), ("_law_without", 1), ("_law_found", 2), ("_law_name", 3)], false, []⟩
noncomputable def fd__law_once : FD := ⟨["_law_row_here", "_law_without"], fi__law_once, (bodyAt PySem.Challenge.pw_uf010023_12 32)⟩
noncomputable def fi__law_whole : FI := ⟨(namesAt PySem.Challenge.pw_uf010023_12 33), [("_law_found", 0)], false, []⟩
noncomputable def fd__law_whole : FD := ⟨["_law_found"], fi__law_whole, (bodyAt PySem.Challenge.pw_uf010023_12 33)⟩
noncomputable def fi__law_held_right : FI := ⟨(namesAt PySem.Challenge.pw_uf010023_12 34), [("_law_found", 0), ("_law_due", 1)], false, []⟩
noncomputable def fd__law_held_right : FD := ⟨["_law_found", "_law_due"], fi__law_held_right, (bodyAt PySem.Challenge.pw_uf010023_12 34)⟩
noncomputable def fi__law_kept_right : FI := ⟨(namesAt PySem.Challenge.pw_uf010023_12 35), [("_law_one", 0), ("_law_row_here", 1), ("_law_value", 2), ("_law_worth", 3)], false, []⟩
noncomputable def fd__law_kept_right : FD := ⟨["_law_one", "_law_row_here"], fi__law_kept_right, (bodyAt PySem.Challenge.pw_uf010023_12 35)⟩
noncomputable def fi__law_values : FI := ⟨(namesAt PySem.Challenge.pw_uf010023_12 36), [("_law_row_here", 0), ("_law_stands", 1), ("_law_outer", 2), ("_law_worth", 3), ("_law_some", 4)], false, ["_law_row_here", "_law_stands", "_law_outer", "_law_worth"]⟩
noncomputable def fd__law_values : FD := ⟨["_law_row_here", "_law_stands", "_law_outer", "_law_worth"], fi__law_values, (bodyAt PySem.Challenge.pw_uf010023_12 36)⟩
noncomputable def fi__law_let : FI := ⟨(namesAt PySem.Challenge.pw_uf010023_12 37), [("_law_cell", 0), ("_law_k", 1), ("_law_names", 2), ("_law_stands", 3), ("_law_makers", 4), ("_law_due", 5), ("_law_way", 6), ("_law_worth", 7), ("_law_outer", 8), ("_law_row_here", 9), ("_law_inner", 10), ("_law_maker", 11), ("_law_pair", 12), ("_law_some", 13)], false, ["_law_cell", "_law_k", "_law_names", "_law_stands", "_law_makers", "_law_due"]⟩
noncomputable def fd__law_let : FD := ⟨["_law_cell", "_law_k", "_law_names", "_law_stands", "_law_makers", "_law_due"], fi__law_let, (bodyAt PySem.Challenge.pw_uf010023_12 37)⟩
noncomputable def fi_law : FI := ⟨(namesAt PySem.Challenge.pw_uf010023_12 38), [("_law_script", 0), ("_law_first", 1), ("_law_second", 2), ("_law_k", 3), ("_law_names", 4), ("_law_number", 5), ("_law_lets", 6), ("_law_stands", 7), ("_law_makers", 8), ("_law_due", 9), ("_law_node", 10), ("_law_tree", 11), ("_law_pair", 12), ("_law_found", 13), ("_law_one", 14), ("_law_row_here", 15)], false, []⟩
noncomputable def fd_law : FD := ⟨["_law_script"], fi_law, (bodyAt PySem.Challenge.pw_uf010023_12 38)⟩
noncomputable def ct_Kept : CT := ⟨167, ["name", "body", "names", "held"], []⟩
noncomputable def ct_Mill : CT := ⟨235, ["node", "around", "worth", "most", "deeds"], ["above", "kepts"]⟩
noncomputable def words : List (List Nat) := [z_num, z_name, z_fun, z_call, z_plus, z_less, z_if, z_let]
noncomputable def wordsV : List V := [.str z_num, .str z_name, .str z_fun, .str z_call, .str z_plus, .str z_less, .str z_if, .str z_let]
noncomputable def letters : List Nat := z_abcdefghijklmnopqrstuvwxyz
noncomputable def lens : List (List Nat × Int) := [(z_num, 2), (z_name, 2), (z_fun, 3), (z_call, 3), (z_plus, 3), (z_less, 3), (z_if, 4), (z_let, 4)]
noncomputable def great : Int := 1000000000000000000000000000000000000000000000000000000000000
structure More (C : Cx) : Prop where
  words : GVal C "WORDS" (.tup wordsV)
  letters : GVal C "LETTERS" (.str letters)
  deeds : GVal C "MOST_DEEDS" (.int 1000)
  lens : GDic C "LENGTHS" lens
  most : GVal C "MOST_NODES" (.int 400)
  great : GVal C "GREAT" (.int great)

noncomputable def G (w : World) : Gl := ⟨[("is_name", 108), ("is_whole", 115), ("is_node", 122), ("parts", 129), ("need_tree", 136), ("free", 143), ("need", 150), ("made", 246), ("_law_cell_at", 253), ("_law_name_by", 260), ("_law_body", 267), ("_law_row", 274), ("_law_once", 281), ("_law_whole", 288), ("_law_held_right", 295), ("_law_kept_right", 302), ("_law_values", 307), ("_law_let", 312), ("law", 317)], [(108, fd_is_name), (115, fd_is_whole), (122, fd_is_node), (129, fd_parts), (136, fd_need_tree), (143, fd_free), (150, fd_need), (246, fd_made), (253, fd__law_cell_at), (260, fd__law_name_by), (267, fd__law_body), (274, fd__law_row), (281, fd__law_once), (288, fd__law_whole), (295, fd__law_held_right), (302, fd__law_kept_right), (307, fd__law_values), (312, fd__law_let), (317, fd_law), (164, fd_Kept_init), (185, fd_Mill_init), (192, fd_Mill_stands_for), (199, fd_Mill_through), (204, fd_Mill_come), (211, fd_Mill_back), (218, fd_Mill_reckon), (225, fd_Mill_enter), (232, fd_Mill_choose)], ["len", "isinstance", "list", "tuple", "range", "reversed", "str", "int", "bool", "zip", "dict"], [.tuple, .str, .int, .bool, .list], More, w, [("Kept", ct_Kept, 164), ("Mill", ct_Mill, 185)], [(235, "stands_for", 192), (235, "through", 199), (235, "come", 204), (235, "back", 211), (235, "reckon", 218), (235, "enter", 225), (235, "choose", 232)]⟩
noncomputable def l_is_name_25 (w : World) (d : Nat) : SL (G w) d fi_is_name :=
(lCons (sIte true (eNotInS (eVar "sign" 1 ⟨26,11,26,15⟩ (by kernel_rfl)) (eGlobS "LETTERS" letters ⟨26,23,26,30⟩ (by kernel_rfl) fun _ m => m.letters) ⟨26,11,26,30⟩)
(lCons (sRet (eBool false 0 ⟨27,19,27,24⟩) ⟨27,12,27,24⟩) lNil)
lNil ⟨26,8,27,24⟩) lNil)
noncomputable def b_is_name (w : World) (d : Nat) : SL (G w) d fi_is_name :=
(lCons (sIte false (eBop (bCons false (eNot (eIsi (eVar "word" 0 ⟨23,22,23,26⟩ (by kernel_rfl)) .str ⟨23,11,23,21⟩ ⟨23,28,23,31⟩ ⟨23,11,23,32⟩ (by kernel_rfl)) ⟨23,7,23,32⟩) (bCons true (eNot (eLeLe (eInt 1 0 ⟨23,40,23,41⟩) (eLen (eVar "word" 0 ⟨23,49,23,53⟩ (by kernel_rfl)) ⟨23,45,23,48⟩ ⟨23,45,23,54⟩ (by kernel_rfl)) (eInt 8 0 ⟨23,58,23,59⟩) ⟨23,40,23,59⟩ rfl) ⟨23,36,23,59⟩) (bLast .Or (eInG false (eVar "word" 0 ⟨23,63,23,67⟩ (by kernel_rfl)) "WORDS" wordsV words ⟨23,71,23,76⟩ ⟨23,63,23,76⟩ (by kernel_rfl) rfl fun _ m => m.words)))) ⟨23,7,23,76⟩)
(lCons (sRet (eBool false 0 ⟨24,15,24,20⟩) ⟨24,8,24,20⟩) lNil)
lNil ⟨23,4,24,20⟩) (lCons (sFor "sign" (iStr (eVar "word" 0 ⟨25,16,25,20⟩ (by kernel_rfl))) (l_is_name_25 w d) ⟨25,8,25,12⟩ ⟨25,4,27,24⟩) (lCons (sRet (eBool true 0 ⟨28,11,28,15⟩) ⟨28,4,28,15⟩) lNil)))
theorem b_is_name_x (w : World) (d : Nat) : (b_is_name w d).xs = fd_is_name.st := by kernel_rfl
noncomputable def b_is_whole (w : World) (d : Nat) : SL (G w) d fi_is_whole :=
(lCons (sRet (eBop (bCons false (eIsi (eVar "number" 0 ⟨30,22,30,28⟩ (by kernel_rfl)) .int ⟨30,11,30,21⟩ ⟨30,30,30,33⟩ ⟨30,11,30,34⟩ (by kernel_rfl)) (bLast .And (eNot (eIsi (eVar "number" 0 ⟨30,55,30,61⟩ (by kernel_rfl)) .bool ⟨30,44,30,54⟩ ⟨30,63,30,67⟩ ⟨30,44,30,68⟩ (by kernel_rfl)) ⟨30,40,30,68⟩))) ⟨30,11,30,69⟩) ⟨30,4,30,69⟩) lNil)
theorem b_is_whole_x (w : World) (d : Nat) : (b_is_whole w d).xs = fd_is_whole.st := by kernel_rfl
noncomputable def b_is_node (w : World) (d : Nat) : SL (G w) d fi_is_node :=
(lCons (sIte false (eBop (bCons false (eNot (eIsi (eVar "node" 0 ⟨32,22,32,26⟩ (by kernel_rfl)) .tuple ⟨32,11,32,21⟩ ⟨32,28,32,33⟩ ⟨32,11,32,34⟩ (by kernel_rfl)) ⟨32,7,32,34⟩) (bCons true (eEq (eLen (eVar "node" 0 ⟨32,42,32,46⟩ (by kernel_rfl)) ⟨32,38,32,41⟩ ⟨32,38,32,47⟩ (by kernel_rfl)) (eInt 0 0 ⟨32,51,32,52⟩) ⟨32,38,32,52⟩) (bLast .Or (eNot (eIsi (eIdxV false "node" 0 ⟨32,72,32,76⟩ (eInt 0 0 ⟨32,77,32,78⟩) ⟨32,72,32,79⟩ (by kernel_rfl)) .str ⟨32,61,32,71⟩ ⟨32,81,32,84⟩ ⟨32,61,32,85⟩ (by kernel_rfl)) ⟨32,57,32,85⟩)))) ⟨32,7,32,86⟩)
(lCons (sRet (eBool false 0 ⟨33,15,33,20⟩) ⟨33,8,33,20⟩) lNil)
lNil ⟨32,4,33,20⟩) (lCons (sIte true (eBop (bCons false (eInG true (eIdxV false "node" 0 ⟨34,7,34,11⟩ (eInt 0 0 ⟨34,12,34,13⟩) ⟨34,7,34,14⟩ (by kernel_rfl)) "WORDS" wordsV words ⟨34,22,34,27⟩ ⟨34,7,34,27⟩ (by kernel_rfl) rfl fun _ m => m.words) (bLast .Or (eNe (eLen (eVar "node" 0 ⟨34,35,34,39⟩ (by kernel_rfl)) ⟨34,31,34,34⟩ ⟨34,31,34,40⟩ (by kernel_rfl)) (eDicG "LENGTHS" lens (eIdxV false "node" 0 ⟨34,52,34,56⟩ (eInt 0 0 ⟨34,57,34,58⟩) ⟨34,52,34,59⟩ (by kernel_rfl)) ⟨34,44,34,51⟩ ⟨34,44,34,60⟩ (by kernel_rfl) fun _ m => m.lens) ⟨34,31,34,60⟩))) ⟨34,7,34,60⟩)
(lCons (sRet (eBool false 0 ⟨35,15,35,20⟩) ⟨35,8,35,20⟩) lNil)
lNil ⟨34,4,35,20⟩) (lCons (sIte false (eEq (eIdxV false "node" 0 ⟨36,7,36,11⟩ (eInt 0 0 ⟨36,12,36,13⟩) ⟨36,7,36,14⟩ (by kernel_rfl)) (eStr "num" z_num 0 ⟨36,18,36,23⟩ z_num_e z_num_k) ⟨36,7,36,23⟩)
(lCons (sRet (eBop (bCons false (eCall "is_whole" 115 (rCons (eIdxV false "node" 0 ⟨37,24,37,28⟩ (eInt 1 0 ⟨37,29,37,30⟩) ⟨37,24,37,31⟩ (by kernel_rfl)) rNil) ⟨37,15,37,23⟩ ⟨37,15,37,32⟩ (by kernel_rfl)) (bLast .And (eLtLt (eNeg (eGlobI "GREAT" great ⟨37,38,37,43⟩ (by kernel_rfl) fun _ m => m.great) ⟨37,37,37,43⟩) (eIdxV false "node" 0 ⟨37,46,37,50⟩ (eInt 1 0 ⟨37,51,37,52⟩) ⟨37,46,37,53⟩ (by kernel_rfl)) (eGlobI "GREAT" great ⟨37,56,37,61⟩ (by kernel_rfl) fun _ m => m.great) ⟨37,37,37,61⟩ rfl))) ⟨37,15,37,61⟩) ⟨37,8,37,61⟩) lNil)
lNil ⟨36,4,37,61⟩) (lCons (sIte false (eBop (bCons false (eEq (eIdxV false "node" 0 ⟨38,7,38,11⟩ (eInt 0 0 ⟨38,12,38,13⟩) ⟨38,7,38,14⟩ (by kernel_rfl)) (eStr "name" z_name 0 ⟨38,18,38,24⟩ z_name_e z_name_k) ⟨38,7,38,24⟩) (bCons false (eEq (eIdxV false "node" 0 ⟨38,28,38,32⟩ (eInt 0 0 ⟨38,33,38,34⟩) ⟨38,28,38,35⟩ (by kernel_rfl)) (eStr "fun" z_fun 0 ⟨38,39,38,44⟩ z_fun_e z_fun_k) ⟨38,28,38,44⟩) (bLast .Or (eEq (eIdxV false "node" 0 ⟨38,48,38,52⟩ (eInt 0 0 ⟨38,53,38,54⟩) ⟨38,48,38,55⟩ (by kernel_rfl)) (eStr "let" z_let 0 ⟨38,59,38,64⟩ z_let_e z_let_k) ⟨38,48,38,64⟩)))) ⟨38,7,38,64⟩)
(lCons (sRet (eCall "is_name" 108 (rCons (eIdxV false "node" 0 ⟨39,23,39,27⟩ (eInt 1 0 ⟨39,28,39,29⟩) ⟨39,23,39,30⟩ (by kernel_rfl)) rNil) ⟨39,15,39,22⟩ ⟨39,15,39,31⟩ (by kernel_rfl)) ⟨39,8,39,31⟩) lNil)
lNil ⟨38,4,39,31⟩) (lCons (sRet (eBool true 0 ⟨40,11,40,15⟩) ⟨40,4,40,15⟩) lNil)))))
theorem b_is_node_x (w : World) (d : Nat) : (b_is_node w d).xs = fd_is_node.st := by kernel_rfl
noncomputable def b_parts (w : World) (d : Nat) : SL (G w) d fi_parts :=
(lCons (sIte false (eBop (bCons false (eEq (eIdxV false "tree" 0 ⟨42,7,42,11⟩ (eInt 0 0 ⟨42,12,42,13⟩) ⟨42,7,42,14⟩ (by kernel_rfl)) (eStr "num" z_num 0 ⟨42,18,42,23⟩ z_num_e z_num_k) ⟨42,7,42,23⟩) (bLast .Or (eEq (eIdxV false "tree" 0 ⟨42,27,42,31⟩ (eInt 0 0 ⟨42,32,42,33⟩) ⟨42,27,42,34⟩ (by kernel_rfl)) (eStr "name" z_name 0 ⟨42,38,42,44⟩ z_name_e z_name_k) ⟨42,27,42,44⟩))) ⟨42,7,42,44⟩)
(lCons (sRet (eLst rNil ⟨43,15,43,17⟩ rfl) ⟨43,8,43,17⟩) lNil)
lNil ⟨42,4,43,17⟩) (lCons (sIte false (eBop (bCons false (eEq (eIdxV false "tree" 0 ⟨44,7,44,11⟩ (eInt 0 0 ⟨44,12,44,13⟩) ⟨44,7,44,14⟩ (by kernel_rfl)) (eStr "fun" z_fun 0 ⟨44,18,44,23⟩ z_fun_e z_fun_k) ⟨44,7,44,23⟩) (bLast .Or (eEq (eIdxV false "tree" 0 ⟨44,27,44,31⟩ (eInt 0 0 ⟨44,32,44,33⟩) ⟨44,27,44,34⟩ (by kernel_rfl)) (eStr "let" z_let 0 ⟨44,38,44,43⟩ z_let_e z_let_k) ⟨44,27,44,43⟩))) ⟨44,7,44,43⟩)
(lCons (sRet (eListT (eSlc (eVar "tree" 0 ⟨45,20,45,24⟩ (by kernel_rfl)) (dSome (eInt 2 0 ⟨45,25,45,26⟩)) dNone ⟨45,25,45,27⟩ ⟨45,20,45,28⟩) ⟨45,15,45,19⟩ ⟨45,15,45,29⟩ (by kernel_rfl)) ⟨45,8,45,29⟩) lNil)
lNil ⟨44,4,45,29⟩) (lCons (sRet (eListT (eSlc (eVar "tree" 0 ⟨46,16,46,20⟩ (by kernel_rfl)) (dSome (eInt 1 0 ⟨46,21,46,22⟩)) dNone ⟨46,21,46,23⟩ ⟨46,16,46,24⟩) ⟨46,11,46,15⟩ ⟨46,11,46,25⟩ (by kernel_rfl)) ⟨46,4,46,25⟩) lNil)))
theorem b_parts_x (w : World) (d : Nat) : (b_parts w d).xs = fd_parts.st := by kernel_rfl
noncomputable def c_need_tree_50 (w : World) (d : Nat) : T (G w) d fi_need_tree := (eNil true (eVar "waiting" 1 ⟨50,10,50,17⟩ (by kernel_rfl)) ⟨50,21,50,23⟩ ⟨50,10,50,23⟩)
noncomputable def l_need_tree_50 (w : World) (d : Nat) : SL (G w) d fi_need_tree :=
(lCons (sAsg "node" 3 (ePop "waiting" 1 ⟨51,15,51,22⟩ ⟨51,15,51,26⟩ ⟨51,15,51,28⟩ (by kernel_rfl)) ⟨51,8,51,12⟩ ⟨51,8,51,28⟩ (by kernel_rfl)) (lCons (sAsg "many" 2 (eAdd (eVar "many" 2 ⟨52,15,52,19⟩ (by kernel_rfl)) (eInt 1 0 ⟨52,22,52,23⟩) ⟨52,15,52,23⟩) ⟨52,8,52,12⟩ ⟨52,8,52,23⟩ (by kernel_rfl)) (lCons (sIte false (eBop (bCons true (eGt (eVar "many" 2 ⟨53,11,53,15⟩ (by kernel_rfl)) (eGlobI "MOST_NODES" 400 ⟨53,18,53,28⟩ (by kernel_rfl) fun _ m => m.most) ⟨53,11,53,28⟩) (bLast .Or (eNot (eCall "is_node" 122 (rCons (eVar "node" 3 ⟨53,44,53,48⟩ (by kernel_rfl)) rNil) ⟨53,36,53,43⟩ ⟨53,36,53,49⟩ (by kernel_rfl)) ⟨53,32,53,49⟩))) ⟨53,11,53,49⟩)
(lStuck [(.Raise (some (.Call (.Name "NoTree" ⟨54,18,54,24⟩) [.Constant (.str "no tree") 0 ⟨54,25,54,34⟩] [] ⟨54,18,54,35⟩)) none ⟨54,12,54,35⟩)])
lNil ⟨53,8,54,35⟩) (lCons (sExt "waiting" 1 (eCall "parts" 129 (rCons (eVar "node" 3 ⟨55,29,55,33⟩ (by kernel_rfl)) rNil) ⟨55,23,55,28⟩ ⟨55,23,55,34⟩ (by kernel_rfl)) ⟨55,8,55,15⟩ ⟨55,8,55,22⟩ ⟨55,8,55,35⟩ ⟨55,8,55,35⟩ (by kernel_rfl)) lNil))))
noncomputable def b_need_tree (w : World) (d : Nat) : SL (G w) d fi_need_tree :=
(lCons (sAsg "waiting" 1 (eLst (rCons (eVar "tree" 0 ⟨48,15,48,19⟩ (by kernel_rfl)) rNil) ⟨48,14,48,20⟩ rfl) ⟨48,4,48,11⟩ ⟨48,4,48,20⟩ (by kernel_rfl)) (lCons (sAsg "many" 2 (eInt 0 0 ⟨49,11,49,12⟩) ⟨49,4,49,8⟩ ⟨49,4,49,12⟩ (by kernel_rfl)) (lCons (sWhil (c_need_tree_50 w d) (l_need_tree_50 w d) ⟨50,4,55,35⟩) (lCons (sRetV "tree" 0 ⟨56,11,56,15⟩ ⟨56,4,56,15⟩ (by kernel_rfl)) lNil))))
theorem b_need_tree_x (w : World) (d : Nat) : (b_need_tree w d).xs = fd_need_tree.st := by kernel_rfl
noncomputable def l_free_71 (w : World) (d : Nat) : SL (G w) d fi_free :=
(lCons (sApp "waiting" 2 (eTup (rCons (eVar "part" 5 ⟨72,32,72,36⟩ (by kernel_rfl)) (rCons (eVar "bound" 4 ⟨72,38,72,43⟩ (by kernel_rfl)) rNil)) 0 ⟨72,31,72,44⟩ rfl) ⟨72,16,72,23⟩ ⟨72,16,72,30⟩ ⟨72,16,72,45⟩ ⟨72,16,72,45⟩ (by kernel_rfl)) lNil)
noncomputable def c_free_60 (w : World) (d : Nat) : T (G w) d fi_free := (eNil true (eVar "waiting" 2 ⟨60,10,60,17⟩ (by kernel_rfl)) ⟨60,21,60,23⟩ ⟨60,10,60,23⟩)
noncomputable def l_free_60 (w : World) (d : Nat) : SL (G w) d fi_free :=
(lCons (sUnp [("node", 3, ⟨61,8,61,12⟩), ("bound", 4, ⟨61,14,61,19⟩)] (ePop "waiting" 2 ⟨61,22,61,29⟩ ⟨61,22,61,33⟩ ⟨61,22,61,35⟩ (by kernel_rfl)) 0 ⟨61,8,61,19⟩ ⟨61,8,61,35⟩ (by kernel_rfl) fun _ => rfl) (lCons (sIte false (eEq (eIdxV false "node" 3 ⟨62,11,62,15⟩ (eInt 0 0 ⟨62,16,62,17⟩) ⟨62,11,62,18⟩ (by kernel_rfl)) (eStr "name" z_name 0 ⟨62,22,62,28⟩ z_name_e z_name_k) ⟨62,11,62,28⟩)
(lCons (sIte false (eBop (bCons false (eNotInP (eIdxV false "node" 3 ⟨63,15,63,19⟩ (eInt 1 0 ⟨63,20,63,21⟩) ⟨63,15,63,22⟩ (by kernel_rfl)) (eVar "bound" 4 ⟨63,30,63,35⟩ (by kernel_rfl)) ⟨63,15,63,35⟩) (bLast .And (eNotInP (eIdxV false "node" 3 ⟨63,40,63,44⟩ (eInt 1 0 ⟨63,45,63,46⟩) ⟨63,40,63,47⟩ (by kernel_rfl)) (eVar "found" 1 ⟨63,55,63,60⟩ (by kernel_rfl)) ⟨63,40,63,60⟩))) ⟨63,15,63,60⟩)
(lCons (sApp "found" 1 (eIdxV false "node" 3 ⟨64,29,64,33⟩ (eInt 1 0 ⟨64,34,64,35⟩) ⟨64,29,64,36⟩ (by kernel_rfl)) ⟨64,16,64,21⟩ ⟨64,16,64,28⟩ ⟨64,16,64,37⟩ ⟨64,16,64,37⟩ (by kernel_rfl)) lNil)
lNil ⟨63,12,64,37⟩) lNil)
(lCons (sIte false (eEq (eIdxV false "node" 3 ⟨65,13,65,17⟩ (eInt 0 0 ⟨65,18,65,19⟩) ⟨65,13,65,20⟩ (by kernel_rfl)) (eStr "fun" z_fun 0 ⟨65,24,65,29⟩ z_fun_e z_fun_k) ⟨65,13,65,29⟩)
(lCons (sApp "waiting" 2 (eTup (rCons (eIdxV false "node" 3 ⟨66,28,66,32⟩ (eInt 2 0 ⟨66,33,66,34⟩) ⟨66,28,66,35⟩ (by kernel_rfl)) (rCons (eAddT (eVar "bound" 4 ⟨66,37,66,42⟩ (by kernel_rfl)) (eTup (rCons (eIdxV false "node" 3 ⟨66,46,66,50⟩ (eInt 1 0 ⟨66,51,66,52⟩) ⟨66,46,66,53⟩ (by kernel_rfl)) rNil) 0 ⟨66,45,66,55⟩ rfl) ⟨66,37,66,55⟩) rNil)) 0 ⟨66,27,66,56⟩ rfl) ⟨66,12,66,19⟩ ⟨66,12,66,26⟩ ⟨66,12,66,57⟩ ⟨66,12,66,57⟩ (by kernel_rfl)) lNil)
(lCons (sIte false (eEq (eIdxV false "node" 3 ⟨67,13,67,17⟩ (eInt 0 0 ⟨67,18,67,19⟩) ⟨67,13,67,20⟩ (by kernel_rfl)) (eStr "let" z_let 0 ⟨67,24,67,29⟩ z_let_e z_let_k) ⟨67,13,67,29⟩)
(lCons (sApp "waiting" 2 (eTup (rCons (eIdxV false "node" 3 ⟨68,28,68,32⟩ (eInt 3 0 ⟨68,33,68,34⟩) ⟨68,28,68,35⟩ (by kernel_rfl)) (rCons (eAddT (eVar "bound" 4 ⟨68,37,68,42⟩ (by kernel_rfl)) (eTup (rCons (eIdxV false "node" 3 ⟨68,46,68,50⟩ (eInt 1 0 ⟨68,51,68,52⟩) ⟨68,46,68,53⟩ (by kernel_rfl)) rNil) 0 ⟨68,45,68,55⟩ rfl) ⟨68,37,68,55⟩) rNil)) 0 ⟨68,27,68,56⟩ rfl) ⟨68,12,68,19⟩ ⟨68,12,68,26⟩ ⟨68,12,68,57⟩ ⟨68,12,68,57⟩ (by kernel_rfl)) (lCons (sApp "waiting" 2 (eTup (rCons (eIdxV false "node" 3 ⟨69,28,69,32⟩ (eInt 2 0 ⟨69,33,69,34⟩) ⟨69,28,69,35⟩ (by kernel_rfl)) (rCons (eVar "bound" 4 ⟨69,37,69,42⟩ (by kernel_rfl)) rNil)) 0 ⟨69,27,69,43⟩ rfl) ⟨69,12,69,19⟩ ⟨69,12,69,26⟩ ⟨69,12,69,44⟩ ⟨69,12,69,44⟩ (by kernel_rfl)) lNil))
(lCons (sFor "part" (iRev (eCall "parts" 129 (rCons (eVar "node" 3 ⟨71,39,71,43⟩ (by kernel_rfl)) rNil) ⟨71,33,71,38⟩ ⟨71,33,71,44⟩ (by kernel_rfl)) ⟨71,24,71,32⟩ ⟨71,24,71,45⟩ (by kernel_rfl)) (l_free_71 w d) ⟨71,16,71,20⟩ ⟨71,12,72,45⟩) lNil) ⟨67,8,72,45⟩) lNil) ⟨65,8,72,45⟩) lNil) ⟨62,8,72,45⟩) lNil))
noncomputable def b_free (w : World) (d : Nat) : SL (G w) d fi_free :=
(lCons (sAsg "found" 1 (eLst rNil ⟨58,12,58,14⟩ rfl) ⟨58,4,58,9⟩ ⟨58,4,58,14⟩ (by kernel_rfl)) (lCons (sAsg "waiting" 2 (eLst (rCons (eTup (rCons (eVar "tree" 0 ⟨59,16,59,20⟩ (by kernel_rfl)) (rCons (eTup rNil 0 ⟨59,22,59,24⟩ rfl) rNil)) 0 ⟨59,15,59,25⟩ rfl) rNil) ⟨59,14,59,26⟩ rfl) ⟨59,4,59,11⟩ ⟨59,4,59,26⟩ (by kernel_rfl)) (lCons (sWhil (c_free_60 w d) (l_free_60 w d) ⟨60,4,72,45⟩) (lCons (sRetV "found" 1 ⟨73,11,73,16⟩ ⟨73,4,73,16⟩ (by kernel_rfl)) lNil))))
theorem b_free_x (w : World) (d : Nat) : (b_free w d).xs = fd_free.st := by kernel_rfl
noncomputable def b_need (w : World) (d : Nat) : SL (G w) d fi_need :=
(lCons (sExpr (eCall "need_tree" 136 (rCons (eVar "tree" 0 ⟨77,14,77,18⟩ (by kernel_rfl)) rNil) ⟨77,4,77,13⟩ ⟨77,4,77,19⟩ (by kernel_rfl)) ⟨77,4,77,19⟩ rfl) (lCons (sIte false (eNil true (eCall "free" 143 (rCons (eVar "tree" 0 ⟨78,12,78,16⟩ (by kernel_rfl)) rNil) ⟨78,7,78,11⟩ ⟨78,7,78,17⟩ (by kernel_rfl)) ⟨78,21,78,23⟩ ⟨78,7,78,23⟩)
(lStuck [(.Raise (some (.Call (.Name "NotClosed" ⟨79,14,79,23⟩) [.Constant (.str "a name is free") 0 ⟨79,24,79,40⟩] [] ⟨79,14,79,41⟩)) none ⟨79,8,79,41⟩)])
lNil ⟨78,4,79,41⟩) (lCons (sIte true (eBop (bCons false (eNot (eCall "is_whole" 115 (rCons (eVar "most" 1 ⟨80,20,80,24⟩ (by kernel_rfl)) rNil) ⟨80,11,80,19⟩ ⟨80,11,80,25⟩ (by kernel_rfl)) ⟨80,7,80,25⟩) (bLast .Or (eNot (eLeLe (eInt 0 0 ⟨80,33,80,34⟩) (eVar "most" 1 ⟨80,38,80,42⟩ (by kernel_rfl)) (eGlobI "MOST_DEEDS" 1000 ⟨80,46,80,56⟩ (by kernel_rfl) fun _ m => m.deeds) ⟨80,33,80,56⟩ rfl) ⟨80,29,80,56⟩))) ⟨80,7,80,56⟩)
(lStuck [(.Raise (some (.Call (.Name "BadMost" ⟨81,14,81,21⟩) [.Constant (.str "no such count") 0 ⟨81,22,81,37⟩] [] ⟨81,14,81,38⟩)) none ⟨81,8,81,38⟩)])
lNil ⟨80,4,81,38⟩) lNil)))
theorem b_need_x (w : World) (d : Nat) : (b_need w d).xs = fd_need.st := by kernel_rfl
noncomputable def b_Kept_init (w : World) (d : Nat) : SL (G w) d fi_Kept_init :=
(lCons (sFld "Kept" ct_Kept 164 "self" 0 ⟨86,8,86,12⟩ "name" 0 (eVar "name" 1 ⟨86,20,86,24⟩ (by kernel_rfl)) ⟨86,8,86,17⟩ ⟨86,8,86,24⟩ (by kernel_rfl) rfl rfl) (lCons (sFld "Kept" ct_Kept 164 "self" 0 ⟨87,8,87,12⟩ "body" 1 (eVar "body" 2 ⟨87,20,87,24⟩ (by kernel_rfl)) ⟨87,8,87,17⟩ ⟨87,8,87,24⟩ (by kernel_rfl) rfl rfl) (lCons (sFld "Kept" ct_Kept 164 "self" 0 ⟨88,8,88,12⟩ "names" 2 (eVar "names" 3 ⟨88,21,88,26⟩ (by kernel_rfl)) ⟨88,8,88,18⟩ ⟨88,8,88,26⟩ (by kernel_rfl) rfl rfl) (lCons (sFld "Kept" ct_Kept 164 "self" 0 ⟨89,8,89,12⟩ "held" 3 (eVar "held" 4 ⟨89,20,89,24⟩ (by kernel_rfl)) ⟨89,8,89,17⟩ ⟨89,8,89,24⟩ (by kernel_rfl) rfl rfl) lNil))))
theorem b_Kept_init_x (w : World) (d : Nat) : (b_Kept_init w d).xs = fd_Kept_init.st := by kernel_rfl
noncomputable def b_Mill_init (w : World) (d : Nat) : SL (G w) d fi_Mill_init :=
(lCons (sFld "Mill" ct_Mill 185 "self" 0 ⟨93,8,93,12⟩ "node" 0 (eVar "tree" 1 ⟨93,20,93,24⟩ (by kernel_rfl)) ⟨93,8,93,17⟩ ⟨93,8,93,24⟩ (by kernel_rfl) rfl rfl) (lCons (sFld "Mill" ct_Mill 185 "self" 0 ⟨94,8,94,12⟩ "around" 1 (eNone 0 ⟨94,22,94,26⟩) ⟨94,8,94,19⟩ ⟨94,8,94,26⟩ (by kernel_rfl) rfl rfl) (lCons (sFld "Mill" ct_Mill 185 "self" 0 ⟨95,8,95,12⟩ "worth" 2 (eNone 0 ⟨95,21,95,25⟩) ⟨95,8,95,18⟩ ⟨95,8,95,25⟩ (by kernel_rfl) rfl rfl) (lCons (sFldL "Mill" ct_Mill 185 "self" 0 ⟨96,8,96,12⟩ "above" 0 (eLst rNil ⟨96,21,96,23⟩ rfl) ⟨96,8,96,18⟩ ⟨96,8,96,23⟩ (by kernel_rfl) rfl rfl) (lCons (sFld "Mill" ct_Mill 185 "self" 0 ⟨97,8,97,12⟩ "most" 3 (eVar "most" 2 ⟨97,20,97,24⟩ (by kernel_rfl)) ⟨97,8,97,17⟩ ⟨97,8,97,24⟩ (by kernel_rfl) rfl rfl) (lCons (sFld "Mill" ct_Mill 185 "self" 0 ⟨98,8,98,12⟩ "deeds" 4 (eInt 0 0 ⟨98,21,98,22⟩) ⟨98,8,98,18⟩ ⟨98,8,98,22⟩ (by kernel_rfl) rfl rfl) (lCons (sFldL "Mill" ct_Mill 185 "self" 0 ⟨99,8,99,12⟩ "kepts" 1 (eLst rNil ⟨99,21,99,23⟩ rfl) ⟨99,8,99,18⟩ ⟨99,8,99,23⟩ (by kernel_rfl) rfl rfl) lNil)))))))
theorem b_Mill_init_x (w : World) (d : Nat) : (b_Mill_init w d).xs = fd_Mill_init.st := by kernel_rfl
noncomputable def c_Mill_stands_for_103 (w : World) (d : Nat) : T (G w) d fi_Mill_stands_for := (eIsNot (eVar "place" 2 ⟨103,14,103,19⟩ (by kernel_rfl)) (eNone 0 ⟨103,27,103,31⟩) ⟨103,14,103,31⟩)
noncomputable def l_Mill_stands_for_103 (w : World) (d : Nat) : SL (G w) d fi_Mill_stands_for :=
(lCons (sIte true (eEq (eIdxV false "place" 2 ⟨104,15,104,20⟩ (eInt 0 0 ⟨104,21,104,22⟩) ⟨104,15,104,23⟩ (by kernel_rfl)) (eVar "name" 1 ⟨104,27,104,31⟩ (by kernel_rfl)) ⟨104,15,104,31⟩)
(lCons (sRet (eIdxV false "place" 2 ⟨105,23,105,28⟩ (eInt 1 0 ⟨105,29,105,30⟩) ⟨105,23,105,31⟩ (by kernel_rfl)) ⟨105,16,105,31⟩) lNil)
lNil ⟨104,12,105,31⟩) (lCons (sAsg "place" 2 (eIdxV false "place" 2 ⟨106,20,106,25⟩ (eInt 2 0 ⟨106,26,106,27⟩) ⟨106,20,106,28⟩ (by kernel_rfl)) ⟨106,12,106,17⟩ ⟨106,12,106,28⟩ (by kernel_rfl)) lNil))
noncomputable def b_Mill_stands_for (w : World) (d : Nat) : SL (G w) d fi_Mill_stands_for :=
(lCons (sAsg "place" 2 (eFld "Mill" ct_Mill 185 "self" 0 ⟨102,16,102,20⟩ "around" 1 ⟨102,16,102,27⟩ (by kernel_rfl) rfl rfl) ⟨102,8,102,13⟩ ⟨102,8,102,27⟩ (by kernel_rfl)) (lCons (sWhil (c_Mill_stands_for_103 w d) (l_Mill_stands_for_103 w d) ⟨103,8,106,28⟩) (lStuck [(.Raise (some (.Call (.Name "NotClosed" ⟨107,14,107,23⟩) [.Constant (.str "a name stands for nothing") 0 ⟨107,24,107,51⟩] [] ⟨107,14,107,52⟩)) none ⟨107,8,107,52⟩)])))
theorem b_Mill_stands_for_x (w : World) (d : Nat) : (b_Mill_stands_for w d).xs = fd_Mill_stands_for.st := by kernel_rfl
noncomputable def c_Mill_through_110 (w : World) (d : Nat) : T (G w) d fi_Mill_through := (eBop (bCons false (eIsNot (eFld "Mill" ct_Mill 185 "self" 0 ⟨110,14,110,18⟩ "node" 0 ⟨110,14,110,23⟩ (by kernel_rfl) rfl rfl) (eNone 0 ⟨110,31,110,35⟩) ⟨110,14,110,35⟩) (bLast .Or (eNil true (eFldL "Mill" ct_Mill 185 "self" 0 ⟨110,39,110,43⟩ "above" 0 ⟨110,39,110,49⟩ (by kernel_rfl) rfl rfl) ⟨110,53,110,55⟩ ⟨110,39,110,55⟩))) ⟨110,14,110,55⟩)
noncomputable def l_Mill_through_110 (w : World) (d : Nat) : SL (G w) d fi_Mill_through :=
(lCons (sIte false (eIsNot (eFld "Mill" ct_Mill 185 "self" 0 ⟨111,15,111,19⟩ "node" 0 ⟨111,15,111,24⟩ (by kernel_rfl) rfl rfl) (eNone 0 ⟨111,32,111,36⟩) ⟨111,15,111,36⟩)
(lCons (sExpr (eMeth "Mill" ct_Mill 185 "self" 0 ⟨112,16,112,20⟩ "come" 204 rNil ⟨112,16,112,25⟩ ⟨112,16,112,27⟩ rfl (of_decide_eq_true (by kernel_rfl)) (by kernel_rfl)) ⟨112,16,112,27⟩ rfl) lNil)
(lCons (sExpr (eMeth "Mill" ct_Mill 185 "self" 0 ⟨114,16,114,20⟩ "back" 211 rNil ⟨114,16,114,25⟩ ⟨114,16,114,27⟩ rfl (of_decide_eq_true (by kernel_rfl)) (by kernel_rfl)) ⟨114,16,114,27⟩ rfl) lNil) ⟨111,12,114,27⟩) lNil)
noncomputable def b_Mill_through (w : World) (d : Nat) : SL (G w) d fi_Mill_through :=
(lCons (sWhil (c_Mill_through_110 w d) (l_Mill_through_110 w d) ⟨110,8,114,27⟩) (lCons (sRet (eFld "Mill" ct_Mill 185 "self" 0 ⟨115,15,115,19⟩ "worth" 2 ⟨115,15,115,25⟩ (by kernel_rfl) rfl rfl) ⟨115,8,115,25⟩) lNil))
theorem b_Mill_through_x (w : World) (d : Nat) : (b_Mill_through w d).xs = fd_Mill_through.st := by kernel_rfl
noncomputable def s_Mill_come_126_55 : Scope := ⟨.function, [(".0", .local), ("name", .local), ("self", .free)], false, false, []⟩
noncomputable def e_Mill_come_126_55 (w : World) (d : Nat) : T (G w) d (fi_Mill_come.inner s_Mill_come_126_55 "name" 3) := (eMeth "Mill" ct_Mill 185 "self" 0 ⟨126,56,126,60⟩ "stands_for" 192 (rCons (eVar "name" 3 ⟨126,72,126,76⟩ (by kernel_rfl)) rNil) ⟨126,56,126,71⟩ ⟨126,56,126,77⟩ rfl (of_decide_eq_true (by kernel_rfl)) (by kernel_rfl))
noncomputable def b_Mill_come (w : World) (d : Nat) : SL (G w) d fi_Mill_come :=
(lCons (sAsg "node" 1 (eFld "Mill" ct_Mill 185 "self" 0 ⟨118,15,118,19⟩ "node" 0 ⟨118,15,118,24⟩ (by kernel_rfl) rfl rfl) ⟨118,8,118,12⟩ ⟨118,8,118,24⟩ (by kernel_rfl)) (lCons (sFld "Mill" ct_Mill 185 "self" 0 ⟨119,8,119,12⟩ "node" 0 (eNone 0 ⟨119,20,119,24⟩) ⟨119,8,119,17⟩ ⟨119,8,119,24⟩ (by kernel_rfl) rfl rfl) (lCons (sIte false (eEq (eIdxV false "node" 1 ⟨120,11,120,15⟩ (eInt 0 0 ⟨120,16,120,17⟩) ⟨120,11,120,18⟩ (by kernel_rfl)) (eStr "num" z_num 0 ⟨120,22,120,27⟩ z_num_e z_num_k) ⟨120,11,120,27⟩)
(lCons (sFld "Mill" ct_Mill 185 "self" 0 ⟨121,12,121,16⟩ "worth" 2 (eIdxV false "node" 1 ⟨121,25,121,29⟩ (eInt 1 0 ⟨121,30,121,31⟩) ⟨121,25,121,32⟩ (by kernel_rfl)) ⟨121,12,121,22⟩ ⟨121,12,121,32⟩ (by kernel_rfl) rfl rfl) lNil)
(lCons (sIte false (eEq (eIdxV false "node" 1 ⟨122,13,122,17⟩ (eInt 0 0 ⟨122,18,122,19⟩) ⟨122,13,122,20⟩ (by kernel_rfl)) (eStr "name" z_name 0 ⟨122,24,122,30⟩ z_name_e z_name_k) ⟨122,13,122,30⟩)
(lCons (sFld "Mill" ct_Mill 185 "self" 0 ⟨123,12,123,16⟩ "worth" 2 (eMeth "Mill" ct_Mill 185 "self" 0 ⟨123,25,123,29⟩ "stands_for" 192 (rCons (eIdxV false "node" 1 ⟨123,41,123,45⟩ (eInt 1 0 ⟨123,46,123,47⟩) ⟨123,41,123,48⟩ (by kernel_rfl)) rNil) ⟨123,25,123,40⟩ ⟨123,25,123,49⟩ rfl (of_decide_eq_true (by kernel_rfl)) (by kernel_rfl)) ⟨123,12,123,22⟩ ⟨123,12,123,49⟩ (by kernel_rfl) rfl rfl) lNil)
(lCons (sIte false (eEq (eIdxV false "node" 1 ⟨124,13,124,17⟩ (eInt 0 0 ⟨124,18,124,19⟩) ⟨124,13,124,20⟩ (by kernel_rfl)) (eStr "fun" z_fun 0 ⟨124,24,124,29⟩ z_fun_e z_fun_k) ⟨124,13,124,29⟩)
(lCons (sAsg "names" 2 (eCall "free" 143 (rCons (eVar "node" 1 ⟨125,25,125,29⟩ (by kernel_rfl)) rNil) ⟨125,20,125,24⟩ ⟨125,20,125,30⟩ (by kernel_rfl)) ⟨125,12,125,17⟩ ⟨125,12,125,30⟩ (by kernel_rfl)) (lCons (sFld "Mill" ct_Mill 185 "self" 0 ⟨126,12,126,16⟩ "worth" 2 (eNewO "Kept" ct_Kept 164 (rCons (eIdxV false "node" 1 ⟨126,30,126,34⟩ (eInt 1 0 ⟨126,35,126,36⟩) ⟨126,30,126,37⟩ (by kernel_rfl)) (rCons (eIdxV false "node" 1 ⟨126,39,126,43⟩ (eInt 2 0 ⟨126,44,126,45⟩) ⟨126,39,126,46⟩ (by kernel_rfl)) (rCons (eVar "names" 2 ⟨126,48,126,53⟩ (by kernel_rfl)) (rCons (eCompW (some ("self", 0)) "name" 3 ⟨126,82,126,86⟩ (iList (eVar "names" 2 ⟨126,90,126,95⟩ (by kernel_rfl))) s_Mill_come_126_55 [] (e_Mill_come_126_55 w d) ⟨126,55,126,96⟩ (by kernel_rfl) (by kernel_rfl)) rNil)))) ⟨126,25,126,29⟩ ⟨126,25,126,97⟩ rfl (by kernel_rfl)) ⟨126,12,126,22⟩ ⟨126,12,126,97⟩ (by kernel_rfl) rfl rfl) (lCons (sAppF "Mill" ct_Mill 185 "self" 0 ⟨127,12,127,16⟩ "kepts" 1 (uFld "Mill" ct_Mill 185 "self" 0 ⟨127,30,127,34⟩ "worth" 2 ⟨127,30,127,40⟩ (by kernel_rfl) rfl rfl) ⟨127,12,127,22⟩ ⟨127,12,127,29⟩ ⟨127,12,127,41⟩ ⟨127,12,127,41⟩ (by kernel_rfl) rfl rfl) lNil)))
(lCons (sAppF "Mill" ct_Mill 185 "self" 0 ⟨129,12,129,16⟩ "above" 0 (uTup (uCons (uVar "node" 1 ⟨129,31,129,35⟩ (by kernel_rfl)) (uCons (uFld "Mill" ct_Mill 185 "self" 0 ⟨129,37,129,41⟩ "around" 1 ⟨129,37,129,48⟩ (by kernel_rfl) rfl rfl) (uCons (uTup uNil 0 ⟨129,50,129,52⟩ rfl) uNil))) 0 ⟨129,30,129,53⟩ rfl) ⟨129,12,129,22⟩ ⟨129,12,129,29⟩ ⟨129,12,129,54⟩ ⟨129,12,129,54⟩ (by kernel_rfl) rfl rfl) (lCons (sFld "Mill" ct_Mill 185 "self" 0 ⟨130,12,130,16⟩ "node" 0 (eIdxV false "node" 1 ⟨130,24,130,28⟩ (eInt 1 0 ⟨130,29,130,30⟩) ⟨130,24,130,31⟩ (by kernel_rfl)) ⟨130,12,130,21⟩ ⟨130,12,130,31⟩ (by kernel_rfl) rfl rfl) (lCons (sIte false (eEq (eIdxV false "node" 1 ⟨131,15,131,19⟩ (eInt 0 0 ⟨131,20,131,21⟩) ⟨131,15,131,22⟩ (by kernel_rfl)) (eStr "let" z_let 0 ⟨131,26,131,31⟩ z_let_e z_let_k) ⟨131,15,131,31⟩)
(lCons (sFld "Mill" ct_Mill 185 "self" 0 ⟨132,16,132,20⟩ "node" 0 (eIdxV false "node" 1 ⟨132,28,132,32⟩ (eInt 2 0 ⟨132,33,132,34⟩) ⟨132,28,132,35⟩ (by kernel_rfl)) ⟨132,16,132,25⟩ ⟨132,16,132,35⟩ (by kernel_rfl) rfl rfl) lNil)
lNil ⟨131,12,132,35⟩) lNil))) ⟨124,8,132,35⟩) lNil) ⟨122,8,132,35⟩) lNil) ⟨120,8,132,35⟩) lNil)))
theorem b_Mill_come_x (w : World) (d : Nat) : (b_Mill_come w d).xs = fd_Mill_come.st := by kernel_rfl
noncomputable def b_Mill_back (w : World) (d : Nat) : SL (G w) d fi_Mill_back :=
(lCons (sUnp [("node", 1, ⟨135,8,135,12⟩), ("around", 2, ⟨135,14,135,20⟩), ("ahead", 3, ⟨135,22,135,27⟩)] (ePopF "Mill" ct_Mill 185 "self" 0 ⟨135,30,135,34⟩ "above" 0 ⟨135,30,135,40⟩ ⟨135,30,135,44⟩ ⟨135,30,135,46⟩ (by kernel_rfl) rfl rfl) 0 ⟨135,8,135,27⟩ ⟨135,8,135,46⟩ (by kernel_rfl) fun _ => rfl) (lCons (sAsg "values" 4 (eAddT (eVar "ahead" 3 ⟨136,17,136,22⟩ (by kernel_rfl)) (eTup (rCons (eFld "Mill" ct_Mill 185 "self" 0 ⟨136,26,136,30⟩ "worth" 2 ⟨136,26,136,36⟩ (by kernel_rfl) rfl rfl) rNil) 0 ⟨136,25,136,38⟩ rfl) ⟨136,17,136,38⟩) ⟨136,8,136,14⟩ ⟨136,8,136,38⟩ (by kernel_rfl)) (lCons (sIte false (eBop (bCons false (eEq (eLen (eVar "values" 4 ⟨137,15,137,21⟩ (by kernel_rfl)) ⟨137,11,137,14⟩ ⟨137,11,137,22⟩ (by kernel_rfl)) (eInt 1 0 ⟨137,26,137,27⟩) ⟨137,11,137,27⟩) (bLast .And (eIn (eIdxV false "node" 1 ⟨137,32,137,36⟩ (eInt 0 0 ⟨137,37,137,38⟩) ⟨137,32,137,39⟩ (by kernel_rfl)) (eTup (rCons (eStr "call" z_call 0 ⟨137,44,137,50⟩ z_call_e z_call_k) (rCons (eStr "plus" z_plus 0 ⟨137,52,137,58⟩ z_plus_e z_plus_k) (rCons (eStr "less" z_less 0 ⟨137,60,137,66⟩ z_less_e z_less_k) rNil))) 0 ⟨137,43,137,67⟩ rfl) ⟨137,32,137,67⟩))) ⟨137,11,137,67⟩)
(lCons (sAppF "Mill" ct_Mill 185 "self" 0 ⟨138,12,138,16⟩ "above" 0 (uTup (uCons (uVar "node" 1 ⟨138,31,138,35⟩ (by kernel_rfl)) (uCons (uVar "around" 2 ⟨138,37,138,43⟩ (by kernel_rfl)) (uCons (uVar "values" 4 ⟨138,45,138,51⟩ (by kernel_rfl)) uNil))) 0 ⟨138,30,138,52⟩ rfl) ⟨138,12,138,22⟩ ⟨138,12,138,29⟩ ⟨138,12,138,53⟩ ⟨138,12,138,53⟩ (by kernel_rfl) rfl rfl) (lCons (sFld "Mill" ct_Mill 185 "self" 0 ⟨139,12,139,16⟩ "node" 0 (eIdxV false "node" 1 ⟨139,24,139,28⟩ (eInt 2 0 ⟨139,29,139,30⟩) ⟨139,24,139,31⟩ (by kernel_rfl)) ⟨139,12,139,21⟩ ⟨139,12,139,31⟩ (by kernel_rfl) rfl rfl) (lCons (sFld "Mill" ct_Mill 185 "self" 0 ⟨140,12,140,16⟩ "around" 1 (eVar "around" 2 ⟨140,26,140,32⟩ (by kernel_rfl)) ⟨140,12,140,23⟩ ⟨140,12,140,32⟩ (by kernel_rfl) rfl rfl) (lCons (sRet0 ⟨141,12,141,18⟩) lNil))))
lNil ⟨137,8,141,18⟩) (lCons (sIte true (eEq (eFld "Mill" ct_Mill 185 "self" 0 ⟨142,11,142,15⟩ "deeds" 4 ⟨142,11,142,21⟩ (by kernel_rfl) rfl rfl) (eFld "Mill" ct_Mill 185 "self" 0 ⟨142,25,142,29⟩ "most" 3 ⟨142,25,142,34⟩ (by kernel_rfl) rfl rfl) ⟨142,11,142,34⟩)
(lStuck [(.Raise (some (.Call (.Name "Dry" ⟨143,18,143,21⟩) [.Constant (.str "no value behind so many deeds") 0 ⟨143,22,143,53⟩] [] ⟨143,18,143,54⟩)) none ⟨143,12,143,54⟩)])
lNil ⟨142,8,143,54⟩) (lCons (sFld "Mill" ct_Mill 185 "self" 0 ⟨144,8,144,12⟩ "deeds" 4 (eAdd (eFld "Mill" ct_Mill 185 "self" 0 ⟨144,21,144,25⟩ "deeds" 4 ⟨144,21,144,31⟩ (by kernel_rfl) rfl rfl) (eInt 1 0 ⟨144,34,144,35⟩) ⟨144,21,144,35⟩) ⟨144,8,144,18⟩ ⟨144,8,144,35⟩ (by kernel_rfl) rfl rfl) (lCons (sIte false (eBop (bCons false (eEq (eIdxV false "node" 1 ⟨145,11,145,15⟩ (eInt 0 0 ⟨145,16,145,17⟩) ⟨145,11,145,18⟩ (by kernel_rfl)) (eStr "plus" z_plus 0 ⟨145,22,145,28⟩ z_plus_e z_plus_k) ⟨145,11,145,28⟩) (bLast .Or (eEq (eIdxV false "node" 1 ⟨145,32,145,36⟩ (eInt 0 0 ⟨145,37,145,38⟩) ⟨145,32,145,39⟩ (by kernel_rfl)) (eStr "less" z_less 0 ⟨145,43,145,49⟩ z_less_e z_less_k) ⟨145,32,145,49⟩))) ⟨145,11,145,49⟩)
(lCons (sExpr (eMeth "Mill" ct_Mill 185 "self" 0 ⟨146,12,146,16⟩ "reckon" 218 (rCons (eIdxV false "node" 1 ⟨146,24,146,28⟩ (eInt 0 0 ⟨146,29,146,30⟩) ⟨146,24,146,31⟩ (by kernel_rfl)) (rCons (eIdxV false "values" 4 ⟨146,33,146,39⟩ (eInt 0 0 ⟨146,40,146,41⟩) ⟨146,33,146,42⟩ (by kernel_rfl)) (rCons (eIdxV false "values" 4 ⟨146,44,146,50⟩ (eInt 1 0 ⟨146,51,146,52⟩) ⟨146,44,146,53⟩ (by kernel_rfl)) rNil))) ⟨146,12,146,23⟩ ⟨146,12,146,54⟩ rfl (of_decide_eq_true (by kernel_rfl)) (by kernel_rfl)) ⟨146,12,146,54⟩ rfl) lNil)
(lCons (sIte false (eEq (eIdxV false "node" 1 ⟨147,13,147,17⟩ (eInt 0 0 ⟨147,18,147,19⟩) ⟨147,13,147,20⟩ (by kernel_rfl)) (eStr "call" z_call 0 ⟨147,24,147,30⟩ z_call_e z_call_k) ⟨147,13,147,30⟩)
(lCons (sExpr (eMeth "Mill" ct_Mill 185 "self" 0 ⟨148,12,148,16⟩ "enter" 225 (rCons (eIdxV false "values" 4 ⟨148,23,148,29⟩ (eInt 0 0 ⟨148,30,148,31⟩) ⟨148,23,148,32⟩ (by kernel_rfl)) (rCons (eIdxV false "values" 4 ⟨148,34,148,40⟩ (eInt 1 0 ⟨148,41,148,42⟩) ⟨148,34,148,43⟩ (by kernel_rfl)) rNil)) ⟨148,12,148,22⟩ ⟨148,12,148,44⟩ rfl (of_decide_eq_true (by kernel_rfl)) (by kernel_rfl)) ⟨148,12,148,44⟩ rfl) lNil)
(lCons (sIte false (eEq (eIdxV false "node" 1 ⟨149,13,149,17⟩ (eInt 0 0 ⟨149,18,149,19⟩) ⟨149,13,149,20⟩ (by kernel_rfl)) (eStr "let" z_let 0 ⟨149,24,149,29⟩ z_let_e z_let_k) ⟨149,13,149,29⟩)
(lCons (sFld "Mill" ct_Mill 185 "self" 0 ⟨150,12,150,16⟩ "node" 0 (eIdxV false "node" 1 ⟨150,24,150,28⟩ (eInt 3 0 ⟨150,29,150,30⟩) ⟨150,24,150,31⟩ (by kernel_rfl)) ⟨150,12,150,21⟩ ⟨150,12,150,31⟩ (by kernel_rfl) rfl rfl) (lCons (sFld "Mill" ct_Mill 185 "self" 0 ⟨151,12,151,16⟩ "around" 1 (eTup (rCons (eIdxV false "node" 1 ⟨151,27,151,31⟩ (eInt 1 0 ⟨151,32,151,33⟩) ⟨151,27,151,34⟩ (by kernel_rfl)) (rCons (eIdxV false "values" 4 ⟨151,36,151,42⟩ (eInt 0 0 ⟨151,43,151,44⟩) ⟨151,36,151,45⟩ (by kernel_rfl)) (rCons (eVar "around" 2 ⟨151,47,151,53⟩ (by kernel_rfl)) rNil))) 0 ⟨151,26,151,54⟩ rfl) ⟨151,12,151,23⟩ ⟨151,12,151,54⟩ (by kernel_rfl) rfl rfl) lNil))
(lCons (sExpr (eMeth "Mill" ct_Mill 185 "self" 0 ⟨153,12,153,16⟩ "choose" 232 (rCons (eVar "node" 1 ⟨153,24,153,28⟩ (by kernel_rfl)) (rCons (eIdxV false "values" 4 ⟨153,30,153,36⟩ (eInt 0 0 ⟨153,37,153,38⟩) ⟨153,30,153,39⟩ (by kernel_rfl)) (rCons (eVar "around" 2 ⟨153,41,153,47⟩ (by kernel_rfl)) rNil))) ⟨153,12,153,23⟩ ⟨153,12,153,48⟩ rfl (of_decide_eq_true (by kernel_rfl)) (by kernel_rfl)) ⟨153,12,153,48⟩ rfl) lNil) ⟨149,8,153,48⟩) lNil) ⟨147,8,153,48⟩) lNil) ⟨145,8,153,48⟩) lNil))))))
theorem b_Mill_back_x (w : World) (d : Nat) : (b_Mill_back w d).xs = fd_Mill_back.st := by kernel_rfl
noncomputable def l_Mill_enter_166 (w : World) (d : Nat) : SL (G w) d fi_Mill_enter :=
(lCons (sAsg "around" 3 (eTup (rCons (eVar "name" 4 ⟨167,22,167,26⟩ (by kernel_rfl)) (rCons (eVar "held" 5 ⟨167,28,167,32⟩ (by kernel_rfl)) (rCons (eVar "around" 3 ⟨167,34,167,40⟩ (by kernel_rfl)) rNil))) 0 ⟨167,21,167,41⟩ rfl) ⟨167,12,167,18⟩ ⟨167,12,167,41⟩ (by kernel_rfl)) lNil)
noncomputable def b_Mill_enter (w : World) (d : Nat) : SL (G w) d fi_Mill_enter :=
(lCons (sIte false (eNot (eIsC "Kept" ct_Kept 164 (eVar "kept" 1 ⟨163,26,163,30⟩ (by kernel_rfl)) ⟨163,15,163,25⟩ ⟨163,32,163,36⟩ ⟨163,15,163,37⟩ rfl (by kernel_rfl)) ⟨163,11,163,37⟩)
(lStuck [(.Raise (some (.Call (.Name "NoFunction" ⟨164,18,164,28⟩) [.Constant (.str "a number is called") 0 ⟨164,29,164,49⟩] [] ⟨164,18,164,50⟩)) none ⟨164,12,164,50⟩)])
lNil ⟨163,8,164,50⟩) (lCons (sAsg "around" 3 (eNone 0 ⟨165,17,165,21⟩) ⟨165,8,165,14⟩ ⟨165,8,165,21⟩ (by kernel_rfl)) (lCons (sForZ [("name", 4, ⟨166,12,166,16⟩), ("held", 5, ⟨166,18,166,22⟩)] 0 (eAttr "Kept" ct_Kept 164 "kept" 1 ⟨166,30,166,34⟩ "names" 2 ⟨166,30,166,40⟩ (by kernel_rfl) rfl rfl) (eAttr "Kept" ct_Kept 164 "kept" 1 ⟨166,42,166,46⟩ "held" 3 ⟨166,42,166,51⟩ (by kernel_rfl) rfl rfl) (l_Mill_enter_166 w d) ⟨166,26,166,29⟩ ⟨166,26,166,52⟩ ⟨166,12,166,22⟩ ⟨166,8,167,41⟩ (by kernel_rfl)) (lCons (sFld "Mill" ct_Mill 185 "self" 0 ⟨168,8,168,12⟩ "around" 1 (eTup (rCons (eAttr "Kept" ct_Kept 164 "kept" 1 ⟨168,23,168,27⟩ "name" 0 ⟨168,23,168,32⟩ (by kernel_rfl) rfl rfl) (rCons (eVar "worth" 2 ⟨168,34,168,39⟩ (by kernel_rfl)) (rCons (eVar "around" 3 ⟨168,41,168,47⟩ (by kernel_rfl)) rNil))) 0 ⟨168,22,168,48⟩ rfl) ⟨168,8,168,19⟩ ⟨168,8,168,48⟩ (by kernel_rfl) rfl rfl) (lCons (sFld "Mill" ct_Mill 185 "self" 0 ⟨169,8,169,12⟩ "node" 0 (eAttr "Kept" ct_Kept 164 "kept" 1 ⟨169,20,169,24⟩ "body" 1 ⟨169,20,169,29⟩ (by kernel_rfl) rfl rfl) ⟨169,8,169,17⟩ ⟨169,8,169,29⟩ (by kernel_rfl) rfl rfl) lNil)))))
theorem b_Mill_enter_x (w : World) (d : Nat) : (b_Mill_enter w d).xs = fd_Mill_enter.st := by kernel_rfl
noncomputable def b_made (w : World) (d : Nat) : SL (G w) d fi_made :=
(lCons (sExpr (eCall "need" 150 (rCons (eVar "tree" 0 ⟨179,9,179,13⟩ (by kernel_rfl)) (rCons (eVar "most" 1 ⟨179,15,179,19⟩ (by kernel_rfl)) rNil)) ⟨179,4,179,8⟩ ⟨179,4,179,20⟩ (by kernel_rfl)) ⟨179,4,179,20⟩ rfl) (lCons (sAsg "mill" 2 (eNewO "Mill" ct_Mill 185 (rCons (eVar "tree" 0 ⟨180,16,180,20⟩ (by kernel_rfl)) (rCons (eVar "most" 1 ⟨180,22,180,26⟩ (by kernel_rfl)) rNil)) ⟨180,11,180,15⟩ ⟨180,11,180,27⟩ rfl (by kernel_rfl)) ⟨180,4,180,8⟩ ⟨180,4,180,27⟩ (by kernel_rfl)) (lCons (sExpr (eMeth "Mill" ct_Mill 185 "mill" 2 ⟨181,4,181,8⟩ "through" 199 rNil ⟨181,4,181,16⟩ ⟨181,4,181,18⟩ rfl (of_decide_eq_true (by kernel_rfl)) (by kernel_rfl)) ⟨181,4,181,18⟩ rfl) (lCons (sRet (eFldL "Mill" ct_Mill 185 "mill" 2 ⟨182,11,182,15⟩ "kepts" 1 ⟨182,11,182,21⟩ (by kernel_rfl) rfl rfl) ⟨182,4,182,21⟩) lNil))))
theorem b_made_x (w : World) (d : Nat) : (b_made w d).xs = fd_made.st := by kernel_rfl
noncomputable def b__law_cell_at (w : World) (d : Nat) : SL (G w) d fi__law_cell_at :=
(lCons (sIte true (eLt (eVar "_law_k" 1 ⟨185,7,185,13⟩ (by kernel_rfl)) (eLen (eVar "_law_script" 0 ⟨185,20,185,31⟩ (by kernel_rfl)) ⟨185,16,185,19⟩ ⟨185,16,185,32⟩ (by kernel_rfl)) ⟨185,7,185,32⟩)
(lCons (sRet (eIdxV true "_law_script" 0 ⟨186,15,186,26⟩ (eVar "_law_k" 1 ⟨186,27,186,33⟩ (by kernel_rfl)) ⟨186,15,186,34⟩ (by kernel_rfl)) ⟨186,8,186,34⟩) lNil)
lNil ⟨185,4,186,34⟩) (lCons (sRet (eInt 0 0 ⟨187,11,187,12⟩) ⟨187,4,187,12⟩) lNil))
theorem b__law_cell_at_x (w : World) (d : Nat) : (b__law_cell_at w d).xs = fd__law_cell_at.st := by kernel_rfl
noncomputable def l__law_name_by_191 (w : World) (d : Nat) : SL (G w) d fi__law_name_by :=
(lCons (sAsg "_law_common" 2 (eCat (eVar "_law_common" 2 ⟨192,22,192,33⟩ (by kernel_rfl)) (eIdxV true "_law_letters" 1 ⟨192,36,192,48⟩ (eMod (eAdd (eDiv (eVar "_law_cell" 0 ⟨192,50,192,59⟩ (by kernel_rfl)) (eInt 208 0 ⟨192,63,192,66⟩) ⟨192,50,192,66⟩) (eMul (eInt 19 0 ⟨192,69,192,71⟩) (eVar "_law_turn" 3 ⟨192,74,192,83⟩ (by kernel_rfl)) ⟨192,69,192,83⟩) ⟨192,50,192,83⟩) (eInt 26 0 ⟨192,87,192,89⟩) ⟨192,49,192,89⟩) ⟨192,36,192,90⟩ (by kernel_rfl)) ⟨192,22,192,90⟩) ⟨192,8,192,19⟩ ⟨192,8,192,90⟩ (by kernel_rfl)) lNil)
noncomputable def b__law_name_by (w : World) (d : Nat) : SL (G w) d fi__law_name_by :=
(lCons (sAsg "_law_letters" 1 (eStr "abcdefghijklmnopqrstuvwxyz" z_abcdefghijklmnopqrstuvwxyz 0 ⟨189,19,189,47⟩ z_abcdefghijklmnopqrstuvwxyz_e z_abcdefghijklmnopqrstuvwxyz_k) ⟨189,4,189,16⟩ ⟨189,4,189,47⟩ (by kernel_rfl)) (lCons (sAsg "_law_common" 2 (eStr "" z_ 0 ⟨190,18,190,20⟩ z__e z__k) ⟨190,4,190,15⟩ ⟨190,4,190,20⟩ (by kernel_rfl)) (lCons (sFor "_law_turn" (iRange (rCons (eMod (eDiv (eVar "_law_cell" 0 ⟨191,27,191,36⟩ (by kernel_rfl)) (eInt 26 0 ⟨191,40,191,42⟩) ⟨191,27,191,42⟩) (eInt 8 0 ⟨191,45,191,46⟩) ⟨191,27,191,46⟩) rNil) ⟨191,21,191,26⟩ ⟨191,21,191,47⟩ (by kernel_rfl)) (l__law_name_by_191 w d) ⟨191,8,191,17⟩ ⟨191,4,192,90⟩) (lCons (sAsg "_law_at" 4 (eMod (eDiv (eVar "_law_cell" 0 ⟨193,14,193,23⟩ (by kernel_rfl)) (eInt 208 0 ⟨193,27,193,30⟩) ⟨193,14,193,30⟩) (eAdd (eLen (eVar "_law_common" 2 ⟨193,38,193,49⟩ (by kernel_rfl)) ⟨193,34,193,37⟩ ⟨193,34,193,50⟩ (by kernel_rfl)) (eInt 1 0 ⟨193,53,193,54⟩) ⟨193,34,193,54⟩) ⟨193,14,193,55⟩) ⟨193,4,193,11⟩ ⟨193,4,193,55⟩ (by kernel_rfl)) (lCons (sAsg "_law_word" 5 (eCat (eCat (eSlc (eVar "_law_common" 2 ⟨194,16,194,27⟩ (by kernel_rfl)) dNone (dSome (eVar "_law_at" 4 ⟨194,29,194,36⟩ (by kernel_rfl))) ⟨194,28,194,36⟩ ⟨194,16,194,37⟩) (eIdxV true "_law_letters" 1 ⟨194,40,194,52⟩ (eMod (eVar "_law_cell" 0 ⟨194,53,194,62⟩ (by kernel_rfl)) (eInt 26 0 ⟨194,65,194,67⟩) ⟨194,53,194,67⟩) ⟨194,40,194,68⟩ (by kernel_rfl)) ⟨194,16,194,68⟩) (eSlc (eVar "_law_common" 2 ⟨194,71,194,82⟩ (by kernel_rfl)) (dSome (eVar "_law_at" 4 ⟨194,83,194,90⟩ (by kernel_rfl))) dNone ⟨194,83,194,91⟩ ⟨194,71,194,92⟩) ⟨194,16,194,92⟩) ⟨194,4,194,13⟩ ⟨194,4,194,92⟩ (by kernel_rfl)) (lCons (sIte true (eIn (eVar "_law_word" 5 ⟨195,7,195,16⟩ (by kernel_rfl)) (eTup (rCons (eStr "num" z_num 0 ⟨195,21,195,26⟩ z_num_e z_num_k) (rCons (eStr "name" z_name 0 ⟨195,28,195,34⟩ z_name_e z_name_k) (rCons (eStr "fun" z_fun 0 ⟨195,36,195,41⟩ z_fun_e z_fun_k) (rCons (eStr "call" z_call 0 ⟨195,43,195,49⟩ z_call_e z_call_k) (rCons (eStr "plus" z_plus 0 ⟨195,51,195,57⟩ z_plus_e z_plus_k) (rCons (eStr "less" z_less 0 ⟨195,59,195,65⟩ z_less_e z_less_k) (rCons (eStr "if" z_if 0 ⟨195,67,195,71⟩ z_if_e z_if_k) (rCons (eStr "let" z_let 0 ⟨195,73,195,78⟩ z_let_e z_let_k) rNil)))))))) 0 ⟨195,20,195,79⟩ rfl) ⟨195,7,195,79⟩)
(lCons (sRet (eIdxV true "_law_letters" 1 ⟨196,15,196,27⟩ (eMod (eVar "_law_cell" 0 ⟨196,28,196,37⟩ (by kernel_rfl)) (eInt 26 0 ⟨196,40,196,42⟩) ⟨196,28,196,42⟩) ⟨196,15,196,43⟩ (by kernel_rfl)) ⟨196,8,196,43⟩) lNil)
lNil ⟨195,4,196,43⟩) (lCons (sRetV "_law_word" 5 ⟨197,11,197,20⟩ ⟨197,4,197,20⟩ (by kernel_rfl)) lNil)))))))
theorem b__law_name_by_x (w : World) (d : Nat) : (b__law_name_by w d).xs = fd__law_name_by.st := by kernel_rfl
noncomputable def l__law_body_200 (w : World) (d : Nat) : SL (G w) d fi__law_body :=
(lCons (sAsg "_law_tree" 2 (eTup (rCons (eStr "plus" z_plus 0 ⟨201,21,201,27⟩ z_plus_e z_plus_k) (rCons (eTup (rCons (eStr "name" z_name 0 ⟨201,30,201,36⟩ z_name_e z_name_k) (rCons (eVar "_law_name" 3 ⟨201,38,201,47⟩ (by kernel_rfl)) rNil)) 0 ⟨201,29,201,48⟩ rfl) (rCons (eVar "_law_tree" 2 ⟨201,50,201,59⟩ (by kernel_rfl)) rNil))) 0 ⟨201,20,201,60⟩ rfl) ⟨201,8,201,17⟩ ⟨201,8,201,60⟩ (by kernel_rfl)) lNil)
noncomputable def b__law_body (w : World) (d : Nat) : SL (G w) d fi__law_body :=
(lCons (sAsg "_law_tree" 2 (eTup (rCons (eStr "num" z_num 0 ⟨199,17,199,22⟩ z_num_e z_num_k) (rCons (eVar "_law_number" 1 ⟨199,24,199,35⟩ (by kernel_rfl)) rNil)) 0 ⟨199,16,199,36⟩ rfl) ⟨199,4,199,13⟩ ⟨199,4,199,36⟩ (by kernel_rfl)) (lCons (sFor "_law_name" (iRev (eVar "_law_row_here" 0 ⟨200,30,200,43⟩ (by kernel_rfl)) ⟨200,21,200,29⟩ ⟨200,21,200,44⟩ (by kernel_rfl)) (l__law_body_200 w d) ⟨200,8,200,17⟩ ⟨200,4,201,60⟩) (lCons (sRetV "_law_tree" 2 ⟨202,11,202,20⟩ ⟨202,4,202,20⟩ (by kernel_rfl)) lNil)))
theorem b__law_body_x (w : World) (d : Nat) : (b__law_body w d).xs = fd__law_body.st := by kernel_rfl
noncomputable def l__law_row_205 (w : World) (d : Nat) : SL (G w) d fi__law_row :=
(lCons (sApp "_law_row_here" 2 (eIdxV true "_law_names" 1 ⟨206,29,206,39⟩ (eMod (eDiv (eDiv (eVar "_law_cell" 0 ⟨206,40,206,49⟩ (by kernel_rfl)) (eInt 7 0 ⟨206,53,206,54⟩) ⟨206,40,206,54⟩) (eIdx true (eLst (rCons (eInt 1 0 ⟨206,59,206,60⟩) (rCons (eInt 3 0 ⟨206,62,206,63⟩) (rCons (eInt 9 0 ⟨206,65,206,66⟩) (rCons (eInt 27 0 ⟨206,68,206,70⟩) (rCons (eInt 81 0 ⟨206,72,206,74⟩) (rCons (eInt 243 0 ⟨206,76,206,79⟩) rNil)))))) ⟨206,58,206,80⟩ rfl) (eVar "_law_turn" 3 ⟨206,81,206,90⟩ (by kernel_rfl)) ⟨206,58,206,91⟩) ⟨206,40,206,91⟩) (eLen (eVar "_law_names" 1 ⟨206,98,206,108⟩ (by kernel_rfl)) ⟨206,94,206,97⟩ ⟨206,94,206,109⟩ (by kernel_rfl)) ⟨206,40,206,109⟩) ⟨206,29,206,110⟩ (by kernel_rfl)) ⟨206,8,206,21⟩ ⟨206,8,206,28⟩ ⟨206,8,206,111⟩ ⟨206,8,206,111⟩ (by kernel_rfl)) lNil)
noncomputable def b__law_row (w : World) (d : Nat) : SL (G w) d fi__law_row :=
(lCons (sAsg "_law_row_here" 2 (eLst rNil ⟨204,20,204,22⟩ rfl) ⟨204,4,204,17⟩ ⟨204,4,204,22⟩ (by kernel_rfl)) (lCons (sFor "_law_turn" (iRange (rCons (eMod (eVar "_law_cell" 0 ⟨205,27,205,36⟩ (by kernel_rfl)) (eInt 7 0 ⟨205,39,205,40⟩) ⟨205,27,205,40⟩) rNil) ⟨205,21,205,26⟩ ⟨205,21,205,41⟩ (by kernel_rfl)) (l__law_row_205 w d) ⟨205,8,205,17⟩ ⟨205,4,206,111⟩) (lCons (sRetV "_law_row_here" 2 ⟨207,11,207,24⟩ ⟨207,4,207,24⟩ (by kernel_rfl)) lNil)))
theorem b__law_row_x (w : World) (d : Nat) : (b__law_row w d).xs = fd__law_row.st := by kernel_rfl
noncomputable def l__law_once_210 (w : World) (d : Nat) : SL (G w) d fi__law_once :=
(lCons (sIte true (eBop (bCons false (eNotInP (eVar "_law_name" 3 ⟨211,11,211,20⟩ (by kernel_rfl)) (eVar "_law_found" 2 ⟨211,28,211,38⟩ (by kernel_rfl)) ⟨211,11,211,38⟩) (bLast .And (eNe (eVar "_law_name" 3 ⟨211,43,211,52⟩ (by kernel_rfl)) (eVar "_law_without" 1 ⟨211,56,211,68⟩ (by kernel_rfl)) ⟨211,43,211,68⟩))) ⟨211,11,211,68⟩)
(lCons (sApp "_law_found" 2 (eVar "_law_name" 3 ⟨212,30,212,39⟩ (by kernel_rfl)) ⟨212,12,212,22⟩ ⟨212,12,212,29⟩ ⟨212,12,212,40⟩ ⟨212,12,212,40⟩ (by kernel_rfl)) lNil)
lNil ⟨211,8,212,40⟩) lNil)
noncomputable def b__law_once (w : World) (d : Nat) : SL (G w) d fi__law_once :=
(lCons (sAsg "_law_found" 2 (eLst rNil ⟨209,17,209,19⟩ rfl) ⟨209,4,209,14⟩ ⟨209,4,209,19⟩ (by kernel_rfl)) (lCons (sFor "_law_name" (iList (eVar "_law_row_here" 0 ⟨210,21,210,34⟩ (by kernel_rfl))) (l__law_once_210 w d) ⟨210,8,210,17⟩ ⟨210,4,212,40⟩) (lCons (sRetV "_law_found" 2 ⟨213,11,213,21⟩ ⟨213,4,213,21⟩ (by kernel_rfl)) lNil)))
theorem b__law_once_x (w : World) (d : Nat) : (b__law_once w d).xs = fd__law_once.st := by kernel_rfl
noncomputable def b__law_whole (w : World) (d : Nat) : SL (G w) d fi__law_whole :=
(lCons (sRet (eBop (bCons false (eIsi (eVar "_law_found" 0 ⟨215,22,215,32⟩ (by kernel_rfl)) .int ⟨215,11,215,21⟩ ⟨215,34,215,37⟩ ⟨215,11,215,38⟩ (by kernel_rfl)) (bLast .And (eNot (eIsi (eVar "_law_found" 0 ⟨215,59,215,69⟩ (by kernel_rfl)) .bool ⟨215,48,215,58⟩ ⟨215,71,215,75⟩ ⟨215,48,215,76⟩ (by kernel_rfl)) ⟨215,44,215,76⟩))) ⟨215,11,215,77⟩) ⟨215,4,215,77⟩) lNil)
theorem b__law_whole_x (w : World) (d : Nat) : (b__law_whole w d).xs = fd__law_whole.st := by kernel_rfl
noncomputable def b__law_held_right (w : World) (d : Nat) : SL (G w) d fi__law_held_right :=
(lCons (sIte false (eNot (eIsi (eVar "_law_due" 1 ⟨217,22,217,30⟩ (by kernel_rfl)) .tuple ⟨217,11,217,21⟩ ⟨217,32,217,37⟩ ⟨217,11,217,38⟩ (by kernel_rfl)) ⟨217,7,217,38⟩)
(lCons (sRet (eBop (bCons false (eCall "_law_whole" 288 (rCons (eVar "_law_found" 0 ⟨218,26,218,36⟩ (by kernel_rfl)) rNil) ⟨218,15,218,25⟩ ⟨218,15,218,37⟩ (by kernel_rfl)) (bLast .And (eEqS (eVar "_law_found" 0 ⟨218,42,218,52⟩ (by kernel_rfl)) (eVar "_law_due" 1 ⟨218,56,218,64⟩ (by kernel_rfl)) ⟨218,42,218,64⟩))) ⟨218,15,218,64⟩) ⟨218,8,218,64⟩) lNil)
lNil ⟨217,4,218,64⟩) (lCons (sRet (eBop (bCons false (eIsC "Kept" ct_Kept 164 (eVar "_law_found" 0 ⟨219,22,219,32⟩ (by kernel_rfl)) ⟨219,11,219,21⟩ ⟨219,34,219,38⟩ ⟨219,11,219,39⟩ rfl (by kernel_rfl)) (bCons false (eEqS (eAttr "Kept" ct_Kept 164 "_law_found" 0 ⟨219,44,219,54⟩ "name" 0 ⟨219,44,219,59⟩ (by kernel_rfl) rfl rfl) (eIdxV false "_law_due" 1 ⟨219,63,219,71⟩ (eInt 0 0 ⟨219,72,219,73⟩) ⟨219,63,219,74⟩ (by kernel_rfl)) ⟨219,44,219,74⟩) (bLast .And (eEqS (eAttr "Kept" ct_Kept 164 "_law_found" 0 ⟨219,80,219,90⟩ "body" 1 ⟨219,80,219,95⟩ (by kernel_rfl) rfl rfl) (eIdxV false "_law_due" 1 ⟨219,99,219,107⟩ (eInt 1 0 ⟨219,108,219,109⟩) ⟨219,99,219,110⟩ (by kernel_rfl)) ⟨219,80,219,110⟩)))) ⟨219,11,219,111⟩) ⟨219,4,219,111⟩) lNil))
theorem b__law_held_right_x (w : World) (d : Nat) : (b__law_held_right w d).xs = fd__law_held_right.st := by kernel_rfl
noncomputable def l__law_kept_right_225 (w : World) (d : Nat) : SL (G w) d fi__law_kept_right :=
(lCons (sIte false (eNot (eCall "_law_held_right" 295 (rCons (eVar "_law_value" 2 ⟨226,31,226,41⟩ (by kernel_rfl)) (rCons (eVar "_law_worth" 3 ⟨226,43,226,53⟩ (by kernel_rfl)) rNil)) ⟨226,15,226,30⟩ ⟨226,15,226,54⟩ (by kernel_rfl)) ⟨226,11,226,54⟩)
(lCons (sRet (eBool false 0 ⟨227,19,227,24⟩) ⟨227,12,227,24⟩) lNil)
lNil ⟨226,8,227,24⟩) lNil)
noncomputable def b__law_kept_right (w : World) (d : Nat) : SL (G w) d fi__law_kept_right :=
(lCons (sIte false (eBop (bCons false (eNot (eIsC "Kept" ct_Kept 164 (eVar "_law_one" 0 ⟨221,22,221,30⟩ (by kernel_rfl)) ⟨221,11,221,21⟩ ⟨221,32,221,36⟩ ⟨221,11,221,37⟩ rfl (by kernel_rfl)) ⟨221,7,221,37⟩) (bCons false (eNeS (eAttr "Kept" ct_Kept 164 "_law_one" 0 ⟨221,41,221,49⟩ "name" 0 ⟨221,41,221,54⟩ (by kernel_rfl) rfl rfl) (eIdxV false "_law_row_here" 1 ⟨221,58,221,71⟩ (eInt 0 0 ⟨221,72,221,73⟩) ⟨221,58,221,74⟩ (by kernel_rfl)) ⟨221,41,221,74⟩) (bCons false (eNeS (eAttr "Kept" ct_Kept 164 "_law_one" 0 ⟨221,78,221,86⟩ "body" 1 ⟨221,78,221,91⟩ (by kernel_rfl) rfl rfl) (eIdxV false "_law_row_here" 1 ⟨221,95,221,108⟩ (eInt 1 0 ⟨221,109,221,110⟩) ⟨221,95,221,111⟩ (by kernel_rfl)) ⟨221,78,221,111⟩) (bLast .Or (eNeS (eAttr "Kept" ct_Kept 164 "_law_one" 0 ⟨221,116,221,124⟩ "names" 2 ⟨221,116,221,130⟩ (by kernel_rfl) rfl rfl) (eIdxV false "_law_row_here" 1 ⟨221,134,221,147⟩ (eInt 2 0 ⟨221,148,221,149⟩) ⟨221,134,221,150⟩ (by kernel_rfl)) ⟨221,116,221,150⟩))))) ⟨221,7,221,151⟩)
(lCons (sRet (eBool false 0 ⟨222,15,222,20⟩) ⟨222,8,222,20⟩) lNil)
lNil ⟨221,4,222,20⟩) (lCons (sIte false (eBop (bCons false (eNot (eIsi (eAttr "Kept" ct_Kept 164 "_law_one" 0 ⟨223,22,223,30⟩ "held" 3 ⟨223,22,223,35⟩ (by kernel_rfl) rfl rfl) .list ⟨223,11,223,21⟩ ⟨223,37,223,41⟩ ⟨223,11,223,42⟩ (by kernel_rfl)) ⟨223,7,223,42⟩) (bLast .Or (eNeS (eLen (eAttr "Kept" ct_Kept 164 "_law_one" 0 ⟨223,50,223,58⟩ "held" 3 ⟨223,50,223,63⟩ (by kernel_rfl) rfl rfl) ⟨223,46,223,49⟩ ⟨223,46,223,64⟩ (by kernel_rfl)) (eLen (eIdxV false "_law_row_here" 1 ⟨223,72,223,85⟩ (eInt 3 0 ⟨223,86,223,87⟩) ⟨223,72,223,88⟩ (by kernel_rfl)) ⟨223,68,223,71⟩ ⟨223,68,223,89⟩ (by kernel_rfl)) ⟨223,46,223,89⟩))) ⟨223,7,223,89⟩)
(lCons (sRet (eBool false 0 ⟨224,15,224,20⟩) ⟨224,8,224,20⟩) lNil)
lNil ⟨223,4,224,20⟩) (lCons (sForZ [("_law_value", 2, ⟨225,8,225,18⟩), ("_law_worth", 3, ⟨225,20,225,30⟩)] 0 (eAttr "Kept" ct_Kept 164 "_law_one" 0 ⟨225,38,225,46⟩ "held" 3 ⟨225,38,225,51⟩ (by kernel_rfl) rfl rfl) (eIdxV false "_law_row_here" 1 ⟨225,53,225,66⟩ (eInt 3 0 ⟨225,67,225,68⟩) ⟨225,53,225,69⟩ (by kernel_rfl)) (l__law_kept_right_225 w d) ⟨225,34,225,37⟩ ⟨225,34,225,70⟩ ⟨225,8,225,30⟩ ⟨225,4,227,24⟩ (by kernel_rfl)) (lCons (sRet (eBool true 0 ⟨228,11,228,15⟩) ⟨228,4,228,15⟩) lNil))))
theorem b__law_kept_right_x (w : World) (d : Nat) : (b__law_kept_right w d).xs = fd__law_kept_right.st := by kernel_rfl
noncomputable def s__law_values_231_23 : Scope := ⟨.function, [(".0", .local), ("_law_name", .local), ("_law_outer", .free), ("_law_stands", .free), ("_law_worth", .free)], false, false, []⟩
noncomputable def e__law_values_231_23 (w : World) (d : Nat) : T (G w) d (fi__law_values.inner s__law_values_231_23 "_law_name" 5) := (eIte true (eEq (eVar "_law_name" 5 ⟨231,38,231,47⟩ (by kernel_rfl)) (eVar "_law_outer" 2 ⟨231,51,231,61⟩ (by kernel_rfl)) ⟨231,38,231,61⟩) (eVar "_law_worth" 3 ⟨231,24,231,34⟩ (by kernel_rfl)) (eDicV "_law_stands" 1 ⟨231,67,231,78⟩ (eVar "_law_name" 5 ⟨231,79,231,88⟩ (by kernel_rfl)) ⟨231,67,231,89⟩ (by kernel_rfl)) ⟨231,24,231,89⟩ rfl)
noncomputable def b__law_values (w : World) (d : Nat) : SL (G w) d fi__law_values :=
(lCons (sAsg "_law_some" 4 (eCall "_law_once" 281 (rCons (eVar "_law_row_here" 0 ⟨230,26,230,39⟩ (by kernel_rfl)) (rCons (eStr "" z_ 0 ⟨230,41,230,43⟩ z__e z__k) rNil)) ⟨230,16,230,25⟩ ⟨230,16,230,44⟩ (by kernel_rfl)) ⟨230,4,230,13⟩ ⟨230,4,230,44⟩ (by kernel_rfl)) (lCons (sRet (eTup (rCons (eVar "_law_some" 4 ⟨231,12,231,21⟩ (by kernel_rfl)) (rCons (eCompW (some ("_law_stands", 1)) "_law_name" 5 ⟨231,94,231,103⟩ (iList (eVar "_law_some" 4 ⟨231,107,231,116⟩ (by kernel_rfl))) s__law_values_231_23 [] (e__law_values_231_23 w d) ⟨231,23,231,117⟩ (by kernel_rfl) (by kernel_rfl)) rNil)) 0 ⟨231,11,231,118⟩ rfl) ⟨231,4,231,118⟩) lNil))
theorem b__law_values_x (w : World) (d : Nat) : (b__law_values w d).xs = fd__law_values.st := by kernel_rfl
noncomputable def s__law_let_246_60 : Scope := ⟨.function, [(".0", .local), ("_law_name", .local), ("_law_stands", .free)], false, false, []⟩
noncomputable def e__law_let_246_60 (w : World) (d : Nat) : T (G w) d (fi__law_let.inner s__law_let_246_60 "_law_name" 14) := (eDicV "_law_stands" 3 ⟨246,61,246,72⟩ (eVar "_law_name" 14 ⟨246,73,246,82⟩ (by kernel_rfl)) ⟨246,61,246,83⟩ (by kernel_rfl))
noncomputable def x__law_let_0 (w : World) (d : Nat) : SS (G w) d fi__law_let :=
(sAsg "_law_way" 6 (eTell (eMod (eVar "_law_cell" 0 ⟨233,15,233,24⟩ (by kernel_rfl)) (eInt 4 0 ⟨233,27,233,28⟩) ⟨233,15,233,28⟩)) ⟨233,4,233,12⟩ ⟨233,4,233,28⟩ (by kernel_rfl))
noncomputable def x__law_let_1 (w : World) (d : Nat) : SS (G w) d fi__law_let :=
(sAsg "_law_worth" 7 (eSub (eMod (eMul (eVar "_law_cell" 0 ⟨234,17,234,26⟩ (by kernel_rfl)) (eInt 48271 0 ⟨234,29,234,34⟩) ⟨234,17,234,34⟩) (eInt 1999 0 ⟨234,37,234,41⟩) ⟨234,17,234,41⟩) (eInt 999 0 ⟨234,44,234,47⟩) ⟨234,17,234,47⟩) ⟨234,4,234,14⟩ ⟨234,4,234,47⟩ (by kernel_rfl))
noncomputable def x__law_let_2 (w : World) (d : Nat) : SS (G w) d fi__law_let :=
(sAsg "_law_outer" 8 (eIdxV true "_law_names" 2 ⟨235,17,235,27⟩ (eInt 10 0 ⟨235,28,235,30⟩) ⟨235,17,235,31⟩ (by kernel_rfl)) ⟨235,4,235,14⟩ ⟨235,4,235,31⟩ (by kernel_rfl))
noncomputable def x__law_let_3 (w : World) (d : Nat) : SS (G w) d fi__law_let :=
(sAsg "_law_row_here" 9 (eCall "_law_row" 274 (rCons (eDiv (eVar "_law_cell" 0 ⟨236,29,236,38⟩ (by kernel_rfl)) (eInt 4 0 ⟨236,42,236,43⟩) ⟨236,29,236,43⟩) (rCons (eAddL (eSlc (eVar "_law_names" 2 ⟨236,45,236,55⟩ (by kernel_rfl)) dNone (dSome (eVar "_law_k" 1 ⟨236,57,236,63⟩ (by kernel_rfl))) ⟨236,56,236,63⟩ ⟨236,45,236,64⟩) (eMulL (eLst (rCons (eVar "_law_outer" 8 ⟨236,68,236,78⟩ (by kernel_rfl)) rNil) ⟨236,67,236,79⟩ rfl) (eIntB (eInI (eVar "_law_way" 6 ⟨236,86,236,94⟩ (by kernel_rfl)) (eTup (rCons (eInt 1 0 ⟨236,99,236,100⟩) (rCons (eInt 2 0 ⟨236,102,236,103⟩) rNil)) 0 ⟨236,98,236,104⟩ rfl) ⟨236,86,236,104⟩) ⟨236,82,236,85⟩ ⟨236,82,236,105⟩ (by kernel_rfl)) ⟨236,67,236,105⟩) ⟨236,45,236,105⟩) rNil)) ⟨236,20,236,28⟩ ⟨236,20,236,106⟩ (by kernel_rfl)) ⟨236,4,236,17⟩ ⟨236,4,236,106⟩ (by kernel_rfl))
noncomputable def x__law_let_4 (w : World) (d : Nat) : SS (G w) d fi__law_let :=
(sAsg "_law_inner" 10 (eTup (rCons (eStr "fun" z_fun 0 ⟨237,18,237,23⟩ z_fun_e z_fun_k) (rCons (eIdxV true "_law_names" 2 ⟨237,25,237,35⟩ (eInt 11 0 ⟨237,36,237,38⟩) ⟨237,25,237,39⟩ (by kernel_rfl)) (rCons (eCall "_law_body" 267 (rCons (eVar "_law_row_here" 9 ⟨237,51,237,64⟩ (by kernel_rfl)) (rCons (eVar "_law_k" 1 ⟨237,66,237,72⟩ (by kernel_rfl)) rNil)) ⟨237,41,237,50⟩ ⟨237,41,237,73⟩ (by kernel_rfl)) rNil))) 0 ⟨237,17,237,74⟩ rfl) ⟨237,4,237,14⟩ ⟨237,4,237,74⟩ (by kernel_rfl))
noncomputable def x__law_let_5 (w : World) (d : Nat) : SS (G w) d fi__law_let :=
(sIte false (eBop (bCons false (eEq (eVar "_law_way" 6 ⟨238,7,238,15⟩ (by kernel_rfl)) (eInt 3 0 ⟨238,19,238,20⟩) ⟨238,7,238,20⟩) (bLast .And (eVar "_law_makers" 4 ⟨238,25,238,36⟩ (by kernel_rfl)))) ⟨238,7,238,36⟩)
(lCons (sAsg "_law_maker" 11 (eIdxV true "_law_makers" 4 ⟨239,21,239,32⟩ (eMod (eVar "_law_worth" 7 ⟨239,33,239,43⟩ (by kernel_rfl)) (eLen (eVar "_law_makers" 4 ⟨239,50,239,61⟩ (by kernel_rfl)) ⟨239,46,239,49⟩ ⟨239,46,239,62⟩ (by kernel_rfl)) ⟨239,33,239,62⟩) ⟨239,21,239,63⟩ (by kernel_rfl)) ⟨239,8,239,18⟩ ⟨239,8,239,63⟩ (by kernel_rfl)) (lCons (sAsg "_law_pair" 12 (eCallL "_law_values" 307 (jVal (eIdxV false "_law_maker" 11 ⟨240,32,240,42⟩ (eInt 1 0 ⟨240,43,240,44⟩) ⟨240,32,240,45⟩ (by kernel_rfl)) (jVal (eIdxV false "_law_maker" 11 ⟨240,47,240,57⟩ (eInt 3 0 ⟨240,58,240,59⟩) ⟨240,47,240,60⟩ (by kernel_rfl)) (jVal (eVar "_law_outer" 8 ⟨240,62,240,72⟩ (by kernel_rfl)) (jVal (eVar "_law_worth" 7 ⟨240,74,240,84⟩ (by kernel_rfl)) jNil)))) ⟨240,20,240,31⟩ ⟨240,20,240,85⟩ (by kernel_rfl)) ⟨240,8,240,17⟩ ⟨240,8,240,85⟩ (by kernel_rfl)) (lCons (sApp "_law_due" 5 (eTup (rCons (eIdxV true "_law_names" 2 ⟨241,25,241,35⟩ (eInt 11 0 ⟨241,36,241,38⟩) ⟨241,25,241,39⟩ (by kernel_rfl)) (rCons (eIdx false (eIdxV false "_law_maker" 11 ⟨241,41,241,51⟩ (eInt 2 0 ⟨241,52,241,53⟩) ⟨241,41,241,54⟩ (by kernel_rfl)) (eInt 2 0 ⟨241,55,241,56⟩) ⟨241,41,241,57⟩) (rCons (eIdxV false "_law_pair" 12 ⟨241,59,241,68⟩ (eInt 0 0 ⟨241,69,241,70⟩) ⟨241,59,241,71⟩ (by kernel_rfl)) (rCons (eIdxV false "_law_pair" 12 ⟨241,73,241,82⟩ (eInt 1 0 ⟨241,83,241,84⟩) ⟨241,73,241,85⟩ (by kernel_rfl)) rNil)))) 0 ⟨241,24,241,86⟩ rfl) ⟨241,8,241,16⟩ ⟨241,8,241,23⟩ ⟨241,8,241,87⟩ ⟨241,8,241,87⟩ (by kernel_rfl)) (lCons (sDic "_law_stands" 3 (eIdxV true "_law_names" 2 ⟨242,20,242,30⟩ (eVar "_law_k" 1 ⟨242,31,242,37⟩ (by kernel_rfl)) ⟨242,20,242,38⟩ (by kernel_rfl)) (eTup (rCons (eIdxV true "_law_names" 2 ⟨242,43,242,53⟩ (eInt 11 0 ⟨242,54,242,56⟩) ⟨242,43,242,57⟩ (by kernel_rfl)) (rCons (eIdx false (eIdxV false "_law_maker" 11 ⟨242,59,242,69⟩ (eInt 2 0 ⟨242,70,242,71⟩) ⟨242,59,242,72⟩ (by kernel_rfl)) (eInt 2 0 ⟨242,73,242,74⟩) ⟨242,59,242,75⟩) rNil)) 0 ⟨242,42,242,76⟩ rfl) ⟨242,8,242,19⟩ ⟨242,8,242,39⟩ ⟨242,8,242,76⟩ (by kernel_rfl)) (lCons (sRet (eTup (rCons (eStr "call" z_call 0 ⟨243,16,243,22⟩ z_call_e z_call_k) (rCons (eTup (rCons (eStr "name" z_name 0 ⟨243,25,243,31⟩ z_name_e z_name_k) (rCons (eIdxV false "_law_maker" 11 ⟨243,33,243,43⟩ (eInt 0 0 ⟨243,44,243,45⟩) ⟨243,33,243,46⟩ (by kernel_rfl)) rNil)) 0 ⟨243,24,243,47⟩ rfl) (rCons (eTup (rCons (eStr "num" z_num 0 ⟨243,50,243,55⟩ z_num_e z_num_k) (rCons (eVar "_law_worth" 7 ⟨243,57,243,67⟩ (by kernel_rfl)) rNil)) 0 ⟨243,49,243,68⟩ rfl) rNil))) 0 ⟨243,15,243,69⟩ rfl) ⟨243,8,243,69⟩) lNil)))))
lNil ⟨238,4,243,69⟩)
noncomputable def x__law_let_6 (w : World) (d : Nat) : SS (G w) d fi__law_let :=
(sIte false (eBop (bCons false (eEq (eVar "_law_way" 6 ⟨244,7,244,15⟩ (by kernel_rfl)) (eInt 1 0 ⟨244,19,244,20⟩) ⟨244,7,244,20⟩) (bLast .Or (eEq (eVar "_law_way" 6 ⟨244,24,244,32⟩ (by kernel_rfl)) (eInt 2 0 ⟨244,36,244,37⟩) ⟨244,24,244,37⟩))) ⟨244,7,244,37⟩)
(lCons (sAsg "_law_some" 13 (eCall "_law_once" 281 (rCons (eVar "_law_row_here" 9 ⟨245,30,245,43⟩ (by kernel_rfl)) (rCons (eVar "_law_outer" 8 ⟨245,45,245,55⟩ (by kernel_rfl)) rNil)) ⟨245,20,245,29⟩ ⟨245,20,245,56⟩ (by kernel_rfl)) ⟨245,8,245,17⟩ ⟨245,8,245,56⟩ (by kernel_rfl)) (lCons (sApp "_law_due" 5 (eTup (rCons (eVar "_law_outer" 8 ⟨246,25,246,35⟩ (by kernel_rfl)) (rCons (eVar "_law_inner" 10 ⟨246,37,246,47⟩ (by kernel_rfl)) (rCons (eVar "_law_some" 13 ⟨246,49,246,58⟩ (by kernel_rfl)) (rCons (eCompW (some ("_law_stands", 3)) "_law_name" 14 ⟨246,88,246,97⟩ (iList (eVar "_law_some" 13 ⟨246,101,246,110⟩ (by kernel_rfl))) s__law_let_246_60 [] (e__law_let_246_60 w d) ⟨246,60,246,111⟩ (by kernel_rfl) (by kernel_rfl)) rNil)))) 0 ⟨246,24,246,112⟩ rfl) ⟨246,8,246,16⟩ ⟨246,8,246,23⟩ ⟨246,8,246,113⟩ ⟨246,8,246,113⟩ (by kernel_rfl)) lNil))
lNil ⟨244,4,246,113⟩)
noncomputable def x__law_let_7 (w : World) (d : Nat) : SS (G w) d fi__law_let :=
(sIte false (eEq (eVar "_law_way" 6 ⟨247,7,247,15⟩ (by kernel_rfl)) (eInt 2 0 ⟨247,19,247,20⟩) ⟨247,7,247,20⟩)
(lCons (sApp "_law_makers" 4 (eTup (rCons (eIdxV true "_law_names" 2 ⟨248,28,248,38⟩ (eVar "_law_k" 1 ⟨248,39,248,45⟩ (by kernel_rfl)) ⟨248,28,248,46⟩ (by kernel_rfl)) (rCons (eVar "_law_row_here" 9 ⟨248,48,248,61⟩ (by kernel_rfl)) (rCons (eVar "_law_inner" 10 ⟨248,63,248,73⟩ (by kernel_rfl)) (rCons (eDicC (eVar "_law_stands" 3 ⟨248,80,248,91⟩ (by kernel_rfl)) ⟨248,75,248,79⟩ ⟨248,75,248,92⟩ (by kernel_rfl)) rNil)))) 0 ⟨248,27,248,93⟩ rfl) ⟨248,8,248,19⟩ ⟨248,8,248,26⟩ ⟨248,8,248,94⟩ ⟨248,8,248,94⟩ (by kernel_rfl)) (lCons (sDic "_law_stands" 3 (eIdxV true "_law_names" 2 ⟨249,20,249,30⟩ (eVar "_law_k" 1 ⟨249,31,249,37⟩ (by kernel_rfl)) ⟨249,20,249,38⟩ (by kernel_rfl)) (eTup (rCons (eVar "_law_outer" 8 ⟨249,43,249,53⟩ (by kernel_rfl)) (rCons (eVar "_law_inner" 10 ⟨249,55,249,65⟩ (by kernel_rfl)) rNil)) 0 ⟨249,42,249,66⟩ rfl) ⟨249,8,249,19⟩ ⟨249,8,249,39⟩ ⟨249,8,249,66⟩ (by kernel_rfl)) (lCons (sRet (eTup (rCons (eStr "fun" z_fun 0 ⟨250,16,250,21⟩ z_fun_e z_fun_k) (rCons (eVar "_law_outer" 8 ⟨250,23,250,33⟩ (by kernel_rfl)) (rCons (eVar "_law_inner" 10 ⟨250,35,250,45⟩ (by kernel_rfl)) rNil))) 0 ⟨250,15,250,46⟩ rfl) ⟨250,8,250,46⟩) lNil)))
lNil ⟨247,4,250,46⟩)
noncomputable def x__law_let_8 (w : World) (d : Nat) : SS (G w) d fi__law_let :=
(sAsg "_law_pair" 12 (eCallL "_law_values" 307 (jVal (eVar "_law_row_here" 9 ⟨251,28,251,41⟩ (by kernel_rfl)) (jVar "_law_stands" 3 ⟨251,43,251,54⟩ (jVal (eVar "_law_outer" 8 ⟨251,56,251,66⟩ (by kernel_rfl)) (jVal (eVar "_law_worth" 7 ⟨251,68,251,78⟩ (by kernel_rfl)) jNil)) (by kernel_rfl))) ⟨251,16,251,27⟩ ⟨251,16,251,79⟩ (by kernel_rfl)) ⟨251,4,251,13⟩ ⟨251,4,251,79⟩ (by kernel_rfl))
noncomputable def x__law_let_9 (w : World) (d : Nat) : SS (G w) d fi__law_let :=
(sApp "_law_due" 5 (eTup (rCons (eIdxV true "_law_names" 2 ⟨252,21,252,31⟩ (eInt 11 0 ⟨252,32,252,34⟩) ⟨252,21,252,35⟩ (by kernel_rfl)) (rCons (eIdxV false "_law_inner" 10 ⟨252,37,252,47⟩ (eInt 2 0 ⟨252,48,252,49⟩) ⟨252,37,252,50⟩ (by kernel_rfl)) (rCons (eIdxV false "_law_pair" 12 ⟨252,52,252,61⟩ (eInt 0 0 ⟨252,62,252,63⟩) ⟨252,52,252,64⟩ (by kernel_rfl)) (rCons (eIdxV false "_law_pair" 12 ⟨252,66,252,75⟩ (eInt 1 0 ⟨252,76,252,77⟩) ⟨252,66,252,78⟩ (by kernel_rfl)) rNil)))) 0 ⟨252,20,252,79⟩ rfl) ⟨252,4,252,12⟩ ⟨252,4,252,19⟩ ⟨252,4,252,80⟩ ⟨252,4,252,80⟩ (by kernel_rfl))
noncomputable def x__law_let_10 (w : World) (d : Nat) : SS (G w) d fi__law_let :=
(sDic "_law_stands" 3 (eIdxV true "_law_names" 2 ⟨253,16,253,26⟩ (eVar "_law_k" 1 ⟨253,27,253,33⟩ (by kernel_rfl)) ⟨253,16,253,34⟩ (by kernel_rfl)) (eTup (rCons (eIdxV true "_law_names" 2 ⟨253,39,253,49⟩ (eInt 11 0 ⟨253,50,253,52⟩) ⟨253,39,253,53⟩ (by kernel_rfl)) (rCons (eIdxV false "_law_inner" 10 ⟨253,55,253,65⟩ (eInt 2 0 ⟨253,66,253,67⟩) ⟨253,55,253,68⟩ (by kernel_rfl)) rNil)) 0 ⟨253,38,253,69⟩ rfl) ⟨253,4,253,15⟩ ⟨253,4,253,35⟩ ⟨253,4,253,69⟩ (by kernel_rfl))
noncomputable def x__law_let_11 (w : World) (d : Nat) : SS (G w) d fi__law_let :=
(sIte false (eEq (eVar "_law_way" 6 ⟨254,7,254,15⟩ (by kernel_rfl)) (eInt 1 0 ⟨254,19,254,20⟩) ⟨254,7,254,20⟩)
(lCons (sRet (eTup (rCons (eStr "call" z_call 0 ⟨255,16,255,22⟩ z_call_e z_call_k) (rCons (eTup (rCons (eStr "fun" z_fun 0 ⟨255,25,255,30⟩ z_fun_e z_fun_k) (rCons (eVar "_law_outer" 8 ⟨255,32,255,42⟩ (by kernel_rfl)) (rCons (eVar "_law_inner" 10 ⟨255,44,255,54⟩ (by kernel_rfl)) rNil))) 0 ⟨255,24,255,55⟩ rfl) (rCons (eTup (rCons (eStr "num" z_num 0 ⟨255,58,255,63⟩ z_num_e z_num_k) (rCons (eVar "_law_worth" 7 ⟨255,65,255,75⟩ (by kernel_rfl)) rNil)) 0 ⟨255,57,255,76⟩ rfl) rNil))) 0 ⟨255,15,255,77⟩ rfl) ⟨255,8,255,77⟩) lNil)
lNil ⟨254,4,255,77⟩)
noncomputable def x__law_let_12 (w : World) (d : Nat) : SS (G w) d fi__law_let :=
(sRetV "_law_inner" 10 ⟨256,11,256,21⟩ ⟨256,4,256,21⟩ (by kernel_rfl))
noncomputable def b__law_let (w : World) (d : Nat) : SL (G w) d fi__law_let := (lCons (x__law_let_0 w d) (lCons (x__law_let_1 w d) (lCons (x__law_let_2 w d) (lCons (x__law_let_3 w d) (lCons (x__law_let_4 w d) (lCons (x__law_let_5 w d) (lCons (x__law_let_6 w d) (lCons (x__law_let_7 w d) (lCons (x__law_let_8 w d) (lCons (x__law_let_9 w d) (lCons (x__law_let_10 w d) (lCons (x__law_let_11 w d) (lCons (x__law_let_12 w d) lNil)))))))))))))
theorem b__law_let_x (w : World) (d : Nat) : (b__law_let w d).xs = fd__law_let.st := by kernel_rfl
noncomputable def s_law_260_17 : Scope := ⟨.function, [(".0", .local), ("_law_k", .local), ("_law_name_by", .globalImplicit), ("_law_first", .free)], false, false, []⟩
noncomputable def e_law_260_17 (w : World) (d : Nat) : T (G w) d (fi_law.inner s_law_260_17 "_law_k" 16) := (eCall "_law_name_by" 260 (rCons (eAdd (eSub (eVar "_law_first" 1 ⟨260,31,260,41⟩ (by kernel_rfl)) (eMod (eVar "_law_first" 1 ⟨260,44,260,54⟩ (by kernel_rfl)) (eInt 26 0 ⟨260,57,260,59⟩) ⟨260,44,260,59⟩) ⟨260,31,260,59⟩) (eMod (eAdd (eVar "_law_first" 1 ⟨260,63,260,73⟩ (by kernel_rfl)) (eMul (eInt 7 0 ⟨260,76,260,77⟩) (eVar "_law_k" 16 ⟨260,80,260,86⟩ (by kernel_rfl)) ⟨260,76,260,86⟩) ⟨260,63,260,86⟩) (eInt 26 0 ⟨260,90,260,92⟩) ⟨260,62,260,92⟩) ⟨260,31,260,92⟩) rNil) ⟨260,18,260,30⟩ ⟨260,18,260,93⟩ (by kernel_rfl))
noncomputable def l_law_268 (w : World) (d : Nat) : SL (G w) d fi_law :=
(lCons (sAsg "_law_node" 10 (eCallL "_law_let" 312 (jVal (eCall "_law_cell_at" 253 (rCons (eVar "_law_script" 0 ⟨269,42,269,53⟩ (by kernel_rfl)) (rCons (eAdd (eInt 1 0 ⟨269,55,269,56⟩) (eVar "_law_k" 3 ⟨269,59,269,65⟩ (by kernel_rfl)) ⟨269,55,269,65⟩) rNil)) ⟨269,29,269,41⟩ ⟨269,29,269,66⟩ (by kernel_rfl)) (jVal (eVar "_law_k" 3 ⟨269,68,269,74⟩ (by kernel_rfl)) (jVal (eVar "_law_names" 4 ⟨269,76,269,86⟩ (by kernel_rfl)) (jVar "_law_stands" 7 ⟨269,88,269,99⟩ (jVar "_law_makers" 8 ⟨269,101,269,112⟩ (jVar "_law_due" 9 ⟨269,114,269,122⟩ jNil (by kernel_rfl)) (by kernel_rfl)) (by kernel_rfl))))) ⟨269,20,269,28⟩ ⟨269,20,269,123⟩ (by kernel_rfl)) ⟨269,8,269,17⟩ ⟨269,8,269,123⟩ (by kernel_rfl)) (lCons (sApp "_law_lets" 6 (eTup (rCons (eIdxV true "_law_names" 4 ⟨270,26,270,36⟩ (eVar "_law_k" 3 ⟨270,37,270,43⟩ (by kernel_rfl)) ⟨270,26,270,44⟩ (by kernel_rfl)) (rCons (eVar "_law_node" 10 ⟨270,46,270,55⟩ (by kernel_rfl)) rNil)) 0 ⟨270,25,270,56⟩ rfl) ⟨270,8,270,17⟩ ⟨270,8,270,24⟩ ⟨270,8,270,57⟩ ⟨270,8,270,57⟩ (by kernel_rfl)) lNil))
noncomputable def l_law_272 (w : World) (d : Nat) : SL (G w) d fi_law :=
(lCons (sAsg "_law_tree" 11 (eTup (rCons (eStr "let" z_let 0 ⟨273,21,273,26⟩ z_let_e z_let_k) (rCons (eIdxV false "_law_pair" 12 ⟨273,28,273,37⟩ (eInt 0 0 ⟨273,38,273,39⟩) ⟨273,28,273,40⟩ (by kernel_rfl)) (rCons (eIdxV false "_law_pair" 12 ⟨273,42,273,51⟩ (eInt 1 0 ⟨273,52,273,53⟩) ⟨273,42,273,54⟩ (by kernel_rfl)) (rCons (eVar "_law_tree" 11 ⟨273,56,273,65⟩ (by kernel_rfl)) rNil)))) 0 ⟨273,20,273,66⟩ rfl) ⟨273,8,273,17⟩ ⟨273,8,273,66⟩ (by kernel_rfl)) lNil)
noncomputable def l_law_277 (w : World) (d : Nat) : SL (G w) d fi_law :=
(lCons (sIte false (eNot (eCall "_law_kept_right" 302 (rCons (eVar "_law_one" 14 ⟨278,31,278,39⟩ (by kernel_rfl)) (rCons (eVar "_law_row_here" 15 ⟨278,41,278,54⟩ (by kernel_rfl)) rNil)) ⟨278,15,278,30⟩ ⟨278,15,278,55⟩ (by kernel_rfl)) ⟨278,11,278,55⟩)
(lCons (sRet (eBool false 0 ⟨279,19,279,24⟩) ⟨279,12,279,24⟩) lNil)
lNil ⟨278,8,279,24⟩) lNil)
noncomputable def x_law_0 (w : World) (d : Nat) : SS (G w) d fi_law :=
(sAsg "_law_first" 1 (eCall "_law_cell_at" 253 (rCons (eVar "_law_script" 0 ⟨258,30,258,41⟩ (by kernel_rfl)) (rCons (eInt 0 0 ⟨258,43,258,44⟩) rNil)) ⟨258,17,258,29⟩ ⟨258,17,258,45⟩ (by kernel_rfl)) ⟨258,4,258,14⟩ ⟨258,4,258,45⟩ (by kernel_rfl))
noncomputable def x_law_1 (w : World) (d : Nat) : SS (G w) d fi_law :=
(sAsg "_law_second" 2 (eCall "_law_cell_at" 253 (rCons (eVar "_law_script" 0 ⟨259,31,259,42⟩ (by kernel_rfl)) (rCons (eInt 1 0 ⟨259,44,259,45⟩) rNil)) ⟨259,18,259,30⟩ ⟨259,18,259,46⟩ (by kernel_rfl)) ⟨259,4,259,15⟩ ⟨259,4,259,46⟩ (by kernel_rfl))
noncomputable def x_law_2 (w : World) (d : Nat) : SS (G w) d fi_law :=
(sAsgC "_law_names" 4 ⟨260,4,260,14⟩ ⟨260,4,260,118⟩ "_law_k" 16 ⟨260,98,260,104⟩ (iRange (rCons (eInt 12 0 ⟨260,114,260,116⟩) rNil) ⟨260,108,260,113⟩ ⟨260,108,260,117⟩ (by kernel_rfl)) s_law_260_17 (e_law_260_17 w d) ⟨260,17,260,118⟩ (by kernel_rfl))
noncomputable def x_law_3 (w : World) (d : Nat) : SS (G w) d fi_law :=
(sIte true (eEq (eMod (eDiv (eVar "_law_first" 1 ⟨261,7,261,17⟩ (by kernel_rfl)) (eInt 1000 0 ⟨261,21,261,25⟩) ⟨261,7,261,25⟩) (eInt 4 0 ⟨261,28,261,29⟩) ⟨261,7,261,29⟩) (eInt 0 0 ⟨261,33,261,34⟩) ⟨261,7,261,34⟩)
(lCons (sSetT "_law_names" 4 (eAdd (eInt 1 0 ⟨262,19,262,20⟩) (eMod (eVar "_law_second" 2 ⟨262,23,262,34⟩ (by kernel_rfl)) (eInt 9 0 ⟨262,37,262,38⟩) ⟨262,23,262,38⟩) ⟨262,19,262,38⟩) (eIdxV true "_law_names" 4 ⟨262,42,262,52⟩ (eInt 0 0 ⟨262,53,262,54⟩) ⟨262,42,262,55⟩ (by kernel_rfl)) ⟨262,8,262,18⟩ ⟨262,8,262,39⟩ ⟨262,8,262,55⟩ (by kernel_rfl)) lNil)
lNil ⟨261,4,262,55⟩)
noncomputable def x_law_4 (w : World) (d : Nat) : SS (G w) d fi_law :=
(sAsg "_law_number" 5 (eAdd (eSub (eMod (eDiv (eVar "_law_second" 2 ⟨263,18,263,29⟩ (by kernel_rfl)) (eInt 9 0 ⟨263,33,263,34⟩) ⟨263,18,263,34⟩) (eSub (eMul (eInt 2 0 ⟨263,38,263,39⟩) (ePow (eInt 10 0 ⟨263,42,263,44⟩) (eInt 60 0 ⟨263,48,263,50⟩) ⟨263,42,263,50⟩) ⟨263,38,263,50⟩) (eInt 1 0 ⟨263,53,263,54⟩) ⟨263,38,263,54⟩) ⟨263,18,263,55⟩) (ePow (eInt 10 0 ⟨263,58,263,60⟩) (eInt 60 0 ⟨263,64,263,66⟩) ⟨263,58,263,66⟩) ⟨263,18,263,66⟩) (eInt 1 0 ⟨263,69,263,70⟩) ⟨263,18,263,70⟩) ⟨263,4,263,15⟩ ⟨263,4,263,70⟩ (by kernel_rfl))
noncomputable def x_law_5 (w : World) (d : Nat) : SS (G w) d fi_law :=
(sAsg "_law_lets" 6 (eLst (rCons (eTup (rCons (eIdx true (eVarF "_law_names" 4 ⟨264,18,264,28⟩ (by kernel_rfl)) (eInt 0 0 ⟨264,29,264,30⟩) ⟨264,18,264,31⟩) (rCons (eTup (rCons (eStr "num" z_num 0 ⟨264,34,264,39⟩ z_num_e z_num_k) (rCons (eVar "_law_number" 5 ⟨264,41,264,52⟩ (by kernel_rfl)) rNil)) 0 ⟨264,33,264,53⟩ rfl) rNil)) 0 ⟨264,17,264,54⟩ rfl) rNil) ⟨264,16,264,55⟩ rfl) ⟨264,4,264,13⟩ ⟨264,4,264,55⟩ (by kernel_rfl))
noncomputable def x_law_6 (w : World) (d : Nat) : SS (G w) d fi_law :=
(sAsg "_law_stands" 7 (eDic1 (eIdxV true "_law_names" 4 ⟨265,19,265,29⟩ (eInt 0 0 ⟨265,30,265,31⟩) ⟨265,19,265,32⟩ (by kernel_rfl)) (eVar "_law_number" 5 ⟨265,34,265,45⟩ (by kernel_rfl)) ⟨265,18,265,46⟩) ⟨265,4,265,15⟩ ⟨265,4,265,46⟩ (by kernel_rfl))
noncomputable def x_law_7 (w : World) (d : Nat) : SS (G w) d fi_law :=
(sAsg "_law_makers" 8 (eLst rNil ⟨266,18,266,20⟩ rfl) ⟨266,4,266,15⟩ ⟨266,4,266,20⟩ (by kernel_rfl))
noncomputable def x_law_8 (w : World) (d : Nat) : SS (G w) d fi_law :=
(sAsg "_law_due" 9 (eLst rNil ⟨267,15,267,17⟩ rfl) ⟨267,4,267,12⟩ ⟨267,4,267,17⟩ (by kernel_rfl))
noncomputable def x_law_9 (w : World) (d : Nat) : SS (G w) d fi_law :=
(sFor "_law_k" (iRange (rCons (eInt 1 0 ⟨268,24,268,25⟩) (rCons (eAdd (eInt 1 0 ⟨268,27,268,28⟩) (eMod (eDiv (eVar "_law_second" 2 ⟨268,31,268,42⟩ (by kernel_rfl)) (eInt 3 0 ⟨268,46,268,47⟩) ⟨268,31,268,47⟩) (eInt 10 0 ⟨268,50,268,52⟩) ⟨268,31,268,52⟩) ⟨268,27,268,52⟩) rNil)) ⟨268,18,268,23⟩ ⟨268,18,268,53⟩ (by kernel_rfl)) (l_law_268 w d) ⟨268,8,268,14⟩ ⟨268,4,270,57⟩)
noncomputable def x_law_10 (w : World) (d : Nat) : SS (G w) d fi_law :=
(sAsg "_law_tree" 11 (eTup (rCons (eStr "num" z_num 0 ⟨271,17,271,22⟩ z_num_e z_num_k) (rCons (eInt 7 0 ⟨271,24,271,25⟩) rNil)) 0 ⟨271,16,271,26⟩ rfl) ⟨271,4,271,13⟩ ⟨271,4,271,26⟩ (by kernel_rfl))
noncomputable def x_law_11 (w : World) (d : Nat) : SS (G w) d fi_law :=
(sFor "_law_pair" (iRev (eVar "_law_lets" 6 ⟨272,30,272,39⟩ (by kernel_rfl)) ⟨272,21,272,29⟩ ⟨272,21,272,40⟩ (by kernel_rfl)) (l_law_272 w d) ⟨272,8,272,17⟩ ⟨272,4,273,66⟩)
noncomputable def x_law_12 (w : World) (d : Nat) : SS (G w) d fi_law :=
(sAsg "_law_found" 13 (eCall "made" 246 (rCons (eVar "_law_tree" 11 ⟨274,22,274,31⟩ (by kernel_rfl)) (rCons (eAdd (eLen (eVar "_law_lets" 6 ⟨274,37,274,46⟩ (by kernel_rfl)) ⟨274,33,274,36⟩ ⟨274,33,274,47⟩ (by kernel_rfl)) (eLen (eVar "_law_due" 9 ⟨274,54,274,62⟩ (by kernel_rfl)) ⟨274,50,274,53⟩ ⟨274,50,274,63⟩ (by kernel_rfl)) ⟨274,33,274,63⟩) rNil)) ⟨274,17,274,21⟩ ⟨274,17,274,64⟩ (by kernel_rfl)) ⟨274,4,274,14⟩ ⟨274,4,274,64⟩ (by kernel_rfl))
noncomputable def x_law_13 (w : World) (d : Nat) : SS (G w) d fi_law :=
(sIte false (eBop (bCons false (eNot (eIsi (eVar "_law_found" 13 ⟨275,22,275,32⟩ (by kernel_rfl)) .list ⟨275,11,275,21⟩ ⟨275,34,275,38⟩ ⟨275,11,275,39⟩ (by kernel_rfl)) ⟨275,7,275,39⟩) (bLast .Or (eNeS (eLen (eVar "_law_found" 13 ⟨275,47,275,57⟩ (by kernel_rfl)) ⟨275,43,275,46⟩ ⟨275,43,275,58⟩ (by kernel_rfl)) (eLen (eVar "_law_due" 9 ⟨275,66,275,74⟩ (by kernel_rfl)) ⟨275,62,275,65⟩ ⟨275,62,275,75⟩ (by kernel_rfl)) ⟨275,43,275,75⟩))) ⟨275,7,275,75⟩)
(lCons (sRet (eBool false 0 ⟨276,15,276,20⟩) ⟨276,8,276,20⟩) lNil)
lNil ⟨275,4,276,20⟩)
noncomputable def x_law_14 (w : World) (d : Nat) : SS (G w) d fi_law :=
(sForZ [("_law_one", 14, ⟨277,8,277,16⟩), ("_law_row_here", 15, ⟨277,18,277,31⟩)] 0 (eVar "_law_found" 13 ⟨277,39,277,49⟩ (by kernel_rfl)) (eVar "_law_due" 9 ⟨277,51,277,59⟩ (by kernel_rfl)) (l_law_277 w d) ⟨277,35,277,38⟩ ⟨277,35,277,60⟩ ⟨277,8,277,31⟩ ⟨277,4,279,24⟩ (by kernel_rfl))
noncomputable def x_law_15 (w : World) (d : Nat) : SS (G w) d fi_law :=
(sRet (eBool true 0 ⟨280,11,280,15⟩) ⟨280,4,280,15⟩)
noncomputable def b_law (w : World) (d : Nat) : SL (G w) d fi_law := (lCons (x_law_0 w d) (lCons (x_law_1 w d) (lCons (x_law_2 w d) (lCons (x_law_3 w d) (lCons (x_law_4 w d) (lCons (x_law_5 w d) (lCons (x_law_6 w d) (lCons (x_law_7 w d) (lCons (x_law_8 w d) (lCons (x_law_9 w d) (lCons (x_law_10 w d) (lCons (x_law_11 w d) (lCons (x_law_12 w d) (lCons (x_law_13 w d) (lCons (x_law_14 w d) (lCons (x_law_15 w d) lNil))))))))))))))))
theorem b_law_x (w : World) (d : Nat) : (b_law w d).xs = fd_law.st := by kernel_rfl
end Mine.L12
end

section
open PySem
set_option autoImplicit false
set_option maxRecDepth 100000
namespace Mine.L12
noncomputable def isName (s : List Nat) : Bool := decide ((1 : Int) ≤ s.length) && (decide ((s.length : Int) ≤ 8) && (!words.any (· == s) && s.all (letters.contains ·)))
noncomputable def numI (i : Int) : Bool := decide (-great < i) && decide (i < great)
set_option genSizeOf false in
set_option genInjectivity false in
inductive Tree where
  | num (i : Int)
  | name (x : List Nat)
  | fn (x : List Nat) (b : Tree)
  | call (f a : Tree)
  | plus (a b : Tree)
  | lt (x : List Nat) (e b : Tree)
noncomputable def tv (t : Tree) : V := Tree.rec (fun i => .tup [.str z_num, .int i]) (fun x => .tup [.str z_name, .str x]) (fun x _ b => .tup [.str z_fun, .str x, b]) (fun _ _ f a => .tup [.str z_call, f, a]) (fun _ _ a b => .tup [.str z_plus, a, b]) (fun x _ _ e b => .tup [.str z_let, .str x, e, b]) t
noncomputable def ks (t : Tree) : List Tree := Tree.casesOn t (fun _ => []) (fun _ => []) (fun _ b => [b]) (fun a b => [b, a]) (fun a b => [b, a]) (fun _ e b => [b, e])
noncomputable def sz (t : Tree) : Nat := Tree.rec (fun _ => 1) (fun _ => 1) (fun _ _ b => b + 1) (fun _ _ a b => a + b + 1) (fun _ _ a b => a + b + 1) (fun _ _ _ a b => a + b + 1) t
def gd (t : Tree) : Prop := Tree.rec (fun i => numI i = true) (fun x => isName x = true) (fun x _ b => isName x = true ∧ b) (fun _ _ a b => a ∧ b) (fun _ _ a b => a ∧ b) (fun x _ _ a b => isName x = true ∧ a ∧ b) t
noncomputable def szL (ts : List Tree) : Nat := @List.rec Tree (fun _ => Nat) 0 (fun t _ r => sz t + r) ts
def gdL (ts : List Tree) : Prop := @List.rec Tree (fun _ => Prop) True (fun t _ r => gd t ∧ r) ts
theorem sz_pos (t : Tree) : 1 ≤ sz t := by cases t <;> exact Nat.succ_le_succ (Nat.zero_le _)
theorem szL_app : ∀ a b : List Tree, szL (a ++ b) = szL a + szL b
  | [], b => (Nat.zero_add _).symm
  | t :: a, b => by show sz t + szL (a ++ b) = sz t + szL a + szL b; rw [szL_app a b, Nat.add_assoc]
theorem gdL_app : ∀ {a b : List Tree}, gdL a → gdL b → gdL (a ++ b)
  | [], _, _, h => h
  | t :: a, b, h, k => ⟨h.1, gdL_app h.2 k⟩
theorem ks_sz (t : Tree) : szL (ks t) + 1 = sz t := by
  cases t <;> (simp only [ks, szL, sz]; try omega)
theorem ks_gd {t : Tree} (g : gd t) : gdL (ks t) := by
  cases t
  · trivial
  · trivial
  · exact ⟨g.2, trivial⟩
  · exact ⟨g.2, g.1, trivial⟩
  · exact ⟨g.2, g.1, trivial⟩
  · exact ⟨g.2.2, g.2.1, trivial⟩
end Mine.L12
end

section
open PySem
set_option autoImplicit false
set_option maxRecDepth 100000
namespace Mine.L12
variable {w : World}
theorem ok_whole (d : Nat) (i : Int) : CallOK (G w) (d + 1) 115 [.int i] (.val (.bool true)) :=
  call_go (n := 0) (tp := []) (b_is_whole w d) rfl (b_is_whole_x w d) rfl (by kernel_rfl) (P := True) (by kernel_rfl) trivial
theorem name_loop (d : Nat) (u : V) : ∀ (l : List Nat) (o : Option O), ∃ fl ρ', ForOK (G w) d fi_is_name (.Name "sign" ⟨25,8,25,12⟩) (l_is_name_25 w d).xs (signsL l) [some (.val u), o] fl ρ' ∧ ((l.all (letters.contains ·) = true ∧ fl = .next ∧ ∃ o', ρ' = [some (.val u), o']) ∨ (l.all (letters.contains ·) = false ∧ fl = .ret (.val (.bool false))))
  | [], o => ⟨_, _, for_nil, .inl ⟨rfl, rfl, o, rfl⟩⟩
  | c :: l, o => by
    cases hc : letters.contains c with
    | true =>
      obtain ⟨fl, ρ', h1, h2⟩ := name_loop d u l (some (.val (.str [c])))
      refine ⟨fl, ρ', for_go (i := 1) (v := .str [c]) (l := signsL l) (ρ := [some (.val u), o]) (ρ' := [some (.val u), some (.val (.str [c]))]) (tp := [.b false]) (by kernel_rfl) (by kernel_rfl) (P := (!letters.contains c) = false ∧ True) (by kernel_rfl) ⟨by rw [hc]; rfl, trivial⟩ h1, ?_⟩
      rw [List.all_cons, hc, Bool.true_and]; exact h2
    | false => exact ⟨_, _, for_ret (i := 1) (v := .str [c]) (l := signsL l) (ρ := [some (.val u), o]) (ρ' := [some (.val u), some (.val (.str [c]))]) (o' := .val (.bool false)) (tp := [.b true]) (by kernel_rfl) (by kernel_rfl) (P := (!letters.contains c) = true ∧ True) (by kernel_rfl) ⟨by rw [hc]; rfl, trivial⟩, .inr ⟨by rw [List.all_cons, hc]; rfl, rfl⟩⟩
theorem ok_name (d : Nat) (s : List Nat) : CallOK (G w) (d + 1) 108 [.str s] (.val (.bool (isName s))) := by
    unfold isName
    cases h1 : decide ((1 : Int) ≤ s.length) with
    | false => exact call_go (n := 1) (tp := [.b false, .b true]) (b_is_name w d) rfl (b_is_name_x w d) rfl (by kernel_rfl) (P := true = true ∧ decide ((1 : Int) ≤ s.length) = false ∧ True) (by kernel_rfl) ⟨rfl, h1, trivial⟩
    | true =>
      cases h2 : decide ((s.length : Int) ≤ 8) with
      | false => exact call_go (n := 1) (tp := [.b true, .b true]) (b_is_name w d) rfl (b_is_name_x w d) rfl (by kernel_rfl) (P := (!decide ((s.length : Int) ≤ 8)) = true ∧ decide ((1 : Int) ≤ s.length) = true ∧ True) (by kernel_rfl) ⟨by rw [h2]; rfl, h1, trivial⟩
      | true =>
        cases h3 : words.any (· == s) with
        | true => exact call_go (n := 1) (tp := [.b true, .b false, .b true]) (b_is_name w d) rfl (b_is_name_x w d) rfl (by kernel_rfl) (P := true = words.any (· == s) ∧ (!decide ((s.length : Int) ≤ 8)) = false ∧ decide ((1 : Int) ≤ s.length) = true ∧ True) (by kernel_rfl) ⟨h3.symm, by rw [h2]; rfl, h1, trivial⟩
        | false =>
          obtain ⟨fl, ρ', k1, k2⟩ := name_loop d (.str s) s none
          rcases k2 with ⟨q, rfl, o', rfl⟩ | ⟨q, rfl⟩
          · rw [q]
            exact call_go (n := 1) (tp := [.b true, .b false, .b false, .l .next [some (.val (.str s)), o']]) (b_is_name w d) rfl (b_is_name_x w d) rfl (by kernel_rfl) (P := ForOK (G w) d fi_is_name (.Name "sign" ⟨25,8,25,12⟩) (l_is_name_25 w d).xs (signsL s) [some (.val (.str s)), none] .next [some (.val (.str s)), o'] ∧ false = words.any (· == s) ∧ (!decide ((s.length : Int) ≤ 8)) = false ∧ decide ((1 : Int) ≤ s.length) = true ∧ True) (by kernel_rfl) ⟨k1, h3.symm, by rw [h2]; rfl, h1, trivial⟩
          · rw [q]
            exact call_go (n := 1) (tp := [.b true, .b false, .b false, .l (.ret (.val (.bool false))) ρ']) (b_is_name w d) rfl (b_is_name_x w d) rfl (by kernel_rfl) (P := ForOK (G w) d fi_is_name (.Name "sign" ⟨25,8,25,12⟩) (l_is_name_25 w d).xs (signsL s) [some (.val (.str s)), none] (.ret (.val (.bool false))) ρ' ∧ false = words.any (· == s) ∧ (!decide ((s.length : Int) ≤ 8)) = false ∧ decide ((1 : Int) ≤ s.length) = true ∧ True) (by kernel_rfl) ⟨k1, h3.symm, by rw [h2]; rfl, h1, trivial⟩
theorem node_num (d : Nat) {i : Int} : CallOK (G w) (d + 2) 122 [.tup [.str z_num, .int i]] (.val (.bool (numI i))) := by
    show CallOK _ _ _ _ (.val (.bool (decide (-great < i) && decide (i < great))))
    cases h : decide (-great < i) with
    | true => exact call_go (n := 0) (tp := [.b false, .b false, .b false, .r (.val (.bool true)), .b true]) (b_is_node w (d + 1)) rfl (b_is_node_x w (d + 1)) rfl (by kernel_rfl) (P := decide (-great < i) = true ∧ CallOK (G w) (d + 1) 115 [.int i] (.val (.bool true)) ∧ (!(Int.ofNat 2 == Int.ofNat 2)) = false ∧ false = (!words.any (· == z_num)) ∧ (Int.ofNat 2 == 0) = false ∧ True) (by kernel_rfl) ⟨h, ok_whole d i, rfl, rfl, rfl, trivial⟩
    | false => exact call_go (n := 0) (tp := [.b false, .b false, .b false, .r (.val (.bool true)), .b false]) (b_is_node w (d + 1)) rfl (b_is_node_x w (d + 1)) rfl (by kernel_rfl) (P := decide (-great < i) = false ∧ CallOK (G w) (d + 1) 115 [.int i] (.val (.bool true)) ∧ (!(Int.ofNat 2 == Int.ofNat 2)) = false ∧ false = (!words.any (· == z_num)) ∧ (Int.ofNat 2 == 0) = false ∧ True) (by kernel_rfl) ⟨h, ok_whole d i, rfl, rfl, rfl, trivial⟩

theorem node_name (d : Nat) {x : List Nat} : CallOK (G w) (d + 2) 122 [.tup [.str z_name, .str x]] (.val (.bool (isName x))) :=
  call_go (n := 0) (tp := [.b false, .b false, .b false, .r (.val (.bool (isName x)))]) (b_is_node w (d + 1)) rfl (b_is_node_x w (d + 1)) rfl (by kernel_rfl) (P := CallOK (G w) (d + 1) 108 [.str x] (.val (.bool (isName x))) ∧ (!(Int.ofNat 2 == Int.ofNat 2)) = false ∧ false = (!words.any (· == z_name)) ∧ (Int.ofNat 2 == 0) = false ∧ True) (by kernel_rfl) ⟨ok_name d x, rfl, rfl, rfl, trivial⟩
theorem node_fun (d : Nat) {x : List Nat} {b : V} : CallOK (G w) (d + 2) 122 [.tup [.str z_fun, .str x, b]] (.val (.bool (isName x))) :=
  call_go (n := 0) (tp := [.b false, .b false, .b false, .r (.val (.bool (isName x)))]) (b_is_node w (d + 1)) rfl (b_is_node_x w (d + 1)) rfl (by kernel_rfl) (P := CallOK (G w) (d + 1) 108 [.str x] (.val (.bool (isName x))) ∧ (!(Int.ofNat 3 == Int.ofNat 3)) = false ∧ false = (!words.any (· == z_fun)) ∧ (Int.ofNat 3 == 0) = false ∧ True) (by kernel_rfl) ⟨ok_name d x, rfl, rfl, rfl, trivial⟩
theorem node_let (d : Nat) {x : List Nat} {a b : V} : CallOK (G w) (d + 2) 122 [.tup [.str z_let, .str x, a, b]] (.val (.bool (isName x))) :=
  call_go (n := 0) (tp := [.b false, .b false, .b false, .r (.val (.bool (isName x)))]) (b_is_node w (d + 1)) rfl (b_is_node_x w (d + 1)) rfl (by kernel_rfl) (P := CallOK (G w) (d + 1) 108 [.str x] (.val (.bool (isName x))) ∧ (!(Int.ofNat 4 == Int.ofNat 4)) = false ∧ false = (!words.any (· == z_let)) ∧ (Int.ofNat 4 == 0) = false ∧ True) (by kernel_rfl) ⟨ok_name d x, rfl, rfl, rfl, trivial⟩
theorem node_call (d : Nat) {a b : V} : CallOK (G w) (d + 2) 122 [.tup [.str z_call, a, b]] (.val (.bool true)) :=
  call_go (n := 0) (tp := [.b false, .b false, .b false]) (b_is_node w (d + 1)) rfl (b_is_node_x w (d + 1)) rfl (by kernel_rfl) (P := (!(Int.ofNat 3 == Int.ofNat 3)) = false ∧ false = (!words.any (· == z_call)) ∧ (Int.ofNat 3 == 0) = false ∧ True) (by kernel_rfl) ⟨rfl, rfl, rfl, trivial⟩
theorem node_plus (d : Nat) {a b : V} : CallOK (G w) (d + 2) 122 [.tup [.str z_plus, a, b]] (.val (.bool true)) :=
  call_go (n := 0) (tp := [.b false, .b false, .b false]) (b_is_node w (d + 1)) rfl (b_is_node_x w (d + 1)) rfl (by kernel_rfl) (P := (!(Int.ofNat 3 == Int.ofNat 3)) = false ∧ false = (!words.any (· == z_plus)) ∧ (Int.ofNat 3 == 0) = false ∧ True) (by kernel_rfl) ⟨rfl, rfl, rfl, trivial⟩
theorem ok_node (d : Nat) {t : Tree} (g : gd t) : CallOK (G w) (d + 2) 122 [tv t] (.val (.bool true)) := by
  cases t with
  | num i => have := node_num (w := w) d (i := i); rwa [show numI i = true from g] at this
  | name x => have := node_name (w := w) d (x := x); rwa [show isName x = true from g] at this
  | fn x b => have := node_fun (w := w) d (x := x) (b := tv b); rwa [show isName x = true from g.1] at this
  | call a b => exact node_call d
  | plus a b => exact node_plus d
  | lt x e b => have := node_let (w := w) d (x := x) (a := tv e) (b := tv b); rwa [show isName x = true from g.1] at this
theorem ok_parts (d : Nat) (t : Tree) : CallOK (G w) (d + 1) 129 [tv t] (.own ((ks t).map tv)) := by
  cases t with
  | num i => exact call_go (n := 0) (tp := []) (b_parts w d) rfl (b_parts_x w d) rfl (by kernel_rfl) (P := True) (by kernel_rfl) (by decide)
  | name x => exact call_go (n := 0) (tp := []) (b_parts w d) rfl (b_parts_x w d) rfl (by kernel_rfl) (P := True) (by kernel_rfl) (by decide)
  | fn x b => exact call_go (n := 0) (tp := []) (b_parts w d) rfl (b_parts_x w d) rfl (by kernel_rfl) (P := ((0 : Int) ≤ 2 ∧ (2 : Int) ≤ 1000000) ∧ True) (by kernel_rfl) (by decide)
  | call a b => exact call_go (n := 0) (tp := []) (b_parts w d) rfl (b_parts_x w d) rfl (by kernel_rfl) (P := ((0 : Int) ≤ 1 ∧ (1 : Int) ≤ 1000000) ∧ True) (by kernel_rfl) (by decide)
  | plus a b => exact call_go (n := 0) (tp := []) (b_parts w d) rfl (b_parts_x w d) rfl (by kernel_rfl) (P := ((0 : Int) ≤ 1 ∧ (1 : Int) ≤ 1000000) ∧ True) (by kernel_rfl) (by decide)
  | lt x e b => exact call_go (n := 0) (tp := []) (b_parts w d) rfl (b_parts_x w d) rfl (by kernel_rfl) (P := ((0 : Int) ≤ 2 ∧ (2 : Int) ≤ 1000000) ∧ True) (by kernel_rfl) (by decide)
end Mine.L12
end

section
open PySem
set_option autoImplicit false
set_option maxRecDepth 100000
namespace Mine.L12
variable {w : World}
section
variable {G : Gl} {d : Nat} {fi : FI} {c : T G d fi} {b : SL G d fi} {ρ ρ' ρ'' : Loc} {fl : Fl} {cN : Addr}
def Trn (c : T G d fi) (b : SL G d fi) (ρ ρ' : Loc) : Prop := ∃ tp, out (turn c b false ⟨ρ, tp, []⟩) = some (some .next, ρ', []) ∧ All (obs (turn c b false ⟨ρ, tp, []⟩))
theorem Trn.wh (h : Trn c b ρ ρ') (k : WhilOK G d fi c.x b.xs ρ' fl ρ'') : WhilOK G d fi c.x b.xs ρ fl ρ'' := by
  obtain ⟨tp, e, o⟩ := h; exact (turn_ok c b false).run e rfl o fl ρ'' k
theorem Trn.of {tp : List Tk} {P : Prop} (e : out (turn c b false ⟨ρ, tp, []⟩) = some (some .next, ρ', [])) (o : All (obs (turn c b false ⟨ρ, tp, []⟩)) = P) (p : P) : Trn c b ρ ρ' := ⟨tp, e, o ▸ p⟩
end
noncomputable abbrev nst (T : V) (K : List V) (m : Int) (x : Option O) : Loc := [some (.val T), some (.own K), some (.val (.int m)), x]
variable {d : Nat} {T : V}

theorem nt_turn {t : Tree} (g : gd t) {K : List V} {m : Int} {x : Option O} (hK : K.length + 4 < room) (hm : decide (m + 1 > 400) = false) :
    Trn (c_need_tree_50 w (d + 2)) (l_need_tree_50 w (d + 2)) (nst T (tv t :: K) m x) (nst T ((ks t).map tv ++ K) (m + 1) (some (.val (tv t)))) := by
  have h1 := ok_node (w := w) d g
  have h2 := ok_parts (w := w) (d + 1) t
  cases t with
  | num i => exact .of (tp := [.b false, .r (.val (.bool true)), .r (.own [])]) (by kernel_rfl) (P := (0 + K.length < room) ∧ CallOK (G w) (d + 2) 129 [tv (.num i)] (.own []) ∧ CallOK (G w) (d + 2) 122 [tv (.num i)] (.val (.bool true)) ∧ decide (m + 1 > 400) = false ∧ True) (by kernel_rfl) ⟨by omega, h2, h1, hm, trivial⟩
  | name x => exact .of (tp := [.b false, .r (.val (.bool true)), .r (.own [])]) (by kernel_rfl) (P := (0 + K.length < room) ∧ CallOK (G w) (d + 2) 129 [tv (.name x)] (.own []) ∧ CallOK (G w) (d + 2) 122 [tv (.name x)] (.val (.bool true)) ∧ decide (m + 1 > 400) = false ∧ True) (by kernel_rfl) ⟨by omega, h2, h1, hm, trivial⟩
  | fn x b => exact .of (tp := [.b false, .r (.val (.bool true)), .r (.own [tv b])]) (by kernel_rfl) (P := (1 + K.length < room) ∧ CallOK (G w) (d + 2) 129 [tv (.fn x b)] (.own [tv b]) ∧ CallOK (G w) (d + 2) 122 [tv (.fn x b)] (.val (.bool true)) ∧ decide (m + 1 > 400) = false ∧ True) (by kernel_rfl) ⟨by omega, h2, h1, hm, trivial⟩
  | call a b => exact .of (tp := [.b false, .r (.val (.bool true)), .r (.own [tv b, tv a])]) (by kernel_rfl) (P := (2 + K.length < room) ∧ CallOK (G w) (d + 2) 129 [tv (.call a b)] (.own [tv b, tv a]) ∧ CallOK (G w) (d + 2) 122 [tv (.call a b)] (.val (.bool true)) ∧ decide (m + 1 > 400) = false ∧ True) (by kernel_rfl) ⟨by omega, h2, h1, hm, trivial⟩
  | plus a b => exact .of (tp := [.b false, .r (.val (.bool true)), .r (.own [tv b, tv a])]) (by kernel_rfl) (P := (2 + K.length < room) ∧ CallOK (G w) (d + 2) 129 [tv (.plus a b)] (.own [tv b, tv a]) ∧ CallOK (G w) (d + 2) 122 [tv (.plus a b)] (.val (.bool true)) ∧ decide (m + 1 > 400) = false ∧ True) (by kernel_rfl) ⟨by omega, h2, h1, hm, trivial⟩
  | lt x e b => exact .of (tp := [.b false, .r (.val (.bool true)), .r (.own [tv b, tv e])]) (by kernel_rfl) (P := (2 + K.length < room) ∧ CallOK (G w) (d + 2) 129 [tv (.lt x e b)] (.own [tv b, tv e]) ∧ CallOK (G w) (d + 2) 122 [tv (.lt x e b)] (.val (.bool true)) ∧ decide (m + 1 > 400) = false ∧ True) (by kernel_rfl) ⟨by omega, h2, h1, hm, trivial⟩
theorem len_sz : ∀ ts : List Tree, ts.length ≤ szL ts
  | [] => Nat.le_refl _
  | t :: ts => by have := len_sz ts; have := sz_pos t; show ts.length + 1 ≤ sz t + szL ts; omega
theorem room_big : 100000 < room := by decide
theorem loop_ok : ∀ (n : Nat) (ts : List Tree) (m : Int) (x : Option O), gdL ts → szL ts ≤ n → (n : Int) + m = 400 → 0 ≤ m → ∃ m' x', WhilOK (G w) (d + 2) fi_need_tree (c_need_tree_50 w (d + 2)).x (l_need_tree_50 w (d + 2)).xs (nst T (ts.map tv) m x) .next (nst T [] m' x') := by
  intro n
  induction n with
  | zero =>
    intro ts m x hg hs hm h0
    cases ts with
    | nil => exact ⟨m, x, whil_end false (tp := []) (by kernel_rfl) (P := True) (by kernel_rfl) trivial⟩
    | cons t ts => have := sz_pos t; have : szL (t :: ts) = sz t + szL ts := rfl; omega
  | succ n ih =>
    intro ts m x hg hs hm h0
    cases ts with
    | nil => exact ⟨m, x, whil_end false (tp := []) (by kernel_rfl) (P := True) (by kernel_rfl) trivial⟩
    | cons t ts =>
      have hz : szL (t :: ts) = sz t + szL ts := rfl
      have hk := ks_sz t
      have hl := len_sz ts
      have hr := room_big
      obtain ⟨m', x', h⟩ := ih (ks t ++ ts) (m + 1) (some (.val (tv t))) (gdL_app (ks_gd hg.1) hg.2) (by rw [szL_app]; omega) (by omega) (by omega)
      rw [List.map_append] at h
      exact ⟨m', x', (nt_turn hg.1 (by rw [List.length_map]; omega) (decide_eq_false (by omega))).wh h⟩
theorem ok_need {t : Tree} (g : gd t) (hs : sz t ≤ 400) : CallOK (G w) (d + 3) 136 [tv t] (.val (tv t)) := by
  obtain ⟨m', x', h⟩ := loop_ok (w := w) (d := d) (T := tv t) 400 [t] 0 none ⟨g, trivial⟩ (by show sz t + 0 ≤ 400; omega) rfl (Int.le_refl _)
  exact call_go (n := 3) (tp := [.l .next (nst (tv t) [] m' x')]) (b_need_tree w (d + 2)) rfl (b_need_tree_x w (d + 2)) rfl (by kernel_rfl) (P := WhilOK (G w) (d + 2) fi_need_tree (c_need_tree_50 w (d + 2)).x (l_need_tree_50 w (d + 2)).xs (nst (tv t) [tv t] 0 none) .next (nst (tv t) [] m' x') ∧ True) (by kernel_rfl) ⟨h, trivial⟩
end Mine.L12
end

section
open PySem
set_option autoImplicit false
set_option maxRecDepth 100000
namespace Mine.L12
variable {w : World}
def addN (bd F : List (List Nat)) (x : List Nat) : List (List Nat) := if x ∈ bd ∨ x ∈ F then F else x :: F
noncomputable def fr (t : Tree) : List (List Nat) → List (List Nat) → List (List Nat) := @Tree.rec (fun _ => List (List Nat) → List (List Nat) → List (List Nat)) (fun _ _ F => F) (fun x bd F => addN bd F x) (fun x _ b bd F => b (bd ++ [x]) F) (fun _ _ a b bd F => b bd (a bd F)) (fun _ _ a b bd F => b bd (a bd F)) (fun x _ _ e b bd F => b (bd ++ [x]) (e bd F)) t
theorem texts_map : ∀ F : List (List Nat), textsOf (F.map .str) = some F
  | [] => rfl
  | x :: F => by
    show (textsOf (F.map .str)).bind _ = _
    rw [texts_map F]; rfl
theorem not_in {F : List (List Nat)} {x : List Nat} {y : O} (hy : textsIn y = some F) {t : Bool} (h : t = decide (x ∉ F)) : InP true (.str x) y t := by
  show (textsIn y).bind _ = _
  rw [hy, h]
  show some (!F.any (· == x), ([] : List Prop)) = _
  congr 2
  by_cases q : x ∈ F
  · rw [decide_eq_false (fun h => h q), List.any_eq_true.mpr ⟨x, q, by simp⟩]; rfl
  · rw [decide_eq_true q]
    cases e : F.any (· == x) with
    | false => rfl
    | true => obtain ⟨z, hz, hz2⟩ := List.any_eq_true.mp e; rw [beq_iff_eq.mp hz2] at hz; exact absurd hz q
section
variable {d : Nat} {T : V} {Φ : Fl → Loc → Prop} {x3 x4 x5 : Option O}
noncomputable abbrev fst' (T : V) (F : List (List Nat)) (K : List V) (x3 x4 x5 : Option O) : Loc := [some (.val T), some (.own (F.map .str)), some (.own K), x3, x4, x5]
noncomputable abbrev fe (t : V) (bd : List (List Nat)) : V := .tup [t, .tup (bd.map .str)]
abbrev FW (w : World) (d : Nat) (ρ : Loc) (Φ : Fl → Loc → Prop) : Prop := WhP (c_free_60 w d) (l_free_60 w d) ρ Φ
theorem fr_num {i : Int} {K : List V} {F bd : List (List Nat)} (k : ∀ x3 x4 x5, FW w (d + 1) (fst' T F K x3 x4 x5) Φ) : FW w (d + 1) (fst' T F (fe (tv (.num i)) bd :: K) x3 x4 x5) Φ :=
  whp_go false (tp := [.r (.own []), .l .next (fst' T F K (some (.val (tv (.num i)))) (some (.val (.tup (bd.map .str)))) x5)]) (ρ' := fst' T F K (some (.val (tv (.num i)))) (some (.val (.tup (bd.map .str)))) x5) (by kernel_rfl) (P := ForOK (G w) (d + 1) fi_free (.Name "part" ⟨71,16,71,20⟩) (l_free_71 w (d + 1)).xs [] (fst' T F K (some (.val (tv (.num i)))) (some (.val (.tup (bd.map .str)))) x5) .next (fst' T F K (some (.val (tv (.num i)))) (some (.val (.tup (bd.map .str)))) x5) ∧ CallOK (G w) (d + 1) 129 [tv (.num i)] (.own []) ∧ True) (by kernel_rfl) ⟨for_nil, ok_parts d (.num i), trivial⟩ (k _ _ _)
theorem fr_name1 {x : List Nat} {K : List V} {F bd : List (List Nat)} (h : x ∈ bd) (k : ∀ x3 x4 x5, FW w (d + 1) (fst' T F K x3 x4 x5) Φ) : FW w (d + 1) (fst' T F (fe (tv (.name x)) bd :: K) x3 x4 x5) Φ :=
  whp_go false (tp := [.b false]) (ρ' := (fst' T F K (some (.val (tv (.name x)))) (some (.val (.tup (bd.map .str)))) x5)) (by kernel_rfl) (P := InP true (.str x) (.val (.tup (bd.map .str))) false ∧ True) (by kernel_rfl) ⟨not_in (F := bd) (y := .val (.tup (bd.map .str))) (texts_map bd) (by simp [h]), trivial⟩ (k _ _ _)
theorem fr_name2 {x : List Nat} {K : List V} {F bd : List (List Nat)} (h : x ∉ bd) (h2 : x ∈ F) (k : ∀ x3 x4 x5, FW w (d + 1) (fst' T F K x3 x4 x5) Φ) : FW w (d + 1) (fst' T F (fe (tv (.name x)) bd :: K) x3 x4 x5) Φ :=
  whp_go false (tp := [.b true, .b false]) (ρ' := (fst' T F K (some (.val (tv (.name x)))) (some (.val (.tup (bd.map .str)))) x5)) (by kernel_rfl) (P := InP true (.str x) (.own (F.map .str)) false ∧ InP true (.str x) (.val (.tup (bd.map .str))) true ∧ True) (by kernel_rfl) ⟨not_in (F := F) (y := .own (F.map .str)) (texts_map F) (by simp [h2]), not_in (F := bd) (y := .val (.tup (bd.map .str))) (texts_map bd) (by simp [h]), trivial⟩ (k _ _ _)
theorem fr_name3 {x : List Nat} {K : List V} {F bd : List (List Nat)} (h : x ∉ bd) (h2 : x ∉ F) (hF : F.length < room) (k : ∀ x3 x4 x5, FW w (d + 1) (fst' T (x :: F) K x3 x4 x5) Φ) : FW w (d + 1) (fst' T F (fe (tv (.name x)) bd :: K) x3 x4 x5) Φ :=
  whp_go false (tp := [.b true, .b true]) (ρ' := (fst' T (x :: F) K (some (.val (tv (.name x)))) (some (.val (.tup (bd.map .str)))) x5)) (by kernel_rfl) (P := ((F.map V.str).length < room) ∧ InP true (.str x) (.own (F.map .str)) true ∧ InP true (.str x) (.val (.tup (bd.map .str))) true ∧ True) (by kernel_rfl) ⟨by rw [List.length_map]; exact hF, not_in (F := F) (y := .own (F.map .str)) (texts_map F) (by simp [h2]), not_in (F := bd) (y := .val (.tup (bd.map .str))) (texts_map bd) (by simp [h]), trivial⟩ (k _ _ _)
theorem app_map (bd : List (List Nat)) (x : List Nat) : bd.map V.str ++ [V.str x] = (bd ++ [x]).map V.str := by simp
theorem fr_fn {x : List Nat} {b : Tree} {K : List V} {F bd : List (List Nat)} (hK : K.length < room) (hb : bd.length + 1 < room) (k : ∀ x3 x4 x5, FW w (d + 1) (fst' T F (fe (tv b) (bd ++ [x]) :: K) x3 x4 x5) Φ) : FW w (d + 1) (fst' T F (fe (tv (.fn x b)) bd :: K) x3 x4 x5) Φ :=
  whp_go false (tp := []) (ρ' := fst' T F (.tup [tv b, .tup (bd.map V.str ++ [V.str x])] :: K) (some (.val (tv (.fn x b)))) (some (.val (.tup (bd.map .str)))) x5) (by kernel_rfl) (P := (K.length < room) ∧ ((bd.map V.str ++ [V.str x]).length ≤ room) ∧ True) (by kernel_rfl) ⟨hK, by simp; omega, trivial⟩ (by rw [app_map]; exact k _ _ _)
theorem fr_lt {x : List Nat} {e b : Tree} {K : List V} {F bd : List (List Nat)} (hK : K.length + 2 < room) (hb : bd.length + 1 < room) (k : ∀ x3 x4 x5, FW w (d + 1) (fst' T F (fe (tv e) bd :: fe (tv b) (bd ++ [x]) :: K) x3 x4 x5) Φ) : FW w (d + 1) (fst' T F (fe (tv (.lt x e b)) bd :: K) x3 x4 x5) Φ :=
  whp_go false (tp := []) (ρ' := fst' T F (fe (tv e) bd :: .tup [tv b, .tup (bd.map V.str ++ [V.str x])] :: K) (some (.val (tv (.lt x e b)))) (some (.val (.tup (bd.map .str)))) x5) (by kernel_rfl) (P := ((.tup [tv b, .tup (bd.map V.str ++ [V.str x])] :: K : List V).length < room) ∧ (K.length < room) ∧ ((bd.map V.str ++ [V.str x]).length ≤ room) ∧ True) (by kernel_rfl) ⟨by rw [List.length_cons]; omega, by omega, by simp; omega, trivial⟩ (by rw [app_map]; exact k _ _ _)
theorem fr_call {a b : Tree} {K : List V} {F bd : List (List Nat)} (hK : K.length + 4 < room) (k : ∀ x3 x4 x5, FW w (d + 1) (fst' T F (fe (tv a) bd :: (fe (tv b) bd :: K)) x3 x4 x5) Φ) : FW w (d + 1) (fst' T F (fe (tv (.call a b)) bd :: K) x3 x4 x5) Φ :=
  have hf : ForOK (G w) (d + 1) fi_free (.Name "part" ⟨71,16,71,20⟩) (l_free_71 w (d + 1)).xs [tv b, tv a] (fst' T F K (some (.val (tv (.call a b)))) (some (.val (.tup (bd.map .str)))) x5) .next (fst' T F (fe (tv a) bd :: (fe (tv b) bd :: K)) (some (.val (tv (.call a b)))) (some (.val (.tup (bd.map .str)))) (some (.val (tv a)))) :=
    (for_go (i := 5) (v := tv b) (l := [tv a]) (ρ := (fst' T F K (some (.val (tv (.call a b)))) (some (.val (.tup (bd.map .str)))) x5)) (ρ' := (fst' T F (fe (tv b) bd :: K) (some (.val (tv (.call a b)))) (some (.val (.tup (bd.map .str)))) (some (.val (tv b))))) (tp := []) (by kernel_rfl) (by kernel_rfl) (P := ((K : List V).length < room) ∧ True) (by kernel_rfl) ⟨by (try simp only [List.length_cons]); omega, trivial⟩ (for_go (i := 5) (v := tv a) (l := []) (ρ := (fst' T F (fe (tv b) bd :: K) (some (.val (tv (.call a b)))) (some (.val (.tup (bd.map .str)))) (some (.val (tv b))))) (ρ' := (fst' T F (fe (tv a) bd :: (fe (tv b) bd :: K)) (some (.val (tv (.call a b)))) (some (.val (.tup (bd.map .str)))) (some (.val (tv a))))) (tp := []) (by kernel_rfl) (by kernel_rfl) (P := (((fe (tv b) bd :: K) : List V).length < room) ∧ True) (by kernel_rfl) ⟨by (try simp only [List.length_cons]); omega, trivial⟩ for_nil))
  whp_go false (tp := [.r (.own [tv b, tv a]), .l .next (fst' T F (fe (tv a) bd :: (fe (tv b) bd :: K)) (some (.val (tv (.call a b)))) (some (.val (.tup (bd.map .str)))) (some (.val (tv a))))]) (ρ' := (fst' T F (fe (tv a) bd :: (fe (tv b) bd :: K)) (some (.val (tv (.call a b)))) (some (.val (.tup (bd.map .str)))) (some (.val (tv a))))) (by kernel_rfl) (P := ForOK (G w) (d + 1) fi_free (.Name "part" ⟨71,16,71,20⟩) (l_free_71 w (d + 1)).xs [tv b, tv a] (fst' T F K (some (.val (tv (.call a b)))) (some (.val (.tup (bd.map .str)))) x5) .next (fst' T F (fe (tv a) bd :: (fe (tv b) bd :: K)) (some (.val (tv (.call a b)))) (some (.val (.tup (bd.map .str)))) (some (.val (tv a)))) ∧ CallOK (G w) (d + 1) 129 [tv (.call a b)] (.own [tv b, tv a]) ∧ True) (by kernel_rfl) ⟨hf, ok_parts d (.call a b), trivial⟩ (k _ _ _)
theorem fr_plus {a b : Tree} {K : List V} {F bd : List (List Nat)} (hK : K.length + 4 < room) (k : ∀ x3 x4 x5, FW w (d + 1) (fst' T F (fe (tv a) bd :: (fe (tv b) bd :: K)) x3 x4 x5) Φ) : FW w (d + 1) (fst' T F (fe (tv (.plus a b)) bd :: K) x3 x4 x5) Φ :=
  have hf : ForOK (G w) (d + 1) fi_free (.Name "part" ⟨71,16,71,20⟩) (l_free_71 w (d + 1)).xs [tv b, tv a] (fst' T F K (some (.val (tv (.plus a b)))) (some (.val (.tup (bd.map .str)))) x5) .next (fst' T F (fe (tv a) bd :: (fe (tv b) bd :: K)) (some (.val (tv (.plus a b)))) (some (.val (.tup (bd.map .str)))) (some (.val (tv a)))) :=
    (for_go (i := 5) (v := tv b) (l := [tv a]) (ρ := (fst' T F K (some (.val (tv (.plus a b)))) (some (.val (.tup (bd.map .str)))) x5)) (ρ' := (fst' T F (fe (tv b) bd :: K) (some (.val (tv (.plus a b)))) (some (.val (.tup (bd.map .str)))) (some (.val (tv b))))) (tp := []) (by kernel_rfl) (by kernel_rfl) (P := ((K : List V).length < room) ∧ True) (by kernel_rfl) ⟨by (try simp only [List.length_cons]); omega, trivial⟩ (for_go (i := 5) (v := tv a) (l := []) (ρ := (fst' T F (fe (tv b) bd :: K) (some (.val (tv (.plus a b)))) (some (.val (.tup (bd.map .str)))) (some (.val (tv b))))) (ρ' := (fst' T F (fe (tv a) bd :: (fe (tv b) bd :: K)) (some (.val (tv (.plus a b)))) (some (.val (.tup (bd.map .str)))) (some (.val (tv a))))) (tp := []) (by kernel_rfl) (by kernel_rfl) (P := (((fe (tv b) bd :: K) : List V).length < room) ∧ True) (by kernel_rfl) ⟨by (try simp only [List.length_cons]); omega, trivial⟩ for_nil))
  whp_go false (tp := [.r (.own [tv b, tv a]), .l .next (fst' T F (fe (tv a) bd :: (fe (tv b) bd :: K)) (some (.val (tv (.plus a b)))) (some (.val (.tup (bd.map .str)))) (some (.val (tv a))))]) (ρ' := (fst' T F (fe (tv a) bd :: (fe (tv b) bd :: K)) (some (.val (tv (.plus a b)))) (some (.val (.tup (bd.map .str)))) (some (.val (tv a))))) (by kernel_rfl) (P := ForOK (G w) (d + 1) fi_free (.Name "part" ⟨71,16,71,20⟩) (l_free_71 w (d + 1)).xs [tv b, tv a] (fst' T F K (some (.val (tv (.plus a b)))) (some (.val (.tup (bd.map .str)))) x5) .next (fst' T F (fe (tv a) bd :: (fe (tv b) bd :: K)) (some (.val (tv (.plus a b)))) (some (.val (.tup (bd.map .str)))) (some (.val (tv a)))) ∧ CallOK (G w) (d + 1) 129 [tv (.plus a b)] (.own [tv b, tv a]) ∧ True) (by kernel_rfl) ⟨hf, ok_parts d (.plus a b), trivial⟩ (k _ _ _)
theorem addN_len (bd F : List (List Nat)) (x : List Nat) : (addN bd F x).length ≤ F.length + 1 := by
  unfold addN; split
  · omega
  · rw [List.length_cons]; omega
theorem fr_len (t : Tree) : ∀ bd F, (fr t bd F).length ≤ F.length + sz t := by
  induction t with
  | num i => intro bd F; exact Nat.le_add_right _ _
  | name x => intro bd F; exact addN_len bd F x
  | fn x b ib => intro bd F; have := ib (bd ++ [x]) F; show (fr b (bd ++ [x]) F).length ≤ F.length + (sz b + 1); omega
  | call a b ia ib => intro bd F; have h1 := ia bd F; have h2 := ib bd (fr a bd F); show (fr b bd (fr a bd F)).length ≤ F.length + (sz a + sz b + 1); omega
  | plus a b ia ib => intro bd F; have h1 := ia bd F; have h2 := ib bd (fr a bd F); show (fr b bd (fr a bd F)).length ≤ F.length + (sz a + sz b + 1); omega
  | lt x e b ie ib => intro bd F; have h1 := ie bd F; have h2 := ib (bd ++ [x]) (fr e bd F); show (fr b (bd ++ [x]) (fr e bd F)).length ≤ F.length + (sz e + sz b + 1); omega
theorem fr_all (t : Tree) : ∀ {K : List V} {F bd : List (List Nat)} {x3 x4 x5 : Option O}, K.length + 4 * sz t < room → F.length + 4 * sz t < room → bd.length + 4 * sz t < room → (∀ x3 x4 x5, FW w (d + 1) (fst' T (fr t bd F) K x3 x4 x5) Φ) → FW w (d + 1) (fst' T F (fe (tv t) bd :: K) x3 x4 x5) Φ := by
  induction t with
  | num i => intro K F bd x3 x4 x5 hK hF hb k; exact fr_num k
  | name x =>
    intro K F bd x3 x4 x5 hK hF hb k
    have e : fr (.name x) bd F = addN bd F x := rfl
    rw [e] at k
    unfold addN at k
    by_cases h : x ∈ bd
    · rw [if_pos (.inl h)] at k; exact fr_name1 h k
    · by_cases h2 : x ∈ F
      · rw [if_pos (.inr h2)] at k; exact fr_name2 h h2 k
      · rw [if_neg (fun q => q.elim h h2)] at k; exact fr_name3 h h2 (by omega) k
  | fn x b ib =>
    intro K F bd x3 x4 x5 hK hF hb k
    have hs : sz (.fn x b) = sz b + 1 := rfl
    rw [hs] at hK hF hb
    exact fr_fn (by omega) (by omega) fun _ _ _ => ib (by omega) (by omega) (by rw [List.length_append, List.length_singleton]; omega) k
  | call a b ia ib =>
    intro K F bd x3 x4 x5 hK hF hb k
    have hs : sz (.call a b) = sz a + sz b + 1 := rfl
    rw [hs] at hK hF hb
    have := sz_pos a; have := sz_pos b; have := fr_len a bd F
    exact fr_call (by omega) fun _ _ _ => ia (by rw [List.length_cons]; omega) (by omega) (by omega) fun _ _ _ => ib (by omega) (by omega) (by omega) k
  | plus a b ia ib =>
    intro K F bd x3 x4 x5 hK hF hb k
    have hs : sz (.plus a b) = sz a + sz b + 1 := rfl
    rw [hs] at hK hF hb
    have := sz_pos a; have := sz_pos b; have := fr_len a bd F
    exact fr_plus (by omega) fun _ _ _ => ia (by rw [List.length_cons]; omega) (by omega) (by omega) fun _ _ _ => ib (by omega) (by omega) (by omega) k
  | lt x e b ie ib =>
    intro K F bd x3 x4 x5 hK hF hb k
    have hs : sz (.lt x e b) = sz e + sz b + 1 := rfl
    rw [hs] at hK hF hb
    have := sz_pos e; have := sz_pos b; have := fr_len e bd F
    exact fr_lt (by omega) (by omega) fun _ _ _ => ie (by rw [List.length_cons]; omega) (by omega) (by omega) fun _ _ _ => ib (by omega) (by omega) (by rw [List.length_append, List.length_singleton]; omega) k
theorem ok_free (t : Tree) (hz : 4 * sz t < room) : CallOK (G w) (d + 2) 143 [tv t] (.own ((fr t [] []).map .str)) := by
  obtain ⟨fl, ρ, hw, rfl, x3, x4, x5, rfl⟩ := fr_all (w := w) (d := d) (T := tv t) (Φ := fun fl ρ => fl = .next ∧ ∃ x3 x4 x5, ρ = fst' (tv t) (fr t [] []) [] x3 x4 x5) t (K := []) (F := []) (bd := []) (x3 := none) (x4 := none) (x5 := none) (by simpa using hz) (by simpa using hz) (by simpa using hz) fun x3 x4 x5 => whp_end false (tp := []) (ρ' := fst' (tv t) (fr t [] []) [] x3 x4 x5) (by kernel_rfl) (P := True) (by kernel_rfl) trivial ⟨rfl, _, _, _, rfl⟩
  exact call_go (n := 5) (tp := [.l .next (fst' (tv t) (fr t [] []) [] x3 x4 x5)]) (b_free w (d + 1)) rfl (b_free_x w (d + 1)) rfl (by kernel_rfl) (P := WhilOK (G w) (d + 1) fi_free (c_free_60 w (d + 1)).x (l_free_60 w (d + 1)).xs (fst' (tv t) [] [fe (tv t) []] none none none) .next (fst' (tv t) (fr t [] []) [] x3 x4 x5) ∧ True) (by kernel_rfl) ⟨hw, trivial⟩
end
end Mine.L12
end

section
open PySem
set_option autoImplicit false
set_option maxRecDepth 100000
namespace Mine.L12
variable {w : World} {d : Nat}
noncomputable abbrev mO (n a wo : V) (m dd : Int) (A K : List V) : O := .obj ct_Mill [n, a, wo, .int m, .int dd] [A, K]
abbrev EM : Prop := ct_Mill = ct_Mill
abbrev EK : Prop := ct_Kept = ct_Kept
theorem ini_mill (t : V) (m : Int) : CallB (G w) (d + 1) 185 [.obj ct_Mill [] [], .val t, .val (.int m)] .none [mO t .none .none m 0 [] [], .val t, .val (.int m)] :=
  callB_go (n := 0) (tp := []) (b_Mill_init w d) rfl (b_Mill_init_x w d) rfl (by kernel_rfl) (by kernel_rfl) (P := EM ∧ (1 = 1) ∧ EM ∧ EM ∧ EM ∧ (0 = 0) ∧ EM ∧ EM ∧ EM ∧ True) (by kernel_rfl) ⟨rfl, rfl, rfl, rfl, rfl, rfl, rfl, rfl, rfl, trivial⟩
theorem ini_kept (a b c e : V) : CallB (G w) (d + 1) 164 [.obj ct_Kept [] [], .val a, .val b, .val c, .val e] .none [.obj ct_Kept [a, b, c, e] [], .val a, .val b, .val c, .val e] :=
  callB_go (n := 0) (tp := []) (b_Kept_init w d) rfl (b_Kept_init_x w d) rfl (by kernel_rfl) (by kernel_rfl) (P := EK ∧ EK ∧ EK ∧ EK ∧ True) (by kernel_rfl) ⟨rfl, rfl, rfl, rfl, trivial⟩
noncomputable def evE (E : List (List Nat × V)) : V := @List.rec (List Nat × V) (fun _ => V) .none (fun p _ r => .tup [.str p.1, p.2, r]) E
theorem stands_loop {o : O} {x : List Nat} {v : V} : ∀ {E : List (List Nat × V)}, E.lookup x = some v → ∃ p, WhilOK (G w) d fi_Mill_stands_for (c_Mill_stands_for_103 w d).x (l_Mill_stands_for_103 w d).xs [some o, some (.val (.str x)), some (.val (evE E))] (.ret (.val v)) [some o, some (.val (.str x)), p]
  | [], h => by cases h
  | (y, u) :: E, h => by
    rw [List.lookup_cons] at h
    cases q : x == y with
    | true =>
      rw [q] at h; cases h
      have q' : (y == x) = true := by rw [beq_iff_eq] at q ⊢; exact q.symm
      exact ⟨_, whil_ret false (ρ' := [some o, some (.val (.str x)), some (.val (evE ((y, v) :: E)))]) (tp := [.b true]) (by kernel_rfl) (P := (y == x) = true ∧ True) (by kernel_rfl) ⟨q', trivial⟩⟩
    | false =>
      rw [q] at h
      have q' : (y == x) = false := by rw [beq_eq_false_iff_ne] at q ⊢; exact Ne.symm q
      obtain ⟨p, k⟩ := stands_loop (o := o) (E := E) h
      exact ⟨p, whil_go false (ρ := [some o, some (.val (.str x)), some (.val (evE ((y, u) :: E)))]) (ρ' := [some o, some (.val (.str x)), some (.val (evE E))]) (tp := [.b false]) (by kernel_rfl) (P := (y == x) = false ∧ True) (by kernel_rfl) ⟨q', trivial⟩ k⟩
section
variable {n wo : V} {m dd : Int} {A K : List V}
theorem stands {x : List Nat} {v : V} {E : List (List Nat × V)} (h : E.lookup x = some v) : CallB (G w) (d + 1) 192 [mO n (evE E) wo m dd A K, .val (.str x)] v [mO n (evE E) wo m dd A K, .val (.str x)] := by
  obtain ⟨p, k⟩ := stands_loop (w := w) (d := d) (o := mO n (evE E) wo m dd A K) h
  exact callB_go (n := 1) (tp := [.l (.ret (.val v)) [some (mO n (evE E) wo m dd A K), some (.val (.str x)), p]]) (b_Mill_stands_for w d) rfl (b_Mill_stands_for_x w d) rfl (by kernel_rfl) (by kernel_rfl) (P := WhilOK (G w) d fi_Mill_stands_for (c_Mill_stands_for_103 w d).x (l_Mill_stands_for_103 w d).xs [some (mO n (evE E) wo m dd A K), some (.val (.str x)), some (.val (evE E))] (.ret (.val v)) [some (mO n (evE E) wo m dd A K), some (.val (.str x)), p] ∧ EM ∧ True) (by kernel_rfl) ⟨k, rfl, trivial⟩
theorem come_num {i : Int} {a : V} : CallB (G w) (d + 1) 204 [mO (tv (.num i)) a wo m dd A K] .none [mO .none a (.int i) m dd A K] :=
  callB_go (n := 3) (tp := []) (b_Mill_come w d) rfl (b_Mill_come_x w d) rfl (by kernel_rfl) (by kernel_rfl) (P := EM ∧ EM ∧ EM ∧ True) (by kernel_rfl) ⟨rfl, rfl, rfl, trivial⟩
theorem come_lt {x : List Nat} {e b : Tree} {a : V} (hA : A.length < room) : CallB (G w) (d + 1) 204 [mO (tv (.lt x e b)) a wo m dd A K] .none [mO (tv e) a wo m dd (.tup [tv (.lt x e b), a, .tup []] :: A) K] :=
  callB_go (n := 3) (tp := []) (b_Mill_come w d) rfl (b_Mill_come_x w d) rfl (by kernel_rfl) (by kernel_rfl) (P := EM ∧ EM ∧ EM ∧ (A.length < room) ∧ EM ∧ EM ∧ EM ∧ True) (by kernel_rfl) ⟨rfl, rfl, rfl, hA, rfl, rfl, rfl, trivial⟩
theorem back_lt {x : List Nat} {e b : Tree} {a a' : V} (h : (dd == m) = false) : CallB (G w) (d + 1) 211 [mO .none a' wo m dd (.tup [tv (.lt x e b), a, .tup []] :: A) K] .none [mO (tv b) (.tup [.str x, wo, a]) wo m (dd + 1) A K] :=
  callB_go (n := 4) (tp := [.b false]) (b_Mill_back w d) rfl (b_Mill_back_x w d) rfl (by kernel_rfl) (by kernel_rfl) (P := EM ∧ EM ∧ EM ∧ EM ∧ ((dd == m) = false) ∧ EM ∧ EM ∧ (1 ≤ 1000000) ∧ EM ∧ EM ∧ True) (by kernel_rfl) ⟨rfl, rfl, rfl, rfl, h, rfl, rfl, by decide, rfl, rfl, trivial⟩
noncomputable abbrev kpt (x : List Nat) (b : Tree) (N : List (List Nat)) (H : List V) : V := .ins ct_Kept [.str x, tv b, .lst (N.map .str), .lst H]
noncomputable abbrev hst (n wo a nd : V) (m dd : Int) (A K N : List V) : Loc := [some (mO n a wo m dd A K), some (.val nd), some (.val (.lst N)), none]
theorem held_all {nd : V} {L : List V} {E : List (List Nat × V)} {f : List Nat → V} : ∀ {N : List (List Nat)}, (∀ x, x ∈ N → E.lookup x = some (f x)) → CompL (G w) (d + 1) (fi_Mill_come.inner s_Mill_come_126_55 "name" 3) (e_Mill_come_126_55 w (d + 1)).x 3 (hst n wo (evE E) nd m dd A K L) (N.map .str) (N.map f)
  | [], _ => comp_nil
  | x :: N, h => comp_go (o := .val (f x)) (tp := [.l (.ret (.val (f x))) [some (mO n (evE E) wo m dd A K)]]) (by kernel_rfl) (P := CallB (G w) (d + 1) 192 [mO n (evE E) wo m dd A K, .val (.str x)] (f x) [mO n (evE E) wo m dd A K, .val (.str x)] ∧ EM ∧ True) (by kernel_rfl) ⟨stands (h x List.mem_cons_self), rfl, trivial⟩ (held_all fun y hy => h y (List.mem_cons_of_mem _ hy))
theorem come_fn0 {x : List Nat} {b : Tree} {a : V} {R H : List V} (hf : CallOK (G w) (d + 2) 143 [tv (.fn x b)] (.own R)) (hc : CompL (G w) (d + 2) (fi_Mill_come.inner s_Mill_come_126_55 "name" 3) (e_Mill_come_126_55 w (d + 2)).x 3 (hst .none wo a (tv (.fn x b)) m dd A K R.reverse) R.reverse H) (hl : R.reverse.length ≤ room) (hK : K.length < room) :
    CallB (G w) (d + 3) 204 [mO (tv (.fn x b)) a wo m dd A K] .none [mO .none a (.ins ct_Kept [.str x, tv b, .lst R.reverse, .lst H.reverse.reverse]) m dd A (.ins ct_Kept [.str x, tv b, .lst R.reverse, .lst H.reverse.reverse] :: K)] :=
  callB_go (n := 3) (tp := [.r (.own R), .vs H, .r (.obj ct_Kept [.str x, tv b, .lst R.reverse, .lst H.reverse.reverse] [])]) (b_Mill_come w (d + 2)) rfl (b_Mill_come_x w (d + 2)) rfl (by kernel_rfl) (by kernel_rfl)
    (P := EM ∧ (K.length < room) ∧ EM ∧ EM ∧ CallB (G w) (d + 2) 164 [.obj ct_Kept [] [], .val (.str x), .val (tv b), .val (.lst R.reverse), .val (.lst H.reverse.reverse)] .none [.obj ct_Kept [.str x, tv b, .lst R.reverse, .lst H.reverse.reverse] [], .val (.str x), .val (tv b), .val (.lst R.reverse), .val (.lst H.reverse.reverse)] ∧
      (CompL (G w) (d + 2) (fi_Mill_come.inner s_Mill_come_126_55 "name" 3) (e_Mill_come_126_55 w (d + 2)).x 3 (hst .none wo a (tv (.fn x b)) m dd A K R.reverse) R.reverse H ∧ R.reverse.length ≤ room ∧ ∃ o, some (mO .none a wo m dd A K) = some o) ∧ CallOK (G w) (d + 2) 143 [tv (.fn x b)] (.own R) ∧ EM ∧ EM ∧ True) (by kernel_rfl) ⟨rfl, hK, rfl, rfl, ini_kept _ _ _ _, ⟨hc, hl, _, rfl⟩, hf, rfl, rfl, trivial⟩
theorem come_fn {x : List Nat} {b : Tree} {E : List (List Nat × V)} {f : List Nat → V} {F : List (List Nat)} (hF : fr (.fn x b) [] [] = F.reverse) (hz : 4 * sz (.fn x b) < room) (hn : ∀ y, y ∈ F → E.lookup y = some (f y)) (hl : F.length ≤ room) (hK : K.length < room) :
    CallB (G w) (d + 3) 204 [mO (tv (.fn x b)) (evE E) wo m dd A K] .none [mO .none (evE E) (kpt x b F (F.map f)) m dd A (kpt x b F (F.map f) :: K)] := by
  have hf := ok_free (w := w) (d := d) (.fn x b) hz
  rw [hF, List.map_reverse] at hf
  have h := come_fn0 (w := w) (d := d) (x := x) (b := b) (a := evE E) (R := (F.map V.str).reverse) (H := F.map f) (wo := wo) (m := m) (dd := dd) (A := A) (K := K) hf (by rw [List.reverse_reverse]; exact held_all hn) (by rw [List.length_reverse, List.length_reverse, List.length_map]; exact hl) hK
  rw [List.reverse_reverse, List.reverse_reverse] at h
  exact h
theorem come_name {x : List Nat} {v : V} {E : List (List Nat × V)} (h : E.lookup x = some v) : CallB (G w) (d + 2) 204 [mO (tv (.name x)) (evE E) wo m dd A K] .none [mO .none (evE E) v m dd A K] :=
  callB_go (n := 3) (tp := [.l (.ret (.val v)) [some (mO .none (evE E) wo m dd A K)]]) (b_Mill_come w (d + 1)) rfl (b_Mill_come_x w (d + 1)) rfl (by kernel_rfl) (by kernel_rfl) (P := EM ∧ CallB (G w) (d + 1) 192 [mO .none (evE E) wo m dd A K, .val (.str x)] v [mO .none (evE E) wo m dd A K, .val (.str x)] ∧ EM ∧ EM ∧ EM ∧ True) (by kernel_rfl) ⟨rfl, stands h, rfl, rfl, rfl, trivial⟩
theorem come_call {f a : Tree} {e : V} (hA : A.length < room) : CallB (G w) (d + 1) 204 [mO (tv (.call f a)) e wo m dd A K] .none [mO (tv f) e wo m dd (.tup [tv (.call f a), e, .tup []] :: A) K] :=
  callB_go (n := 3) (tp := []) (b_Mill_come w d) rfl (b_Mill_come_x w d) rfl (by kernel_rfl) (by kernel_rfl) (P := EM ∧ EM ∧ (A.length < room) ∧ EM ∧ EM ∧ EM ∧ True) (by kernel_rfl) ⟨rfl, rfl, hA, rfl, rfl, rfl, trivial⟩
theorem back_call1 {f a : Tree} {e a' : V} (hA : A.length < room) : CallB (G w) (d + 1) 211 [mO .none a' wo m dd (.tup [tv (.call f a), e, .tup []] :: A) K] .none [mO (tv a) e wo m dd (.tup [tv (.call f a), e, .tup [wo]] :: A) K] :=
  callB_go (n := 4) (tp := []) (b_Mill_back w d) rfl (b_Mill_back_x w d) rfl (by kernel_rfl) (by kernel_rfl) (P := EM ∧ EM ∧ EM ∧ (A.length < room) ∧ (1 ≤ 1000000) ∧ EM ∧ EM ∧ True) (by kernel_rfl) ⟨rfl, rfl, rfl, hA, by decide, rfl, rfl, trivial⟩
abbrev E181 : Prop := ct_Kept.c = ct_Kept.c
noncomputable abbrev est (s k wo : O) (e : V) (x4 x5 : Option O) : Loc := [some s, some k, some wo, some (.val e), x4, x5]
theorem enter_loop {s k wo : O} : ∀ (N : List (List Nat)) (H : List V) (E : List (List Nat × V)) (x4 x5 : Option O), ∃ y4 y5, ForZ (G w) d fi_Mill_enter (.Tuple (nmX [("name", 4, ⟨166,12,166,16⟩), ("held", 5, ⟨166,18,166,22⟩)]) 0 ⟨166,12,166,22⟩) (l_Mill_enter_166 w d).xs (N.map .str) H (est s k wo (evE E) x4 x5) .next (est s k wo (evE ((N.zip H).reverse ++ E)) y4 y5)
  | [], H, E, x4, x5 => ⟨x4, x5, forz_nil (.inl rfl)⟩
  | n :: N, [], E, x4, x5 => ⟨x4, x5, forz_nil (.inr rfl)⟩
  | n :: N, v :: H, E, x4, x5 => by
    obtain ⟨y4, y5, h⟩ := enter_loop N H ((n, v) :: E) (some (.val (.str n))) (some (.val v))
    refine ⟨y4, y5, ?_⟩
    rw [List.zip_cons_cons, List.reverse_cons, List.append_assoc]
    exact forz_ok (by kernel_rfl) (l_Mill_enter_166 w d) (.str n) v (N.map .str) H (ρ := est s k wo (evE E) x4 x5) (ρ₁ := est s k wo (evE E) (some (.val (.str n))) (some (.val v))) (ρ₂ := est s k wo (evE ((n, v) :: E)) (some (.val (.str n))) (some (.val v))) (tp := []) (by kernel_rfl) (by kernel_rfl) (P := True) (by kernel_rfl) trivial h
theorem ok_enter {n a : V} {x : List Nat} {b : Tree} {N : List (List Nat)} {H : List V} {u : V} : CallB (G w) (d + 1) 225 [mO n a wo m dd A K, .val (kpt x b N H), .val u] .none [mO (tv b) (evE ((x, u) :: (N.zip H).reverse)) wo m dd A K, .val (kpt x b N H), .val u] := by
  obtain ⟨y4, y5, h⟩ := enter_loop (w := w) (d := d) (s := mO n a wo m dd A K) (k := .val (kpt x b N H)) (wo := .val u) N H [] none none
  rw [List.append_nil] at h
  generalize (N.zip H).reverse = R at *
  exact callB_go (n := 3) (tp := [.l .next (est (mO n a wo m dd A K) (.val (kpt x b N H)) (.val u) (evE R) y4 y5)]) (b_Mill_enter w d) rfl (b_Mill_enter_x w d) rfl (by kernel_rfl) (by kernel_rfl) (P := EM ∧ EK ∧ EM ∧ EK ∧ ForZ (G w) d fi_Mill_enter (.Tuple (nmX [("name", 4, ⟨166,12,166,16⟩), ("held", 5, ⟨166,18,166,22⟩)]) 0 ⟨166,12,166,22⟩) (l_Mill_enter_166 w d).xs (N.map .str) H (est (mO n a wo m dd A K) (.val (kpt x b N H)) (.val u) (evE []) none none) .next (est (mO n a wo m dd A K) (.val (kpt x b N H)) (.val u) (evE R) y4 y5) ∧ EK ∧ EK ∧ E181 ∧ True) (by kernel_rfl) ⟨rfl, rfl, rfl, rfl, h, rfl, rfl, rfl, trivial⟩
theorem back_call2 {f c : Tree} {e a' : V} {x : List Nat} {b : Tree} {N : List (List Nat)} {H : List V} (h : (dd == m) = false) : CallB (G w) (d + 2) 211 [mO .none a' wo m dd (.tup [tv (.call f c), e, .tup [kpt x b N H]] :: A) K] .none [mO (tv b) (evE ((x, wo) :: (N.zip H).reverse)) wo m (dd + 1) A K] :=
  callB_go (n := 4) (tp := [.b false, .l (.ret (.val .none)) [some (mO (tv b) (evE ((x, wo) :: (N.zip H).reverse)) wo m (dd + 1) A K)]]) (b_Mill_back w (d + 1)) rfl (b_Mill_back_x w (d + 1)) rfl (by kernel_rfl) (by kernel_rfl)
    (P := CallB (G w) (d + 1) 225 [mO .none a' wo m (dd + 1) A K, .val (kpt x b N H), .val wo] .none [mO (tv b) (evE ((x, wo) :: (N.zip H).reverse)) wo m (dd + 1) A K, .val (kpt x b N H), .val wo] ∧ EM ∧ EM ∧ EM ∧ ((dd == m) = false) ∧ EM ∧ EM ∧ (2 ≤ 1000000) ∧ EM ∧ EM ∧ True) (by kernel_rfl) ⟨ok_enter, rfl, rfl, rfl, h, rfl, rfl, by decide, rfl, rfl, trivial⟩
abbrev TW (w : World) (d : Nat) (ρ ρ' : Loc) : Prop := WhilOK (G w) d fi_Mill_through (c_Mill_through_110 w d).x (l_Mill_through_110 w d).xs ρ .next ρ'
theorem go_come {n a n' a' wo' : V} {l : List V} {A' K' : List V} {ρ' : Loc} (hn : n = .tup l) (hc : CallB (G w) d 204 [mO n a wo m dd A K] .none [mO n' a' wo' m dd A' K']) (k : TW w d [some (mO n' a' wo' m dd A' K')] ρ') : TW w d [some (mO n a wo m dd A K)] ρ' := by
  subst hn
  exact whil_go false (ρ' := [some (mO n' a' wo' m dd A' K')]) (tp := [.l (.ret (.val .none)) [some (mO n' a' wo' m dd A' K')]]) (by kernel_rfl) (P := CallB (G w) d 204 [mO (.tup l) a wo m dd A K] .none [mO n' a' wo' m dd A' K'] ∧ EM ∧ EM ∧ EM ∧ True) (by kernel_rfl) ⟨hc, rfl, rfl, rfl, trivial⟩ k
theorem go_back {a n' a' wo' t : V} {dd' : Int} {A' K' : List V} {ρ' : Loc} (hc : CallB (G w) d 211 [mO .none a wo m dd (t :: A) K] .none [mO n' a' wo' m dd' A' K']) (k : TW w d [some (mO n' a' wo' m dd' A' K')] ρ') : TW w d [some (mO .none a wo m dd (t :: A) K)] ρ' :=
  whil_go false (ρ' := [some (mO n' a' wo' m dd' A' K')]) (tp := [.l (.ret (.val .none)) [some (mO n' a' wo' m dd' A' K')]]) (by kernel_rfl) (P := CallB (G w) d 211 [mO .none a wo m dd (t :: A) K] .none [mO n' a' wo' m dd' A' K'] ∧ EM ∧ EM ∧ EM ∧ EM ∧ True) (by kernel_rfl) ⟨hc, rfl, rfl, rfl, rfl, trivial⟩ k
theorem go_end {a : V} : TW w d [some (mO .none a wo m dd [] K)] [some (mO .none a wo m dd [] K)] :=
  whil_end false (tp := []) (by kernel_rfl) (P := EM ∧ EM ∧ True) (by kernel_rfl) ⟨rfl, rfl, trivial⟩
theorem ok_through {n a n' a' wo' : V} {dd' : Int} {A' K' : List V} (h : TW w d [some (mO n a wo m dd A K)] [some (mO n' a' wo' m dd' A' K')]) : CallB (G w) (d + 1) 199 [mO n a wo m dd A K] wo' [mO n' a' wo' m dd' A' K'] :=
  callB_go (n := 0) (tp := [.l .next [some (mO n' a' wo' m dd' A' K')]]) (b_Mill_through w d) rfl (b_Mill_through_x w d) rfl (by kernel_rfl) (by kernel_rfl) (P := EM ∧ TW w d [some (mO n a wo m dd A K)] [some (mO n' a' wo' m dd' A' K')] ∧ True) (by kernel_rfl) ⟨rfl, h, trivial⟩
end
theorem ok_asked {t : Tree} {m : Int} (g : gd t) (hs : sz t ≤ 400) (hf : fr t [] [] = []) (h0 : 0 ≤ m) (h1 : m ≤ 1000) : CallOK (G w) (d + 4) 150 [tv t, .int m] (.val .none) := by
  have k1 := ok_need (w := w) (d := d) g hs
  have k2 := ok_free (w := w) (d := d + 1) t (by have := room_big; omega)
  rw [hf] at k2
  exact call_end (n := 0) (ρ' := [some (.val (tv t)), some (.val (.int m))]) (tp := [.r (.val (tv t)), .r (.own []), .r (.val (.bool true)), .b true, .b false]) (b_need w (d + 3)) rfl (b_need_x w (d + 3)) rfl (by kernel_rfl) (P := (!decide (m ≤ 1000)) = false ∧ decide (0 ≤ m) = true ∧ CallOK (G w) (d + 3) 115 [.int m] (.val (.bool true)) ∧ CallOK (G w) (d + 3) 143 [tv t] (.own []) ∧ CallOK (G w) (d + 3) 136 [tv t] (.val (tv t)) ∧ True) (by kernel_rfl)
    ⟨by rw [decide_eq_true h1]; rfl, decide_eq_true h0, ok_whole (d + 2) m, k2, k1, trivial⟩
theorem ok_made {t : Tree} {m dd : Int} {n a v : V} {A K : List V} (hq : CallOK (G w) (d + 5) 150 [tv t, .int m] (.val .none)) (h : TW w (d + 4) [some (mO (tv t) .none .none m 0 [] [])] [some (mO n a v m dd A K)]) : CallOK (G w) (d + 6) 246 [tv t, .int m] (.val (.lst K.reverse)) :=
  call_go (n := 1) (tp := [.r (.val .none), .r (mO (tv t) .none .none m 0 [] []), .l (.ret (.val v)) [some (mO n a v m dd A K)]]) (b_made w (d + 5)) rfl (b_made_x w (d + 5)) rfl (by kernel_rfl)
    (P := EM ∧ CallB (G w) (d + 5) 199 [mO (tv t) .none .none m 0 [] []] v [mO n a v m dd A K] ∧ EM ∧ CallB (G w) (d + 5) 185 [.obj ct_Mill [] [], .val (tv t), .val (.int m)] .none [mO (tv t) .none .none m 0 [] [], .val (tv t), .val (.int m)] ∧ CallOK (G w) (d + 5) 150 [tv t, .int m] (.val .none) ∧ True) (by kernel_rfl) ⟨rfl, ok_through h, rfl, ini_mill _ _, hq, trivial⟩
end Mine.L12
end

section
open PySem
set_option autoImplicit false
set_option maxRecDepth 100000
namespace Mine.L12
variable {w : World} {d : Nat}
inductive DV where
  | int (i : Int)
  | fn (x : List Nat) (b : Tree)
noncomputable def dvV (v : DV) : V := DV.casesOn v (fun i => .int i) fun x b => .tup [.str x, tv b]
def mrel (d : DV) (v : V) : Prop := DV.casesOn d (fun i => v = .int i) fun x b => ∃ N H, v = kpt x b N H
def mrels (ds : List DV) : List V → Prop := @List.rec DV (fun _ => List V → Prop) (fun vs => vs = []) (fun d _ ih vs => ∃ v r, vs = v :: r ∧ mrel d v ∧ ih r) ds
theorem mrels_len : ∀ {ds : List DV} {vs : List V}, mrels ds vs → vs.length = ds.length
  | [], _, h => by cases h; rfl
  | _ :: ds, _, ⟨v, r, e, _, h⟩ => by subst e; exact congrArg (· + 1) (mrels_len (ds := ds) h)
structure DE where
  x : List Nat
  b : Tree
  N : List (List Nat)
  ds : List DV
noncomputable def deV (e : DE) : V := .tup [.str e.x, tv e.b, .lst (e.N.map V.str), .lst (e.ds.map dvV)]
def krel (e : DE) (v : V) : Prop := ∃ H, v = kpt e.x e.b e.N H ∧ mrels e.ds H
def krels (es : List DE) : List V → Prop := @List.rec DE (fun _ => List V → Prop) (fun vs => vs = []) (fun d _ ih vs => ∃ v r, vs = v :: r ∧ krel d v ∧ ih r) es
theorem krels_len : ∀ {es : List DE} {vs : List V}, krels es vs → vs.length = es.length
  | [], _, h => by cases h; rfl
  | _ :: es, _, ⟨v, r, e, _, h⟩ => by subst e; exact congrArg (· + 1) (krels_len (es := es) h)
theorem krels_app : ∀ {a b : List DE} {u v : List V}, krels a u → krels b v → krels (a ++ b) (u ++ v)
  | [], _, _, _, h, k => by cases h; exact k
  | _ :: a, _, _, _, ⟨x, r, e, h1, h⟩, k => by subst e; exact ⟨x, _, rfl, h1, krels_app (a := a) h k⟩
noncomputable def bodyP (n : Int) (row : List (List Nat)) : Tree := @List.rec (List Nat) (fun _ => Tree) (.num n) (fun x _ t => .plus (.name x) t) row
theorem fr_body (n : Int) (bd : List (List Nat)) : ∀ (row F : List (List Nat)), fr (bodyP n row) bd F = row.foldl (addN bd) F
  | [], F => rfl
  | x :: r, F => by
    show fr (bodyP n r) bd (addN bd F x) = _
    rw [fr_body n bd r, List.foldl_cons]
theorem sz_body (n : Int) : ∀ row : List (List Nat), sz (bodyP n row) = 2 * row.length + 1
  | [] => rfl
  | x :: r => by show 1 + sz (bodyP n r) + 1 = _; rw [sz_body n r, List.length_cons]; omega
theorem gd_body {n : Int} (hn : numI n = true) : ∀ {row : List (List Nat)}, (∀ x, x ∈ row → isName x = true) → gd (bodyP n row)
  | [], _ => hn
  | x :: r, h => ⟨h x List.mem_cons_self, gd_body hn fun y hy => h y (List.mem_cons_of_mem _ hy)⟩
theorem fold_in {bd : List (List Nat)} {F : List (List Nat)} : ∀ {row : List (List Nat)}, (∀ x, x ∈ row → x ∈ bd) → row.foldl (addN bd) F = F
  | [], _ => rfl
  | x :: r, h => by
    rw [List.foldl_cons, show addN bd F x = F from if_pos (.inl (h x List.mem_cons_self))]
    exact fold_in fun y hy => h y (List.mem_cons_of_mem _ hy)
theorem addN_same {bd bd' F : List (List Nat)} {x : List Nat} (h : x ∈ bd ↔ x ∈ bd') : addN bd F x = addN bd' F x := by
  unfold addN
  by_cases q : x ∈ bd
  · rw [if_pos (.inl q), if_pos (.inl (h.mp q))]
  · by_cases q2 : x ∈ F
    · rw [if_pos (.inr q2), if_pos (.inr q2)]
    · rw [if_neg (fun z => z.elim q q2), if_neg (fun z => z.elim (fun z => q (h.mpr z)) q2)]
theorem fold_same {bd bd' : List (List Nat)} : ∀ {row F : List (List Nat)}, (∀ x, x ∈ row → (x ∈ bd ↔ x ∈ bd')) → row.foldl (addN bd) F = row.foldl (addN bd') F
  | [], _, _ => rfl
  | x :: r, F, h => by rw [List.foldl_cons, List.foldl_cons, addN_same (h x List.mem_cons_self)]; exact fold_same fun y hy => h y (List.mem_cons_of_mem _ hy)
theorem fold_mem {bd : List (List Nat)} (y : List Nat) : ∀ {row F : List (List Nat)}, y ∈ row.foldl (addN bd) F ↔ y ∈ F ∨ (y ∈ row ∧ y ∉ bd)
  | [], F => by simp
  | x :: r, F => by
    rw [List.foldl_cons, fold_mem y (row := r)]
    unfold addN
    by_cases h : x ∈ bd ∨ x ∈ F
    · rw [if_pos h]
      constructor
      · rintro (q | q)
        · exact .inl q
        · exact .inr ⟨List.mem_cons_of_mem _ q.1, q.2⟩
      · rintro (q | ⟨q, n⟩)
        · exact .inl q
        · rcases List.mem_cons.mp q with rfl | q
          · exact .inl (h.resolve_left n)
          · exact .inr ⟨q, n⟩
    · rw [if_neg h]
      constructor
      · rintro (q | q)
        · rcases List.mem_cons.mp q with rfl | q
          · exact .inr ⟨List.mem_cons_self, fun z => h (.inl z)⟩
          · exact .inl q
        · exact .inr ⟨List.mem_cons_of_mem _ q.1, q.2⟩
      · rintro (q | ⟨q, n⟩)
        · exact .inl (List.mem_cons_of_mem _ q)
        · rcases List.mem_cons.mp q with rfl | q
          · exact .inl List.mem_cons_self
          · exact .inr ⟨q, n⟩
theorem fold_len {bd : List (List Nat)} : ∀ {row F : List (List Nat)}, (row.foldl (addN bd) F).length ≤ F.length + row.length
  | [], F => Nat.le_refl _
  | x :: r, F => by
    rw [List.foldl_cons]
    have := fold_len (bd := bd) (row := r) (F := addN bd F x)
    have h2 := addN_len bd F x
    rw [List.length_cons]; omega
noncomputable def onceR (bd row : List (List Nat)) : List (List Nat) := (row.foldl (addN bd) []).reverse
theorem once_mem {bd row : List (List Nat)} {y : List Nat} : y ∈ onceR bd row ↔ y ∈ row ∧ y ∉ bd := by
  unfold onceR; rw [List.mem_reverse, fold_mem]; simp
theorem once_len {bd row : List (List Nat)} : (onceR bd row).length ≤ row.length := by
  unfold onceR; rw [List.length_reverse]; have := fold_len (bd := bd) (row := row) (F := []); simpa using this
theorem once_same {bd bd' row : List (List Nat)} (h : ∀ x, x ∈ row → (x ∈ bd ↔ x ∈ bd')) : onceR bd row = onceR bd' row := by unfold onceR; rw [fold_same h]
noncomputable def letsT (L : List (List Nat × Tree)) (b : Tree) : Tree := @List.rec (List Nat × Tree) (fun _ => Tree) b (fun p _ t => .lt p.1 p.2 t) L
theorem letsT_snoc (p : List Nat × Tree) (b : Tree) : ∀ L : List (List Nat × Tree), letsT (L ++ [p]) b = letsT L (.lt p.1 p.2 b)
  | [] => rfl
  | q :: L => by show Tree.lt q.1 q.2 (letsT (L ++ [p]) b) = Tree.lt q.1 q.2 (letsT L (.lt p.1 p.2 b)); rw [letsT_snoc p b L]
theorem gd_lets {b : Tree} (h : gd b) : ∀ {L : List (List Nat × Tree)}, (∀ p, p ∈ L → isName p.1 = true ∧ gd p.2) → gd (letsT L b)
  | [], _ => h
  | p :: L, hL => ⟨(hL p List.mem_cons_self).1, (hL p List.mem_cons_self).2, gd_lets h fun q hq => hL q (List.mem_cons_of_mem _ hq)⟩
theorem sz_lets (b : Tree) {c : Nat} : ∀ {L : List (List Nat × Tree)}, (∀ p, p ∈ L → sz p.2 + 1 ≤ c) → sz (letsT L b) ≤ c * L.length + sz b
  | [], _ => by show sz b ≤ _; omega
  | p :: L, h => by
    have h1 := h p List.mem_cons_self
    have h2 := sz_lets b (L := L) fun q hq => h q (List.mem_cons_of_mem _ hq)
    show sz p.2 + sz (letsT L b) + 1 ≤ _
    rw [List.length_cons, Nat.mul_succ]; omega
def clo (L : List (List Nat × Tree)) : List (List Nat) → Prop := @List.rec (List Nat × Tree) (fun _ => List (List Nat) → Prop) (fun _ => True) (fun p _ ih bd => (∀ F, fr p.2 bd F = F) ∧ ih (bd ++ [p.1])) L
theorem clo_snoc {p : List Nat × Tree} : ∀ {L : List (List Nat × Tree)} {bd : List (List Nat)}, clo L bd → (∀ F, fr p.2 (bd ++ L.map (·.1)) F = F) → clo (L ++ [p]) bd
  | [], bd, _, h => ⟨by rw [List.map_nil, List.append_nil] at h; exact h, trivial⟩
  | q :: L, bd, ⟨h1, h2⟩, h => ⟨h1, clo_snoc h2 (by rw [List.append_assoc]; exact h)⟩
theorem fr_lets {b : Tree} (hb : ∀ bd F, fr b bd F = F) : ∀ {L : List (List Nat × Tree)} {bd F : List (List Nat)}, clo L bd → fr (letsT L b) bd F = F
  | [], bd, F, _ => hb bd F
  | p :: L, bd, F, ⟨h1, h2⟩ => by
    show fr (letsT L b) (bd ++ [p.1]) (fr p.2 bd F) = F
    rw [h1 F]; exact fr_lets hb h2
def Evs (w : World) (q : Nat) (t : Tree) (E : List (List Nat × V)) (v : V) (ks : List V) (n : Int) : Prop := ∀ (m dd : Int) (wo : V) (A K : List V) (ρ' : Loc), dd + n ≤ m → A.length + q < 100 → K.length + 4 * q < 1000 → (∀ e', TW w 4 [some (mO .none e' v m (dd + n) A (ks ++ K))] ρ') → TW w 4 [some (mO (tv t) (evE E) wo m dd A K)] ρ'
def Run (w : World) (L : List (List Nat × Tree)) (E : List (List Nat × V)) (dd : Int) (K : List V) : Prop := ∀ m, dd ≤ m → ∃ wo, ∀ (b : Tree) (ρ' : Loc), TW w 4 [some (mO (tv b) (evE E) wo m dd [] K)] ρ' → TW w 4 [some (mO (tv (letsT L b)) .none .none m 0 [] [])] ρ'
theorem run_nil : Run w [] [] 0 [] := fun m _ => ⟨.none, fun b ρ' h => h⟩
theorem run_snoc {L : List (List Nat × Tree)} {E : List (List Nat × V)} {dd : Int} {K : List V} {x : List Nat} {t : Tree} {v : V} {ks : List V} {n : Int} (h : Run w L E dd K) (hn : 0 ≤ n) (hK : K.length + 20 < 1000) (he : Evs w 5 t E v ks n) : Run w (L ++ [(x, t)]) ((x, v) :: E) (dd + n + 1) (ks ++ K) := fun m hm => by
  obtain ⟨wo, h⟩ := h m (by omega)
  refine ⟨v, fun b ρ' k => ?_⟩
  rw [letsT_snoc]
  have hr : (10 : Nat) < room := by decide
  refine h _ ρ' (go_come (l := [.str z_let, .str x, tv t, tv b]) rfl (come_lt (by show 0 < room; omega)) (he m dd wo _ K ρ' (by omega) (by show 1 + 5 < 100; omega) hK fun e' => go_back (back_lt (a := evE E) ?_) k))
  rw [beq_eq_false_iff_ne]; omega
theorem ev_num (q : Nat) (i : Int) (E : List (List Nat × V)) : Evs w q (.num i) E (.int i) [] 0 := fun m dd wo A K ρ' _ _ _ k => by
  have := k (evE E)
  rw [Int.add_zero] at this
  exact go_come (l := [.str z_num, .int i]) rfl come_num this
noncomputable def gv (E : List (List Nat × V)) (y : List Nat) : V := (E.lookup y).getD .none
theorem gv_of {E : List (List Nat × V)} {y : List Nat} {v : V} (h : E.lookup y = some v) : gv E y = v := by unfold gv; rw [h]; rfl
theorem ev_fn {q : Nat} {x : List Nat} {b : Tree} {E : List (List Nat × V)} {F : List (List Nat)} (hF : fr (.fn x b) [] [] = F.reverse) (hz : 4 * sz (.fn x b) < room) (hl : F.length ≤ room) (hn : ∀ y, y ∈ F → ∃ v, E.lookup y = some v) : Evs w q (.fn x b) E (kpt x b F (F.map (gv E))) [kpt x b F (F.map (gv E))] 0 := fun m dd wo A K ρ' _ _ hK k => by
  have := k (evE E)
  rw [Int.add_zero] at this
  have hr : (2000 : Nat) < room := by decide
  exact go_come (l := [.str z_fun, .str x, tv b]) rfl (come_fn (d := 1) hF hz (fun y hy => by obtain ⟨v, e⟩ := hn y hy; rw [gv_of e]; exact e) hl (by omega)) this
theorem ev_name {q : Nat} {x : List Nat} {v : V} {E : List (List Nat × V)} (h : E.lookup x = some v) : Evs w q (.name x) E v [] 0 := fun m dd wo A K ρ' _ _ _ k => by
  have := k (evE E)
  rw [Int.add_zero] at this
  exact go_come (l := [.str z_name, .str x]) rfl (come_name h) this
theorem ev_call {q : Nat} {f : Tree} {E : List (List Nat × V)} {x : List Nat} {b : Tree} {N : List (List Nat)} {H ks ks' : List V} {i : Int} {v : V} (hf : Evs w q f E (kpt x b N H) ks 0) (hk : ks.length ≤ 3) (hb : Evs w q b ((x, .int i) :: (N.zip H).reverse) v ks' 0) :
    Evs w (q + 1) (.call f (.num i)) E v (ks' ++ ks) 1 := by
  intro m dd wo A K ρ' hm hA hK k
  have hr : (2000 : Nat) < room := by decide
  refine go_come (l := [.str z_call, tv f, tv (.num i)]) rfl (come_call (by omega)) (hf m dd wo _ K ρ' (by omega) (by rw [List.length_cons]; omega) (by omega) fun e' => ?_)
  rw [Int.add_zero]
  refine go_back (back_call1 (by omega)) (go_come (l := [.str z_num, .int i]) rfl come_num (go_back (back_call2 ?_) ?_))
  · rw [beq_eq_false_iff_ne]; omega
  · refine hb m (dd + 1) (.int i) A (ks ++ K) ρ' (by omega) (by omega) (by rw [List.length_append]; omega) fun e'' => ?_
    rw [Int.add_zero, ← List.append_assoc]; exact k e''
end Mine.L12
end

section
open PySem
set_option autoImplicit false
set_option maxRecDepth 100000
namespace Mine.L12
variable {w : World} {d : Nat}
noncomputable abbrev dgt (D : List (List Nat) × List V) (z : List Nat) : Option V := (D.1.zip D.2).lookup z
theorem repl_get (z : List Nat) (v : V) (y : List Nat) : ∀ {k : List (List Nat)} {l : List V}, l.length = k.length → z ∈ k → (k.zip (repl1 z v k l)).lookup y = if y = z then some v else (k.zip l).lookup y := by
  have key : ∀ {k : List (List Nat)} {l : List V}, l.length = k.length → (k.zip (repl1 z v k l)).lookup y = if y = z then (if z ∈ k then some v else none) else (k.zip l).lookup y := by
    intro k
    induction k with
    | nil => intro l _; simp
    | cons a k ih =>
      intro l hl
      cases l with
      | nil => cases hl
      | cons b l =>
        have ih := ih (l := l) (by simpa using hl)
        unfold repl1 at ih ⊢
        simp only [List.zip_cons_cons, List.map_cons, List.lookup_cons]
        by_cases e : y = a
        · subst e
          rw [beq_self_eq_true]
          by_cases e2 : y = z
          · subst e2; simp
          · simp [e2]
        · have e' : (y == a) = false := by simpa using e
          rw [e']
          dsimp only
          rw [ih]
          by_cases e2 : y = z
          · subst e2; simp [e]
          · simp [e2]
  intro k l hl hz
  rw [key hl, if_pos hz]
theorem zip_snoc_lookup (y z : List Nat) (v : V) : ∀ {k : List (List Nat)} {l : List V}, l.length = k.length → ((k ++ [z]).zip (l ++ [v])).lookup y = ((k.zip l).lookup y).or (if y = z then some v else none) := by
  intro k
  induction k with
  | nil =>
    intro l hl
    obtain rfl : l = [] := List.length_eq_zero_iff.mp hl
    by_cases e : y = z
    · subst e; simp
    · have e' : (y == z) = false := by simpa using e
      simp [List.lookup_cons, e, e']
  | cons a k ih =>
    intro l hl
    cases l with
    | nil => cases hl
    | cons b l =>
      have ih := ih (l := l) (by simpa using hl)
      simp only [List.cons_append, List.zip_cons_cons, List.lookup_cons]
      cases q : y == a with
      | true => rfl
      | false => exact ih
theorem zip_none {y : List Nat} : ∀ {k : List (List Nat)} {l : List V}, y ∉ k → (k.zip l).lookup y = none := by
  intro k
  induction k with
  | nil => intro l _; simp
  | cons a k ih =>
    intro l h
    cases l with
    | nil => rfl
    | cons b l =>
      rw [List.zip_cons_cons, List.lookup_cons, beq_eq_false_iff_ne.mpr (fun (e : y = a) => h (by rw [e]; exact List.mem_cons_self))]
      exact ih fun q => h (List.mem_cons_of_mem _ q)
theorem dput_ok (D : List (List Nat) × List V) (z : List Nat) (v : V) (h : D.2.length = D.1.length) : (dput D.1 D.2 z v).2.length = (dput D.1 D.2 z v).1.length ∧ (dput D.1 D.2 z v).1.length ≤ D.1.length + 1 ∧ (∀ y, dgt (dput D.1 D.2 z v) y = if y = z then some v else dgt D y) ∧ ∀ y, y ∈ (dput D.1 D.2 z v).1 ↔ y ∈ D.1 ∨ y = z := by
  unfold dput
  by_cases q : z ∈ D.1
  · rw [if_pos q]
    refine ⟨by unfold repl1; simp [h], Nat.le_succ _, fun y => repl_get z v y h q, fun y => ⟨.inl, fun z' => z'.elim id fun e => e ▸ q⟩⟩
  · rw [if_neg q]
    refine ⟨by simp [h], by simp, fun y => ?_, fun y => by simp⟩
    show ((D.1 ++ [z]).zip (D.2 ++ [v])).lookup y = _
    rw [zip_snoc_lookup y z v h]
    by_cases e : y = z
    · subst e; rw [if_pos rfl, if_pos rfl, zip_none q]; rfl
    · rw [if_neg e, if_neg e, Option.or_none]

theorem mrels_map {f : List Nat → DV} {g : List Nat → V} : ∀ {N : List (List Nat)}, (∀ y, y ∈ N → mrel (f y) (g y)) → mrels (N.map f) (N.map g)
  | [], _ => rfl
  | y :: N, h => ⟨g y, N.map g, rfl, h y List.mem_cons_self, mrels_map fun z hz => h z (List.mem_cons_of_mem _ hz)⟩
theorem zip_map {α : Type} (g : List Nat → α) : ∀ N : List (List Nat), N.zip (N.map g) = N.map fun y => (y, g y)
  | [] => rfl
  | y :: N => by rw [List.map_cons, List.zip_cons_cons, zip_map g N]; rfl
theorem look_pairs {α : Type} {g : List Nat → α} {y : List Nat} : ∀ {N : List (List Nat)}, y ∈ N → (N.map fun y => (y, g y)).lookup y = some (g y)
  | [], h => by cases h
  | x :: N, h => by
    rw [List.map_cons, List.lookup_cons]
    by_cases e : y = x
    · subst e; rw [beq_self_eq_true]
    · rw [beq_eq_false_iff_ne.mpr e]; exact look_pairs ((List.mem_cons.mp h).resolve_left e)
noncomputable def vof (S : List (List Nat × DV)) (o : List Nat) (i : Int) (y : List Nat) : DV := if y = o then .int i else (S.lookup y).getD (.int 0)
noncomputable abbrev inner (x : List Nat) (n : Int) (row : List (List Nat)) : Tree := .fn x (bodyP n row)
theorem fr_inner {x : List Nat} {n : Int} {row : List (List Nat)} (hx : x ∉ row) : fr (inner x n row) [] [] = (onceR [] row).reverse := by
  show fr (bodyP n row) ([] ++ [x]) [] = _
  rw [fr_body]; unfold onceR; rw [List.reverse_reverse]
  exact fold_same fun y hy => ⟨fun q => absurd (List.mem_singleton.mp q ▸ hy) hx, fun q => by cases q⟩
theorem fr_outer {x o : List Nat} {n : Int} {row : List (List Nat)} (hx : x ∉ row) : fr (.fn o (inner x n row)) [] [] = (onceR [o] row).reverse := by
  show fr (bodyP n row) ([] ++ [o] ++ [x]) [] = _
  rw [fr_body]; unfold onceR; rw [List.reverse_reverse]
  refine fold_same fun y hy => ⟨fun q => ?_, fun q => List.mem_append_left _ q⟩
  rcases List.mem_append.mp q with q | q
  · exact q
  · exact absurd (List.mem_singleton.mp q ▸ hy) hx
theorem sz_inner (x : List Nat) (n : Int) (row : List (List Nat)) : sz (inner x n row) = 2 * row.length + 2 := by show sz (bodyP n row) + 1 = _; rw [sz_body]
theorem ev_inner {q : Nat} {E : List (List Nat × V)} {S : List (List Nat × DV)} {o x : List Nat} {i n : Int} {row : List (List Nat)} (hx : x ∉ row) (hr : row.length ≤ 6) (hv : ∀ y, y ∈ row → ∃ v, E.lookup y = some v ∧ mrel (vof S o i y) v) :
    ∃ v, Evs w q (inner x n row) E v [v] 0 ∧ krel ⟨x, bodyP n row, onceR [] row, (onceR [] row).map (vof S o i)⟩ v := by
  have hroom : (2000 : Nat) < room := by decide
  have hl := once_len (bd := []) (row := row)
  refine ⟨_, ev_fn (F := onceR [] row) (fr_inner hx) (by rw [sz_inner]; omega) (by omega) (fun y hy => by obtain ⟨v, e, _⟩ := hv y (once_mem.mp hy).1; exact ⟨v, e⟩), _, rfl, mrels_map fun y hy => ?_⟩
  obtain ⟨v, e, h⟩ := hv y (once_mem.mp hy).1
  rw [gv_of e]; exact h
noncomputable abbrev kO (E : List (List Nat × V)) (x o : List Nat) (n : Int) (row : List (List Nat)) : V := kpt o (inner x n row) (onceR [o] row) ((onceR [o] row).map (gv E))
def Kn (S : List (List Nat × DV)) (E : List (List Nat × V)) (o : List Nat) (row : List (List Nat)) : Prop := ∀ y, y ∈ row → y ≠ o → ∃ dv v, S.lookup y = some dv ∧ E.lookup y = some v ∧ mrel dv v
theorem ev_outer {q : Nat} {E : List (List Nat × V)} {S : List (List Nat × DV)} {o x : List Nat} {n : Int} {row : List (List Nat)} (hx : x ∉ row) (hr : row.length ≤ 6) (hk : Kn S E o row) :
    Evs w q (.fn o (inner x n row)) E (kO E x o n row) [kO E x o n row] 0 ∧ krel ⟨o, inner x n row, onceR [o] row, (onceR [o] row).map fun y => (S.lookup y).getD (.int 0)⟩ (kO E x o n row) := by
  have hroom : (2000 : Nat) < room := by decide
  have hl := once_len (bd := [o]) (row := row)
  have hm : ∀ y, y ∈ onceR [o] row → ∃ dv v, S.lookup y = some dv ∧ E.lookup y = some v ∧ mrel dv v := fun y hy => by
    obtain ⟨a, b⟩ := once_mem.mp hy
    exact hk y a fun e => b (by rw [e]; exact List.mem_cons_self)
  refine ⟨ev_fn (F := onceR [o] row) (fr_outer hx) (by show 4 * (sz (inner x n row) + 1) < room; rw [sz_inner]; omega) (by omega) (fun y hy => by obtain ⟨_, v, _, e, _⟩ := hm y hy; exact ⟨v, e⟩), _, rfl, mrels_map fun y hy => ?_⟩
  obtain ⟨dv, v, e1, e2, h⟩ := hm y hy
  rw [gv_of e2, e1]; exact h
theorem within {E : List (List Nat × V)} {S : List (List Nat × DV)} {o : List Nat} {row : List (List Nat)} (hk : Kn S E o row) (i : Int) : ∀ y, y ∈ row → ∃ v, (((o, V.int i) :: ((onceR [o] row).zip ((onceR [o] row).map (gv E))).reverse) : List (List Nat × V)).lookup y = some v ∧ mrel (vof S o i y) v := fun y hy => by
  unfold vof
  rw [List.lookup_cons]
  by_cases e : y = o
  · subst e; rw [if_pos rfl, beq_self_eq_true]; exact ⟨_, rfl, rfl⟩
  · obtain ⟨dv, v, e1, e2, h⟩ := hk y hy e
    rw [if_neg e, beq_eq_false_iff_ne.mpr e]
    refine ⟨v, ?_, by rw [e1]; exact h⟩
    rw [zip_map, ← List.map_reverse]
    show (((onceR [o] row).reverse.map fun y => (y, gv E y)).lookup y) = some v
    rw [look_pairs (List.mem_reverse.mpr (once_mem.mpr ⟨hy, fun q => e (List.mem_singleton.mp q)⟩)), gv_of e2]
end Mine.L12
end

section
open PySem
set_option autoImplicit false
set_option maxRecDepth 100000
namespace Mine.L12
variable {w : World}
def Pick (o : O) (i : Int) (v : O) : Prop := (subO o i).bind (fun v => some (O.val v)) = some v
theorem mod_cases (c : Int) (n : Nat) (hn : 0 < n) : ∃ k : Nat, k < n ∧ c % (n : Int) = (k : Int) :=
  ⟨(c % (n : Int)).toNat, by have := Int.emod_lt_of_pos c (b := (n : Int)) (by omega); have := Int.emod_nonneg c (b := (n : Int)) (by omega); omega, by have := Int.emod_nonneg c (b := (n : Int)) (by omega); omega⟩
noncomputable def lt26 (i : Int) : Nat := letters.getD (i % 26).toNat 0
theorem letter (i : Int) : Pick (.val (.str z_abcdefghijklmnopqrstuvwxyz)) (i % 26) (.val (.str [lt26 i])) := by
  obtain ⟨k, hk, e1⟩ := mod_cases i 26 (by decide)
  have e1 : i % 26 = Int.ofNat k := e1
  have hl : k < letters.length := hk
  unfold Pick lt26; rw [e1]
  show ((letters[k]?).bind fun c => some (V.str [c])).bind (fun v => some (O.val v)) = some (O.val (V.str [letters.getD k 0]))
  rw [List.getElem?_eq_getElem hl]
  simp [hl]
theorem letter_in (i : Int) : letters.contains (lt26 i) = true := by
  obtain ⟨k, hk, e1⟩ := mod_cases i 26 (by decide)
  have e1 : i % 26 = Int.ofNat k := e1
  unfold lt26; rw [e1]
  have : ∀ k, k < 26 → letters.contains (letters.getD k 0) = true := by decide +kernel
  exact this k hk
theorem words_len : ∀ w ∈ words, 2 ≤ w.length ∧ w.length ≤ 4 := by decide
theorem name_of {z : List Nat} (h1 : 1 ≤ z.length) (h8 : z.length ≤ 8) (hw : words.any (· == z) = false) (hl : ∀ x ∈ z, letters.contains x = true) : isName z = true := by
  unfold isName; rw [hw, List.all_eq_true.mpr hl, decide_eq_true (by omega), decide_eq_true (by omega)]; rfl
theorem name_one {L : Nat} (h : letters.contains L = true) : isName [L] = true := by
  refine name_of (Nat.le_refl _) (by show 1 ≤ 8; omega) (List.any_eq_false.mpr fun w hw q => ?_) fun x hx => ?_
  · have := (words_len w hw).1
    rw [eq_of_beq q] at this; simp at this
  · cases List.mem_singleton.mp hx; exact h
theorem cut_l (r : List Nat) (n : Nat) : cut r none (some n) = r.take n := by unfold cut; rfl
theorem cut_r (r : List Nat) (n : Nat) : cut r (some n) none = r.drop n := by unfold cut; rfl
theorem cut_len (r : List Nat) (a b : Option Nat) : (cut r a b).length ≤ r.length := by
  unfold cut
  rw [List.length_drop]
  cases b with
  | none => exact Nat.sub_le _ _
  | some b => exact Nat.le_trans (Nat.sub_le _ _) (by rw [List.length_take]; exact Nat.min_le_right _ _)
section
variable {d : Nat}
theorem ok_cell (ns : List Int) (m : Nat) : ∃ c, CallOK (G w) (d + 1) 253 [.lst (ns.map .int), .int (Int.ofNat m)] (.val (.int c)) := by
  by_cases h : m < ns.length
  · refine ⟨ns[m], call_go (n := 0) (tp := [.b true, .r (.val (.int ns[m]))]) (b__law_cell_at w d) rfl (b__law_cell_at_x w d) rfl (by kernel_rfl) (P := Pick (.val (.lst (ns.map .int))) (Int.ofNat m) (.val (.int ns[m])) ∧ decide ((Int.ofNat m) < ((ns.map V.int).length : Int)) = true ∧ True) (by kernel_rfl) ⟨?_, ?_, trivial⟩⟩
    · show ((ns.map V.int)[m]?).bind _ = _
      rw [List.getElem?_map, List.getElem?_eq_getElem h]; rfl
    · rw [List.length_map, decide_eq_true_eq]; exact Int.ofNat_lt.mpr h
  · refine ⟨0, call_go (n := 0) (tp := [.b false]) (b__law_cell_at w d) rfl (b__law_cell_at_x w d) rfl (by kernel_rfl) (P := decide ((Int.ofNat m) < ((ns.map V.int).length : Int)) = false ∧ True) (by kernel_rfl) ⟨?_, trivial⟩⟩
    rw [List.length_map, decide_eq_false_iff_not]; exact fun q => h (Int.ofNat_lt.mp q)
noncomputable abbrev nbs (c : Int) (r : List Nat) (x3 : Option O) : Loc := [some (.val (.int c)), some (.val (.str z_abcdefghijklmnopqrstuvwxyz)), some (.val (.str r)), x3, none, none]
noncomputable def com (q : Int) (n : Nat) : Int → List Nat := @Nat.rec (fun _ => Int → List Nat) (fun _ => []) (fun _ f a => lt26 (q + 19 * a) :: f (a + 1)) n
theorem com_len (q : Int) : ∀ (n : Nat) (a : Int), (com q n a).length = n
  | 0, _ => rfl
  | n + 1, a => congrArg (· + 1) (com_len q n (a + 1))
theorem com_in (q : Int) : ∀ (n : Nat) (a : Int) (x : Nat), x ∈ com q n a → letters.contains x = true
  | 0, _, _, h => by cases h
  | n + 1, a, x, h => by
    rcases List.mem_cons.mp (show x ∈ lt26 (q + 19 * a) :: com q n (a + 1) from h) with rfl | h
    · exact letter_in _
    · exact com_in q n (a + 1) x h
theorem nb_for (c : Int) : ∀ (n : Nat) (a : Int) (r : List Nat) (x3 : Option O), r.length + n ≤ 7 → ∃ y3, ForOK (G w) d fi__law_name_by (.Name "_law_turn" ⟨191,8,191,17⟩) (l__law_name_by_191 w d).xs (rangeL a n) (nbs c r x3) .next (nbs c (r ++ com (c / 208) n a) y3)
  | 0, a, r, x3, h => ⟨x3, by show ForOK _ _ _ _ _ _ _ _ (nbs c (r ++ []) x3); rw [List.append_nil]; exact for_nil⟩
  | n + 1, a, r, x3, h => by
    have hl : (r ++ [lt26 (c / 208 + 19 * a)]).length = r.length + 1 := by simp
    obtain ⟨y3, h3⟩ := nb_for c n (a + 1) (r ++ [lt26 (c / 208 + 19 * a)]) (some (.val (.int a))) (by omega)
    have e : r ++ com (c / 208) (n + 1) a = r ++ [lt26 (c / 208 + 19 * a)] ++ com (c / 208) n (a + 1) := by rw [List.append_assoc]; rfl
    rw [e]
    exact ⟨y3, for_go (i := 3) (v := .int a) (l := rangeL (a + 1) n) (ρ := nbs c r x3) (ρ' := nbs c (r ++ [lt26 (c / 208 + 19 * a)]) (some (.val (.int a)))) (tp := [.r (.val (.str [lt26 (c / 208 + 19 * a)]))]) (by kernel_rfl) (by kernel_rfl) (P := ((r ++ [lt26 (c / 208 + 19 * a)]).length ≤ room) ∧ Pick (.val (.str z_abcdefghijklmnopqrstuvwxyz)) ((c / 208 + 19 * a) % 26) (.val (.str [lt26 (c / 208 + 19 * a)])) ∧ ((0 : Int) < 26) ∧ ((19 : Int).natAbs < 2 ^ 62 ∨ a.natAbs < 2 ^ 62) ∧ ((0 : Int) < 208 ∧ (208 : Int) < 2 ^ 29) ∧ True) (by kernel_rfl) ⟨by rw [hl]; show _ ≤ 1000000; omega, letter _, by decide, .inl (by decide), by decide, trivial⟩ h3⟩
noncomputable def nmW (r : List Nat) (k : Nat) (x : Nat) : List Nat := r.take k ++ [x] ++ r.drop k
noncomputable def nmR (r : List Nat) (k : Nat) (x : Nat) : List Nat := Bool.casesOn (words.any (· == nmW r k x)) (nmW r k x) [x]
noncomputable def rOf (c : Int) : List Nat := com (c / 208) (c / 26 % 8).toNat 0
noncomputable def kOf (c : Int) : Nat := (c / 208 % (((rOf c).length : Int) + 1)).toNat
theorem rOf_len (c : Int) : (rOf c).length ≤ 7 := by
  unfold rOf; rw [com_len]
  have := Int.emod_lt_of_pos (c / 26) (b := 8) (by decide)
  have := Int.emod_nonneg (c / 26) (b := 8) (by decide)
  omega
theorem nm_ok (c : Int) : isName (nmR (rOf c) (kOf c) (lt26 c)) = true := by
  have h7 := rOf_len c
  unfold nmR
  cases h : words.any (· == nmW (rOf c) (kOf c) (lt26 c)) with
  | true => exact name_one (letter_in c)
  | false =>
    refine name_of ?_ ?_ h fun x hx => ?_
    · show 1 ≤ (nmW (rOf c) (kOf c) (lt26 c)).length; unfold nmW; simp only [List.length_append, List.length_singleton]; omega
    · show (nmW (rOf c) (kOf c) (lt26 c)).length ≤ 8; unfold nmW; simp only [List.length_append, List.length_singleton, List.length_take, List.length_drop]; omega
    · have hx : x ∈ nmW (rOf c) (kOf c) (lt26 c) := hx
      unfold nmW at hx
      rcases List.mem_append.mp hx with hx | hx
      · rcases List.mem_append.mp hx with hx | hx
        · exact com_in _ _ _ x (List.mem_of_mem_take hx)
        · cases List.mem_singleton.mp hx; exact letter_in _
      · exact com_in _ _ _ x (List.mem_of_mem_drop hx)
theorem ok_nb (c : Int) : CallOK (G w) (d + 1) 260 [.int c] (.val (.str (nmR (rOf c) (kOf c) (lt26 c)))) := by
  have h8 := Int.emod_lt_of_pos (c / 26) (b := 8) (by decide)
  have h80 := Int.emod_nonneg (c / 26) (b := 8) (by decide)
  have h1 := rOf_len c
  obtain ⟨y3, hf⟩ := nb_for (w := w) (d := d) c (c / 26 % 8 - 0).toNat 0 [] none (by show 0 + _ ≤ 7; omega)
  have e0 : ([] : List Nat) ++ com (c / 208) (c / 26 % 8 - 0).toNat 0 = rOf c := by unfold rOf; rw [List.nil_append, Int.sub_zero]
  rw [e0] at hf
  unfold kOf
  generalize rOf c = r at *
  have hw := letter c
  have a1 := Int.emod_lt_of_pos (c / 208) (b := (r.length : Int) + 1) (by omega)
  have a2 := Int.emod_nonneg (c / 208) (b := (r.length : Int) + 1) (by omega)
  have hat : 0 ≤ (c / 208 % ((r.length : Int) + 1)) ∧ (c / 208 % ((r.length : Int) + 1)) ≤ 1000000 := ⟨a2, by omega⟩
  have c1 := cut_len r none (some (c / 208 % ((r.length : Int) + 1)).toNat)
  have c2 := cut_len r (some (c / 208 % ((r.length : Int) + 1)).toNat) none
  unfold nmR
  have e1 : nmW r (c / 208 % ((r.length : Int) + 1)).toNat (lt26 c) = (cut r none (some (c / 208 % ((r.length : Int) + 1)).toNat) ++ [lt26 c] ++ cut r (some (c / 208 % ((r.length : Int) + 1)).toNat) none) := by unfold nmW; rw [cut_l, cut_r]
  rw [e1]
  cases hb : words.any (· == (cut r none (some (c / 208 % ((r.length : Int) + 1)).toNat) ++ [lt26 c] ++ cut r (some (c / 208 % ((r.length : Int) + 1)).toNat) none)) with
  | false => exact call_go (n := 5) (tp := [.l .next (nbs c r y3), .r (.val (.str [lt26 c])), .b false]) (o := .val (.str (cut r none (some (c / 208 % ((r.length : Int) + 1)).toNat) ++ [lt26 c] ++ cut r (some (c / 208 % ((r.length : Int) + 1)).toNat) none))) (b__law_name_by w d) rfl (b__law_name_by_x w d) rfl (by kernel_rfl) (P := [z_num, z_name, z_fun, z_call, z_plus, z_less, z_if, z_let].any (fun t => t == (cut r none (some (c / 208 % ((r.length : Int) + 1)).toNat) ++ [lt26 c] ++ cut r (some (c / 208 % ((r.length : Int) + 1)).toNat) none)) = false ∧ ((cut r none (some (c / 208 % ((r.length : Int) + 1)).toNat) ++ [lt26 c] ++ cut r (some (c / 208 % ((r.length : Int) + 1)).toNat) none).length ≤ room) ∧ (0 ≤ (c / 208 % ((r.length : Int) + 1)) ∧ (c / 208 % ((r.length : Int) + 1)) ≤ 1000000) ∧ ((cut r none (some (c / 208 % ((r.length : Int) + 1)).toNat) ++ [lt26 c]).length ≤ room) ∧ Pick (.val (.str z_abcdefghijklmnopqrstuvwxyz)) (c % 26) (.val (.str [lt26 c])) ∧ ((0 : Int) < 26) ∧ (0 ≤ (c / 208 % ((r.length : Int) + 1)) ∧ (c / 208 % ((r.length : Int) + 1)) ≤ 1000000) ∧ (0 < (r.length : Int) + 1) ∧ ((0 : Int) < 208 ∧ (208 : Int) < 2 ^ 29) ∧ ForOK (G w) d fi__law_name_by (.Name "_law_turn" ⟨191,8,191,17⟩) (l__law_name_by_191 w d).xs (rangeL 0 (c / 26 % 8 - 0).toNat) (nbs c [] none) .next (nbs c r y3) ∧ ((c / 26 % 8).natAbs ≤ 1000000) ∧ ((0 : Int) < 8) ∧ ((0 : Int) < 26 ∧ (26 : Int) < 2 ^ 29) ∧ True) (by kernel_rfl) ⟨hb, by simp only [List.length_append, List.length_singleton]; show _ ≤ 1000000; omega, hat, by simp only [List.length_append, List.length_singleton]; show _ ≤ 1000000; omega, hw, by decide, hat, by omega, by decide, hf, by omega, by decide, by decide, trivial⟩
  | true => exact call_go (n := 5) (tp := [.l .next (nbs c r y3), .r (.val (.str [lt26 c])), .b true, .r (.val (.str [lt26 c]))]) (o := .val (.str [lt26 c])) (b__law_name_by w d) rfl (b__law_name_by_x w d) rfl (by kernel_rfl) (P := Pick (.val (.str z_abcdefghijklmnopqrstuvwxyz)) (c % 26) (.val (.str [lt26 c])) ∧ ((0 : Int) < 26) ∧ [z_num, z_name, z_fun, z_call, z_plus, z_less, z_if, z_let].any (fun t => t == (cut r none (some (c / 208 % ((r.length : Int) + 1)).toNat) ++ [lt26 c] ++ cut r (some (c / 208 % ((r.length : Int) + 1)).toNat) none)) = true ∧ ((cut r none (some (c / 208 % ((r.length : Int) + 1)).toNat) ++ [lt26 c] ++ cut r (some (c / 208 % ((r.length : Int) + 1)).toNat) none).length ≤ room) ∧ (0 ≤ (c / 208 % ((r.length : Int) + 1)) ∧ (c / 208 % ((r.length : Int) + 1)) ≤ 1000000) ∧ ((cut r none (some (c / 208 % ((r.length : Int) + 1)).toNat) ++ [lt26 c]).length ≤ room) ∧ Pick (.val (.str z_abcdefghijklmnopqrstuvwxyz)) (c % 26) (.val (.str [lt26 c])) ∧ ((0 : Int) < 26) ∧ (0 ≤ (c / 208 % ((r.length : Int) + 1)) ∧ (c / 208 % ((r.length : Int) + 1)) ≤ 1000000) ∧ (0 < (r.length : Int) + 1) ∧ ((0 : Int) < 208 ∧ (208 : Int) < 2 ^ 29) ∧ ForOK (G w) d fi__law_name_by (.Name "_law_turn" ⟨191,8,191,17⟩) (l__law_name_by_191 w d).xs (rangeL 0 (c / 26 % 8 - 0).toNat) (nbs c [] none) .next (nbs c r y3) ∧ ((c / 26 % 8).natAbs ≤ 1000000) ∧ ((0 : Int) < 8) ∧ ((0 : Int) < 26 ∧ (26 : Int) < 2 ^ 29) ∧ True) (by kernel_rfl) ⟨hw, by decide, hb, by simp only [List.length_append, List.length_singleton]; show _ ≤ 1000000; omega, hat, by simp only [List.length_append, List.length_singleton]; show _ ≤ 1000000; omega, hw, by decide, hat, by omega, by decide, hf, by omega, by decide, by decide, trivial⟩
end
end Mine.L12
end

section
open PySem
set_option autoImplicit false
set_option maxRecDepth 100000
namespace Mine.L12
variable {w : World} {d : Nat}
theorem pick_str {row : List (List Nat)} {i : Int} {j : Nat} {x : List Nat} (e : i = Int.ofNat j) (h : row[j]? = some x) : Pick (.val (.lst (row.map V.str))) i (.val (.str x)) := by
  subst e
  show ((row.map V.str)[j]?).bind _ = _
  rw [List.getElem?_map, h]; rfl
theorem body_for {l : V} {n : Int} : ∀ (R suf : List (List Nat)) (x3 : Option O), ∃ y3, ForOK (G w) d fi__law_body (.Name "_law_name" ⟨200,8,200,17⟩) (l__law_body_200 w d).xs (R.map V.str) [some (.val l), some (.val (.int n)), some (.val (tv (bodyP n suf))), x3] .next [some (.val l), some (.val (.int n)), some (.val (tv (bodyP n (R.reverse ++ suf)))), y3]
  | [], suf, x3 => ⟨x3, for_nil⟩
  | x :: R, suf, x3 => by
    obtain ⟨y3, k⟩ := body_for R (x :: suf) (some (.val (.str x)))
    rw [List.reverse_cons, List.append_assoc]
    exact ⟨y3, for_go (i := 3) (v := .str x) (l := R.map V.str) (ρ := [some (.val l), some (.val (.int n)), some (.val (tv (bodyP n suf))), x3]) (ρ' := [some (.val l), some (.val (.int n)), some (.val (tv (.plus (.name x) (bodyP n suf)))), some (.val (.str x))]) (tp := []) (by kernel_rfl) (by kernel_rfl) (P := True) (by kernel_rfl) trivial k⟩
theorem ok_body (row : List (List Nat)) (n : Int) : CallOK (G w) (d + 1) 267 [.lst (row.map V.str), .int n] (.val (tv (bodyP n row))) := by
  obtain ⟨y3, k⟩ := body_for (w := w) (d := d) (l := .lst (row.map V.str)) (n := n) row.reverse [] none
  rw [List.reverse_reverse, List.append_nil, List.map_reverse] at k
  exact call_go (n := 2) (tp := [.l .next [some (.val (.lst (row.map V.str))), some (.val (.int n)), some (.val (tv (bodyP n row))), y3]]) (b__law_body w d) rfl (b__law_body_x w d) rfl (by kernel_rfl) (P := ForOK (G w) d fi__law_body (.Name "_law_name" ⟨200,8,200,17⟩) (l__law_body_200 w d).xs (row.map V.str).reverse [some (.val (.lst (row.map V.str))), some (.val (.int n)), some (.val (tv (.num n))), none] .next [some (.val (.lst (row.map V.str))), some (.val (.int n)), some (.val (tv (bodyP n row))), y3] ∧ True) (by kernel_rfl) ⟨k, trivial⟩
theorem pick_mod {NS : List (List Nat)} (h : NS ≠ []) (c : Int) : ∃ x, x ∈ NS ∧ Pick (.val (.lst (NS.map V.str))) (c % Int.ofNat (NS.map V.str).length) (.val (.str x)) := by
  have hl : 0 < NS.length := List.length_pos_iff.mpr h
  obtain ⟨k, hk, e⟩ := mod_cases c NS.length hl
  refine ⟨NS[k], List.getElem_mem hk, pick_str (j := k) ?_ (List.getElem?_eq_getElem hk)⟩
  rw [List.length_map]; exact e
abbrev pw6 : O := .own [.int 243, .int 81, .int 27, .int 9, .int 3, .int 1]
theorem pick6 {t : Nat} (h : t < 6) : ∃ p : Int, (0 < p ∧ p < 2 ^ 29) ∧ Pick pw6 (Int.ofNat t) (.val (.int p)) := by
  match t, h with
  | 0, _ => exact ⟨1, by decide, rfl⟩
  | 1, _ => exact ⟨3, by decide, rfl⟩
  | 2, _ => exact ⟨9, by decide, rfl⟩
  | 3, _ => exact ⟨27, by decide, rfl⟩
  | 4, _ => exact ⟨81, by decide, rfl⟩
  | 5, _ => exact ⟨243, by decide, rfl⟩
noncomputable abbrev rst (c : Int) (NS : List (List Nat)) (R : List V) (x3 : Option O) : Loc := [some (.val (.int c)), some (.val (.lst (NS.map V.str))), some (.own R), x3]
theorem row_for {c : Int} {NS : List (List Nat)} (hN : NS ≠ []) : ∀ (n t : Nat) (row : List (List Nat)) (x3 : Option O), t + n ≤ 6 → row.length = t → (∀ x, x ∈ row → x ∈ NS) → ∃ (row' : List (List Nat)) (y3 : Option O), row'.length ≤ 6 ∧ (∀ x, x ∈ row' → x ∈ NS) ∧ ForOK (G w) d fi__law_row (.Name "_law_turn" ⟨205,8,205,17⟩) (l__law_row_205 w d).xs (rangeL (Int.ofNat t) n) (rst c NS (row.map V.str).reverse x3) .next (rst c NS (row'.map V.str).reverse y3)
  | 0, t, row, x3, h, hl, hr => ⟨row, x3, by omega, hr, for_nil⟩
  | n + 1, t, row, x3, h, hl, hr => by
    obtain ⟨a, ea⟩ : ∃ a : Int, a = Int.ofNat t := ⟨_, rfl⟩
    obtain ⟨p, hp, hpk⟩ := pick6 (t := t) (by omega)
    rw [← ea] at hpk
    obtain ⟨x, hx, hxp⟩ := pick_mod hN (c / 7 / p)
    have e2 : rangeL (Int.ofNat t) (n + 1) = .int a :: rangeL (Int.ofNat (t + 1)) n := by rw [ea]; rfl
    obtain ⟨row', y3, h1, h2, k⟩ := row_for (c := c) hN n (t + 1) (row ++ [x]) (some (.val (.int a))) (by omega) (by rw [List.length_append, hl]; rfl) fun y hy => by
      rcases List.mem_append.mp hy with hy | hy
      · exact hr y hy
      · cases List.mem_singleton.mp hy; exact hx
    refine ⟨row', y3, h1, h2, ?_⟩
    rw [List.map_append, List.reverse_append] at k
    rw [e2]
    have hlen : (0 : Int) < Int.ofNat (NS.map V.str).length := by rw [List.length_map]; exact Int.ofNat_lt.mpr (List.length_pos_iff.mpr hN)
    have hroom : (2000 : Nat) < room := by decide
    exact for_go (i := 3) (v := .int a) (l := rangeL (Int.ofNat (t + 1)) n) (ρ := rst c NS (row.map V.str).reverse x3) (ρ' := rst c NS (.str x :: (row.map V.str).reverse) (some (.val (.int a)))) (tp := [.r (.val (.int p)), .r (.val (.str x))]) (by kernel_rfl) (by kernel_rfl)
      (P := ((row.map V.str).reverse.length < room) ∧ Pick (.val (.lst (NS.map V.str))) (c / 7 / p % Int.ofNat (NS.map V.str).length) (.val (.str x)) ∧ ((0 : Int) < Int.ofNat (NS.map V.str).length) ∧ (0 < p ∧ p < 2 ^ 29) ∧ Pick pw6 a (.val (.int p)) ∧ ((0 : Int) < 7 ∧ (7 : Int) < 2 ^ 29) ∧ True) (by kernel_rfl)
      ⟨by rw [List.length_reverse, List.length_map]; omega, hxp, hlen, hp, hpk, by decide, trivial⟩ k
theorem ok_row (c : Int) {NS : List (List Nat)} (hN : NS ≠ []) : ∃ row : List (List Nat), row.length ≤ 6 ∧ (∀ x, x ∈ row → x ∈ NS) ∧ CallOK (G w) (d + 1) 274 [.int c, .lst (NS.map V.str)] (.own (row.map V.str).reverse) := by
  obtain ⟨j, hj, ej⟩ := mod_cases c 7 (by decide)
  have ej : c % 7 = Int.ofNat j := ej
  obtain ⟨row, y3, h1, h2, k⟩ := row_for (w := w) (d := d) (c := c) hN j 0 [] none (by omega) rfl (fun _ h => by cases h)
  have k' : ForOK (G w) d fi__law_row (.Name "_law_turn" ⟨205,8,205,17⟩) (l__law_row_205 w d).xs (rangeL 0 (c % 7 - 0).toNat) (rst c NS [] none) .next (rst c NS (row.map V.str).reverse y3) := by rw [ej]; exact k
  refine ⟨row, h1, h2, ?_⟩
  generalize (row.map V.str).reverse = R at *
  exact call_go (n := 2) (tp := [.l .next (rst c NS R y3)]) (b__law_row w d) rfl (b__law_row_x w d) rfl (by kernel_rfl) (P := ForOK (G w) d fi__law_row (.Name "_law_turn" ⟨205,8,205,17⟩) (l__law_row_205 w d).xs (rangeL 0 (c % 7 - 0).toNat) (rst c NS [] none) .next (rst c NS R y3) ∧ (c % 7).natAbs ≤ 1000000 ∧ ((0 : Int) < 7) ∧ True) (by kernel_rfl) ⟨k', by rw [ej]; show j ≤ _; omega, by decide, trivial⟩
noncomputable abbrev ost (l : V) (o : List Nat) (F : List V) (x3 : Option O) : Loc := [some (.val l), some (.val (.str o)), some (.own F), x3]
abbrev OF (w : World) (d : Nat) (l : List V) (ρ ρ' : Loc) : Prop := ForOK (G w) d fi__law_once (.Name "_law_name" ⟨210,8,210,17⟩) (l__law_once_210 w d).xs l ρ .next ρ'
section
variable {l : V} {o x : List Nat} {F : List V} {x3 : Option O} {r : List V} {ρ' : Loc}
theorem on_old (h : InP true (.str x) (.own F) false) (k : OF w d r (ost l o F (some (.val (.str x)))) ρ') : OF w d (.str x :: r) (ost l o F x3) ρ' :=
  for_go (i := 3) (v := .str x) (l := r) (ρ := ost l o F x3) (ρ' := ost l o F (some (.val (.str x)))) (tp := [.b false, .b false]) (by kernel_rfl) (by kernel_rfl) (P := false = false ∧ InP true (.str x) (.own F) false ∧ True) (by kernel_rfl) ⟨rfl, h, trivial⟩ k
theorem on_not (h : InP true (.str x) (.own F) true) (h2 : (!(x == o)) = false) (k : OF w d r (ost l o F (some (.val (.str x)))) ρ') : OF w d (.str x :: r) (ost l o F x3) ρ' :=
  for_go (i := 3) (v := .str x) (l := r) (ρ := ost l o F x3) (ρ' := ost l o F (some (.val (.str x)))) (tp := [.b true, .b false]) (by kernel_rfl) (by kernel_rfl) (P := (!(x == o)) = false ∧ InP true (.str x) (.own F) true ∧ True) (by kernel_rfl) ⟨h2, h, trivial⟩ k
theorem on_new (h : InP true (.str x) (.own F) true) (h2 : (!(x == o)) = true) (hr : F.length < room) (k : OF w d r (ost l o (.str x :: F) (some (.val (.str x)))) ρ') : OF w d (.str x :: r) (ost l o F x3) ρ' :=
  for_go (i := 3) (v := .str x) (l := r) (ρ := ost l o F x3) (ρ' := ost l o (.str x :: F) (some (.val (.str x)))) (tp := [.b true, .b true]) (by kernel_rfl) (by kernel_rfl) (P := F.length < room ∧ (!(x == o)) = true ∧ InP true (.str x) (.own F) true ∧ True) (by kernel_rfl) ⟨hr, h2, h, trivial⟩ k
end
theorem once_for {l : V} {o : List Nat} : ∀ (row F : List (List Nat)) (x3 : Option O), F.length + row.length ≤ 1000 → ∃ y3, OF w d (row.map V.str) (ost l o (F.map V.str) x3) (ost l o ((row.foldl (addN [o]) F).map V.str) y3)
  | [], F, x3, _ => ⟨x3, for_nil⟩
  | x :: row, F, x3, h => by
    rw [List.length_cons] at h
    have hl := addN_len [o] F x
    obtain ⟨y3, k⟩ := once_for row (addN [o] F x) (some (.val (.str x))) (by omega)
    refine ⟨y3, ?_⟩
    rw [List.foldl_cons]
    have hr : (2000 : Nat) < room := by decide
    by_cases q : x ∈ F
    · have ea : addN [o] F x = F := if_pos (.inr q)
      rw [ea] at k ⊢
      exact on_old (not_in (y := .own (F.map V.str)) (texts_map F) (decide_eq_false (fun z => z q)).symm) k
    · have hi : InP true (.str x) (.own (F.map V.str)) true := not_in (y := .own (F.map V.str)) (texts_map F) (decide_eq_true q).symm
      by_cases e : x = o
      · have ea : addN [o] F x = F := if_pos (.inl (by rw [e]; exact List.mem_cons_self))
        rw [ea] at k ⊢
        exact on_not hi (by rw [e, beq_self_eq_true]; rfl) k
      · have ea : addN [o] F x = x :: F := if_neg (fun z => z.elim (fun z => e (List.mem_singleton.mp z)) q)
        rw [ea] at k ⊢
        exact on_new hi (by rw [beq_eq_false_iff_ne.mpr e]; rfl) (by rw [List.length_map]; omega) k
theorem ok_once (row : List (List Nat)) (o : List Nat) (h : row.length ≤ 6) : CallOK (G w) (d + 1) 281 [.lst (row.map V.str), .str o] (.own ((onceR [o] row).map V.str).reverse) := by
  obtain ⟨y3, k⟩ := once_for (w := w) (d := d) (l := .lst (row.map V.str)) (o := o) row [] none (by simp; omega)
  have e : ((onceR [o] row).map V.str).reverse = (row.foldl (addN [o]) []).map V.str := by unfold onceR; rw [← List.map_reverse, List.reverse_reverse]
  rw [e]
  generalize (row.foldl (addN [o]) []).map V.str = F at *
  exact call_go (n := 2) (tp := [.l .next (ost (.lst (row.map V.str)) o F y3)]) (b__law_once w d) rfl (b__law_once_x w d) rfl (by kernel_rfl) (P := OF w d (row.map V.str) (ost (.lst (row.map V.str)) o [] none) (ost (.lst (row.map V.str)) o F y3) ∧ True) (by kernel_rfl) ⟨k, trivial⟩
def dvOk (dv : DV) : Prop := DV.casesOn dv (fun _ => True) fun _ b => dpt (tv b) ≤ 1900
theorem ok_whole' (i : Int) : CallOK (G w) (d + 1) 288 [.int i] (.val (.bool true)) :=
  call_go (n := 0) (tp := []) (b__law_whole w d) rfl (b__law_whole_x w d) rfl (by kernel_rfl) (P := True) (by kernel_rfl) trivial
theorem ok_held {dv : DV} {v : V} (h : mrel dv v) (hd : dvOk dv) : CallOK (G w) (d + 2) 295 [v, dvV dv] (.val (.bool true)) := by
  cases dv with
  | int i =>
    have h : v = .int i := h
    subst h
    exact call_go (n := 0) (tp := [.r (.val (.bool true))]) (b__law_held_right w (d + 1)) rfl (b__law_held_right_x w (d + 1)) rfl (by kernel_rfl) (P := (V.int i = V.int i ∧ dpt (V.int i) ≤ 1900) ∧ CallOK (G w) (d + 1) 288 [.int i] (.val (.bool true)) ∧ True) (by kernel_rfl) ⟨⟨rfl, by show (0 : Nat) ≤ 1900; decide⟩, ok_whole' i, trivial⟩
  | fn x b =>
    obtain ⟨N, H, rfl⟩ := (show ∃ N H, v = kpt x b N H from h)
    exact call_go (n := 0) (tp := []) (b__law_held_right w (d + 1)) rfl (b__law_held_right_x w (d + 1)) rfl (by kernel_rfl) (P := (tv b = tv b ∧ dpt (tv b) ≤ 1900) ∧ EK ∧ (V.str x = V.str x ∧ dpt (V.str x) ≤ 1900) ∧ EK ∧ E181 ∧ True) (by kernel_rfl) ⟨⟨rfl, hd⟩, rfl, ⟨rfl, by show (0 : Nat) ≤ 1900; decide⟩, rfl, rfl, trivial⟩
abbrev KZ (w : World) (d : Nat) (l1 l2 : List V) (ρ : Loc) (ρ' : Loc) : Prop := ForZ (G w) d fi__law_kept_right (.Tuple (nmX [("_law_value", 2, ⟨225,8,225,18⟩), ("_law_worth", 3, ⟨225,20,225,30⟩)]) 0 ⟨225,8,225,30⟩) (l__law_kept_right_225 w d).xs l1 l2 ρ .next ρ'
theorem kept_for {a b : V} : ∀ (ds : List DV) (H : List V) (x2 x3 : Option O), mrels ds H → (∀ dv, dv ∈ ds → dvOk dv) → ∃ y2 y3, KZ w (d + 2) H (ds.map dvV) [some (.val a), some (.val b), x2, x3] [some (.val a), some (.val b), y2, y3]
  | [], _, x2, x3, h, _ => by cases h; exact ⟨x2, x3, forz_nil (.inl rfl)⟩
  | dv :: ds, _, x2, x3, ⟨v, H, e, h1, h2⟩, hd => by
    subst e
    obtain ⟨y2, y3, k⟩ := kept_for (a := a) (b := b) ds H (some (.val v)) (some (.val (dvV dv))) h2 fun z hz => hd z (List.mem_cons_of_mem _ hz)
    exact ⟨y2, y3, forz_ok (by kernel_rfl) (l__law_kept_right_225 w (d + 2)) v (dvV dv) H (ds.map dvV) (ρ := [some (.val a), some (.val b), x2, x3]) (ρ₁ := [some (.val a), some (.val b), some (.val v), some (.val (dvV dv))]) (ρ₂ := [some (.val a), some (.val b), some (.val v), some (.val (dvV dv))]) (tp := [.r (.val (.bool true))]) (by kernel_rfl) (by kernel_rfl) (P := CallOK (G w) (d + 2) 295 [v, dvV dv] (.val (.bool true)) ∧ True) (by kernel_rfl) ⟨ok_held h1 (hd dv List.mem_cons_self), trivial⟩ k⟩
theorem dpts_strs : ∀ l : List (List Nat), dpts (l.map V.str) = 0
  | [] => rfl
  | x :: l => by show max 0 (dpts (l.map V.str)) = 0; rw [dpts_strs l]; rfl
theorem dpt_body (n : Int) : ∀ row : List (List Nat), dpt (tv (bodyP n row)) ≤ row.length + 1
  | [] => Nat.le_refl 1
  | x :: r => by
    have ih := dpt_body n r
    show max 0 (max 1 (max (dpt (tv (bodyP n r))) 0)) + 1 ≤ (r.length + 1) + 1
    omega
def deOk (e : DE) : Prop := dpt (tv e.b) ≤ 1900 ∧ ∀ dv, dv ∈ e.ds → dvOk dv
theorem ok_kept {e : DE} {v : V} (h : krel e v) (hd : deOk e) : CallOK (G w) (d + 3) 302 [v, deV e] (.val (.bool true)) := by
  obtain ⟨x, b, N, ds⟩ := e
  obtain ⟨H, rfl, hm⟩ := h
  have hl := mrels_len hm
  obtain ⟨y2, y3, k⟩ := kept_for (w := w) (d := d) (a := kpt x b N H) (b := deV ⟨x, b, N, ds⟩) ds H none none hm hd.2
  exact call_go (n := 2) (tp := [.l .next [some (.val (kpt x b N H)), some (.val (deV ⟨x, b, N, ds⟩)), y2, y3]]) (b__law_kept_right w (d + 2)) rfl (b__law_kept_right_x w (d + 2)) rfl (by kernel_rfl)
    (P := KZ w (d + 2) H (ds.map dvV) [some (.val (kpt x b N H)), some (.val (deV ⟨x, b, N, ds⟩)), none, none] [some (.val (kpt x b N H)), some (.val (deV ⟨x, b, N, ds⟩)), y2, y3] ∧ EK ∧ (V.int (Int.ofNat H.length) = V.int (Int.ofNat (ds.map dvV).length) ∧ dpt (V.int (Int.ofNat H.length)) ≤ 1900) ∧ EK ∧ EK ∧ (V.lst (N.map V.str) = V.lst (N.map V.str) ∧ dpt (V.lst (N.map V.str)) ≤ 1900) ∧ EK ∧ (tv b = tv b ∧ dpt (tv b) ≤ 1900) ∧ EK ∧ (V.str x = V.str x ∧ dpt (V.str x) ≤ 1900) ∧ EK ∧ E181 ∧ True) (by kernel_rfl)
    ⟨k, rfl, ⟨by rw [hl, List.length_map], by show (0 : Nat) ≤ 1900; decide⟩, rfl, rfl, ⟨rfl, by show dpts (N.map V.str) + 1 ≤ 1900; rw [dpts_strs]; decide⟩, rfl, ⟨rfl, hd.1⟩, rfl, ⟨rfl, by show (0 : Nat) ≤ 1900; decide⟩, rfl, rfl, trivial⟩
end Mine.L12
end

section
open PySem
set_option autoImplicit false
set_option maxRecDepth 100000
namespace Mine.L12
variable {w : World} {d : Nat}
def drel (D : List (List Nat) × List V) (S : List (List Nat × DV)) : Prop := D.2.length = D.1.length ∧ ∀ y, dgt D y = (S.lookup y).map dvV
theorem drel_get {D : List (List Nat) × List V} {S : List (List Nat × DV)} (h : drel D S) {y : List Nat} {dv : DV} (e : S.lookup y = some dv) : DGet w D.1 D.2 y (.val (dvV dv)) := ⟨_, rfl, by have := h.2 y; rw [e] at this; exact this⟩
theorem drel_put {D : List (List Nat) × List V} {S : List (List Nat × DV)} (h : drel D S) (x : List Nat) (dv : DV) : drel (dput D.1 D.2 x (dvV dv)) ((x, dv) :: S) := by
  obtain ⟨e1, _, e3, _⟩ := dput_ok D x (dvV dv) h.1
  refine ⟨e1, fun y => ?_⟩
  rw [e3 y, List.lookup_cons]
  by_cases q : y = x
  · subst q; rw [if_pos rfl, beq_self_eq_true]; rfl
  · rw [if_neg q, beq_eq_false_iff_ne.mpr q]; exact h.2 y
theorem vals_own {l : V} {L : List V} {o : List Nat} {i : Int} {D : List (List Nat) × List V} {S : List (List Nat × DV)} (hd : drel D S) : ∀ {N : List (List Nat)}, (∀ y, y ∈ N → y ≠ o → ∃ dv, S.lookup y = some dv) → CompL (G w) d (fi__law_values.inner s__law_values_231_23 "_law_name" 5) (e__law_values_231_23 w d).x 5 [some (.val l), some (.dic w D.1 D.2), some (.val (.str o)), some (.val (.int i)), some (.val (.lst L)), none] (N.map V.str) ((N.map (vof S o i)).map dvV)
  | [], _ => comp_nil
  | y :: N, h => by
    have ih := vals_own (l := l) (L := L) (o := o) (i := i) hd (N := N) fun z hz => h z (List.mem_cons_of_mem _ hz)
    by_cases e : y = o
    · have ev : vof S o i y = .int i := if_pos e
      rw [List.map_cons, List.map_cons, List.map_cons, ev]
      exact comp_go (o := .val (.int i)) (tp := [.b true]) (by kernel_rfl) (P := (y == o) = true ∧ True) (by kernel_rfl) ⟨by rw [e]; exact beq_self_eq_true _, trivial⟩ ih
    · obtain ⟨dv, hl⟩ := h y List.mem_cons_self e
      have ev : vof S o i y = dv := by unfold vof; rw [if_neg e, hl]; rfl
      rw [List.map_cons, List.map_cons, List.map_cons, ev]
      exact comp_go (o := .val (dvV dv)) (tp := [.b false, .r (.val (dvV dv))]) (by kernel_rfl) (P := DGet w D.1 D.2 y (.val (dvV dv)) ∧ (w = w) ∧ (y == o) = false ∧ True) (by kernel_rfl) ⟨drel_get hd hl, rfl, beq_eq_false_iff_ne.mpr e, trivial⟩ ih
theorem values_own0 {l R vs : List V} {o : List Nat} {i : Int} {D : List (List Nat) × List V} (h1 : CallOK (G w) (d + 1) 281 [.lst l, .str z_] (.own R)) (hc : CompL (G w) (d + 1) (fi__law_values.inner s__law_values_231_23 "_law_name" 5) (e__law_values_231_23 w (d + 1)).x 5 [some (.val (.lst l)), some (.dic w D.1 D.2), some (.val (.str o)), some (.val (.int i)), some (.val (.lst R.reverse)), none] R.reverse vs) (hl : R.reverse.length ≤ room) : CallB (G w) (d + 2) 307 [.val (.lst l), (.dic w D.1 D.2), .val (.str o), .val (.int i)] (.tup [.lst R.reverse, .lst vs.reverse.reverse]) [.val (.lst l), (.dic w D.1 D.2), .val (.str o), .val (.int i)] :=
  callB_go (n := 2) (tp := [.r (.own R), .vs vs]) (b__law_values w (d + 1)) rfl (b__law_values_x w (d + 1)) rfl (by kernel_rfl) (by kernel_rfl) (P := (CompL (G w) (d + 1) (fi__law_values.inner s__law_values_231_23 "_law_name" 5) (e__law_values_231_23 w (d + 1)).x 5 [some (.val (.lst l)), some (.dic w D.1 D.2), some (.val (.str o)), some (.val (.int i)), some (.val (.lst R.reverse)), none] R.reverse vs ∧ R.reverse.length ≤ room ∧ ∃ o' : O, some ((.dic w D.1 D.2) : O) = some o') ∧ CallOK (G w) (d + 1) 281 [.lst l, .str z_] (.own R) ∧ True) (by kernel_rfl) ⟨⟨hc, hl, _, rfl⟩, h1, trivial⟩
theorem values_own {row : List (List Nat)} {o : List Nat} {i : Int} {D : List (List Nat) × List V} {S : List (List Nat × DV)} (hd : drel D S) (hr : row.length ≤ 6) (h0 : ([] : List Nat) ∉ row) (h : ∀ y, y ∈ row → y ≠ o → ∃ dv, S.lookup y = some dv) :
    CallB (G w) (d + 2) 307 [.val (.lst (row.map V.str)), (.dic w D.1 D.2), .val (.str o), .val (.int i)] (.tup [.lst ((onceR [] row).map V.str), .lst (((onceR [] row).map (vof S o i)).map dvV)]) [.val (.lst (row.map V.str)), (.dic w D.1 D.2), .val (.str o), .val (.int i)] := by
  have h1 := ok_once (w := w) (d := d) row [] hr
  have e1 : onceR [[]] row = onceR [] row := once_same fun x hx => ⟨fun q => absurd (List.mem_singleton.mp q ▸ hx) h0, fun q => by cases q⟩
  rw [e1] at h1
  have hl := once_len (bd := []) (row := row)
  have hroom : (2000 : Nat) < room := by decide
  have := values_own0 (w := w) (d := d) (R := ((onceR [] row).map V.str).reverse) (vs := ((onceR [] row).map (vof S o i)).map dvV) (o := o) (i := i) (D := D) h1 (by rw [List.reverse_reverse]; exact vals_own hd fun y hy => h y (once_mem.mp hy).1) (by rw [List.length_reverse, List.length_reverse, List.length_map]; omega)
  rw [List.reverse_reverse, List.reverse_reverse] at this
  exact this
theorem vals_val {l : V} {L : List V} {o : List Nat} {i : Int} {D : List (List Nat) × List V} {S : List (List Nat × DV)} (hd : drel D S) : ∀ {N : List (List Nat)}, (∀ y, y ∈ N → y ≠ o → ∃ dv, S.lookup y = some dv) → CompL (G w) d (fi__law_values.inner s__law_values_231_23 "_law_name" 5) (e__law_values_231_23 w d).x 5 [some (.val l), some (.val (.dic w D.1 D.2)), some (.val (.str o)), some (.val (.int i)), some (.val (.lst L)), none] (N.map V.str) ((N.map (vof S o i)).map dvV)
  | [], _ => comp_nil
  | y :: N, h => by
    have ih := vals_val (l := l) (L := L) (o := o) (i := i) hd (N := N) fun z hz => h z (List.mem_cons_of_mem _ hz)
    by_cases e : y = o
    · have ev : vof S o i y = .int i := if_pos e
      rw [List.map_cons, List.map_cons, List.map_cons, ev]
      exact comp_go (o := .val (.int i)) (tp := [.b true]) (by kernel_rfl) (P := (y == o) = true ∧ True) (by kernel_rfl) ⟨by rw [e]; exact beq_self_eq_true _, trivial⟩ ih
    · obtain ⟨dv, hl⟩ := h y List.mem_cons_self e
      have ev : vof S o i y = dv := by unfold vof; rw [if_neg e, hl]; rfl
      rw [List.map_cons, List.map_cons, List.map_cons, ev]
      exact comp_go (o := .val (dvV dv)) (tp := [.b false, .r (.val (dvV dv))]) (by kernel_rfl) (P := DGet w D.1 D.2 y (.val (dvV dv)) ∧ (w = w) ∧ (y == o) = false ∧ True) (by kernel_rfl) ⟨drel_get hd hl, rfl, beq_eq_false_iff_ne.mpr e, trivial⟩ ih
theorem values_val0 {l R vs : List V} {o : List Nat} {i : Int} {D : List (List Nat) × List V} (h1 : CallOK (G w) (d + 1) 281 [.lst l, .str z_] (.own R)) (hc : CompL (G w) (d + 1) (fi__law_values.inner s__law_values_231_23 "_law_name" 5) (e__law_values_231_23 w (d + 1)).x 5 [some (.val (.lst l)), some (.val (.dic w D.1 D.2)), some (.val (.str o)), some (.val (.int i)), some (.val (.lst R.reverse)), none] R.reverse vs) (hl : R.reverse.length ≤ room) : CallB (G w) (d + 2) 307 [.val (.lst l), (.val (.dic w D.1 D.2)), .val (.str o), .val (.int i)] (.tup [.lst R.reverse, .lst vs.reverse.reverse]) [.val (.lst l), (.val (.dic w D.1 D.2)), .val (.str o), .val (.int i)] :=
  callB_go (n := 2) (tp := [.r (.own R), .vs vs]) (b__law_values w (d + 1)) rfl (b__law_values_x w (d + 1)) rfl (by kernel_rfl) (by kernel_rfl) (P := (CompL (G w) (d + 1) (fi__law_values.inner s__law_values_231_23 "_law_name" 5) (e__law_values_231_23 w (d + 1)).x 5 [some (.val (.lst l)), some (.val (.dic w D.1 D.2)), some (.val (.str o)), some (.val (.int i)), some (.val (.lst R.reverse)), none] R.reverse vs ∧ R.reverse.length ≤ room ∧ ∃ o' : O, some ((.val (.dic w D.1 D.2)) : O) = some o') ∧ CallOK (G w) (d + 1) 281 [.lst l, .str z_] (.own R) ∧ True) (by kernel_rfl) ⟨⟨hc, hl, _, rfl⟩, h1, trivial⟩
theorem values_val {row : List (List Nat)} {o : List Nat} {i : Int} {D : List (List Nat) × List V} {S : List (List Nat × DV)} (hd : drel D S) (hr : row.length ≤ 6) (h0 : ([] : List Nat) ∉ row) (h : ∀ y, y ∈ row → y ≠ o → ∃ dv, S.lookup y = some dv) :
    CallB (G w) (d + 2) 307 [.val (.lst (row.map V.str)), (.val (.dic w D.1 D.2)), .val (.str o), .val (.int i)] (.tup [.lst ((onceR [] row).map V.str), .lst (((onceR [] row).map (vof S o i)).map dvV)]) [.val (.lst (row.map V.str)), (.val (.dic w D.1 D.2)), .val (.str o), .val (.int i)] := by
  have h1 := ok_once (w := w) (d := d) row [] hr
  have e1 : onceR [[]] row = onceR [] row := once_same fun x hx => ⟨fun q => absurd (List.mem_singleton.mp q ▸ hx) h0, fun q => by cases q⟩
  rw [e1] at h1
  have hl := once_len (bd := []) (row := row)
  have hroom : (2000 : Nat) < room := by decide
  have := values_val0 (w := w) (d := d) (R := ((onceR [] row).map V.str).reverse) (vs := ((onceR [] row).map (vof S o i)).map dvV) (o := o) (i := i) (D := D) h1 (by rw [List.reverse_reverse]; exact vals_val hd fun y hy => h y (once_mem.mp hy).1) (by rw [List.length_reverse, List.length_reverse, List.length_map]; omega)
  rw [List.reverse_reverse, List.reverse_reverse] at this
  exact this
end Mine.L12
end

section
open PySem
set_option autoImplicit false
set_option maxRecDepth 100000
namespace Mine.L12
variable {w : World}
noncomputable abbrev lls (c k : Int) (NV : List V) (SD : O) (MK DU : List V) (x6 x7 x8 x9 x10 x11 x12 x13 : Option O) : Loc := [some (.val (.int c)), some (.val (.int k)), some (.val (.lst NV)), some SD, some (.own MK), some (.own DU), x6, x7, x8, x9, x10, x11, x12, x13, none]
def LY (w : World) (xs : List Stmt) (ρ : Loc) (v : V) (os' : List O) : Prop := ∃ ρ', ExsG (G w) 5 fi__law_let xs ρ (.ret (.val v)) ρ' ∧ takeO 6 ρ' = some os'
theorem ly_go {a : SS (G w) 5 fi__law_let} {ρ ρ1 : Loc} {xs : List Stmt} {tp : List Tk} {P : Prop} {v : V} {os' : List O} (e : out (a.ex ⟨ρ, tp, []⟩) = some (.next, ρ1, [])) (o : All (obs (a.ex ⟨ρ, tp, []⟩)) = P) (p : P) (h : LY w xs ρ1 v os') : LY w (a.x :: xs) ρ v os' := by
  obtain ⟨ρ', h, q⟩ := h; exact ⟨ρ', exs_go e o p h, q⟩
theorem ly_ret {a : SS (G w) 5 fi__law_let} {ρ ρ1 : Loc} {xs : List Stmt} {tp : List Tk} {P : Prop} {v : V} {os' : List O} (e : out (a.ex ⟨ρ, tp, []⟩) = some (.ret (.val v), ρ1, [])) (o : All (obs (a.ex ⟨ρ, tp, []⟩)) = P) (p : P) (h : takeO 6 ρ1 = some os') : LY w (a.x :: xs) ρ v os' := ⟨ρ1, exs_ret e o p, h⟩
noncomputable def wth (c : Int) : Int := c * 48271 % 1999 - 999
abbrev PN (NV : List V) (i : Int) (x : List Nat) : Prop := Pick (.val (.lst NV)) i (.val (.str x))
section
variable {c k : Int} {NV MK DU : List V} {SD : O} {v : V} {os' : List O} {x6 x7 x8 x9 x10 x11 x12 x13 : Option O} {xs : List Stmt}

theorem u0 {wy : Int} (h : c % 4 = wy) (kk : LY w xs (lls c k NV SD MK DU ((some (.val (.int wy)))) x7 x8 x9 x10 x11 x12 x13) v os') : LY w ((x__law_let_0 w 5).x :: xs) (lls c k NV SD MK DU x6 x7 x8 x9 x10 x11 x12 x13) v os' :=
  ly_go (tp := [.r (.val (.int wy))]) (by kernel_rfl) (P := O.val (V.int (c % 4)) = O.val (V.int wy) ∧ ((0 : Int) < 4) ∧ True) (by kernel_rfl) ⟨by rw [h], by decide, trivial⟩ kk
theorem u1  (kk : LY w xs (lls c k NV SD MK DU x6 ((some (.val (.int (wth c))))) x8 x9 x10 x11 x12 x13) v os') : LY w ((x__law_let_1 w 5).x :: xs) (lls c k NV SD MK DU x6 x7 x8 x9 x10 x11 x12 x13) v os' :=
  ly_go (tp := []) (by kernel_rfl) (P := ((0 : Int) < 1999) ∧ (c.natAbs < 2 ^ 62 ∨ (48271 : Int).natAbs < 2 ^ 62) ∧ True) (by kernel_rfl) ⟨by decide, .inr (by decide), trivial⟩ kk
theorem u2 {o : List Nat} (h : PN NV 10 o) (kk : LY w xs (lls c k NV SD MK DU x6 x7 ((some (.val (.str o)))) x9 x10 x11 x12 x13) v os') : LY w ((x__law_let_2 w 5).x :: xs) (lls c k NV SD MK DU x6 x7 x8 x9 x10 x11 x12 x13) v os' :=
  ly_go (tp := [.r (.val (.str o))]) (by kernel_rfl) (P := PN NV 10 o ∧ True) (by kernel_rfl) ⟨h, trivial⟩ kk
theorem u3t {wy : Int} {o : List Nat} {R : List V} (hi : InI (.int wy) (.val (.tup [.int 1, .int 2])) true) (h0 : 0 ≤ k ∧ k ≤ 1000000) (hl : ((cut NV none (some k.toNat)).reverse.reverse ++ [V.str o]).length ≤ room) (h : CallOK (G w) 5 274 [.int (c / 4), .lst ((cut NV none (some k.toNat)).reverse.reverse ++ [V.str o]).reverse.reverse] (.own R)) (kk : LY w xs (lls c k NV SD MK DU ((some (.val (.int wy)))) x7 ((some (.val (.str o)))) (some (.own R)) x10 x11 x12 x13) v os') : LY w ((x__law_let_3 w 5).x :: xs) (lls c k NV SD MK DU ((some (.val (.int wy)))) x7 ((some (.val (.str o)))) x9 x10 x11 x12 x13) v os' :=
  ly_go (tp := [.b true, .r (.own R)]) (by kernel_rfl) (P := CallOK (G w) 5 274 [.int (c / 4), .lst ((cut NV none (some k.toNat)).reverse.reverse ++ [V.str o]).reverse.reverse] (.own R) ∧ ((cut NV none (some k.toNat)).reverse.reverse ++ [V.str o]).length ≤ room ∧ (1 * 1 ≤ 1000 ∧ 1 ≤ 1000) ∧ InI (.int wy) (.val (.tup [.int 1, .int 2])) true ∧ (0 ≤ k ∧ k ≤ 1000000) ∧ ((0 : Int) < 4 ∧ (4 : Int) < 2 ^ 29) ∧ True) (by kernel_rfl) ⟨h, hl, by decide, hi, h0, by decide, trivial⟩ kk
theorem u3f {wy : Int} {o : List Nat} {R : List V} (hi : InI (.int wy) (.val (.tup [.int 1, .int 2])) false) (h0 : 0 ≤ k ∧ k ≤ 1000000) (hl : ((cut NV none (some k.toNat)).reverse.reverse ++ ([] : List V)).length ≤ room) (h : CallOK (G w) 5 274 [.int (c / 4), .lst ((cut NV none (some k.toNat)).reverse.reverse ++ ([] : List V)).reverse.reverse] (.own R)) (kk : LY w xs (lls c k NV SD MK DU ((some (.val (.int wy)))) x7 ((some (.val (.str o)))) (some (.own R)) x10 x11 x12 x13) v os') : LY w ((x__law_let_3 w 5).x :: xs) (lls c k NV SD MK DU ((some (.val (.int wy)))) x7 ((some (.val (.str o)))) x9 x10 x11 x12 x13) v os' :=
  ly_go (tp := [.b false, .r (.own R)]) (by kernel_rfl) (P := CallOK (G w) 5 274 [.int (c / 4), .lst ((cut NV none (some k.toNat)).reverse.reverse ++ ([] : List V)).reverse.reverse] (.own R) ∧ ((cut NV none (some k.toNat)).reverse.reverse ++ ([] : List V)).length ≤ room ∧ (1 * 0 ≤ 1000 ∧ 0 ≤ 1000) ∧ InI (.int wy) (.val (.tup [.int 1, .int 2])) false ∧ (0 ≤ k ∧ k ≤ 1000000) ∧ ((0 : Int) < 4 ∧ (4 : Int) < 2 ^ 29) ∧ True) (by kernel_rfl) ⟨h, hl, by decide, hi, h0, by decide, trivial⟩ kk
theorem u4 {x : List Nat} {R : List V} {b : V} (hp : PN NV 11 x) (h : CallOK (G w) 5 267 [.lst R.reverse, .int k] (.val b)) (kk : LY w xs (lls c k NV SD MK DU x6 x7 x8 ((some (.val (.lst R.reverse)))) ((some (.val (.tup [.str z_fun, .str x, b])))) x11 x12 x13) v os') : LY w ((x__law_let_4 w 5).x :: xs) (lls c k NV SD MK DU x6 x7 x8 (some (.own R)) x10 x11 x12 x13) v os' :=
  ly_go (tp := [.r (.val (.str x)), .r (.val b)]) (by kernel_rfl) (P := CallOK (G w) 5 267 [.lst R.reverse, .int k] (.val b) ∧ PN NV 11 x ∧ True) (by kernel_rfl) ⟨h, hp, trivial⟩ kk
theorem u5_0  (kk : LY w xs (lls c k NV SD MK DU ((some (.val (.int 0)))) x7 x8 x9 x10 x11 x12 x13) v os') : LY w ((x__law_let_5 w 5).x :: xs) (lls c k NV SD MK DU ((some (.val (.int 0)))) x7 x8 x9 x10 x11 x12 x13) v os' :=
  ly_go (tp := []) (by kernel_rfl) (P := True) (by kernel_rfl) trivial kk
theorem u5_1  (kk : LY w xs (lls c k NV SD MK DU ((some (.val (.int 1)))) x7 x8 x9 x10 x11 x12 x13) v os') : LY w ((x__law_let_5 w 5).x :: xs) (lls c k NV SD MK DU ((some (.val (.int 1)))) x7 x8 x9 x10 x11 x12 x13) v os' :=
  ly_go (tp := []) (by kernel_rfl) (P := True) (by kernel_rfl) trivial kk
theorem u5_2  (kk : LY w xs (lls c k NV SD MK DU ((some (.val (.int 2)))) x7 x8 x9 x10 x11 x12 x13) v os') : LY w ((x__law_let_5 w 5).x :: xs) (lls c k NV SD MK DU ((some (.val (.int 2)))) x7 x8 x9 x10 x11 x12 x13) v os' :=
  ly_go (tp := []) (by kernel_rfl) (P := True) (by kernel_rfl) trivial kk
theorem u5_3  (kk : LY w xs (lls c k NV SD [] DU ((some (.val (.int 3)))) x7 x8 x9 x10 x11 x12 x13) v os') : LY w ((x__law_let_5 w 5).x :: xs) (lls c k NV SD [] DU ((some (.val (.int 3)))) x7 x8 x9 x10 x11 x12 x13) v os' :=
  ly_go (tp := []) (by kernel_rfl) (P := True) (by kernel_rfl) trivial kk
theorem u6_0  (kk : LY w xs (lls c k NV SD MK DU ((some (.val (.int 0)))) x7 x8 x9 x10 x11 x12 x13) v os') : LY w ((x__law_let_6 w 5).x :: xs) (lls c k NV SD MK DU ((some (.val (.int 0)))) x7 x8 x9 x10 x11 x12 x13) v os' :=
  ly_go (tp := []) (by kernel_rfl) (P := True) (by kernel_rfl) trivial kk
theorem u6_3  (kk : LY w xs (lls c k NV SD MK DU ((some (.val (.int 3)))) x7 x8 x9 x10 x11 x12 x13) v os') : LY w ((x__law_let_6 w 5).x :: xs) (lls c k NV SD MK DU ((some (.val (.int 3)))) x7 x8 x9 x10 x11 x12 x13) v os' :=
  ly_go (tp := []) (by kernel_rfl) (P := True) (by kernel_rfl) trivial kk
theorem u6_1 {D : List (List Nat) × List V} {wt : Int} {o : List Nat} {l R vs : List V} {inn : V} (h : CallOK (G w) 5 281 [.lst l, .str o] (.own R)) (hc : CompL (G w) 5 (fi__law_let.inner s__law_let_246_60 "_law_name" 14) (e__law_let_246_60 w 5).x 14 [some (.val (.int c)), some (.val (.int k)), some (.val (.lst NV)), some (.dic w D.1 D.2), none, none, (some (.val (.int 1))), (some (.val (.int wt))), (some (.val (.str o))), (some (.val (.lst l))), (some (.val (inn))), none, none, (some (.val (.lst R.reverse))), none] R.reverse vs) (hl : R.reverse.length ≤ room) (hd : DU.length < room) (kk : LY w xs (lls c k NV (.dic w D.1 D.2) MK (V.tup [.str o, inn, .lst R.reverse, .lst vs.reverse.reverse] :: DU) ((some (.val (.int 1)))) ((some (.val (.int wt)))) ((some (.val (.str o)))) ((some (.val (.lst l)))) ((some (.val (inn)))) none none ((some (.val (.lst R.reverse))))) v os') : LY w ((x__law_let_6 w 5).x :: xs) (lls c k NV (.dic w D.1 D.2) MK DU ((some (.val (.int 1)))) ((some (.val (.int wt)))) ((some (.val (.str o)))) ((some (.val (.lst l)))) ((some (.val (inn)))) none none none) v os' :=
  ly_go (tp := [.r (.own R), .vs vs]) (by kernel_rfl) (P := DU.length < room ∧ (CompL (G w) 5 (fi__law_let.inner s__law_let_246_60 "_law_name" 14) (e__law_let_246_60 w 5).x 14 [some (.val (.int c)), some (.val (.int k)), some (.val (.lst NV)), some (.dic w D.1 D.2), none, none, (some (.val (.int 1))), (some (.val (.int wt))), (some (.val (.str o))), (some (.val (.lst l))), (some (.val (inn))), none, none, (some (.val (.lst R.reverse))), none] R.reverse vs ∧ R.reverse.length ≤ room ∧ ∃ o' : O, some (O.dic w D.1 D.2) = some o') ∧ CallOK (G w) 5 281 [.lst l, .str o] (.own R) ∧ True) (by kernel_rfl) ⟨hd, ⟨hc, hl, _, rfl⟩, h, trivial⟩ kk
theorem held_1 {D : List (List Nat) × List V} {S : List (List Nat × DV)} {wt : Int} {o : List Nat} {l L : List V} {inn : V} (hd : drel D S) : ∀ {N : List (List Nat)}, (∀ y, y ∈ N → ∃ dv, S.lookup y = some dv) → CompL (G w) 5 (fi__law_let.inner s__law_let_246_60 "_law_name" 14) (e__law_let_246_60 w 5).x 14 [some (.val (.int c)), some (.val (.int k)), some (.val (.lst NV)), some (.dic w D.1 D.2), none, none, (some (.val (.int 1))), (some (.val (.int wt))), (some (.val (.str o))), (some (.val (.lst l))), (some (.val (inn))), none, none, (some (.val (.lst L))), none] (N.map V.str) ((N.map fun y => (S.lookup y).getD (.int 0)).map dvV)
  | [], _ => comp_nil
  | y :: N, h => by
    have ih := held_1 (wt := wt) (o := o) (l := l) (L := L) (inn := inn) hd (N := N) fun z hz => h z (List.mem_cons_of_mem _ hz)
    obtain ⟨dv, hl⟩ := h y List.mem_cons_self
    rw [List.map_cons, List.map_cons, List.map_cons, hl]
    exact comp_go (o := .val (dvV dv)) (tp := [.r (.val (dvV dv))]) (by kernel_rfl) (P := DGet w D.1 D.2 y (.val (dvV dv)) ∧ (w = w) ∧ True) (by kernel_rfl) ⟨drel_get hd hl, rfl, trivial⟩ ih
theorem u6_2 {D : List (List Nat) × List V} {wt : Int} {o : List Nat} {l R vs : List V} {inn : V} (h : CallOK (G w) 5 281 [.lst l, .str o] (.own R)) (hc : CompL (G w) 5 (fi__law_let.inner s__law_let_246_60 "_law_name" 14) (e__law_let_246_60 w 5).x 14 [some (.val (.int c)), some (.val (.int k)), some (.val (.lst NV)), some (.dic w D.1 D.2), none, none, (some (.val (.int 2))), (some (.val (.int wt))), (some (.val (.str o))), (some (.val (.lst l))), (some (.val (inn))), none, none, (some (.val (.lst R.reverse))), none] R.reverse vs) (hl : R.reverse.length ≤ room) (hd : DU.length < room) (kk : LY w xs (lls c k NV (.dic w D.1 D.2) MK (V.tup [.str o, inn, .lst R.reverse, .lst vs.reverse.reverse] :: DU) ((some (.val (.int 2)))) ((some (.val (.int wt)))) ((some (.val (.str o)))) ((some (.val (.lst l)))) ((some (.val (inn)))) none none ((some (.val (.lst R.reverse))))) v os') : LY w ((x__law_let_6 w 5).x :: xs) (lls c k NV (.dic w D.1 D.2) MK DU ((some (.val (.int 2)))) ((some (.val (.int wt)))) ((some (.val (.str o)))) ((some (.val (.lst l)))) ((some (.val (inn)))) none none none) v os' :=
  ly_go (tp := [.r (.own R), .vs vs]) (by kernel_rfl) (P := DU.length < room ∧ (CompL (G w) 5 (fi__law_let.inner s__law_let_246_60 "_law_name" 14) (e__law_let_246_60 w 5).x 14 [some (.val (.int c)), some (.val (.int k)), some (.val (.lst NV)), some (.dic w D.1 D.2), none, none, (some (.val (.int 2))), (some (.val (.int wt))), (some (.val (.str o))), (some (.val (.lst l))), (some (.val (inn))), none, none, (some (.val (.lst R.reverse))), none] R.reverse vs ∧ R.reverse.length ≤ room ∧ ∃ o' : O, some (O.dic w D.1 D.2) = some o') ∧ CallOK (G w) 5 281 [.lst l, .str o] (.own R) ∧ True) (by kernel_rfl) ⟨hd, ⟨hc, hl, _, rfl⟩, h, trivial⟩ kk
theorem held_2 {D : List (List Nat) × List V} {S : List (List Nat × DV)} {wt : Int} {o : List Nat} {l L : List V} {inn : V} (hd : drel D S) : ∀ {N : List (List Nat)}, (∀ y, y ∈ N → ∃ dv, S.lookup y = some dv) → CompL (G w) 5 (fi__law_let.inner s__law_let_246_60 "_law_name" 14) (e__law_let_246_60 w 5).x 14 [some (.val (.int c)), some (.val (.int k)), some (.val (.lst NV)), some (.dic w D.1 D.2), none, none, (some (.val (.int 2))), (some (.val (.int wt))), (some (.val (.str o))), (some (.val (.lst l))), (some (.val (inn))), none, none, (some (.val (.lst L))), none] (N.map V.str) ((N.map fun y => (S.lookup y).getD (.int 0)).map dvV)
  | [], _ => comp_nil
  | y :: N, h => by
    have ih := held_2 (wt := wt) (o := o) (l := l) (L := L) (inn := inn) hd (N := N) fun z hz => h z (List.mem_cons_of_mem _ hz)
    obtain ⟨dv, hl⟩ := h y List.mem_cons_self
    rw [List.map_cons, List.map_cons, List.map_cons, hl]
    exact comp_go (o := .val (dvV dv)) (tp := [.r (.val (dvV dv))]) (by kernel_rfl) (P := DGet w D.1 D.2 y (.val (dvV dv)) ∧ (w = w) ∧ True) (by kernel_rfl) ⟨drel_get hd hl, rfl, trivial⟩ ih
theorem u7_0  (kk : LY w xs (lls c k NV SD MK DU ((some (.val (.int 0)))) x7 x8 x9 x10 x11 x12 x13) v os') : LY w ((x__law_let_7 w 5).x :: xs) (lls c k NV SD MK DU ((some (.val (.int 0)))) x7 x8 x9 x10 x11 x12 x13) v os' :=
  ly_go (tp := []) (by kernel_rfl) (P := True) (by kernel_rfl) trivial kk
theorem u7_1  (kk : LY w xs (lls c k NV SD MK DU ((some (.val (.int 1)))) x7 x8 x9 x10 x11 x12 x13) v os') : LY w ((x__law_let_7 w 5).x :: xs) (lls c k NV SD MK DU ((some (.val (.int 1)))) x7 x8 x9 x10 x11 x12 x13) v os' :=
  ly_go (tp := []) (by kernel_rfl) (P := True) (by kernel_rfl) trivial kk
theorem u7_3  (kk : LY w xs (lls c k NV SD MK DU ((some (.val (.int 3)))) x7 x8 x9 x10 x11 x12 x13) v os') : LY w ((x__law_let_7 w 5).x :: xs) (lls c k NV SD MK DU ((some (.val (.int 3)))) x7 x8 x9 x10 x11 x12 x13) v os' :=
  ly_go (tp := []) (by kernel_rfl) (P := True) (by kernel_rfl) trivial kk
theorem u7_2 {D D' : List (List Nat) × List V} {o nk : List Nat} {l : List V} {inn : V} (hp : PN NV k nk) (hd : D' = dput D.1 D.2 nk (.tup [.str o, inn])) (hD : D.1.length < room) (hm : MK.length < room) : LY w ((x__law_let_7 w 5).x :: xs) (lls c k NV (.dic w D.1 D.2) MK DU ((some (.val (.int 2)))) x7 ((some (.val (.str o)))) ((some (.val (.lst l)))) ((some (.val (inn)))) x11 x12 x13) (.tup [.str z_fun, .str o, inn]) [.val (.int c), .val (.int k), .val (.lst NV), (.dic w D'.1 D'.2), .own (V.tup [.str nk, .lst l, inn, .dic w D.1 D.2] :: MK), .own DU] :=
  ly_ret (ρ1 := (lls c k NV (.dic w D'.1 D'.2) (V.tup [.str nk, .lst l, inn, .dic w D.1 D.2] :: MK) DU ((some (.val (.int 2)))) x7 ((some (.val (.str o)))) ((some (.val (.lst l)))) ((some (.val (inn)))) x11 x12 x13)) (tp := [.r (.val (.str nk)), .r (.val (.str nk)), .r (.dic w D'.1 D'.2)]) (by kernel_rfl) (P := ((D'.1, D'.2) = dput D.1 D.2 nk (.tup [.str o, inn])) ∧ (w = w) ∧ D.1.length < room ∧ PN NV k nk ∧ MK.length < room ∧ (w = w) ∧ PN NV k nk ∧ True) (by kernel_rfl) ⟨hd, rfl, hD, hp, hm, rfl, hp, trivial⟩ rfl
theorem u8 {wt : Int} {o : List Nat} {l : List V} {pv : V} (h : CallB (G w) 5 307 [.val (.lst l), SD, .val (.str o), .val (.int wt)] pv [.val (.lst l), SD, .val (.str o), .val (.int wt)]) (kk : LY w xs (lls c k NV SD MK DU x6 ((some (.val (.int wt)))) ((some (.val (.str o)))) ((some (.val (.lst l)))) x10 x11 ((some (.val (pv)))) x13) v os') : LY w ((x__law_let_8 w 5).x :: xs) (lls c k NV SD MK DU x6 ((some (.val (.int wt)))) ((some (.val (.str o)))) ((some (.val (.lst l)))) x10 x11 x12 x13) v os' :=
  ly_go (tp := [.l (.ret (.val pv)) [some SD]]) (by kernel_rfl) (P := CallB (G w) 5 307 [.val (.lst l), SD, .val (.str o), .val (.int wt)] pv [.val (.lst l), SD, .val (.str o), .val (.int wt)] ∧ ([3] : List Nat).Nodup ∧ True) (by kernel_rfl) ⟨h, by decide, trivial⟩ kk
theorem u9 {x : List Nat} {b a1 a2 y1 y2 : V} (hp : PN NV 11 x) (hd : DU.length < room) (kk : LY w xs (lls c k NV SD MK (.tup [.str x, b, a1, a2] :: DU) x6 x7 x8 x9 ((some (.val (.tup [y1, y2, b])))) x11 ((some (.val (.tup [a1, a2])))) x13) v os') : LY w ((x__law_let_9 w 5).x :: xs) (lls c k NV SD MK DU x6 x7 x8 x9 ((some (.val (.tup [y1, y2, b])))) x11 ((some (.val (.tup [a1, a2])))) x13) v os' :=
  ly_go (tp := [.r (.val (.str x))]) (by kernel_rfl) (P := DU.length < room ∧ PN NV 11 x ∧ True) (by kernel_rfl) ⟨hd, hp, trivial⟩ kk
theorem u10 {D D' : List (List Nat) × List V} {x nk : List Nat} {b y1 y2 : V} (hp : PN NV 11 x) (hk : PN NV k nk) (hd : D' = dput D.1 D.2 nk (.tup [.str x, b])) (hD : D.1.length < room) (kk : LY w xs (lls c k NV (.dic w D'.1 D'.2) MK DU x6 x7 x8 x9 ((some (.val (.tup [y1, y2, b])))) x11 x12 x13) v os') : LY w ((x__law_let_10 w 5).x :: xs) (lls c k NV (.dic w D.1 D.2) MK DU x6 x7 x8 x9 ((some (.val (.tup [y1, y2, b])))) x11 x12 x13) v os' :=
  ly_go (tp := [.r (.val (.str x)), .r (.val (.str nk)), .r (.dic w D'.1 D'.2)]) (by kernel_rfl) (P := ((D'.1, D'.2) = dput D.1 D.2 nk (.tup [.str x, b])) ∧ (w = w) ∧ D.1.length < room ∧ PN NV k nk ∧ PN NV 11 x ∧ True) (by kernel_rfl) ⟨hd, rfl, hD, hk, hp, trivial⟩ kk
theorem u11_0  (kk : LY w xs (lls c k NV SD MK DU ((some (.val (.int 0)))) x7 x8 x9 x10 x11 x12 x13) v os') : LY w ((x__law_let_11 w 5).x :: xs) (lls c k NV SD MK DU ((some (.val (.int 0)))) x7 x8 x9 x10 x11 x12 x13) v os' :=
  ly_go (tp := []) (by kernel_rfl) (P := True) (by kernel_rfl) trivial kk
theorem u11_3  (kk : LY w xs (lls c k NV SD MK DU ((some (.val (.int 3)))) x7 x8 x9 x10 x11 x12 x13) v os') : LY w ((x__law_let_11 w 5).x :: xs) (lls c k NV SD MK DU ((some (.val (.int 3)))) x7 x8 x9 x10 x11 x12 x13) v os' :=
  ly_go (tp := []) (by kernel_rfl) (P := True) (by kernel_rfl) trivial kk
theorem u11_1 {wt : Int} {o : List Nat} {inn : V} : LY w ((x__law_let_11 w 5).x :: xs) (lls c k NV SD MK DU ((some (.val (.int 1)))) ((some (.val (.int wt)))) ((some (.val (.str o)))) x9 ((some (.val (inn)))) x11 x12 x13) (.tup [.str z_call, .tup [.str z_fun, .str o, inn], .tup [.str z_num, .int wt]]) [.val (.int c), .val (.int k), .val (.lst NV), SD, .own MK, .own DU] :=
  ly_ret (ρ1 := (lls c k NV SD MK DU ((some (.val (.int 1)))) ((some (.val (.int wt)))) ((some (.val (.str o)))) x9 ((some (.val (inn)))) x11 x12 x13)) (tp := []) (by kernel_rfl) (P := True) (by kernel_rfl) trivial rfl
theorem u12 {inn : V} : LY w ((x__law_let_12 w 5).x :: xs) (lls c k NV SD MK DU x6 x7 x8 x9 ((some (.val (inn)))) x11 x12 x13) inn [.val (.int c), .val (.int k), .val (.lst NV), SD, .own MK, .own DU] :=
  ly_ret (ρ1 := (lls c k NV SD MK DU x6 x7 x8 x9 none x11 x12 x13)) (tp := []) (by kernel_rfl) (P := True) (by kernel_rfl) trivial rfl
theorem u5_m {D D' D0 : List (List Nat) × List V} {wt : Int} {o x nk mn : List Nat} {ml mt : List V} {mh b y1 y2 a1 a2 : V} (hm : Pick (.own (mh :: mt)) (wt % Int.ofNat (mh :: mt).length) (.val (.tup [.str mn, .lst ml, .tup [y1, y2, b], .dic w D0.1 D0.2]))) (hv : CallB (G w) 5 307 [.val (.lst ml), .val (.dic w D0.1 D0.2), .val (.str o), .val (.int wt)] (.tup [a1, a2]) [.val (.lst ml), .val (.dic w D0.1 D0.2), .val (.str o), .val (.int wt)]) (hp : PN NV 11 x) (hk : PN NV k nk) (hd : D' = dput D.1 D.2 nk (.tup [.str x, b])) (hD : D.1.length < room) (hu : DU.length < room) : LY w ((x__law_let_5 w 5).x :: xs) (lls c k NV (.dic w D.1 D.2) (mh :: mt) DU ((some (.val (.int 3)))) ((some (.val (.int wt)))) ((some (.val (.str o)))) x9 x10 x11 x12 x13) (.tup [.str z_call, .tup [.str z_name, .str mn], .tup [.str z_num, .int wt]]) [.val (.int c), .val (.int k), .val (.lst NV), (.dic w D'.1 D'.2), .own (mh :: mt), .own (.tup [.str x, b, a1, a2] :: DU)] :=
  ly_ret (ρ1 := (lls c k NV (.dic w D'.1 D'.2) (mh :: mt) (.tup [.str x, b, a1, a2] :: DU) ((some (.val (.int 3)))) ((some (.val (.int wt)))) ((some (.val (.str o)))) x9 x10 ((some (.val (.tup [.str mn, .lst ml, .tup [y1, y2, b], .dic w D0.1 D0.2])))) ((some (.val (.tup [a1, a2])))) x13)) (tp := [.r (.val (.tup [.str mn, .lst ml, .tup [y1, y2, b], .dic w D0.1 D0.2])), .l (.ret (.val (.tup [a1, a2]))) [], .r (.val (.str x)), .r (.val (.str x)), .r (.val (.str nk)), .r (.dic w D'.1 D'.2)]) (by kernel_rfl) (P := ((D'.1, D'.2) = dput D.1 D.2 nk (.tup [.str x, b])) ∧ (w = w) ∧ D.1.length < room ∧ PN NV k nk ∧ PN NV 11 x ∧ DU.length < room ∧ PN NV 11 x ∧ CallB (G w) 5 307 [.val (.lst ml), .val (.dic w D0.1 D0.2), .val (.str o), .val (.int wt)] (.tup [a1, a2]) [.val (.lst ml), .val (.dic w D0.1 D0.2), .val (.str o), .val (.int wt)] ∧ ([] : List Nat).Nodup ∧ Pick (.own (mh :: mt)) (wt % Int.ofNat (mh :: mt).length) (.val (.tup [.str mn, .lst ml, .tup [y1, y2, b], .dic w D0.1 D0.2])) ∧ ((0 : Int) < Int.ofNat (mh :: mt).length) ∧ True) (by kernel_rfl) ⟨hd, rfl, hD, hk, hp, hu, hp, hv, by decide, hm, Int.ofNat_lt.mpr (Nat.succ_pos _), trivial⟩ rfl
end
end Mine.L12
end

section
open PySem
set_option autoImplicit false
set_option maxRecDepth 100000
namespace Mine.L12
variable {w : World}
structure MK where
  nm : List Nat
  row : List (List Nat)
  n : Int
  S : List (List Nat × DV)
  D : List (List Nat) × List V
  E : List (List Nat × V)
noncomputable def mkV (w : World) (x : List Nat) (m : MK) : V := .tup [.str m.nm, .lst (m.row.map V.str), tv (inner x m.n m.row), .dic w m.D.1 m.D.2]
structure Nms (N : List (List Nat)) (o x : List Nat) : Prop where
  len : N.length = 12
  ho : N[10]? = some o
  hx : N[11]? = some x
  nm : ∀ y, y ∈ N → isName y = true
  ap : ∀ (j : Nat) (y : List Nat), j < 10 → N[j]? = some y → y ≠ o ∧ y ≠ x
  ox : o ≠ x
  nd : ∀ (i j : Nat) (y z : List Nat), 1 ≤ i → i < j → j < 10 → N[i]? = some y → N[j]? = some z → y ≠ z
structure MkOk (N : List (List Nat)) (o x : List Nat) (k : Nat) (E : List (List Nat × V)) (m : MK) : Prop where
  r6 : m.row.length ≤ 6
  xr : x ∉ m.row
  nr : [] ∉ m.row
  kn : Kn m.S m.E o m.row
  ok : ∀ y, y ∈ m.row → y ≠ o → ∀ dv, m.S.lookup y = some dv → dvOk dv
  dr : drel m.D m.S
  el : E.lookup m.nm = some (kO m.E x o m.n m.row)
  at_ : ∃ i, 1 ≤ i ∧ i < k ∧ N[i]? = some m.nm
structure Inva (w : World) (N : List (List Nat)) (o x : List Nat) (k : Nat) (L : List (List Nat × Tree)) (S : List (List Nat × DV)) (D : List (List Nat) × List V) (E : List (List Nat × V)) (Ms : List MK) (es : List DE) (K : List V) (dd : Int) : Prop where
  run : Run w L E dd K
  bound : ∀ y, y ∈ L.map (·.1) → ∃ dv, S.lookup y = some dv
  er : ∀ y dv, S.lookup y = some dv → ∃ v, E.lookup y = some v ∧ mrel dv v ∧ dvOk dv
  nms : ∀ (j : Nat) (y : List Nat), j < k → N[j]? = some y → y ∈ L.map (·.1)
  dr : drel D S
  dl : D.1.length ≤ k
  lets : ∀ p, p ∈ L → isName p.1 = true ∧ gd p.2 ∧ sz p.2 + 1 ≤ 20
  ll : L.length = k
  cl : clo L []
  kr : krels es K.reverse
  ok : ∀ e, e ∈ es → deOk e
  el : es.length ≤ 2 * k
  d0 : 0 ≤ dd
  dm : dd ≤ (L.length : Int) + es.length
  mks : ∀ m, m ∈ Ms → MkOk N o x k E m
  ml : Ms.length ≤ k
theorem Inva.ext {N : List (List Nat)} {o x : List Nat} (hN : Nms N o x) {k : Nat} {L : List (List Nat × Tree)} {S : List (List Nat × DV)} {D : List (List Nat) × List V} {E : List (List Nat × V)} {Ms : List MK} {es : List DE} {K : List V} {dd : Int} (I : Inva w N o x k L S D E Ms es K dd) (hk1 : 1 ≤ k) (hk : k < 10)
    {nk : List Nat} (hnk : N[k]? = some nk) {t : Tree} {v : V} {ks : List V} {n : Int} {dv : DV} {ns : List DE} (he : Evs w 5 t E v ks n) (hm : mrel dv v) (hd : dvOk dv) (hks : krels ns ks.reverse) (hns : ∀ e, e ∈ ns → deOk e) (hl : ns.length ≤ 2) (hn0 : 0 ≤ n) (hn : n ≤ ns.length) (hg : gd t) (hz : sz t + 1 ≤ 20) (hc : ∀ F, fr t (L.map (·.1)) F = F)
    {Ms' : List MK} (hM : ∀ m, m ∈ Ms' → m ∈ Ms ∨ (∀ E', E'.lookup m.nm = some v → MkOk N o x (k + 1) E' m) ∧ m.nm = nk) (hMl : Ms'.length ≤ k + 1) :
    Inva w N o x (k + 1) (L ++ [(nk, t)]) ((nk, dv) :: S) (dput D.1 D.2 nk (dvV dv)) ((nk, v) :: E) Ms' (es ++ ns) (ks ++ K) (dd + n + 1) := by
  have hkl : K.length = es.length := by have := krels_len I.kr; rw [List.length_reverse] at this; exact this
  have hel := I.el
  have hnm : isName nk = true := hN.nm nk (List.mem_of_getElem? hnk)
  refine ⟨run_snoc I.run hn0 (by omega) he, fun y hy => ?_, fun y dv' h => ?_, fun j y hj hy => ?_, drel_put I.dr nk dv, ?_, fun p hp => ?_, ?_, clo_snoc I.cl (by rw [List.nil_append]; exact hc), ?_, fun e he => ?_, ?_, ?_, ?_, fun m hm' => ?_, hMl⟩
  · rw [List.lookup_cons]
    by_cases e : y = nk
    · rw [e, beq_self_eq_true]; exact ⟨dv, rfl⟩
    · rw [beq_eq_false_iff_ne.mpr e]
      rw [List.map_append] at hy
      rcases List.mem_append.mp hy with hy | hy
      · exact I.bound y hy
      · exact absurd (List.mem_singleton.mp hy) e
  · rw [List.lookup_cons] at h ⊢
    by_cases e : y = nk
    · rw [e, beq_self_eq_true] at h ⊢; cases h; exact ⟨v, rfl, hm, hd⟩
    · rw [beq_eq_false_iff_ne.mpr e] at h ⊢; exact I.er y dv' h
  · rw [List.map_append]
    by_cases e : j = k
    · subst e; rw [hnk] at hy; cases hy; exact List.mem_append_right _ List.mem_cons_self
    · exact List.mem_append_left _ (I.nms j y (by omega) hy)
  · have := (dput_ok D nk (dvV dv) I.dr.1).2.1; have := I.dl; omega
  · rcases List.mem_append.mp hp with hp | hp
    · exact I.lets p hp
    · cases List.mem_singleton.mp hp; exact ⟨hnm, hg, hz⟩
  · rw [List.length_append, I.ll]; rfl
  · rw [List.reverse_append]; exact krels_app I.kr hks
  · rcases List.mem_append.mp he with he | he
    · exact I.ok e he
    · exact hns e he
  · rw [List.length_append]; omega
  · have := I.d0; omega
  · have := I.dm; rw [List.length_append, List.length_append, List.length_singleton]; omega
  · rcases hM m hm' with h | ⟨h, h2⟩
    · have M := I.mks m h
      obtain ⟨i, i1, i2, i3⟩ := M.at_
      have hne : m.nm ≠ nk := hN.nd i k m.nm nk i1 i2 hk i3 hnk
      exact { M with el := by rw [List.lookup_cons, beq_eq_false_iff_ne.mpr hne]; exact M.el, at_ := ⟨i, i1, by omega, i3⟩ }
    · exact h _ (by rw [h2, List.lookup_cons, beq_self_eq_true])
theorem row_names {N : List (List Nat)} {o x : List Nat} (hN : Nms N o x) {k : Nat} (hk : k ≤ 9) {L : List (List Nat × Tree)} {S : List (List Nat × DV)} {D : List (List Nat) × List V} {E : List (List Nat × V)} {Ms : List MK} {es : List DE} {K : List V} {dd : Int} (I : Inva w N o x k L S D E Ms es K dd) {row : List (List Nat)} (h : ∀ y, y ∈ row → y ∈ N.take k ∨ y = o) :
    x ∉ row ∧ [] ∉ row ∧ (∀ y, y ∈ row → isName y = true) ∧ (∀ y, y ∈ row → y ∈ L.map (·.1) ∨ y = o) ∧ Kn S E o row ∧ (∀ y, y ∈ row → y ≠ o → ∀ dv, S.lookup y = some dv → dvOk dv) := by
  have tk : ∀ y, y ∈ N.take k → ∃ j : Nat, j < k ∧ N[j]? = some y := fun y hy => by
    obtain ⟨j, hj, e⟩ := List.getElem_of_mem hy
    rw [List.length_take] at hj
    refine ⟨j, by omega, ?_⟩
    rw [List.getElem_take] at e
    rw [← e]; exact List.getElem?_eq_getElem _
  have hnm : ∀ y, y ∈ row → isName y = true := fun y hy => by
    rcases h y hy with q | rfl
    · exact hN.nm y (List.mem_of_mem_take q)
    · exact hN.nm _ (List.mem_of_getElem? hN.ho)
  have hb : ∀ y, y ∈ row → y ∈ L.map (·.1) ∨ y = o := fun y hy => (h y hy).imp (fun q => by obtain ⟨j, h1, h2⟩ := tk y q; exact I.nms j y h1 h2) id
  refine ⟨fun hx => ?_, fun he => ?_, hnm, hb, fun y hy hne => ?_, fun y hy hne dv hl => (I.er y dv hl).choose_spec.2.2⟩
  · rcases h x hx with q | q
    · obtain ⟨j, h1, h2⟩ := tk x q; exact (hN.ap j x (by omega) h2).2 rfl
    · exact hN.ox q.symm
  · have := hnm [] he; unfold isName at this; simp at this
  · obtain ⟨dv, hl⟩ := I.bound y ((hb y hy).resolve_right hne)
    obtain ⟨v, h1, h2, _⟩ := I.er y dv hl
    exact ⟨dv, v, hl, h1, h2⟩
theorem fr_in {x : List Nat} {n : Int} {row bd : List (List Nat)} (h : ∀ y, y ∈ row → y ∈ bd) (F : List (List Nat)) : fr (inner x n row) bd F = F := by
  show fr (bodyP n row) (bd ++ [x]) F = F
  rw [fr_body]; exact fold_in fun y hy => List.mem_append_left _ (h y hy)
theorem num_small {i : Int} (h1 : -2000 ≤ i) (h2 : i ≤ 2000) : numI i = true := by
  have hg : (2000 : Int) < great := by decide
  unfold numI
  rw [Bool.and_eq_true, decide_eq_true_eq, decide_eq_true_eq]
  constructor <;> omega
theorem wth_ok (c : Int) : numI (wth c) = true := by
  have h1 := Int.emod_lt_of_pos (c * 48271) (b := 1999) (by decide)
  have h2 := Int.emod_nonneg (c * 48271) (b := 1999) (by decide)
  exact num_small (by unfold wth; omega) (by unfold wth; omega)
theorem gd_inner {x : List Nat} {n : Int} {row : List (List Nat)} (hx : isName x = true) (hn : numI n = true) (h : ∀ y, y ∈ row → isName y = true) : gd (inner x n row) := ⟨hx, gd_body hn h⟩
theorem vof_ok {S : List (List Nat × DV)} {o : List Nat} {i : Int} {row bd : List (List Nat)} (h : ∀ y, y ∈ row → y ≠ o → ∀ dv, S.lookup y = some dv → dvOk dv) : ∀ dv, dv ∈ (onceR bd row).map (vof S o i) → dvOk dv := fun dv hdv => by
  obtain ⟨y, hy, rfl⟩ := List.mem_map.mp hdv
  unfold vof
  by_cases e : y = o
  · rw [if_pos e]; exact trivial
  · rw [if_neg e]
    cases hl : S.lookup y with
    | none => exact trivial
    | some dv => exact h y (once_mem.mp hy).1 e dv hl
theorem dpt_inner (x : List Nat) (n : Int) {row : List (List Nat)} (h : row.length ≤ 6) : dpt (tv (inner x n row)) ≤ 1900 ∧ dpt (tv (bodyP n row)) ≤ 1900 := by
  have := dpt_body n row
  refine ⟨?_, by omega⟩
  show max 0 (max 0 (max (dpt (tv (bodyP n row))) 0)) + 1 ≤ 1900
  omega
end Mine.L12
end

section
open PySem
set_option autoImplicit false
set_option maxRecDepth 100000
namespace Mine.L12
variable {w : World}
theorem let_of {c k : Int} {NV MK DU : List V} {SD : O} {v : V} {os' : List O} (h : LY w ((x__law_let_0 w 5).x :: (x__law_let_1 w 5).x :: (x__law_let_2 w 5).x :: (x__law_let_3 w 5).x :: (x__law_let_4 w 5).x :: (x__law_let_5 w 5).x :: (x__law_let_6 w 5).x :: (x__law_let_7 w 5).x :: (x__law_let_8 w 5).x :: (x__law_let_9 w 5).x :: (x__law_let_10 w 5).x :: (x__law_let_11 w 5).x :: (x__law_let_12 w 5).x :: []) (lls c k NV SD MK DU none none none none none none none none) v os') :
    CallB (G w) 6 312 [.val (.int c), .val (.int k), .val (.lst NV), SD, .own MK, .own DU] v os' := by
  obtain ⟨ρ', h, q⟩ := h
  have h : ExsG (G w) 5 fi__law_let (b__law_let w 5).xs (locB [.val (.int c), .val (.int k), .val (.lst NV), SD, .own MK, .own DU] 9) (.ret (.val v)) ρ' := h
  rw [b__law_let_x] at h
  obtain ⟨h1, h2⟩ := takeO_get q
  exact callB_of (n := 9) (f := fd__law_let) rfl rfl h1 (by kernel_rfl) h h2 (.inl rfl)
theorem pick_own {r : List V} (h : r ≠ []) (c : Int) : ∃ v, v ∈ r ∧ Pick (.own r) (c % Int.ofNat r.length) (.val v) := by
  have hl : 0 < r.length := List.length_pos_iff.mpr h
  obtain ⟨k, hk, e⟩ := mod_cases c r.length hl
  have hk' : k < r.reverse.length := by rw [List.length_reverse]; exact hk
  refine ⟨r.reverse[k], List.mem_reverse.mp (List.getElem_mem hk'), ?_⟩
  have e : c % Int.ofNat r.length = Int.ofNat k := e
  unfold Pick
  rw [e]
  show (r.reverse[k]?).bind _ = _
  rw [List.getElem?_eq_getElem hk']; rfl
section
variable {N : List (List Nat)} {o x : List Nat} {k : Nat} {L : List (List Nat × Tree)} {S : List (List Nat × DV)} {D : List (List Nat) × List V} {E : List (List Nat × V)} {Ms : List MK} {es : List DE} {K : List V} {dd : Int}
def Let (w : World) (N : List (List Nat)) (o x : List Nat) (k : Nat) (L : List (List Nat × Tree)) (D : List (List Nat) × List V) (Ms : List MK) (es : List DE) (c : Int) : Prop := ∃ nk t S' D' E' Ms' es' K' dd', N[k]? = some nk ∧ Inva w N o x (k + 1) (L ++ [(nk, t)]) S' D' E' Ms' es' K' dd' ∧
  CallB (G w) 6 312 [.val (.int c), .val (.int (Int.ofNat k)), .val (.lst (N.map V.str)), .dic w D.1 D.2, .own (Ms.map (mkV w x)), .own (es.map deV).reverse] (tv t) [.val (.int c), .val (.int (Int.ofNat k)), .val (.lst (N.map V.str)), .dic w D'.1 D'.2, .own (Ms'.map (mkV w x)), .own (es'.map deV).reverse]
theorem due_snoc (es : List DE) (e : DE) : ((es ++ [e]).map deV).reverse = deV e :: (es.map deV).reverse := by rw [List.map_append, List.reverse_append]; rfl
theorem due_snoc2 (es : List DE) (e e2 : DE) : ((es ++ [e, e2]).map deV).reverse = deV e2 :: deV e :: (es.map deV).reverse := by rw [List.map_append, List.reverse_append]; rfl
theorem let_head (hN : Nms N o x) (hk1 : 1 ≤ k) (hk : k < 10) (c : Int) {rep : List (List Nat)} {wy : Int} {MK DU : List V} {SD : O} (hw : c % 4 = wy) (hr : (rep = [o] ∧ InI (.int wy) (.val (.tup [.int 1, .int 2])) true) ∨ (rep = [] ∧ InI (.int wy) (.val (.tup [.int 1, .int 2])) false))
    : ∃ row : List (List Nat), row.length ≤ 6 ∧ (∀ y, y ∈ row → y ∈ N.take k ++ rep) ∧ ∀ (v : V) (os' : List O), LY w ((x__law_let_5 w 5).x :: (x__law_let_6 w 5).x :: (x__law_let_7 w 5).x :: (x__law_let_8 w 5).x :: (x__law_let_9 w 5).x :: (x__law_let_10 w 5).x :: (x__law_let_11 w 5).x :: (x__law_let_12 w 5).x :: []) (lls c (Int.ofNat k) (N.map V.str) SD MK DU (some (.val (.int wy))) (some (.val (.int (wth c)))) (some (.val (.str o))) (some (.val (.lst (row.map V.str)))) (some (.val (tv (inner x (Int.ofNat k) row)))) none none none) v os' →
      CallB (G w) 6 312 [.val (.int c), .val (.int (Int.ofNat k)), .val (.lst (N.map V.str)), SD, .own MK, .own DU] v os' := by
  have hroom : (2000 : Nat) < room := by decide
  have hNS : N.take k ++ rep ≠ [] := fun e => by
    have := congrArg List.length e
    rw [List.length_append, List.length_take, hN.len] at this
    simp at this; omega
  obtain ⟨row, r1, r2, r3⟩ := ok_row (w := w) (d := 4) (c / 4) hNS
  have ec : (cut (N.map V.str) none (some (Int.ofNat k).toNat)).reverse.reverse = (N.take k).map V.str := by
    rw [List.reverse_reverse]; show (N.map V.str).take k = _; rw [List.map_take]
  have eL : ((cut (N.map V.str) none (some (Int.ofNat k).toNat)).reverse.reverse ++ rep.map V.str) = (N.take k ++ rep).map V.str := by rw [ec, List.map_append]
  have hlen : ((cut (N.map V.str) none (some (Int.ofNat k).toNat)).reverse.reverse ++ rep.map V.str).length ≤ room := by
    rw [eL, List.length_map, List.length_append, List.length_take, hN.len]
    rcases hr with ⟨rfl, _⟩ | ⟨rfl, _⟩ <;> simp <;> omega
  have h0 : (0 : Int) ≤ Int.ofNat k ∧ Int.ofNat k ≤ 1000000 := ⟨Int.natCast_nonneg k, by show ((k : Nat) : Int) ≤ _; omega⟩
  have hb := ok_body (w := w) (d := 4) row (Int.ofNat k)
  refine ⟨row, r1, r2, fun v os' kk => ?_⟩
  have rest : LY w ((x__law_let_4 w 5).x :: (x__law_let_5 w 5).x :: (x__law_let_6 w 5).x :: (x__law_let_7 w 5).x :: (x__law_let_8 w 5).x :: (x__law_let_9 w 5).x :: (x__law_let_10 w 5).x :: (x__law_let_11 w 5).x :: (x__law_let_12 w 5).x :: []) (lls c (Int.ofNat k) (N.map V.str) SD MK DU (some (.val (.int wy))) (some (.val (.int (wth c)))) (some (.val (.str o))) (some (.own (row.map V.str).reverse)) none none none none) v os' := by
    refine u4 (x := x) (b := tv (bodyP (Int.ofNat k) row)) (pick_str (j := 11) rfl hN.hx) (by rw [List.reverse_reverse]; exact hb) ?_
    rw [List.reverse_reverse]
    exact kk
  refine let_of (u0 hw (u1 (u2 (pick_str (j := 10) rfl hN.ho) ?_)))
  rcases hr with ⟨rfl, hi⟩ | ⟨rfl, hi⟩
  · exact u3t hi h0 hlen (by rw [List.reverse_reverse]; have := eL; rw [show [o].map V.str = [V.str o] from rfl] at this; rw [this]; exact r3) rest
  · exact u3f hi h0 hlen (by rw [List.reverse_reverse]; have := eL; rw [show ([] : List (List Nat)).map V.str = [] from rfl] at this; rw [this]; exact r3) rest
theorem ini_f {wy : Int} (h : wy = 0 ∨ wy = 3) : InI (.int wy) (.val (.tup [.int 1, .int 2])) false := by
  rcases h with rfl | rfl <;> exact ⟨_, _, _, rfl, rfl, rfl, rfl⟩
theorem ini_t {wy : Int} (h : wy = 1 ∨ wy = 2) : InI (.int wy) (.val (.tup [.int 1, .int 2])) true := by
  rcases h with rfl | rfl <;> exact ⟨_, _, _, rfl, rfl, rfl, rfl⟩
end
end Mine.L12
end

section
open PySem
set_option autoImplicit false
set_option maxRecDepth 100000
namespace Mine.L12
variable {w : World}
section
variable {N : List (List Nat)} {o x : List Nat} {k : Nat} {L : List (List Nat × Tree)} {S : List (List Nat × DV)} {D : List (List Nat) × List V} {E : List (List Nat × V)} {Ms : List MK} {es : List DE} {K : List V} {dd : Int}
theorem dv_of {x : List Nat} {b : Tree} {Nn : List (List Nat)} {ds : List DV} {v : V} (h : krel ⟨x, b, Nn, ds⟩ v) : mrel (.fn x b) v := by obtain ⟨H, e, _⟩ := h; exact ⟨_, _, e⟩
theorem way_plain (hN : Nms N o x) (I : Inva w N o x k L S D E Ms es K dd) (hk1 : 1 ≤ k) (hk : k < 10) (c : Int) (hw : c % 4 = 0 ∨ (c % 4 = 3 ∧ Ms = [])) : Let w N o x k L D Ms es c := by
  have hroom : (2000 : Nat) < room := by decide
  have hkl : k < N.length := by rw [hN.len]; omega
  obtain ⟨nk, hnk⟩ : ∃ nk, N[k]? = some nk := ⟨_, List.getElem?_eq_getElem hkl⟩
  have hpk : PN (N.map V.str) (Int.ofNat k) nk := pick_str rfl hnk
  have hpx : PN (N.map V.str) 11 x := pick_str (j := 11) rfl hN.hx
  have hDl : D.1.length < room := by have := I.dl; omega
  have hel := I.el
  have hDU : (es.map deV).reverse.length < room := by rw [List.length_reverse, List.length_map]; omega
  -- the row is told first
  have key : ∀ row : List (List Nat), row.length ≤ 6 → (∀ y, y ∈ row → y ∈ N.take k) → ∃ v, Evs w 5 (inner x (Int.ofNat k) row) E v [v] 0 ∧ krel ⟨x, bodyP (Int.ofNat k) row, onceR [] row, (onceR [] row).map (vof S o (wth c))⟩ v ∧ Inva w N o x (k + 1) (L ++ [(nk, inner x (Int.ofNat k) row)]) ((nk, .fn x (bodyP (Int.ofNat k) row)) :: S) (dput D.1 D.2 nk (dvV (.fn x (bodyP (Int.ofNat k) row)))) ((nk, v) :: E) Ms (es ++ [⟨x, bodyP (Int.ofNat k) row, onceR [] row, (onceR [] row).map (vof S o (wth c))⟩]) ([v] ++ K) (dd + 0 + 1) := by
    intro row r1 r2
    obtain ⟨q1, q2, q3, q4, q5, q6⟩ := row_names hN (by omega) I (row := row) fun y hy => .inl (r2 y hy)
    have hne : ∀ y, y ∈ row → y ≠ o := fun y hy => by
      obtain ⟨j, hj, e⟩ := List.getElem_of_mem (r2 y hy)
      rw [List.length_take] at hj
      rw [List.getElem_take] at e
      exact (hN.ap j y (by omega) (by rw [← e]; exact List.getElem?_eq_getElem _)).1
    obtain ⟨v, hv, hkr⟩ := ev_inner (w := w) (q := 5) (E := E) (S := S) (o := o) (i := wth c) (n := Int.ofNat k) q1 r1 fun y hy => by
      obtain ⟨dv, v, e1, e2, h⟩ := q5 y hy (hne y hy)
      exact ⟨v, e2, by unfold vof; rw [if_neg (hne y hy), e1]; exact h⟩
    have hd := dpt_inner x (Int.ofNat k) r1
    exact ⟨v, hv, hkr, I.ext hN hk1 hk hnk hv (dv_of hkr) hd.2 (ns := [_]) ⟨v, [], rfl, hkr, rfl⟩ (fun e he => by cases List.mem_singleton.mp he; exact ⟨hd.2, vof_ok q6⟩) (by show 1 ≤ 2; omega) (Int.le_refl _) (by show (0 : Int) ≤ 1; omega)
      (gd_inner (hN.nm x (List.mem_of_getElem? hN.hx)) (num_small (by show _ ≤ ((k : Nat) : Int); omega) (by show ((k : Nat) : Int) ≤ _; omega)) q3) (by rw [sz_inner]; omega) (fr_in fun y hy => (q4 y hy).resolve_right (hne y hy)) (fun m hm => .inl hm) (by have := I.ml; omega)⟩
  have go : ∀ (wy : Int), (wy = 0 ∨ (wy = 3 ∧ Ms = [])) → c % 4 = wy → Let w N o x k L D Ms es c := by
    intro wy hwy hw
    obtain ⟨row, r1, r2, r3⟩ := let_head (w := w) (MK := Ms.map (mkV w x)) (DU := (es.map deV).reverse) (SD := .dic w D.1 D.2) hN hk1 hk c (rep := []) hw (.inr ⟨rfl, ini_f (hwy.imp id And.left)⟩)
    have r2 : ∀ y, y ∈ row → y ∈ N.take k := fun y hy => by have := r2 y hy; rwa [List.append_nil] at this
    obtain ⟨v, hv, hkr, I'⟩ := key row r1 r2
    obtain ⟨q1, q2, q3, q4, q5, q6⟩ := row_names hN (by omega) I (row := row) fun y hy => .inl (r2 y hy)
    refine ⟨nk, _, _, _, _, Ms, _, _, _, hnk, I', r3 _ _ ?_⟩
    have hval := values_own (w := w) (d := 3) (o := o) (i := wth c) I.dr r1 q2 fun y hy hne => by obtain ⟨dv, _, e, _⟩ := q5 y hy hne; exact ⟨dv, e⟩
    rw [due_snoc]
    rcases hwy with rfl | ⟨rfl, rfl⟩
    · exact u5_0 (u6_0 (u7_0 (u8 hval (u9 hpx hDU (u10 hpx hpk rfl hDl (u11_0 u12))))))
    · exact u5_3 (u6_3 (u7_3 (u8 hval (u9 hpx hDU (u10 hpx hpk rfl hDl (u11_3 u12))))))
  rcases hw with h | ⟨h, h2⟩
  · exact go 0 (.inl rfl) h
  · exact go 3 (.inr ⟨rfl, h2⟩) h
theorem way_two (hN : Nms N o x) (I : Inva w N o x k L S D E Ms es K dd) (hk1 : 1 ≤ k) (hk : k < 10) (c : Int) (hw : c % 4 = 1 ∨ c % 4 = 2) : Let w N o x k L D Ms es c := by
  have hroom : (2000 : Nat) < room := by decide
  have hkl : k < N.length := by rw [hN.len]; omega
  obtain ⟨nk, hnk⟩ : ∃ nk, N[k]? = some nk := ⟨_, List.getElem?_eq_getElem hkl⟩
  have hpk : PN (N.map V.str) (Int.ofNat k) nk := pick_str rfl hnk
  have hpx : PN (N.map V.str) 11 x := pick_str (j := 11) rfl hN.hx
  have hDl : D.1.length < room := by have := I.dl; omega
  have hel := I.el
  have hml := I.ml
  have hDU : (es.map deV).reverse.length < room := by rw [List.length_reverse, List.length_map]; omega
  have hMK : (Ms.map (mkV w x)).length < room := by rw [List.length_map]; omega
  have hno : isName o = true := hN.nm o (List.mem_of_getElem? hN.ho)
  have hnx : isName x = true := hN.nm x (List.mem_of_getElem? hN.hx)
  have hnum : numI (Int.ofNat k) = true := num_small (by show _ ≤ ((k : Nat) : Int); omega) (by show ((k : Nat) : Int) ≤ _; omega)
  obtain ⟨wy, hwy, hcw⟩ : ∃ wy : Int, (wy = 1 ∨ wy = 2) ∧ c % 4 = wy := by
    rcases hw with h | h
    · exact ⟨1, .inl rfl, h⟩
    · exact ⟨2, .inr rfl, h⟩
  obtain ⟨row, r1, r2, r3⟩ := let_head (w := w) (MK := Ms.map (mkV w x)) (DU := (es.map deV).reverse) (SD := .dic w D.1 D.2) hN hk1 hk c (rep := [o]) hcw (.inl ⟨rfl, ini_t hwy⟩)
  obtain ⟨q1, q2, q3, q4, q5, q6⟩ := row_names hN (by omega) I (row := row) fun y hy => (List.mem_append.mp (r2 y hy)).imp id List.mem_singleton.mp
  have hd := dpt_inner x (Int.ofNat k) r1
  have hol := once_len (bd := [o]) (row := row)
  have ho1 := ok_once (w := w) (d := 4) row o r1
  have hkn : ∀ y, y ∈ onceR [o] row → ∃ dv, S.lookup y = some dv := fun y hy => by
    obtain ⟨a, b⟩ := once_mem.mp hy
    obtain ⟨dv, _, e, _⟩ := q5 y a fun e => b (by rw [e]; exact List.mem_cons_self)
    exact ⟨dv, e⟩
  have he1 : deOk ⟨o, inner x (Int.ofNat k) row, onceR [o] row, (onceR [o] row).map fun y => (S.lookup y).getD (.int 0)⟩ := ⟨hd.1, fun dv hdv => by
    obtain ⟨y, hy, rfl⟩ := List.mem_map.mp hdv
    obtain ⟨a, b⟩ := once_mem.mp hy
    obtain ⟨dv, e⟩ := hkn y hy
    show dvOk ((S.lookup y).getD (.int 0))
    rw [e]; exact q6 y a (fun e => b (by rw [e]; exact List.mem_cons_self)) dv e⟩
  have hfo : ∀ F, fr (.fn o (inner x (Int.ofNat k) row)) (L.map (·.1)) F = F := fun F => fr_in (x := x) (n := Int.ofNat k) (bd := L.map (·.1) ++ [o]) (fun y hy => (q4 y hy).elim (List.mem_append_left _) fun e => by rw [e]; exact List.mem_append_right _ List.mem_cons_self) F
  have hgi := gd_inner hnx hnum q3
  rcases hwy with rfl | rfl
  · -- it is called at once
    obtain ⟨v, hv, hkr⟩ := ev_inner (w := w) (q := 4) (S := S) (o := o) (i := wth c) (n := Int.ofNat k) q1 r1 (within q5 (wth c))
    obtain ⟨hf, hko⟩ := ev_outer (w := w) (q := 4) (n := Int.ofNat k) q1 r1 q5
    have hev := ev_call hf (by show 1 ≤ 3; omega) hv
    have I' := I.ext hN hk1 hk hnk hev (dv_of hkr) hd.2 (ns := [_, _]) ⟨_, _, rfl, hko, _, _, rfl, hkr, rfl⟩ (fun e he => by
        rcases List.mem_cons.mp he with rfl | he
        · exact he1
        · cases List.mem_singleton.mp he; exact ⟨hd.2, vof_ok q6⟩) (Nat.le_refl _) (by omega) (by show (1 : Int) ≤ 2; omega)
      ⟨⟨hno, hgi⟩, wth_ok c⟩ (by show (sz (inner x (Int.ofNat k) row) + 1) + 1 + 1 + 1 ≤ 20; rw [sz_inner]; omega) (fun F => by show fr (.fn o (inner x (Int.ofNat k) row)) (L.map (·.1)) F = F; exact hfo F) (fun m hm => .inl hm) (by omega)
    refine ⟨nk, _, _, _, _, Ms, _, _, _, hnk, I', r3 _ _ ?_⟩
    have hval := values_own (w := w) (d := 3) (o := o) (i := wth c) I.dr r1 q2 fun y hy hne => by obtain ⟨dv, _, e, _⟩ := q5 y hy hne; exact ⟨dv, e⟩
    rw [due_snoc2]
    refine u5_1 (u6_1 (R := ((onceR [o] row).map V.str).reverse) (vs := ((onceR [o] row).map fun y => (S.lookup y).getD (.int 0)).map dvV) ho1 (by rw [List.reverse_reverse]; exact held_1 I.dr hkn) (by rw [List.length_reverse, List.length_reverse, List.length_map]; omega) hDU ?_)
    rw [List.reverse_reverse, List.reverse_reverse]
    exact u7_1 (u8 hval (u9 hpx (by rw [List.length_cons]; rw [List.length_reverse, List.length_map] at *; omega) (u10 hpx hpk rfl hDl u11_1)))
  · -- it is kept
    obtain ⟨hf, hko⟩ := ev_outer (w := w) (q := 5) (n := Int.ofNat k) q1 r1 q5
    have I' := I.ext hN hk1 hk hnk hf (dv := .fn o (inner x (Int.ofNat k) row)) (dv_of hko) hd.1 (ns := [_]) ⟨_, _, rfl, hko, rfl⟩ (fun e he => by cases List.mem_singleton.mp he; exact he1) (by show 1 ≤ 2; omega) (Int.le_refl _) (by show (0 : Int) ≤ 1; omega)
      ⟨hno, hgi⟩ (by show sz (inner x (Int.ofNat k) row) + 1 + 1 ≤ 20; rw [sz_inner]; omega) hfo (Ms' := ⟨nk, row, Int.ofNat k, S, D, E⟩ :: Ms) (fun m hm => by
        rcases List.mem_cons.mp hm with rfl | hm
        · exact .inr ⟨fun E' hE' => ⟨r1, q1, q2, q5, q6, I.dr, hE', ⟨k, hk1, by omega, hnk⟩⟩, rfl⟩
        · exact .inl hm) (by rw [List.length_cons]; omega)
    refine ⟨nk, _, _, _, _, _, _, _, _, hnk, I', r3 _ _ ?_⟩
    rw [due_snoc]
    refine u5_2 (u6_2 (R := ((onceR [o] row).map V.str).reverse) (vs := ((onceR [o] row).map fun y => (S.lookup y).getD (.int 0)).map dvV) ho1 (by rw [List.reverse_reverse]; exact held_2 I.dr hkn) (by rw [List.length_reverse, List.length_reverse, List.length_map]; omega) hDU ?_)
    rw [List.reverse_reverse, List.reverse_reverse]
    exact u7_2 hpk rfl hDl hMK
theorem way_made (hN : Nms N o x) (I : Inva w N o x k L S D E Ms es K dd) (hk1 : 1 ≤ k) (hk : k < 10) (c : Int) (hw : c % 4 = 3) (hM : Ms ≠ []) : Let w N o x k L D Ms es c := by
  have hroom : (2000 : Nat) < room := by decide
  have hkl : k < N.length := by rw [hN.len]; omega
  obtain ⟨nk, hnk⟩ : ∃ nk, N[k]? = some nk := ⟨_, List.getElem?_eq_getElem hkl⟩
  have hpk : PN (N.map V.str) (Int.ofNat k) nk := pick_str rfl hnk
  have hpx : PN (N.map V.str) 11 x := pick_str (j := 11) rfl hN.hx
  have hDl : D.1.length < room := by have := I.dl; omega
  have hel := I.el
  have hml := I.ml
  have hDU : (es.map deV).reverse.length < room := by rw [List.length_reverse, List.length_map]; omega
  obtain ⟨row, r1, r2, r3⟩ := let_head (w := w) (MK := Ms.map (mkV w x)) (DU := (es.map deV).reverse) (SD := .dic w D.1 D.2) hN hk1 hk c (rep := []) hw (.inr ⟨rfl, ini_f (.inr rfl)⟩)
  obtain ⟨mv, hmv, hpm⟩ := pick_own (r := Ms.map (mkV w x)) (fun e => hM (List.map_eq_nil_iff.mp e)) (wth c)
  obtain ⟨m, hm, rfl⟩ := List.mem_map.mp hmv
  have M := I.mks m hm
  have hd := dpt_inner x m.n M.r6
  obtain ⟨i, i1, i2, i3⟩ := M.at_
  obtain ⟨v, hv, hkr⟩ := ev_inner (w := w) (q := 4) (S := m.S) (o := o) (i := wth c) (n := m.n) M.xr M.r6 (within M.kn (wth c))
  have hev := ev_call (ev_name (q := 4) M.el) (by show 0 ≤ 3; omega) hv
  have I' := I.ext hN hk1 hk hnk hev (dv_of hkr) hd.2 (ns := [_]) ⟨_, _, rfl, hkr, rfl⟩ (fun e he => by cases List.mem_singleton.mp he; exact ⟨hd.2, vof_ok M.ok⟩) (by show 1 ≤ 2; omega) (by omega) (Int.le_refl _)
    ⟨hN.nm m.nm (List.mem_of_getElem? i3), wth_ok c⟩ (by show 1 + 1 + 1 + 1 ≤ 20; omega) (fun F => by show addN (L.map (·.1)) F m.nm = F; exact if_pos (.inl (I.nms i m.nm i2 i3))) (fun m hm => .inl hm) (by omega)
  refine ⟨nk, _, _, _, _, Ms, _, _, _, hnk, I', r3 _ _ ?_⟩
  have hval := values_val (w := w) (d := 3) (o := o) (i := wth c) M.dr M.r6 M.nr fun y hy hne => by obtain ⟨dv, _, e, _⟩ := M.kn y hy hne; exact ⟨dv, e⟩
  rw [due_snoc]
  cases hMs : Ms.map (mkV w x) with
  | nil => exact absurd (List.map_eq_nil_iff.mp hMs) hM
  | cons mh mt =>
    rw [hMs] at hpm
    exact u5_m hpm hval hpx hpk rfl hDl hDU
theorem ok_let (hN : Nms N o x) (I : Inva w N o x k L S D E Ms es K dd) (hk1 : 1 ≤ k) (hk : k < 10) (c : Int) : Let w N o x k L D Ms es c := by
  obtain ⟨j, hj, e⟩ := mod_cases c 4 (by decide)
  have e : c % 4 = Int.ofNat j := e
  match j, hj with
  | 0, _ => exact way_plain hN I hk1 hk c (.inl e)
  | 1, _ => exact way_two hN I hk1 hk c (.inl e)
  | 2, _ => exact way_two hN I hk1 hk c (.inr e)
  | 3, _ =>
    by_cases h : Ms = []
    · exact way_plain hN I hk1 hk c (.inr ⟨e, h⟩)
    · exact way_made hN I hk1 hk c e h
end
end Mine.L12
end

section
open PySem
set_option autoImplicit false
set_option maxRecDepth 100000
namespace Mine.L12
variable {w : World}
noncomputable abbrev ls (S : V) (x1 x2 x3 x4 x5 x6 x7 x8 x9 x10 x11 x12 x13 x14 x15 : Option O) : Loc := [some (.val S), x1, x2, x3, x4, x5, x6, x7, x8, x9, x10, x11, x12, x13, x14, x15, none]
def LX (w : World) (xs : List Stmt) (ρ : Loc) : Prop := ∃ ρ', ExsG (G w) 6 fi_law xs ρ (.ret (.val (.bool true))) ρ'
theorem lx_go {a : SS (G w) 6 fi_law} {ρ ρ1 : Loc} {xs : List Stmt} {tp : List Tk} {P : Prop} (e : out (a.ex ⟨ρ, tp, []⟩) = some (.next, ρ1, [])) (o : All (obs (a.ex ⟨ρ, tp, []⟩)) = P) (p : P) (h : LX w xs ρ1) : LX w (a.x :: xs) ρ := by
  obtain ⟨ρ', h⟩ := h; exact ⟨ρ', exs_go e o p h⟩
abbrev POW : Prop := (10 : Int) = 10 ∧ (0 : Int) < 60 ∧ (60 : Int) ≤ 100
abbrev TEN : Int := (10 : Int) ^ (60 : Int).toNat
noncomputable def nb (s : Int) : Int := s / 9 % (2 * (10 : Int) ^ (60 : Int).toNat - 1) - (10 : Int) ^ (60 : Int).toNat + 1
theorem nb_ok (c : Int) : numI (nb c) = true := by
  have e : 2 * (10 : Int) ^ (60 : Int).toNat - 1 = 2 * great - 1 := by decide +kernel
  have e2 : (10 : Int) ^ (60 : Int).toNat = great := by decide +kernel
  unfold numI nb
  rw [e, e2]
  have hg : 0 < great := by decide
  have h1 := Int.emod_lt_of_pos (c / 9) (b := 2 * great - 1) (by omega)
  have h2 := Int.emod_nonneg (c / 9) (b := 2 * great - 1) (by omega)
  rw [Bool.and_eq_true, decide_eq_true_eq, decide_eq_true_eq]
  omega
section
variable {S : V} {x1 x2 x3 x4 x5 x6 x7 x8 x9 x10 x11 x12 x13 x14 x15 : Option O} {xs : List Stmt}

theorem q0 {f : Int} (h : CallOK (G w) 6 253 [S, .int 0] (.val (.int f))) (kk : LX w xs (ls S ((some (.val (.int f)))) x2 x3 x4 x5 x6 x7 x8 x9 x10 x11 x12 x13 x14 x15)) : LX w ((x_law_0 w 6).x :: xs) (ls S x1 x2 x3 x4 x5 x6 x7 x8 x9 x10 x11 x12 x13 x14 x15) :=
  lx_go (tp := [.r (.val (.int f))]) (by kernel_rfl) (P := CallOK (G w) 6 253 [S, .int 0] (.val (.int f)) ∧ True) (by kernel_rfl) ⟨h, trivial⟩ kk
theorem q1 {f : Int} (h : CallOK (G w) 6 253 [S, .int 1] (.val (.int f))) (kk : LX w xs (ls S x1 ((some (.val (.int f)))) x3 x4 x5 x6 x7 x8 x9 x10 x11 x12 x13 x14 x15)) : LX w ((x_law_1 w 6).x :: xs) (ls S x1 x2 x3 x4 x5 x6 x7 x8 x9 x10 x11 x12 x13 x14 x15) :=
  lx_go (tp := [.r (.val (.int f))]) (by kernel_rfl) (P := CallOK (G w) 6 253 [S, .int 1] (.val (.int f)) ∧ True) (by kernel_rfl) ⟨h, trivial⟩ kk
theorem q2 {f s : Int} {M : List V} (h : CompL (G w) 6 (fi_law.inner s_law_260_17 "_law_k" 16) (e_law_260_17 w 6).x 16 [some (.val S), some (.val (.int f)), some (.val (.int s)), none, none, none, none, none, none, none, none, none, none, none, none, none, none] (rangeL 0 12) M) (kk : LX w xs (ls S (some (.val (.int f))) (some (.val (.int s))) none (some (.own M.reverse)) none none none none none none none none none none none)) : LX w ((x_law_2 w 6).x :: xs) (ls S (some (.val (.int f))) (some (.val (.int s))) none none none none none none none none none none none none none) :=
  lx_go (tp := [.vs M]) (by kernel_rfl) (P := (CompL (G w) 6 (fi_law.inner s_law_260_17 "_law_k" 16) (e_law_260_17 w 6).x 16 [some (.val S), some (.val (.int f)), some (.val (.int s)), none, none, none, none, none, none, none, none, none, none, none, none, none, none] (rangeL 0 12) M ∧ 12 ≤ 1000000) ∧ (12 ≤ 1000000) ∧ True) (by kernel_rfl) ⟨⟨h, by decide⟩, by decide, trivial⟩ kk
theorem q3n {f : Int} (h : (f / 1000 % 4 == 0) = false) (kk : LX w xs (ls S ((some (.val (.int f)))) x2 x3 x4 x5 x6 x7 x8 x9 x10 x11 x12 x13 x14 x15)) : LX w ((x_law_3 w 6).x :: xs) (ls S ((some (.val (.int f)))) x2 x3 x4 x5 x6 x7 x8 x9 x10 x11 x12 x13 x14 x15) :=
  lx_go (tp := [.b false]) (by kernel_rfl) (P := (f / 1000 % 4 == 0) = false ∧ ((0 : Int) < 4) ∧ ((0 : Int) < 1000 ∧ (1000 : Int) < 2 ^ 29) ∧ True) (by kernel_rfl) ⟨h, by decide, by decide, trivial⟩ kk
theorem q3y {f s : Int} {R R' : List V} {n0 : List Nat} (h : (f / 1000 % 4 == 0) = true) (hp : Pick (.own R) 0 (.val (.str n0))) (hs : setR R (1 + s % 9) (.str n0) = some R') (kk : LX w xs (ls S ((some (.val (.int f)))) ((some (.val (.int s)))) x3 (some (.own R')) x5 x6 x7 x8 x9 x10 x11 x12 x13 x14 x15)) : LX w ((x_law_3 w 6).x :: xs) (ls S ((some (.val (.int f)))) ((some (.val (.int s)))) x3 (some (.own R)) x5 x6 x7 x8 x9 x10 x11 x12 x13 x14 x15) :=
  lx_go (tp := [.b true, .r (.val (.str n0)), .r (.own R')]) (by kernel_rfl) (P := setR R (1 + s % 9) (.str n0) = some R' ∧ ((0 : Int) < 9) ∧ Pick (.own R) 0 (.val (.str n0)) ∧ (f / 1000 % 4 == 0) = true ∧ ((0 : Int) < 4) ∧ ((0 : Int) < 1000 ∧ (1000 : Int) < 2 ^ 29) ∧ True) (by kernel_rfl) ⟨hs, by decide, hp, h, by decide, by decide, trivial⟩ kk
theorem q4 {s : Int} (kk : LX w xs (ls S x1 ((some (.val (.int s)))) x3 x4 ((some (.val (.int (nb s))))) x6 x7 x8 x9 x10 x11 x12 x13 x14 x15)) : LX w ((x_law_4 w 6).x :: xs) (ls S x1 ((some (.val (.int s)))) x3 x4 x5 x6 x7 x8 x9 x10 x11 x12 x13 x14 x15) :=
  lx_go (tp := []) (by kernel_rfl) (P := POW ∧ ((0 : Int) < 2 * TEN - 1) ∧ ((2 : Int).natAbs < 2 ^ 62 ∨ TEN.natAbs < 2 ^ 62) ∧ POW ∧ ((0 : Int) < 9 ∧ (9 : Int) < 2 ^ 29) ∧ True) (by kernel_rfl) ⟨by decide, by decide +kernel, .inl (by decide), by decide, by decide, trivial⟩ kk
theorem q5 {R : List V} {n0 : List Nat} {i : Int} (hp : Pick (.val (.lst R.reverse)) 0 (.val (.str n0))) (kk : LX w xs (ls S x1 x2 x3 ((some (.val (.lst R.reverse)))) ((some (.val (.int i)))) (some (.own [.tup [.str n0, .tup [.str z_num, .int i]]])) x7 x8 x9 x10 x11 x12 x13 x14 x15)) : LX w ((x_law_5 w 6).x :: xs) (ls S x1 x2 x3 (some (.own R)) ((some (.val (.int i)))) x6 x7 x8 x9 x10 x11 x12 x13 x14 x15) :=
  lx_go (tp := [.r (.val (.str n0))]) (by kernel_rfl) (P := Pick (.val (.lst R.reverse)) 0 (.val (.str n0)) ∧ True) (by kernel_rfl) ⟨hp, trivial⟩ kk
theorem q6 {NV : List V} {n0 : List Nat} {i : Int} (hp : Pick (.val (.lst NV)) 0 (.val (.str n0))) (kk : LX w xs (ls S x1 x2 x3 ((some (.val (.lst NV)))) ((some (.val (.int i)))) x6 (some (.dic w [n0] [.int i])) x8 x9 x10 x11 x12 x13 x14 x15)) : LX w ((x_law_6 w 6).x :: xs) (ls S x1 x2 x3 ((some (.val (.lst NV)))) ((some (.val (.int i)))) x6 x7 x8 x9 x10 x11 x12 x13 x14 x15) :=
  lx_go (tp := [.r (.val (.str n0))]) (by kernel_rfl) (P := Pick (.val (.lst NV)) 0 (.val (.str n0)) ∧ True) (by kernel_rfl) ⟨hp, trivial⟩ kk
theorem q7  (kk : LX w xs (ls S x1 x2 x3 x4 x5 x6 x7 (some (.own [])) x9 x10 x11 x12 x13 x14 x15)) : LX w ((x_law_7 w 6).x :: xs) (ls S x1 x2 x3 x4 x5 x6 x7 x8 x9 x10 x11 x12 x13 x14 x15) :=
  lx_go (tp := []) (by kernel_rfl) (P := True) (by kernel_rfl) trivial kk
theorem q8  (kk : LX w xs (ls S x1 x2 x3 x4 x5 x6 x7 x8 (some (.own [])) x10 x11 x12 x13 x14 x15)) : LX w ((x_law_8 w 6).x :: xs) (ls S x1 x2 x3 x4 x5 x6 x7 x8 x9 x10 x11 x12 x13 x14 x15) :=
  lx_go (tp := []) (by kernel_rfl) (P := True) (by kernel_rfl) trivial kk
abbrev GF (w : World) (l : List V) (ρ ρ' : Loc) : Prop := ForOK (G w) 6 fi_law (.Name "_law_k" ⟨268,8,268,14⟩) (l_law_268 w 6).xs l ρ .next ρ'
theorem lt_turn {a c : Int} {NV MK DU LT MK' DU' : List V} {SD SD' : O} {t : V} {nk : List Nat} (hc : CallOK (G w) 6 253 [S, .int (1 + a)] (.val (.int c))) (hb : CallB (G w) 6 312 [.val (.int c), .val (.int a), .val (.lst NV), SD, .own MK, .own DU] t [.val (.int c), .val (.int a), .val (.lst NV), SD', .own MK', .own DU']) (hp : Pick (.val (.lst NV)) a (.val (.str nk))) (hl : LT.length < room) {l : List V} {ρ' : Loc} (kk : GF w l (ls S x1 x2 ((some (.val (.int a)))) ((some (.val (.lst NV)))) x5 (some (.own (.tup [.str nk, t] :: LT))) (some SD') (some (.own MK')) (some (.own DU')) ((some (.val (t)))) x11 x12 x13 x14 x15) ρ') : GF w (.int a :: l) (ls S x1 x2 x3 ((some (.val (.lst NV)))) x5 (some (.own LT)) (some SD) (some (.own MK)) (some (.own DU)) x10 x11 x12 x13 x14 x15) ρ' :=
  for_go (i := 3) (v := .int a) (l := l) (ρ := (ls S x1 x2 x3 ((some (.val (.lst NV)))) x5 (some (.own LT)) (some SD) (some (.own MK)) (some (.own DU)) x10 x11 x12 x13 x14 x15)) (ρ' := (ls S x1 x2 ((some (.val (.int a)))) ((some (.val (.lst NV)))) x5 (some (.own (.tup [.str nk, t] :: LT))) (some SD') (some (.own MK')) (some (.own DU')) ((some (.val (t)))) x11 x12 x13 x14 x15)) (tp := [.r (.val (.int c)), .l (.ret (.val t)) [some SD', some (.own MK'), some (.own DU')], .r (.val (.str nk))]) (by kernel_rfl) (by kernel_rfl) (P := LT.length < room ∧ Pick (.val (.lst NV)) a (.val (.str nk)) ∧ CallB (G w) 6 312 [.val (.int c), .val (.int a), .val (.lst NV), SD, .own MK, .own DU] t [.val (.int c), .val (.int a), .val (.lst NV), SD', .own MK', .own DU'] ∧ ([7, 8, 9] : List Nat).Nodup ∧ CallOK (G w) 6 253 [S, .int (1 + a)] (.val (.int c)) ∧ True) (by kernel_rfl) ⟨hl, hp, hb, by decide, hc, trivial⟩ kk
theorem q9 {s : Int} {NV MK DU LT MK' DU' LT' : List V} {SD SD' : O} {y3 y10 : Option O} (hs : ((1 : Int).natAbs ≤ 1000000 ∧ (1 + s / 3 % 10).natAbs ≤ 1000000)) (h : GF w (rangeL 1 (1 + s / 3 % 10 - 1).toNat) (ls S x1 (some (.val (.int s))) x3 ((some (.val (.lst NV)))) x5 (some (.own LT)) (some SD) (some (.own MK)) (some (.own DU)) x10 x11 x12 x13 x14 x15) (ls S x1 (some (.val (.int s))) y3 ((some (.val (.lst NV)))) x5 (some (.own LT')) (some SD') (some (.own MK')) (some (.own DU')) y10 x11 x12 x13 x14 x15)) (kk : LX w xs (ls S x1 (some (.val (.int s))) y3 ((some (.val (.lst NV)))) x5 (some (.own LT')) (some SD') (some (.own MK')) (some (.own DU')) y10 x11 x12 x13 x14 x15)) : LX w ((x_law_9 w 6).x :: xs) (ls S x1 (some (.val (.int s))) x3 ((some (.val (.lst NV)))) x5 (some (.own LT)) (some SD) (some (.own MK)) (some (.own DU)) x10 x11 x12 x13 x14 x15) :=
  lx_go (tp := [.l .next (ls S x1 (some (.val (.int s))) y3 ((some (.val (.lst NV)))) x5 (some (.own LT')) (some SD') (some (.own MK')) (some (.own DU')) y10 x11 x12 x13 x14 x15)]) (by kernel_rfl) (P := GF w (rangeL 1 (1 + s / 3 % 10 - 1).toNat) (ls S x1 (some (.val (.int s))) x3 ((some (.val (.lst NV)))) x5 (some (.own LT)) (some SD) (some (.own MK)) (some (.own DU)) x10 x11 x12 x13 x14 x15) (ls S x1 (some (.val (.int s))) y3 ((some (.val (.lst NV)))) x5 (some (.own LT')) (some SD') (some (.own MK')) (some (.own DU')) y10 x11 x12 x13 x14 x15) ∧ ((1 : Int).natAbs ≤ 1000000 ∧ (1 + s / 3 % 10).natAbs ≤ 1000000) ∧ ((0 : Int) < 10) ∧ ((0 : Int) < 3 ∧ (3 : Int) < 2 ^ 29) ∧ True) (by kernel_rfl) ⟨h, hs, by decide, by decide, trivial⟩ kk
theorem q10  (kk : LX w xs (ls S x1 x2 x3 x4 x5 x6 x7 x8 x9 x10 ((some (.val (tv (.num 7))))) x12 x13 x14 x15)) : LX w ((x_law_10 w 6).x :: xs) (ls S x1 x2 x3 x4 x5 x6 x7 x8 x9 x10 x11 x12 x13 x14 x15) :=
  lx_go (tp := []) (by kernel_rfl) (P := True) (by kernel_rfl) trivial kk
noncomputable abbrev prT (p : List Nat × Tree) : V := .tup [.str p.1, tv p.2]
abbrev TF (w : World) (l : List V) (ρ ρ' : Loc) : Prop := ForOK (G w) 6 fi_law (.Name "_law_pair" ⟨272,8,272,17⟩) (l_law_272 w 6).xs l ρ .next ρ'
theorem tr_turn {p : List Nat × Tree} {t : Tree} {l : List V} {ρ' : Loc} (kk : TF w l (ls S x1 x2 x3 x4 x5 x6 x7 x8 x9 x10 ((some (.val (tv (.lt p.1 p.2 t))))) ((some (.val (prT p)))) x13 x14 x15) ρ') : TF w (prT p :: l) (ls S x1 x2 x3 x4 x5 x6 x7 x8 x9 x10 ((some (.val (tv t)))) x12 x13 x14 x15) ρ' :=
  for_go (i := 12) (v := prT p) (l := l) (ρ := (ls S x1 x2 x3 x4 x5 x6 x7 x8 x9 x10 ((some (.val (tv t)))) x12 x13 x14 x15)) (ρ' := (ls S x1 x2 x3 x4 x5 x6 x7 x8 x9 x10 ((some (.val (tv (.lt p.1 p.2 t))))) ((some (.val (prT p)))) x13 x14 x15)) (tp := []) (by kernel_rfl) (by kernel_rfl) (P := True) (by kernel_rfl) trivial kk
theorem tr_for : ∀ (R : List (List Nat × Tree)) (t : Tree) (x12 : Option O), ∃ y12, TF w (R.map prT) (ls S x1 x2 x3 x4 x5 x6 x7 x8 x9 x10 ((some (.val (tv t)))) x12 x13 x14 x15) (ls S x1 x2 x3 x4 x5 x6 x7 x8 x9 x10 ((some (.val (tv (letsT R.reverse t))))) y12 x13 x14 x15)
  | [], t, x12 => ⟨x12, for_nil⟩
  | p :: R, t, x12 => by
    obtain ⟨y12, k⟩ := tr_for R (.lt p.1 p.2 t) (some (.val (prT p)))
    rw [List.reverse_cons, letsT_snoc]
    exact ⟨y12, tr_turn k⟩
theorem q11 {LT : List V} {t t' : V} {y12 : Option O} (h : TF w LT.reverse.reverse (ls S x1 x2 x3 x4 x5 ((some (.val (.lst LT.reverse)))) x7 x8 x9 x10 ((some (.val (t)))) x12 x13 x14 x15) (ls S x1 x2 x3 x4 x5 ((some (.val (.lst LT.reverse)))) x7 x8 x9 x10 ((some (.val (t')))) y12 x13 x14 x15)) (kk : LX w xs (ls S x1 x2 x3 x4 x5 ((some (.val (.lst LT.reverse)))) x7 x8 x9 x10 ((some (.val (t')))) y12 x13 x14 x15)) : LX w ((x_law_11 w 6).x :: xs) (ls S x1 x2 x3 x4 x5 (some (.own LT)) x7 x8 x9 x10 ((some (.val (t)))) x12 x13 x14 x15) :=
  lx_go (tp := [.l .next (ls S x1 x2 x3 x4 x5 ((some (.val (.lst LT.reverse)))) x7 x8 x9 x10 ((some (.val (t')))) y12 x13 x14 x15)]) (by kernel_rfl) (P := TF w LT.reverse.reverse (ls S x1 x2 x3 x4 x5 ((some (.val (.lst LT.reverse)))) x7 x8 x9 x10 ((some (.val (t)))) x12 x13 x14 x15) (ls S x1 x2 x3 x4 x5 ((some (.val (.lst LT.reverse)))) x7 x8 x9 x10 ((some (.val (t')))) y12 x13 x14 x15) ∧ True) (by kernel_rfl) ⟨h, trivial⟩ kk
theorem q12 {l DU : List V} {t r : V} (h : CallOK (G w) 6 246 [t, .int (Int.ofNat l.length + Int.ofNat DU.length)] (.val r)) (kk : LX w xs (ls S x1 x2 x3 x4 x5 ((some (.val (.lst l)))) x7 x8 (some (.own DU)) x10 ((some (.val (t)))) x12 ((some (.val (r)))) x14 x15)) : LX w ((x_law_12 w 6).x :: xs) (ls S x1 x2 x3 x4 x5 ((some (.val (.lst l)))) x7 x8 (some (.own DU)) x10 ((some (.val (t)))) x12 x13 x14 x15) :=
  lx_go (tp := [.r (.val r)]) (by kernel_rfl) (P := CallOK (G w) 6 246 [t, .int (Int.ofNat l.length + Int.ofNat DU.length)] (.val r) ∧ True) (by kernel_rfl) ⟨h, trivial⟩ kk
theorem q13 {Kr DU : List V} (h : Kr.length = DU.length) (kk : LX w xs (ls S x1 x2 x3 x4 x5 x6 x7 x8 (some (.own DU)) x10 x11 x12 ((some (.val (.lst Kr)))) x14 x15)) : LX w ((x_law_13 w 6).x :: xs) (ls S x1 x2 x3 x4 x5 x6 x7 x8 (some (.own DU)) x10 x11 x12 ((some (.val (.lst Kr)))) x14 x15) :=
  lx_go (tp := []) (by kernel_rfl) (P := (V.int (Int.ofNat Kr.length) = V.int (Int.ofNat DU.length) ∧ dpt (V.int (Int.ofNat Kr.length)) ≤ 1900) ∧ True) (by kernel_rfl) ⟨⟨by rw [h], by show (0 : Nat) ≤ 1900; decide⟩, trivial⟩ kk
abbrev ZF (w : World) (l1 l2 : List V) (ρ ρ' : Loc) : Prop := ForZ (G w) 6 fi_law (.Tuple (nmX [("_law_one", 14, ⟨277,8,277,16⟩), ("_law_row_here", 15, ⟨277,18,277,31⟩)]) 0 ⟨277,8,277,31⟩) (l_law_277 w 6).xs l1 l2 ρ .next ρ'
theorem z_for : ∀ (es : List DE) (vs : List V) (x14 x15 : Option O), krels es vs → (∀ e, e ∈ es → deOk e) → ∃ y14 y15, ZF w vs (es.map deV) (ls S x1 x2 x3 x4 x5 x6 x7 x8 x9 x10 x11 x12 x13 x14 x15) (ls S x1 x2 x3 x4 x5 x6 x7 x8 x9 x10 x11 x12 x13 y14 y15)
  | [], _, x14, x15, h, _ => by cases h; exact ⟨x14, x15, forz_nil (.inl rfl)⟩
  | e :: es, _, x14, x15, ⟨v, vs, q, h1, h2⟩, hd => by
    subst q
    obtain ⟨y14, y15, k⟩ := z_for es vs (some (.val v)) (some (.val (deV e))) h2 fun z hz => hd z (List.mem_cons_of_mem _ hz)
    exact ⟨y14, y15, forz_ok (by kernel_rfl) (l_law_277 w 6) v (deV e) vs (es.map deV) (ρ := (ls S x1 x2 x3 x4 x5 x6 x7 x8 x9 x10 x11 x12 x13 x14 x15)) (ρ₁ := (ls S x1 x2 x3 x4 x5 x6 x7 x8 x9 x10 x11 x12 x13 ((some (.val (v)))) ((some (.val (deV e)))))) (ρ₂ := (ls S x1 x2 x3 x4 x5 x6 x7 x8 x9 x10 x11 x12 x13 ((some (.val (v)))) ((some (.val (deV e)))))) (tp := [.r (.val (.bool true))]) (by kernel_rfl) (by kernel_rfl) (P := CallOK (G w) 6 302 [v, deV e] (.val (.bool true)) ∧ True) (by kernel_rfl) ⟨ok_kept (d := 3) h1 (hd e List.mem_cons_self), trivial⟩ k⟩
theorem q14 {Kr DU : List V} {y14 y15 : Option O} (h : ZF w Kr DU.reverse (ls S x1 x2 x3 x4 x5 x6 x7 x8 ((some (.val (.lst DU.reverse)))) x10 x11 x12 ((some (.val (.lst Kr)))) x14 x15) (ls S x1 x2 x3 x4 x5 x6 x7 x8 ((some (.val (.lst DU.reverse)))) x10 x11 x12 ((some (.val (.lst Kr)))) y14 y15)) (kk : LX w xs (ls S x1 x2 x3 x4 x5 x6 x7 x8 ((some (.val (.lst DU.reverse)))) x10 x11 x12 ((some (.val (.lst Kr)))) y14 y15)) : LX w ((x_law_14 w 6).x :: xs) (ls S x1 x2 x3 x4 x5 x6 x7 x8 (some (.own DU)) x10 x11 x12 ((some (.val (.lst Kr)))) x14 x15) :=
  lx_go (tp := [.l .next (ls S x1 x2 x3 x4 x5 x6 x7 x8 ((some (.val (.lst DU.reverse)))) x10 x11 x12 ((some (.val (.lst Kr)))) y14 y15)]) (by kernel_rfl) (P := ZF w Kr DU.reverse (ls S x1 x2 x3 x4 x5 x6 x7 x8 ((some (.val (.lst DU.reverse)))) x10 x11 x12 ((some (.val (.lst Kr)))) x14 x15) (ls S x1 x2 x3 x4 x5 x6 x7 x8 ((some (.val (.lst DU.reverse)))) x10 x11 x12 ((some (.val (.lst Kr)))) y14 y15) ∧ True) (by kernel_rfl) ⟨h, trivial⟩ kk
theorem q15 : LX w ((x_law_15 w 6).x :: xs) (ls S x1 x2 x3 x4 x5 x6 x7 x8 x9 x10 x11 x12 x13 x14 x15) :=
  ⟨(ls S x1 x2 x3 x4 x5 x6 x7 x8 x9 x10 x11 x12 x13 x14 x15), exs_ret (tp := []) (by kernel_rfl) (P := True) (by kernel_rfl) trivial⟩
end
end Mine.L12
end

section
open PySem
set_option autoImplicit false
set_option maxRecDepth 100000
namespace Mine.L12
variable {w : World}
noncomputable def cOf (f a : Int) : Int := f - f % 26 + (f + 7 * a) % 26
noncomputable def nmOf (f a : Int) : List Nat := nmR (rOf (cOf f a)) (kOf (cOf f a)) (lt26 (cOf f a))
noncomputable def nmsF (f : Int) (a n : Nat) : List (List Nat) := (List.range' a n).map fun i => nmOf f (Int.ofNat i)
theorem names_comp {S : V} {f s : Int} : ∀ (n a : Nat), CompL (G w) 6 (fi_law.inner s_law_260_17 "_law_k" 16) (e_law_260_17 w 6).x 16 [some (.val S), some (.val (.int f)), some (.val (.int s)), none, none, none, none, none, none, none, none, none, none, none, none, none, none] (rangeL (Int.ofNat a) n) ((nmsF f a n).map V.str)
  | 0, a => comp_nil
  | n + 1, a => by
    have ih := names_comp (S := S) (f := f) (s := s) n (a + 1)
    have h := ok_nb (w := w) (d := 5) (cOf f (Int.ofNat a))
    obtain ⟨b, eb⟩ : ∃ b : Int, b = Int.ofNat a := ⟨_, rfl⟩
    have e1 : rangeL (Int.ofNat a) (n + 1) = .int b :: rangeL (Int.ofNat (a + 1)) n := by rw [eb]; rfl
    have e2 : (nmsF f a (n + 1)).map V.str = .str (nmOf f b) :: (nmsF f (a + 1) n).map V.str := by rw [eb]; unfold nmsF; rw [List.range'_succ]; rfl
    rw [e1, e2]
    rw [← eb] at h
    have hb : CallOK (G w) 6 260 [.int (f - f % 26 + (f + 7 * b) % 26)] (.val (.str (nmOf f b))) := h
    generalize nmOf f b = z at *
    exact comp_go (o := .val (.str z)) (tp := [.r (.val (.str z))]) (by kernel_rfl) (P := CallOK (G w) 6 260 [.int (f - f % 26 + (f + 7 * b) % 26)] (.val (.str z)) ∧ ((0 : Int) < 26) ∧ ((7 : Int).natAbs < 2 ^ 62 ∨ b.natAbs < 2 ^ 62) ∧ ((0 : Int) < 26) ∧ True) (by kernel_rfl) ⟨hb, by decide, .inl (by decide), by decide, trivial⟩ ih
theorem nmR_inj {r : List Nat} {k x y : Nat} (h : nmR r k x = nmR r k y) : x = y := by
  have short : ∀ x y, words.any (· == nmW r k x) = true → [x] = nmW r k y → False := fun x y h1 h2 => by
    have hl := congrArg List.length h2
    unfold nmW at hl
    simp only [List.length_append, List.length_singleton, List.length_take, List.length_drop] at hl
    obtain ⟨v, hv, e⟩ := List.any_eq_true.mp h1
    have := (words_len v hv).1
    rw [eq_of_beq e] at this
    unfold nmW at this
    simp only [List.length_append, List.length_singleton, List.length_take, List.length_drop] at this
    omega
  unfold nmR at h
  cases h1 : words.any (· == nmW r k x) with
  | true =>
    rw [h1] at h
    cases h2 : words.any (· == nmW r k y) with
    | true => rw [h2] at h; exact (List.cons.inj (show [x] = [y] from h)).1
    | false => rw [h2] at h; exact (short x y h1 h).elim
  | false =>
    rw [h1] at h
    cases h2 : words.any (· == nmW r k y) with
    | true => rw [h2] at h; exact (short y x h2 (Eq.symm h)).elim
    | false =>
      rw [h2] at h
      have h : r.take k ++ [x] ++ r.drop k = r.take k ++ [y] ++ r.drop k := h
      rw [List.append_assoc, List.append_assoc] at h
      have := List.append_cancel_left h
      exact (List.cons.inj this).1
theorem lt26_inj {c c' : Int} (h : lt26 c = lt26 c') : c % 26 = c' % 26 := by
  have key : ∀ i, i < 26 → letters.getD i 0 = 97 + i := by decide +kernel
  obtain ⟨i, hi, e⟩ := mod_cases c 26 (by decide)
  obtain ⟨j, hj, e'⟩ := mod_cases c' 26 (by decide)
  have e : c % 26 = Int.ofNat i := e
  have e' : c' % 26 = Int.ofNat j := e'
  unfold lt26 at h
  rw [e, e'] at h ⊢
  have h : letters.getD i 0 = letters.getD j 0 := h
  rw [key i hi, key j hj] at h
  have : i = j := by omega
  rw [this]
theorem nmOf_inj {f : Int} {a b : Nat} (ha : a < 12) (hb : b < 12) (h : nmOf f (Int.ofNat a) = nmOf f (Int.ofNat b)) : a = b := by
  have q1 : ∀ x : Nat, cOf f (Int.ofNat x) / 26 = f / 26 := fun x => by
    have : (Int.ofNat x : Int) = (x : Int) := rfl
    unfold cOf; rw [this]; omega
  have q2 : ∀ x : Nat, cOf f (Int.ofNat x) / 208 = f / 26 / 8 := fun x => by rw [← q1 x]; generalize cOf f (Int.ofNat x) = c; omega
  have q3 : ∀ x : Nat, rOf (cOf f (Int.ofNat x)) = com (f / 26 / 8) (f / 26 % 8).toNat 0 := fun x => by unfold rOf; rw [q2, q1]
  have q4 : ∀ x : Nat, kOf (cOf f (Int.ofNat x)) = (f / 26 / 8 % (((com (f / 26 / 8) (f / 26 % 8).toNat 0).length : Int) + 1)).toNat := fun x => by unfold kOf; rw [q3, q2]
  unfold nmOf at h
  rw [q3, q3, q4, q4] at h
  have h := lt26_inj (nmR_inj h)
  have e1 : (Int.ofNat a : Int) = (a : Int) := rfl
  have e2 : (Int.ofNat b : Int) = (b : Int) := rfl
  unfold cOf at h
  rw [e1, e2] at h
  omega
theorem nms_get {f : Int} {i : Nat} (h : i < 12) : (nmsF f 0 12)[i]? = some (nmOf f (Int.ofNat i)) := by
  unfold nmsF
  rw [List.getElem?_map, List.getElem?_range' h]
  simp
theorem nms_of {f : Int} {N : List (List Nat)} (g : Nat → Nat) (hl : N.length = 12) (h : ∀ j, j < 12 → N[j]? = some (nmOf f (Int.ofNat (g j)))) (h10 : g 10 = 10) (h11 : g 11 = 11) (hg : ∀ j, j < 10 → g j < 10) (hi : ∀ i j, 1 ≤ i → i < j → j < 10 → g i ≠ g j) : Nms N (nmOf f 10) (nmOf f 11) := by
  refine ⟨hl, by rw [h 10 (by omega), h10]; rfl, by rw [h 11 (by omega), h11]; rfl, fun y hy => ?_, fun j y hj hy => ?_, fun e => ?_, fun i j y z h1 h2 h3 hy hz e => ?_⟩
  · obtain ⟨j, hj, e⟩ := List.getElem_of_mem hy
    have := h j (by omega)
    rw [List.getElem?_eq_getElem hj, e] at this
    cases this; exact nm_ok _
  · rw [h j (by omega)] at hy
    cases hy
    have := hg j hj
    exact ⟨fun e => by have := nmOf_inj (f := f) (a := g j) (b := 10) (by omega) (by omega) e; omega, fun e => by have := nmOf_inj (f := f) (a := g j) (b := 11) (by omega) (by omega) e; omega⟩
  · have := nmOf_inj (f := f) (a := 10) (b := 11) (by omega) (by omega) e; omega
  · rw [h i (by omega)] at hy; rw [h j (by omega)] at hz
    cases hy; cases hz
    have := hg i (by omega); have := hg j h3
    exact hi i j h1 h2 h3 (nmOf_inj (by omega) (by omega) e)
theorem lets_for {ns : List Int} {N : List (List Nat)} {o x : List Nat} (hN : Nms N o x) {x1 x2 x5 x11 x12 x13 x14 x15 : Option O} : ∀ (n k : Nat) (L : List (List Nat × Tree)) (S : List (List Nat × DV)) (D : List (List Nat) × List V) (E : List (List Nat × V)) (Ms : List MK) (es : List DE) (K : List V) (dd : Int) (x3 x10 : Option O), 1 ≤ k → k + n ≤ 10 → Inva w N o x k L S D E Ms es K dd →
    ∃ L' S' D' E' Ms' es' K' dd' y3 y10, Inva w N o x (k + n) L' S' D' E' Ms' es' K' dd' ∧ GF w (rangeL (Int.ofNat k) n) (ls (.lst (ns.map V.int)) x1 x2 x3 (some (.val (.lst (N.map V.str)))) x5 (some (.own (L.map prT).reverse)) (some (.dic w D.1 D.2)) (some (.own (Ms.map (mkV w x)))) (some (.own (es.map deV).reverse)) x10 x11 x12 x13 x14 x15) (ls (.lst (ns.map V.int)) x1 x2 y3 (some (.val (.lst (N.map V.str)))) x5 (some (.own (L'.map prT).reverse)) (some (.dic w D'.1 D'.2)) (some (.own (Ms'.map (mkV w x)))) (some (.own (es'.map deV).reverse)) y10 x11 x12 x13 x14 x15)
  | 0, k, L, S, D, E, Ms, es, K, dd, x3, x10, _, _, I => ⟨L, S, D, E, Ms, es, K, dd, x3, x10, I, for_nil⟩
  | n + 1, k, L, S, D, E, Ms, es, K, dd, x3, x10, hk1, hk, I => by
    obtain ⟨c, hc⟩ := ok_cell (w := w) (d := 5) ns (1 + k)
    obtain ⟨nk, t, S1, D1, E1, Ms1, es1, K1, dd1, hnk, I1, hb⟩ := ok_let hN I hk1 (by omega) c
    obtain ⟨a, ea⟩ : ∃ a : Int, a = Int.ofNat k := ⟨_, rfl⟩
    have hc : CallOK (G w) 6 253 [.lst (ns.map V.int), .int (1 + a)] (.val (.int c)) := by rw [ea]; exact hc
    have hpk : Pick (.val (.lst (N.map V.str))) a (.val (.str nk)) := pick_str ea hnk
    rw [← ea] at hb
    have hll := I.ll
    have hroom : (2000 : Nat) < room := by decide
    obtain ⟨L', S', D', E', Ms', es', K', dd', y3, y10, I', kk⟩ := lets_for (ns := ns) hN (x1 := x1) (x2 := x2) (x5 := x5) (x11 := x11) (x12 := x12) (x13 := x13) (x14 := x14) (x15 := x15) n (k + 1) (L ++ [(nk, t)]) S1 D1 E1 Ms1 es1 K1 dd1 (some (.val (.int a))) (some (.val (tv t))) (by omega) (by omega) I1
    have e2 : rangeL (Int.ofNat k) (n + 1) = .int a :: rangeL (Int.ofNat (k + 1)) n := by rw [ea]; rfl
    rw [List.map_append (f := prT), List.reverse_append] at kk
    refine ⟨L', S', D', E', Ms', es', K', dd', y3, y10, by rw [show k + (n + 1) = k + 1 + n by omega]; exact I', ?_⟩
    rw [e2]
    exact lt_turn hc hb hpk (by rw [List.length_reverse, List.length_map]; omega) kk
theorem inv0 {N : List (List Nat)} {o x n0 : List Nat} (hN : Nms N o x) (h0 : N[0]? = some n0) {i : Int} (hi : numI i = true) : Inva w N o x 1 [(n0, .num i)] [(n0, .int i)] ([n0], [.int i]) [(n0, .int i)] [] [] [] 1 := by
  refine ⟨run_snoc (L := []) (E := []) (dd := 0) (K := []) (x := n0) run_nil (Int.le_refl 0) (by show 0 + 20 < 1000; omega) (ev_num 5 i []), fun y hy => ?_, fun y dv h => ?_, fun j y hj hy => ?_, ⟨rfl, fun y => ?_⟩, Nat.le_refl _, fun p hp => ?_, rfl, ⟨fun F => rfl, trivial⟩, rfl, fun e he => (by cases he), Nat.zero_le _, by omega, by show (1 : Int) ≤ 1 + 0; omega, fun m hm => (by cases hm), Nat.zero_le _⟩
  · have hy : y ∈ [n0] := hy
    cases List.mem_singleton.mp hy
    exact ⟨.int i, by rw [List.lookup_cons, beq_self_eq_true]⟩
  · rw [List.lookup_cons] at h ⊢
    cases q : y == n0 with
    | true => rw [q] at h; cases h; exact ⟨_, rfl, rfl, trivial⟩
    | false => rw [q] at h; cases h
  · obtain rfl : j = 0 := by omega
    rw [h0] at hy; cases hy; exact List.mem_cons_self
  · show (([n0].zip [V.int i]).lookup y) = _
    rw [List.zip_cons_cons, List.lookup_cons, List.lookup_cons]
    cases q : y == n0 <;> rfl
  · cases List.mem_singleton.mp hp
    exact ⟨hN.nm n0 (List.mem_of_getElem? h0), hi, by show 1 + 1 ≤ 20; omega⟩
theorem law_ok (ns : List Int) : CallOK (G w) 7 317 [.lst (ns.map .int)] (.val (.bool true)) := by
  have hroom : (2000 : Nat) < room := by decide
  obtain ⟨f, hf⟩ := ok_cell (w := w) (d := 5) ns 0
  obtain ⟨s, hs⟩ := ok_cell (w := w) (d := 5) ns 1
  have m3 := names_comp (w := w) (S := .lst (ns.map V.int)) (f := f) (s := s) 12 0
  -- the rest, for any twelve names
  have rest : ∀ (N : List (List Nat)) (o x : List Nat), Nms N o x → LX w ((x_law_4 w 6).x :: (x_law_5 w 6).x :: (x_law_6 w 6).x :: (x_law_7 w 6).x :: (x_law_8 w 6).x :: (x_law_9 w 6).x :: (x_law_10 w 6).x :: (x_law_11 w 6).x :: (x_law_12 w 6).x :: (x_law_13 w 6).x :: (x_law_14 w 6).x :: (x_law_15 w 6).x :: []) (ls (.lst (ns.map V.int)) (some (.val (.int f))) (some (.val (.int s))) none (some (.own (N.map V.str).reverse)) none none none none none none none none none none none) := by
    intro N o x hN
    obtain ⟨n0, h0⟩ : ∃ n0, N[0]? = some n0 := ⟨_, List.getElem?_eq_getElem (by rw [hN.len]; omega)⟩
    have hp0 : Pick (.val (.lst (N.map V.str))) 0 (.val (.str n0)) := pick_str (j := 0) rfl h0
    obtain ⟨j, hj, ej⟩ := mod_cases (s / 3) 10 (by decide)
    have ej : s / 3 % 10 = Int.ofNat j := ej
    obtain ⟨L, S, D, E, Ms, es, K, dd, y3, y10, I, kl⟩ := lets_for (w := w) (ns := ns) hN (x1 := some (.val (.int f))) (x2 := some (.val (.int s))) (x5 := some (.val (.int (nb s)))) (x11 := none) (x12 := none) (x13 := none) (x14 := none) (x15 := none) j 1 [(n0, .num (nb s))] [(n0, .int (nb s))] ([n0], [.int (nb s)]) [(n0, .int (nb s))] [] [] [] 1 none none (Nat.le_refl _) (by omega) (inv0 hN h0 (nb_ok s))
    have hLl := I.ll
    have hel := I.el
    obtain ⟨y12, kt⟩ := tr_for (w := w) (S := .lst (ns.map V.int)) (x1 := some (.val (.int f))) (x2 := some (.val (.int s))) (x3 := y3) (x4 := some (.val (.lst (N.map V.str)))) (x5 := some (.val (.int (nb s)))) (x6 := some (.val (.lst (L.map prT)))) (x7 := some (.dic w D.1 D.2)) (x8 := some (.own (Ms.map (mkV w x)))) (x9 := some (.own (es.map deV).reverse)) (x10 := y10) (x13 := none) (x14 := none) (x15 := none) L.reverse (.num 7) none
    rw [List.reverse_reverse] at kt
    -- made
    have hm1 : (Int.ofNat (L.map prT).length + Int.ofNat (es.map deV).reverse.length : Int) = (L.length : Int) + es.length := by rw [List.length_map, List.length_reverse, List.length_map]; rfl
    obtain ⟨m, em⟩ : ∃ m, m = (Int.ofNat (L.map prT).length + Int.ofNat (es.map deV).reverse.length : Int) := ⟨_, rfl⟩
    rw [← em] at hm1
    have hdm := I.dm
    have hgd : gd (letsT L (.num 7)) := gd_lets (b := .num 7) (by show numI 7 = true; exact num_small (by omega) (by omega)) fun p hp => ⟨(I.lets p hp).1, (I.lets p hp).2.1⟩
    have hsz : sz (letsT L (.num 7)) ≤ 20 * L.length + 1 := sz_lets (.num 7) fun p hp => (I.lets p hp).2.2
    have hask := ok_asked (w := w) (d := 1) (m := m) hgd (by omega) (fr_lets (b := .num 7) (fun _ _ => rfl) I.cl) (by omega) (by omega)
    obtain ⟨wo, hrun⟩ := I.run m (by omega)
    have hmade := ok_made (w := w) (d := 0) hask (hrun (.num 7) _ (go_come (l := [.str z_num, .int 7]) rfl come_num go_end))
    have hkr := krels_len I.kr
    obtain ⟨y14, y15, kz⟩ := z_for (w := w) (S := .lst (ns.map V.int)) (x1 := some (.val (.int f))) (x2 := some (.val (.int s))) (x3 := y3) (x4 := some (.val (.lst (N.map V.str)))) (x5 := some (.val (.int (nb s)))) (x6 := some (.val (.lst (L.map prT)))) (x7 := some (.dic w D.1 D.2)) (x8 := some (.own (Ms.map (mkV w x)))) (x9 := some (.val (.lst (es.map deV)))) (x10 := y10) (x11 := some (.val (tv (letsT L (.num 7))))) (x12 := y12) (x13 := some (.val (.lst K.reverse))) es K.reverse none none I.kr I.ok
    -- step by step
    refine q4 (q5 (by rw [List.reverse_reverse]; exact hp0) ?_)
    rw [List.reverse_reverse]
    refine q6 hp0 (q7 (q8 (q9 ⟨by decide, by rw [ej]; show (1 + ((j : Nat) : Int)).natAbs ≤ _; omega⟩ (by
      have e : (1 + s / 3 % 10 - 1).toNat = j := by rw [ej]; show (1 + ((j : Nat) : Int) - 1).toNat = j; omega
      rw [e]; exact kl) ?_)))
    refine q10 (q11 (LT := (L.map prT).reverse) (t' := tv (letsT L (.num 7))) (y12 := y12) (by rw [List.reverse_reverse, List.reverse_reverse, ← List.map_reverse]; exact kt) ?_)
    rw [List.reverse_reverse]
    refine q12 (r := .lst K.reverse) (by rw [← em]; exact hmade) (q13 (by rw [hkr, List.length_reverse, List.length_map]) (q14 (y14 := y14) (y15 := y15) (by rw [List.reverse_reverse]; exact kz) q15))
  have fin : LX w ((x_law_0 w 6).x :: (x_law_1 w 6).x :: (x_law_2 w 6).x :: (x_law_3 w 6).x :: (x_law_4 w 6).x :: (x_law_5 w 6).x :: (x_law_6 w 6).x :: (x_law_7 w 6).x :: (x_law_8 w 6).x :: (x_law_9 w 6).x :: (x_law_10 w 6).x :: (x_law_11 w 6).x :: (x_law_12 w 6).x :: (x_law_13 w 6).x :: (x_law_14 w 6).x :: (x_law_15 w 6).x :: []) (loc0 [.lst (ns.map V.int)] 16) := by
    refine q0 hf (q1 hs (q2 m3 ?_))
    cases hb : f / 1000 % 4 == 0 with
    | false => exact q3n hb (rest (nmsF f 0 12) _ _ (nms_of id (by unfold nmsF; simp) (fun j hj => nms_get hj) rfl rfl (fun _ h => h) fun i j _ h _ => by show i ≠ j; omega))
    | true =>
      obtain ⟨j, hj, ej⟩ := mod_cases s 9 (by decide)
      have ej : s % 9 = Int.ofNat j := ej
      have hp : Pick (.own ((nmsF f 0 12).map V.str).reverse) 0 (.val (.str (nmOf f 0))) := by
        unfold Pick
        show (((nmsF f 0 12).map V.str).reverse.reverse[0]?).bind _ = _
        rw [List.reverse_reverse, List.getElem?_map, nms_get (by omega)]; rfl
      have hset : setR ((nmsF f 0 12).map V.str).reverse (1 + s % 9) (.str (nmOf f 0)) = some (((nmsF f 0 12).set (1 + j) (nmOf f 0)).map V.str).reverse := by
        rw [ej]
        show (((nmsF f 0 12).map V.str).reverse.reverse[1 + j]?).bind (fun _ => some ((((nmsF f 0 12).map V.str).reverse.reverse.set (1 + j) (.str (nmOf f 0))).reverse)) = _
        rw [List.reverse_reverse, List.getElem?_map, nms_get (by omega), List.map_set]; rfl
      refine q3y hb hp hset (rest _ _ _ (nms_of (f := f) (fun i => if i = 1 + j then 0 else i) (by rw [List.length_set]; unfold nmsF; simp) (fun i hi => ?_) (by show (if 10 = 1 + j then 0 else 10) = 10; rw [if_neg (by omega)]) (by show (if 11 = 1 + j then 0 else 11) = 11; rw [if_neg (by omega)]) (fun i hi => ?_) fun a b h1 h2 h3 => ?_))
      · by_cases e : i = 1 + j
        · subst e
          rw [if_pos rfl, List.getElem?_set_self (by unfold nmsF; simp; omega)]; rfl
        · rw [if_neg e, List.getElem?_set_ne (Ne.symm e)]; exact nms_get hi
      · split <;> omega
      · split <;> split <;> omega
  obtain ⟨ρ', h⟩ := fin
  have h : ExsG (G w) 6 fi_law (b_law w 6).xs (loc0 [V.lst (ns.map V.int)] 16) (.ret (.val (.bool true))) ρ' := h
  rw [b_law_x] at h
  exact call_of (n := 16) (f := fd_law) rfl rfl h (.inl rfl)
end Mine.L12
end

section
open PySem PySem.W PyProof.Rows
set_option autoImplicit false
set_option maxRecDepth 100000
namespace Mine.L12
theorem fd_all {w : World} {K : Frag} (h : (FnAt K 108 fd_is_name) ∧ (FnAt K 115 fd_is_whole) ∧ (FnAt K 122 fd_is_node) ∧ (FnAt K 129 fd_parts) ∧ (FnAt K 136 fd_need_tree) ∧ (FnAt K 143 fd_free) ∧ (FnAt K 150 fd_need) ∧ (FnAt K 246 fd_made) ∧ (FnAt K 253 fd__law_cell_at) ∧ (FnAt K 260 fd__law_name_by) ∧ (FnAt K 267 fd__law_body) ∧ (FnAt K 274 fd__law_row) ∧ (FnAt K 281 fd__law_once) ∧ (FnAt K 288 fd__law_whole) ∧ (FnAt K 295 fd__law_held_right) ∧ (FnAt K 302 fd__law_kept_right) ∧ (FnAt K 307 fd__law_values) ∧ (FnAt K 312 fd__law_let) ∧ (FnAt K 317 fd_law) ∧ (FnAt K 164 fd_Kept_init) ∧ (FnAt K 185 fd_Mill_init) ∧ (FnAt K 192 fd_Mill_stands_for) ∧ (FnAt K 199 fd_Mill_through) ∧ (FnAt K 204 fd_Mill_come) ∧ (FnAt K 211 fd_Mill_back) ∧ (FnAt K 218 fd_Mill_reckon) ∧ (FnAt K 225 fd_Mill_enter) ∧ (FnAt K 232 fd_Mill_choose)) (a : Addr) (f : FD) (q : (a, f) ∈ (G w).fd) : FnAt K a f := by
  have q : (a, f) ∈ [(108, fd_is_name), (115, fd_is_whole), (122, fd_is_node), (129, fd_parts), (136, fd_need_tree), (143, fd_free), (150, fd_need), (246, fd_made), (253, fd__law_cell_at), (260, fd__law_name_by), (267, fd__law_body), (274, fd__law_row), (281, fd__law_once), (288, fd__law_whole), (295, fd__law_held_right), (302, fd__law_kept_right), (307, fd__law_values), (312, fd__law_let), (317, fd_law), (164, fd_Kept_init), (185, fd_Mill_init), (192, fd_Mill_stands_for), (199, fd_Mill_through), (204, fd_Mill_come), (211, fd_Mill_back), (218, fd_Mill_reckon), (225, fd_Mill_enter), (232, fd_Mill_choose)] := q
  simp only [List.mem_cons, Prod.mk.injEq, List.not_mem_nil, or_false] at q
  obtain ⟨h0, h1, h2, h3, h4, h5, h6, h7, h8, h9, h10, h11, h12, h13, h14, h15, h16, h17, h18, h19, h20, h21, h22, h23, h24, h25, h26, h27⟩ := h
  rcases q with ⟨rfl, rfl⟩ | ⟨rfl, rfl⟩ | ⟨rfl, rfl⟩ | ⟨rfl, rfl⟩ | ⟨rfl, rfl⟩ | ⟨rfl, rfl⟩ | ⟨rfl, rfl⟩ | ⟨rfl, rfl⟩ | ⟨rfl, rfl⟩ | ⟨rfl, rfl⟩ | ⟨rfl, rfl⟩ | ⟨rfl, rfl⟩ | ⟨rfl, rfl⟩ | ⟨rfl, rfl⟩ | ⟨rfl, rfl⟩ | ⟨rfl, rfl⟩ | ⟨rfl, rfl⟩ | ⟨rfl, rfl⟩ | ⟨rfl, rfl⟩ | ⟨rfl, rfl⟩ | ⟨rfl, rfl⟩ | ⟨rfl, rfl⟩ | ⟨rfl, rfl⟩ | ⟨rfl, rfl⟩ | ⟨rfl, rfl⟩ | ⟨rfl, rfl⟩ | ⟨rfl, rfl⟩ | ⟨rfl, rfl⟩
  · exact h0
  · exact h1
  · exact h2
  · exact h3
  · exact h4
  · exact h5
  · exact h6
  · exact h7
  · exact h8
  · exact h9
  · exact h10
  · exact h11
  · exact h12
  · exact h13
  · exact h14
  · exact h15
  · exact h16
  · exact h17
  · exact h18
  · exact h19
  · exact h20
  · exact h21
  · exact h22
  · exact h23
  · exact h24
  · exact h25
  · exact h26
  · exact h27
theorem mo_of {w : World} {K : Params → Frag} (P : Params) (C : Cx) (hK : C.K = K P) (hP : C.w.params = P) (X : C.K.In C.h) (hm : ∀ x, C.mg x = nsFind (topOf (K P)) x)
    (c_n1 : nsFind (topOf (K P)) "WORDS" = some (.ref 100)) (c_words : tupAt (K P) 100 words = true) (c_letters : strAt (K P) "LETTERS" letters = true) (c_deeds : intAt (K P) "MOST_DEEDS" 1000 = true) (c_n2 : nsFind (topOf (K P)) "LENGTHS" = some (.ref 101))
    (c_lens : dicAt (K P) 101 lens = true) (c_hash : hashesAt (K P) 101 = lens.map (fun kv => PyData.keyHash P ⟨kv.1.toArray⟩)) (c_most : intAt (K P) "MOST_NODES" 400 = true) (c_great : intAt (K P) "GREAT" great = true) : (G w).mo C := by
  rw [hK] at X
  subst hP
  exact More.mk (gval_tup X hm c_n1 c_words) (gval_str hm c_letters z_abcdefghijklmnopqrstuvwxyz_k) (gval_int hm c_deeds) (gdic_ok X hm c_n2 c_lens c_hash (by decide +kernel)) (gval_int hm c_most) (gval_int hm c_great)
end Mine.L12
namespace Mine
open Mine.L12
def fin.tw2415902012162501839 : Unit := ()
def fin.tw11587955951900863698 : Unit := ()
def fin.tw17717364068325071970 : Unit := ()
def fin.tw4312942655851389009 : Unit := ()
def fin.tw5943015340162610155 : Unit := ()
def fin.tw15688172546075569117 : Unit := ()
def fin.tw4209717502836232480 : Unit := ()
def fin.tw11454252539852477091 : Unit := ()
def fin.tw13337293482115323266 : Unit := ()
def fin.tw16175276709679454751 : Unit := ()
def fin.tw7976502392129159676 : Unit := ()
def fin.tw16229209127682248589 : Unit := ()
def fin.tw6667815254911646788 : Unit := ()
def fin.tw2512408688544751470 : Unit := ()
def fin.tw17896612028031085017 : Unit := ()
def fin.tw3955986520655104412 : Unit := ()
def fin.tw428092273266315144 : Unit := ()
def fin.tw5805905742469029177 : Unit := ()
def fin.tw13812085545017642741 : Unit := ()
def fin.tw16906536467411238026 : Unit := ()
def fin.tw6671992857765853949 : Unit := ()
def fin.tw1625080806587739848 : Unit := ()
def fin.tw3199103547748192838 : Unit := ()
def fin.tw544173102793226557 : Unit := ()
def fin.tw4928979718650693569 : Unit := ()
def fin.tw17416127249078093707 : Unit := ()
def fin.tw6712194924023145494 : Unit := ()
def fin.tw1544503264643628384 : Unit := ()
def fin.tw13199158710529813207 : Unit := ()
def fin.tw16252508478716706905 : Unit := ()
def fin.tw9001875181463519149 : Unit := ()
def fin.tw10852849658779182186 : Unit := ()
def fin.tw18295790063311454060 : Unit := ()
def fin.tw15309079848183770524 : Unit := ()
def fin.tw17130245016438642246 : Unit := ()
def fin.tw2462912638960843985 : Unit := ()
def fin.tw17123178472405020103 : Unit := ()
def fin.tw16237762584071213788 : Unit := ()
def fin.tw6766378078585498003 : Unit := ()
def fin.tw4769821431679368130 : Unit := ()
def fin.tw16205109500356779066 : Unit := ()
def fin.tw3599858809825778643 : Unit := ()
def fin.tw3105451386036433885 : Unit := ()
def fin.tw6718411051458867188 : Unit := ()
def fin.tw13360279666012451719 : Unit := ()
def fin.tw16934629359412608497 : Unit := ()
def fin.tw1560641971993327685 : Unit := ()
def fin.tw10936777179133785780 : Unit := ()
def fin.tw9725021084223525626 : Unit := ()
def fin.tw3598329298470268980 : Unit := ()
def fin.tw14347400895652799225 : Unit := ()
def fin.tw4171678462856256454 : Unit := ()
def fin.tw7547296005191728479 : Unit := ()
def fin.tw1921391257341544841 : Unit := ()
def fin.tw15583698165555649274 : Unit := ()
def fin.tw14578271805448956485 : Unit := ()
def fin.tw2264883102434479264 : Unit := ()
def fin.tw11192643925408225281 : Unit := ()
def fin.tw2910385600587045654 : Unit := ()
def fin.tw15564276425815640635 : Unit := ()
def fin.tw9218923581257491847 : Unit := ()
def fin.tw9363291351745731410 : Unit := ()
def fin.tw14679806638718605512 : Unit := ()
def fin.tw3998398428148030388 : Unit := ()
def fin.tw13898374239775968522 : Unit := ()
def fin.tw4719063310657182621 : Unit := ()
def fin.tw8416529770105884409 : Unit := ()
def fin.tw3810570522144960214 : Unit := ()
def fin.tw6144012678527597917 : Unit := ()
def fin.tw1422313219903470601 : Unit := ()
def fin.tw6498334528663615478 : Unit := ()
def fin.tw8643116662766533202 : Unit := ()
def fin.tw15201286185872193147 : Unit := ()
def fin.tw18146393551852786479 : Unit := ()
def fin.tw4218790737952374519 : Unit := ()
def fin.tw4924110625330727750 : Unit := ()
def fin.tw7613857476909055813 : Unit := ()
def fin.tw18105942590061964161 : Unit := ()
def fin.tw12135189313929291683 : Unit := ()
def fin.tw6515953530934532768 : Unit := ()
def fin.tw17570709534508481193 : Unit := ()
def fin.tw7890596953891613788 : Unit := ()
def fin.tw17041991840579044601 : Unit := ()
def fin.tw8119881530291889089 : Unit := ()
def fin.tw3222278782482380304 : Unit := ()
def fin.tw12876064707754696378 : Unit := ()
def fin.tw4162185377826839926 : Unit := ()
def fin.tw17698704350827878285 : Unit := ()
def fin.tw15533503492667675913 : Unit := ()
def fin.tw12751662967071866640 : Unit := ()
def fin.tw2304379251839397102 : Unit := ()
def fin.tw8947306829407289620 : Unit := ()
def fin.tw3837020019201816242 : Unit := ()
def fin.tw5486226609284752418 : Unit := ()
def fin.tw15675102808854859970 : Unit := ()
def fin.tw17662344363894024548 : Unit := ()
def fin.tw2305881189932309285 : Unit := ()
def fin.tw5073790198343104882 : Unit := ()
def fin.tw12284014389350100970 : Unit := ()
def fin.tw11293339424137598113 : Unit := ()
def fin.tw3404873503106905745 : Unit := ()
def fin.tw15399907426655090358 : Unit := ()
def fin.tw9913140749668108558 : Unit := ()
def fin.tw6707113841082798463 : Unit := ()
def fin.tw8025084765662995669 : Unit := ()
def fin.tw111200028466390044 : Unit := ()
def fin.tw4768634762848416435 : Unit := ()
def fin.tw17656766251404061198 : Unit := ()
def fin.tw8330952907988395303 : Unit := ()
def fin.tw16103849850496634939 : Unit := ()
def fin.tw16256441300576474876 : Unit := ()
def fin.tw10511823565363050587 : Unit := ()
def fin.tw12105171945263650130 : Unit := ()
def fin.tw17067295170570645592 : Unit := ()
def fin.tw10829458402184033698 : Unit := ()
def fin.tw6323506392446703087 : Unit := ()
def fin.tw14166196953294261902 : Unit := ()
def fin.tw12740692763255036000 : Unit := ()
def fin.tw12550770813317053977 : Unit := ()
def fin.tw7000300075881102575 : Unit := ()
def fin.tw16502652511500755 : Unit := ()
def fin.tw8919302590299486024 : Unit := ()
def fin.tw4598667867955821814 : Unit := ()
def fin.tw16115155874713506467 : Unit := ()
def fin.tw5098551885099359569 : Unit := ()
def fin.tw12180539936304867106 : Unit := ()
def fin.tw18373065035072037172 : Unit := ()
def fin.tw11897717083992391400 : Unit := ()
def fin.tw9722632081671974098 : Unit := ()
def fin.tw11039862389202566683 : Unit := ()
def fin.tw2824846461999071874 : Unit := ()
def fin.tw3314143786362844604 : Unit := ()
def fin.tw15741700470354863883 : Unit := ()
def fin.tw17821466097196317003 : Unit := ()
def fin.tw10599938827571368224 : Unit := ()
def fin.tw8408514402456403777 : Unit := ()
def fin.tw8352470293576582857 : Unit := ()
def fin.tw14568449535678555946 : Unit := ()
def fin.tw10147658903529517814 : Unit := ()
def fin.tw10567028658651823492 : Unit := ()
def fin.tw7282745182861764756 : Unit := ()
def fin.tw13177410634674063896 : Unit := ()
def fin.tw16109372258727991565 : Unit := ()
def fin.tw16540275574145912595 : Unit := ()
def fin.tw5320702786494000081 : Unit := ()
def fin.tw6207176494656529804 : Unit := ()
def fin.tw1635022588487117616 : Unit := ()
def fin.tw2242104933262866289 : Unit := ()
def fin.tw7845872953664198349 : Unit := ()
def fin.tw12567809125941998234 : Unit := ()
def fin.tw6381419901266130222 : Unit := ()
def fin.tw14210890002308233579 : Unit := ()
def fin.tw3343445320678177929 : Unit := ()
def fin.tw744865244796547220 : Unit := ()
def fin.tw17260493314774615805 : Unit := ()
def fin.tw8947099994592609211 : Unit := ()
def fin.tw7055459427971326715 : Unit := ()
def fin.tw12291753297600562012 : Unit := ()
def fin.tw18195182924450695511 : Unit := ()
def fin.tw10329872625359487480 : Unit := ()
def fin.tw14139026862911339306 : Unit := ()
def fin.tw6454446336052903152 : Unit := ()
def fin.tw15852077949545257360 : Unit := ()
def fin.tw4759752924163587094 : Unit := ()
def fin.tw12355744275394475900 : Unit := ()
def fin.tw17204297501091165112 : Unit := ()
def fin.tw15344004072050561172 : Unit := ()
def fin.tw5102460946473063141 : Unit := ()
def fin.tw8656503046869711584 : Unit := ()
def fin.tw13516622038369049944 : Unit := ()
def fin.tw13870153662132920491 : Unit := ()
def fin.tw2236755162388048479 : Unit := ()
def fin.tw6968583824967984638 : Unit := ()
def fin.tw8289400949097046189 : Unit := ()
def fin.tw2086631506510373192 : Unit := ()
def fin.tw14109310954907245088 : Unit := ()
def fin.tw12649782002744950493 : Unit := ()
def fin.tw15205425988870721313 : Unit := ()
def fin.tw14856888987745899463 : Unit := ()
def fin.tw17974384156558142227 : Unit := ()
def fin.tw2608567993692976607 : Unit := ()
def fin.tw4950403968356008110 : Unit := ()
def fin.tw891787732878383699 : Unit := ()
def fin.tw4170516301191304579 : Unit := ()
def fin.tw17347454772498655404 : Unit := ()
def fin.tw6232080684201472732 : Unit := ()
def fin.tw9357874355931990178 : Unit := ()
def fin.tw16307707646766795581 : Unit := ()
def fin.tw5796354222422608987 : Unit := ()
def fin.tw9735714214384596553 : Unit := ()
def fin.tw4879674094562380441 : Unit := ()
def fin.tw999798209818781672 : Unit := ()
def fin.tw17869975865946814897 : Unit := ()
def fin.tw4394748929261556779 : Unit := ()
def fin.tw7321584467024264148 : Unit := ()
def fin.tw2367325634123391141 : Unit := ()
def fin.tw5734618986648460908 : Unit := ()
def fin.tw13383306551100868464 : Unit := ()
def fin.tw14574801432027512755 : Unit := ()
def fin.tw13162651487661262736 : Unit := ()
def fin.tw13294311002278339166 : Unit := ()
def fin.tw5615129895364139138 : Unit := ()
def fin.tw3173534031939492945 : Unit := ()
def fin.tw16196181902256332553 : Unit := ()
def fin.tw7803649310394182010 : Unit := ()
def fin.tw6566618420281934 : Unit := ()
def fin.tw3459265974087741279 : Unit := ()
def fin.tw9113340658982188547 : Unit := ()
def fin.tw16275787546110486726 : Unit := ()
def fin.tw10383673109516279431 : Unit := ()
def fin.tw1982079694162106894 : Unit := ()
def fin.tw5011121235533021005 : Unit := ()
def fin.tw7072226402447830129 : Unit := ()
def fin.tw12696600883282566439 : Unit := ()
def fin.tw8590288500278120515 : Unit := ()
def fin.tw13929302177132474383 : Unit := ()
def fin.tw16656299143469825513 : Unit := ()
def fin.tw12962497063298326498 : Unit := ()
def fin.tw757079261281740938 : Unit := ()
def fin.tw14431720936831517352 : Unit := ()
def fin.tw5293390819737331289 : Unit := ()
def fin.tw16496857829328116044 : Unit := ()
def fin.tw3263211703599914710 : Unit := ()
def fin.tw6650461044873433052 : Unit := ()
def fin.tw15373703851562958014 : Unit := ()
def fin.tw17801579834951734752 : Unit := ()
def fin.tw9544026089342320630 : Unit := ()
def fin.tw15989303212955285315 : Unit := ()
def fin.tw15621619335703214680 : Unit := ()
def fin.tw15832999045522443761 : Unit := ()
def fin.tw11615019562542576733 : Unit := ()
def fin.tw895571856199123645 : Unit := ()
def fin.tw23274219673226259 : Unit := ()
def fin.tw251868834278440796 : Unit := ()
def fin.tw8559517257967667466 : Unit := ()
def fin.tw7470013935711676318 : Unit := ()
def fin.tw3125960719983571848 : Unit := ()
def fin.tw6956187926921108005 : Unit := ()
def fin.tw1963134401048803436 : Unit := ()
def fin.tw11575174756993882273 : Unit := ()
def fin.tw8383268338085895543 : Unit := ()
def fin.tw7783950685163080668 : Unit := ()
def fin.tw12829507556594621215 : Unit := ()
def fin.tw8577089030196625639 : Unit := ()
def fin.tw7779959011674639804 : Unit := ()
def fin.tw13066358836101814915 : Unit := ()
def fin.tw10196768644732416780 : Unit := ()
def fin.tw4898026214463823928 : Unit := ()
def fin.tw11151619158091525091 : Unit := ()
def fin.tw2702453644462896505 : Unit := ()
def fin.tw12118000046449163591 : Unit := ()
def fin.tw6068950659093879613 : Unit := ()
def fin.tw17963964198891936676 : Unit := ()
def fin.tw17784850919643140607 : Unit := ()
def fin.tw14814673180317915700 : Unit := ()
def fin.tw18105285910621931680 : Unit := ()
def fin.tw7284238750084343041 : Unit := ()
def fin.tw1535588207084551279 : Unit := ()
def fin.tw5678346346211369953 : Unit := ()
def fin.tw17164383140453370395 : Unit := ()
def fin.tw12448240930570709186 : Unit := ()
def fin.tw670465573061467203 : Unit := ()
def fin.tw4868334931027891882 : Unit := ()
def fin.tw13423622936843584764 : Unit := ()
def fin.tw2537931557510868981 : Unit := ()
def fin.tw18230178534529381785 : Unit := ()
def fin.tw14721812458927722005 : Unit := ()
def fin.tw3810338749695602999 : Unit := ()
def fin.tw3817654288837886093 : Unit := ()
def fin.tw11466478281803324712 : Unit := ()
def fin.tw4537857483750990334 : Unit := ()
def fin.tw17287986556441652959 : Unit := ()
def fin.tw15815952407149668801 : Unit := ()
def fin.tw7684487725183542926 : Unit := ()
def fin.tw3268265519342814607 : Unit := ()
def fin.tw16401934584784274106 : Unit := ()
def fin.tw8269367382603917829 : Unit := ()
def fin.tw7675655780812522254 : Unit := ()
def fin.tw1252854909445205041 : Unit := ()
def fin.tw480829909506669009 : Unit := ()
def fin.tw16530489862217454893 : Unit := ()
def fin.tw1666694428299288667 : Unit := ()
def fin.tw12996517811204074000 : Unit := ()
def fin.tw10070804522480449196 : Unit := ()
def fin.tw17362494058136835672 : Unit := ()
def fin.tw14517287926952318261 : Unit := ()
def fin.tw7249652514872940865 : Unit := ()
def fin.tw6567050819087999508 : Unit := ()
def fin.tw11414674201277728305 : Unit := ()
def fin.tw13925877587632400325 : Unit := ()
def fin.tw11298980531735778240 : Unit := ()
def fin.tw11953781441336167498 : Unit := ()
def fin.tw1397303283331804279 : Unit := ()
def fin.tw16570786720924097770 : Unit := ()
def fin.tw2866121171748074186 : Unit := ()
def fin.tw15883361299366421584 : Unit := ()
def fin.tw9806666330580929782 : Unit := ()
def fin.tw12798350074870627571 : Unit := ()
def fin.tw8415677887826043230 : Unit := ()
def fin.tw12715164417514623954 : Unit := ()
def fin.tw3004984022683251337 : Unit := ()
def fin.tw8399098705505230059 : Unit := ()
def fin.tw5897612983314593646 : Unit := ()
def fin.tw5776136370200156792 : Unit := ()
def fin.tw452842511749404161 : Unit := ()
def fin.tw4754365596532378047 : Unit := ()
def fin.tw16285329926789087883 : Unit := ()
def fin.tw13467322939085005891 : Unit := ()
def fin.tw10875463905939285979 : Unit := ()
def fin.tw1887099378405440850 : Unit := ()
def fin.tw12869217540446652890 : Unit := ()
def fin.tw17197158672614542318 : Unit := ()
def fin.tw216489041496292469 : Unit := ()
def fin.tw11273041486466551846 : Unit := ()
def fin.tw12876116671307685997 : Unit := ()
def fin.tw11932844563623469519 : Unit := ()
set_option maxHeartbeats 8000000 in
set_option Elab.async true in
theorem fin : PySem.Challenge.rw_uf010023_12.Holds := by
  w_on; o_law; k_head
  case hw => w_witness2
  refine join G 317 7 rfl rfl (fun _ => rfl) (fun w => by kernel_rfl) (by decide) (hpos := fun w => by kernel_rfl) (fun w P => ⟨?top, ?fn, ?bn, ?isi, fd_all ⟨⟨?a0, ?b0⟩, ⟨?a1, ?b1⟩, ⟨?a2, ?b2⟩, ⟨?a3, ?b3⟩, ⟨?a4, ?b4⟩, ⟨?a5, ?b5⟩, ⟨?a6, ?b6⟩, ⟨?a7, ?b7⟩, ⟨?a8, ?b8⟩, ⟨?a9, ?b9⟩, ⟨?a10, ?b10⟩, ⟨?a11, ?b11⟩, ⟨?a12, ?b12⟩, ⟨?a13, ?b13⟩, ⟨?a14, ?b14⟩, ⟨?a15, ?b15⟩, ⟨?a16, ?b16⟩, ⟨?a17, ?b17⟩, ⟨?a18, ?b18⟩, ⟨?a19, ?b19⟩, ⟨?a20, ?b20⟩, ⟨?a21, ?b21⟩, ⟨?a22, ?b22⟩, ⟨?a23, ?b23⟩, ⟨?a24, ?b24⟩, ⟨?a25, ?b25⟩, ⟨?a26, ?b26⟩, ⟨?a27, ?b27⟩⟩, ?cl, ?me⟩) (fun w P C hK hP X hm => mo_of P C hK hP X hm ?n1 ?words ?letters ?deeds ?n2 ?lens ?hash ?most ?great) (fun w ns _ => law_ok ns)
  all_goals kernel_rfl
theorem L12.fin : PySem.Challenge.rw_uf010023_12.Holds := Mine.fin
end Mine
end
theorem PySem.Challenge.cw_uf010023_12_holds : PySem.Challenge.rw_uf010023_12.Holds :=
  Mine.L12.fin
