import PyProof.Rows.All
import Wide.All
import OpenK.AllK
import PySem.Challenge.RW_uf010023_09
set_option Elab.async false
set_option autoImplicit false
set_option linter.unusedVariables false
set_option maxRecDepth 100000
set_option compiler.extract_closed false
set_option bootstrap.genMatcherCode false
set_option tactic.hygienic false
open PySem
open PySem.W (Frag kitOne keepIn Looks)
local macro_rules | `(tactic| left) => `(tactic| kernel_rfl)
abbrev Mine.qp (l c e : Nat) : Pos := ⟨l,c,l,e⟩
section
namespace Mine
inductive OBI {α β : Type} (o : Option α) (f : α -> Option β) (b : β) : Prop where
 | mk (a : α) (h1 : o = some a) (h2 : f a = some b)
theorem obi {α β : Type} {o : Option α} {f : α -> Option β} {b : β} (e : o.bind f = some b) : OBI o f b := by
 cases o with
 | none => cases e
 | some a => exact ⟨a, rfl, e⟩
abbrev tupO (vs : Array Value) (n : Nat) : Obj := { cls := .type "tuple", data := .seq vs n }
abbrev lstO (vs : Array Value) (n : Nat) : Obj := { cls := .type "list", data := .seq vs n }
abbrev insO (C d : Addr) : Obj := { cls := .ref C, dict := some d, data := .plain }
structure CT where
 c : Addr
 vn : List Str
 ln : List Str
set_option genSizeOf false in
set_option genInjectivity false in
inductive V where
 | none
 | bool (b : Bool)
 | int (i : Int)
 | str (s : List Nat)
 | tup (l : List V)
 | lst (l : List V)
 | ins (t : CT) (l : List V)
 | dic (w : World) (k : List (List Nat)) (l : List V)
 | exc (c : Addr)
set_option genSizeOf false in
set_option genInjectivity false in
inductive O where
 | val (v : V)
 | own (r : List V)
 | own2 (r : List (List V))
 | obj (t : CT) (l : List V) (r : List (List V))
 | dic (w : World) (k : List (List Nat)) (l : List V)
noncomputable def O.frz (o : O) : V := O.rec (fun v => v) (fun r => .lst r.reverse) (fun r => .lst (r.map fun x => .lst x.reverse).reverse) (fun t l r => .ins ⟨t.c, t.vn.take l.length ++ t.ln.take r.length, []⟩ (l ++ r.map fun x => .lst x.reverse)) (fun w k l => .dic w k l) o
abbrev Loc := List (Option O)
abbrev WS := Addr -> Prop
structure DicAt (w : World) (h : Heap) (a : Addr) (k : List (List Nat)) (vs : List Value) : Prop where
 len : vs.length = k.length
 few : k.length <= sizeLine
 ns : (a == sysModules) = false
 ok : ∀ z, z ∈ k -> PyData.strOk ⟨z.toArray⟩ = true /\ z.length <= sizeLine
 at_ : ∀ prog, h.DictOf (strKind prog w) a ((k.map fun z => (⟨z.toArray⟩ : Str)).zip vs)
theorem DicAt.to {w : World} {h h' : Heap} {a : Addr} {k : List (List Nat)} {vs : List Value} (x : DicAt w h a k vs) (e : h'.get? a = h.get? a) : DicAt w h' a k vs :=
 ⟨x.len, x.few, x.ns, x.ok, fun prog => let ⟨o, es, ep, y, r⟩ := x.at_ prog; ⟨o, es, ep, e.trans y, r⟩⟩
theorem DicAt.is {w : World} {h : Heap} {a : Addr} {k : List (List Nat)} {vs : List Value} (x : DicAt w h a k vs) (prog : Program) : ∃ o es ep, h.get? a = some o /\ o.data = .dict es ep :=
 let ⟨o, es, ep, y, _, z, _⟩ := x.at_ prog; ⟨o, es, ep, y, z⟩
theorem Ns1_to {h h' : Heap} {a : Addr} {m : Str -> Option Value} (x : h.Ns1 a m) (e : h'.get? a = h.get? a) : h'.Ns1 a m := x.at fun o y => e.trans y
noncomputable def VR (W : WS) (h : Heap) : V -> Value -> Prop :=
 @V.rec (fun J => Value -> Prop) (fun J => List Value -> Prop)
  (fun v' => v' = .none) (fun b v' => v' = .bool b) (fun i v' => ∃ t, v' = .int i t)
  (fun s v' => ∃ t, v' = .str ⟨s.toArray⟩ t /\ PyData.strOk ⟨s.toArray⟩ = true /\ s.length <= sizeLine)
  (fun l ih v' => ∃ a vs n, v' = .ref a /\ W a /\ h.get? a = some (tupO vs n) /\ l.length <= sizeLine /\ ih vs.toList)
  (fun l ih v' => ∃ a vs n, v' = .ref a /\ W a /\ h.get? a = some (lstO vs n) /\ l.length <= sizeLine /\ ih vs.toList)
  (fun t l ih v' => ∃ a da vs, v' = .ref a /\ W a /\ W da /\ h.get? a = some (insO t.c da) /\ h.Ns1 da (fun x => (t.vn.zip vs).lookup x) /\ ih vs)
  (fun w k l ih v' => ∃ a vs, v' = .ref a /\ W a /\ DicAt w h a k vs /\ ih vs)
  (fun c v' => ∃ a o fs, v' = .ref a /\ W a /\ h.get? a = some o /\ o.cls = .ref c /\ o.dict = none /\ o.data = .fields fs)
  (fun l' => l' = []) (fun v l iv il l' => ∃ v' r, l' = v' :: r /\ iv v' /\ il r)
noncomputable def VRs (W : WS) (h : Heap) : List V -> List Value -> Prop :=
 @V.rec_1 (fun J => Value -> Prop) (fun J => List Value -> Prop)
  (fun v' => v' = .none) (fun b v' => v' = .bool b) (fun i v' => ∃ t, v' = .int i t)
  (fun s v' => ∃ t, v' = .str ⟨s.toArray⟩ t /\ PyData.strOk ⟨s.toArray⟩ = true /\ s.length <= sizeLine)
  (fun l ih v' => ∃ a vs n, v' = .ref a /\ W a /\ h.get? a = some (tupO vs n) /\ l.length <= sizeLine /\ ih vs.toList)
  (fun l ih v' => ∃ a vs n, v' = .ref a /\ W a /\ h.get? a = some (lstO vs n) /\ l.length <= sizeLine /\ ih vs.toList)
  (fun t l ih v' => ∃ a da vs, v' = .ref a /\ W a /\ W da /\ h.get? a = some (insO t.c da) /\ h.Ns1 da (fun x => (t.vn.zip vs).lookup x) /\ ih vs)
  (fun w k l ih v' => ∃ a vs, v' = .ref a /\ W a /\ DicAt w h a k vs /\ ih vs)
  (fun c v' => ∃ a o fs, v' = .ref a /\ W a /\ h.get? a = some o /\ o.cls = .ref c /\ o.dict = none /\ o.data = .fields fs)
  (fun l' => l' = []) (fun v l iv il l' => ∃ v' r, l' = v' :: r /\ iv v' /\ il r)
structure Ag (W : WS) (h : Heap) (W' : WS) (h' : Heap) : Prop where
 w : ∀ a, W a -> W' a
 k : ∀ a, W a -> h'.get? a = h.get? a
inductive SeqI (W : WS) (h : Heap) (ob : Array Value -> Nat -> Obj) (l : List V) (v' : Value) : Prop where
 | mk (a : Addr) (vs : Array Value) (n : Nat) (e : v' = .ref a) (w : W a) (g : h.get? a = some (ob vs n)) (z : l.length <= sizeLine) (r : VRs W h l vs.toList)
inductive InsI (W : WS) (h : Heap) (t : CT) (l : List V) (v' : Value) : Prop where
 | mk (a da : Addr) (vs : List Value) (e : v' = .ref a) (w : W a) (wd : W da) (g : h.get? a = some (insO t.c da)) (n : h.Ns1 da (fun x => (t.vn.zip vs).lookup x)) (r : VRs W h l vs)
inductive DicI (W : WS) (h : Heap) (w : World) (k : List (List Nat)) (l : List V) (v' : Value) : Prop where
 | mk (a : Addr) (vs : List Value) (e : v' = .ref a) (wa : W a) (g : DicAt w h a k vs) (r : VRs W h l vs)
section
variable {W W' : WS} {h h' : Heap}
inductive Six {α : Type} : List α -> Prop where
 | mk (a b c d e f : α) : Six [a, b, c, d, e, f]
theorem six {α : Type} : ∀ l : List α, l.length = 6 -> Six l
 | [a, b, c, d, e, f], _ => ⟨a, b, c, d, e, f⟩
inductive VRI (W : WS) (h : Heap) (v : V) (l : List V) (l' : List Value) : Prop where
 | mk (v' : Value) (r' : List Value) (e : l' = v' :: r') (a : VR W h v v') (b : VRs W h l r')
theorem VRs.inv {v : V} {l : List V} {l' : List Value} (r : VRs W h (v :: l) l') : VRI W h v l l' := let ⟨a, b, c, d, e⟩ := (show ∃ v' r', l' = v' :: r' /\ VR W h v v' /\ VRs W h l r' from r); ⟨a, b, c, d, e⟩
theorem VRs.cons {v : V} {l : List V} {v' : Value} {l' : List Value} (x : VR W h v v') (r : VRs W h l l') : VRs W h (v :: l) (v' :: l') := ⟨v', l', rfl, x, r⟩
theorem VR.tup {l : List V} {v' : Value} (r : VR W h (.tup l) v') : SeqI W h tupO l v' := let ⟨a, vs, n, e, w, g, z, r⟩ := (show ∃ a vs n, v' = .ref a /\ W a /\ h.get? a = some (tupO vs n) /\ l.length <= sizeLine /\ VRs W h l vs.toList from r); ⟨a, vs, n, e, w, g, z, r⟩
theorem VR.lst {l : List V} {v' : Value} (r : VR W h (.lst l) v') : SeqI W h lstO l v' := let ⟨a, vs, n, e, w, g, z, r⟩ := (show ∃ a vs n, v' = .ref a /\ W a /\ h.get? a = some (lstO vs n) /\ l.length <= sizeLine /\ VRs W h l vs.toList from r); ⟨a, vs, n, e, w, g, z, r⟩
theorem VR.ins {t : CT} {l : List V} {v' : Value} (r : VR W h (.ins t l) v') : InsI W h t l v' := let ⟨a, da, vs, e, w, wd, g, n, r⟩ := (show ∃ a da vs, v' = .ref a /\ W a /\ W da /\ h.get? a = some (insO t.c da) /\ h.Ns1 da (fun x => (t.vn.zip vs).lookup x) /\ VRs W h l vs from r); ⟨a, da, vs, e, w, wd, g, n, r⟩
theorem VR.dic {w : World} {k : List (List Nat)} {l : List V} {v' : Value} (r : VR W h (.dic w k l) v') : DicI W h w k l v' := let ⟨a, vs, e, wa, g, r⟩ := (show ∃ a vs, v' = .ref a /\ W a /\ DicAt w h a k vs /\ VRs W h l vs from r); ⟨a, vs, e, wa, g, r⟩
inductive ExcI (W : WS) (h : Heap) (c : Addr) (v' : Value) : Prop where
 | mk (a : Addr) (o : Obj) (e : v' = .ref a) (w : W a) (g : h.get? a = some o) (k : o.cls = .ref c) (n : o.dict = none) (fs : Array Value) (f : o.data = .fields fs)
theorem VR.exc {c : Addr} {v' : Value} (r : VR W h (.exc c) v') : ExcI W h c v' := let ⟨a, o, fs, e, w, x, y, z, t⟩ := (show ∃ a o fs, v' = .ref a /\ W a /\ h.get? a = some o /\ o.cls = .ref c /\ o.dict = none /\ o.data = .fields fs from r); ⟨a, o, e, w, x, y, z, fs, t⟩
theorem VR.ag (g : Ag W h W' h') {v : V} {v' : Value} (r : VR W h v v') : VR W' h' v v' :=
 V.rec (motive_1 := fun v => ∀ v', VR W h v v' -> VR W' h' v v') (motive_2 := fun l => ∀ l', VRs W h l l' -> VRs W' h' l l')
  (fun J r => r) (fun J J r => r) (fun J J r => r) (fun J J r => r)
  (fun J ih J r => let ⟨a, vs, n, e, w, x, y, z⟩ := VR.tup r; ⟨a, vs, n, e, g.w a w, (g.k a w).trans x, y, ih _ z⟩)
  (fun J ih J r => let ⟨a, vs, n, e, w, x, y, z⟩ := VR.lst r; ⟨a, vs, n, e, g.w a w, (g.k a w).trans x, y, ih _ z⟩)
  (fun J J ih J r => let ⟨a, da, vs, e, w, w2, x, y, z⟩ := VR.ins r; ⟨a, da, vs, e, g.w a w, g.w da w2, (g.k a w).trans x, Ns1_to y (g.k da w2), ih _ z⟩)
  (fun J J J ih J r => let ⟨a, vs, e, w, x, z⟩ := VR.dic r; ⟨a, vs, e, g.w a w, x.to (g.k a w), ih _ z⟩)
  (fun c v' r => let ⟨a, o, e, w, x, y, z, fs, t⟩ := VR.exc r; ⟨a, o, fs, e, g.w a w, (g.k a w).trans x, y, z, t⟩)
  (fun J r => r) (fun J J iv il J r => let ⟨v', r, e, x, y⟩ := VRs.inv r; ⟨v', r, e, iv _ x, il _ y⟩) v v' r
theorem VRs.ag (g : Ag W h W' h') : ∀ {l : List V} {l' : List Value}, VRs W h l l' -> VRs W' h' l l'
 | [], _, r => r
 | _ :: _, _, r => let ⟨v', r, e, x, y⟩ := VRs.inv r; ⟨v', r, e, VR.ag g x, VRs.ag g y⟩
theorem VRs.length : ∀ {l : List V} {l' : List Value}, VRs W h l l' -> l'.length = l.length
 | [], _, e => congrArg List.length e
 | _ :: _, _, r => let ⟨v', r, e, x, y⟩ := VRs.inv r; e ▸ congrArg (· + 1) y.length
theorem VRs.size {l : List V} {vs : Array Value} (r : VRs W h l vs.toList) : vs.size = l.length := by rw [<- r.length, Array.length_toList]
theorem VRs.append : ∀ {l m : List V} {l' m' : List Value}, VRs W h l l' -> VRs W h m m' -> VRs W h (l ++ m) (l' ++ m')
 | [], _, _, _, e, hm => by cases e; exact hm
 | _ :: _, _, _, _, r, hm => by obtain ⟨v', r, rfl, x, y⟩ := VRs.inv r; exact .cons x (y.append hm)
theorem VRs.snoc {l : List V} {l' : List Value} {v : V} {v' : Value} (r : VRs W h l l') (x : VR W h v v') : VRs W h (l ++ [v]) (l' ++ [v']) := r.append ⟨v', [], rfl, x, rfl⟩
theorem VRs.get : ∀ {l : List V} {l' : List Value}, VRs W h l l' -> ∀ {i : Nat} {v : V}, l[i]? = some v -> ∃ v', l'[i]? = some v' /\ VR W h v v'
 | [], _, _, _, _, e => nomatch e
 | _ :: _, _, r, 0, _, e => by obtain ⟨v', r, rfl, x, y⟩ := VRs.inv r; cases e; exact ⟨_, rfl, x⟩
 | _ :: _, _, r, i + 1, _, e => by obtain ⟨v', r, rfl, x, y⟩ := VRs.inv r; exact y.get (i := i) e
theorem VRs.set : ∀ {l : List V} {l' : List Value}, VRs W h l l' -> ∀ (i : Nat) {v : V} {v' : Value}, VR W h v v' -> VRs W h (l.set i v) (l'.set i v')
 | [], _, e, _, _, _, _ => by cases e; exact rfl
 | _ :: _, _, r, 0, _, w, hw => by obtain ⟨v', r, rfl, x, y⟩ := VRs.inv r; exact .cons hw y
 | _ :: _, _, r, i + 1, _, w, hw => by obtain ⟨v', r, rfl, x, y⟩ := VRs.inv r; exact .cons x (y.set i hw)
theorem VRs.take : ∀ {l : List V} {l' : List Value}, VRs W h l l' -> ∀ (i : Nat), VRs W h (l.take i) (l'.take i)
 | [], _, e, i => by cases e; rw [List.take_nil, List.take_nil]; exact rfl
 | _ :: _, _, _, 0 => rfl
 | _ :: _, _, r, i + 1 => by obtain ⟨v', r, rfl, x, y⟩ := VRs.inv r; exact .cons x (y.take i)
theorem VRs.drop : ∀ {l : List V} {l' : List Value}, VRs W h l l' -> ∀ (i : Nat), VRs W h (l.drop i) (l'.drop i)
 | [], _, e, i => by cases e; rw [List.drop_nil, List.drop_nil]; exact rfl
 | _ :: _, _, r, 0 => r
 | _ :: _, _, r, i + 1 => by obtain ⟨v', r, rfl, x, y⟩ := VRs.inv r; exact y.drop i
end
theorem Ag.refl (W : WS) (h : Heap) : Ag W h W h := ⟨fun J x => x, fun J J => rfl⟩
theorem Ag.trans {W W' W'' : WS} {h h' h'' : Heap} (x : Ag W h W' h') (y : Ag W' h' W'' h'') : Ag W h W'' h'' := ⟨fun a q => y.w a (x.w a q), fun a q => (y.k a (x.w a q)).trans (x.k a q)⟩
abbrev Tbl := List (Str × Nat)
structure FI where
 names : List (Str × NameKind)
 tbl : Tbl
 pos : Bool := false
 kp : List Str := []
structure Cx where
 K : PySem.W.Frag
 h : Heap
 os : OsState
 prog : Program
 w : World
 mg : Str -> Option Value
 mb : Str -> Option Value
noncomputable abbrev Cx.M (C : Cx) : Model := model C.prog C.w
structure FC where
 C : Cx
 A : Around
 env : Env
 fi : FI
 pin : Addr -> Option Obj
 W0 : WS
 cm : Bool
 kv : Str -> Option Value
def Mut (X : FC) (φ : Nat -> List Addr) (a : Addr) : Prop := a = X.env.locals \/ (X.cm = true /\ ∃ x, X.env.cells.lookup x = some a) \/ ∃ i, a ∈ φ i
def Val (env : Env) (h : Heap) (x : Str) (v : Value) : Prop :=
 (env.kindOf x = some .local /\ ∃ m, h.Ns env.locals m /\ m x = some v) ∨
 ((env.kindOf x = some .cell \/ env.kindOf x = some .free) /\ ∃ c, env.cells.lookup x = some c /\ h.IsCell c (some v))
def OwnAt (W : WS) (h : Heap) (a : Addr) (r : List V) : Prop := ∃ vs n, h.get? a = some (lstO vs n) /\ VRs W h r.reverse vs.toList /\ r.length <= sizeLine
def OwnL (W : WS) (h : Heap) (as : List Addr) (r : List (List V)) : Prop := as.length = r.length /\ ∀ (k : Nat) (a : Addr) (x : List V), as[k]? = some a -> r[k]? = some x -> OwnAt W h a x
def Own2At (W : WS) (h : Heap) (a : Addr) (as : List Addr) (r : List (List V)) : Prop := ∃ vs n, h.get? a = some (lstO vs n) /\ vs.toList = (as.map .ref).reverse /\ r.length <= sizeLine /\ OwnL W h as r /\ (a :: as).Nodup
def flds (t : CT) (n m : Nat) : List Str := t.vn.take n ++ t.ln.take m
structure ObjAt (W : WS) (h : Heap) (oa da : Addr) (as : List Addr) (t : CT) (l : List V) (r : List (List V)) : Prop where
 w : W oa
 hd : h.get? oa = some (insO t.c da)
 ns : ∃ vs, h.Ns1 da (fun x => ((flds t l.length r.length).zip (vs ++ as.map .ref)).lookup x) /\ VRs W h l vs
 ol : OwnL W h as r
 sz : ∀ x, x ∈ r -> x.length <= sizeLine
 nd : (da :: as).Nodup
 le : l.length <= t.vn.length /\ r.length <= t.ln.length
noncomputable def OR (W : WS) (h : Heap) (p : List Addr) (o : O) (v' : Value) : Prop :=
 O.rec (fun v => p = [] /\ VR W h v v') (fun r => ∃ a, p = [a] /\ v' = .ref a /\ OwnAt W h a r) (fun r => ∃ a as, p = a :: as /\ v' = .ref a /\ Own2At W h a as r)
  (fun t l r => ∃ oa da as, p = da :: as /\ v' = .ref oa /\ ObjAt W h oa da as t l r) (fun w k l => ∃ a vs, p = [a] /\ v' = .ref a /\ DicAt w h a k vs /\ VRs W h l vs) o
def OwO (X : FC) (h : Heap) (a : Addr) : Prop := ∃ o, h.get? a = some o /\ (∀ v, o.data ≠ .cell v) /\ a ≠ X.env.locals
structure F0 (X : FC) (W : WS) (φ : Nat -> List Addr) (h : Heap) : Prop where
 pin : ∀ a o, X.pin a = some o -> h.get? a = some o
 mu : ∀ a, Mut X φ a -> X.pin a = none /\ ¬ W a
 wf : ∀ a, W a -> ∃ o, h.get? a = some o
 w0 : ∀ a o, X.pin a = some o -> W a -> X.W0 a
 dis : ∀ i j a, a ∈ φ i -> a ∈ φ j -> i = j
 ns : ∃ o es ep, h.get? X.env.locals = some o /\ o.data = .dict es ep /\ StrKeys es
 cells : ∀ x c, X.env.cells.lookup x = some c -> ∃ o v, h.get? c = some o /\ o.data = .cell v
def LR (X : FC) (W : WS) (φ : Nat -> List Addr) (h : Heap) (ρ : Loc) : Prop :=
 ∀ x i, X.fi.tbl.lookup x = some i -> ∀ o, ρ[i]? = some (some o) -> X.env.kindOf x ≠ none -> ∃ v', Val X.env h x v' /\ OR W h (φ i) o v'
structure At (X : FC) (W : WS) (φ : Nat -> List Addr) (s : Shared) (ρ : Loc) : Prop where
 gens : s.gens = #[]
 os : s.os = X.C.os
 f : F0 X W φ s.heap
 lr : LR X W φ s.heap ρ
 ow : ∀ i a, a ∈ φ i -> OwO X s.heap a
 tk : X.fi.pos = true -> 0 < s.toks
 kv : ∀ x v, X.kv x = some v -> Val X.env s.heap x v
structure Grow (W : WS) (h : Heap) (W' : WS) (h' : Heap) : Prop where
 k : ∀ a o, h.get? a = some o -> h'.get? a = some o
 w : ∀ a, W a -> W' a
 wf : ∀ a, W' a -> ∃ o, h'.get? a = some o
 nw : ∀ a o, h.get? a = some o -> W' a -> W a
section
variable {X : FC} {W W' W'' : WS} {φ : Nat -> List Addr} {h h' h'' : Heap} {s : Shared} {ρ : Loc}
theorem Grow.ag (g : Grow W h W' h') (wf : ∀ a, W a -> ∃ o, h.get? a = some o) : Ag W h W' h' :=
 ⟨g.w, fun a q => (wf a q).elim fun o e => (g.k a o e).trans e.symm⟩
theorem Grow.trans (g : Grow W h W' h') (g' : Grow W' h' W'' h'') : Grow W h W'' h'' :=
 ⟨fun a o e => g'.k a o (g.k a o e), fun a q => g'.w a (g.w a q), g'.wf, fun a o e q => g.nw a o e (g'.nw a o (g.k a o e) q)⟩
theorem Val.grow {env : Env} {x : Str} {v : Value} (k : ∀ a o, h.get? a = some o -> h'.get? a = some o) (r : Val env h x v) : Val env h' x v := by
 obtain ⟨q, m, ⟨o, es, ep, e, z⟩, hm⟩ | ⟨q, c, hc, o, e, z⟩ := r
 ·exact .inl ⟨q, m, ⟨o, es, ep, k _ _ e, z⟩, hm⟩
 ·exact .inr ⟨q, c, hc, o, k _ _ e, z⟩
theorem OwnAt.ag {a : Addr} {r : List V} (g : Ag W h W' h') (e : h'.get? a = h.get? a) (x : OwnAt W h a r) : OwnAt W' h' a r := by
 obtain ⟨vs, n, y, z, t⟩ := x; exact ⟨vs, n, e.trans y, z.ag g, t⟩
theorem OR.ag {p : List Addr} {o : O} {v' : Value} (g : Ag W h W' h') (e : ∀ a, a ∈ p -> h'.get? a = h.get? a) (x : OR W h p o v') : OR W' h' p o v' := by
 cases o with
 | val v => exact ⟨x.1, VR.ag g x.2⟩
 | own r => obtain ⟨a, rfl, y, z⟩ := x; exact ⟨a, rfl, y, OwnAt.ag g (e a List.mem_cons_self) z⟩
 | own2 r =>
  obtain ⟨a, as, rfl, y, vs, n, z1, z2, z3, ⟨z4, z5⟩, z6⟩ := x
  exact ⟨a, as, rfl, y, vs, n, (e a List.mem_cons_self).trans z1, z2, z3, ⟨z4, fun k b x hb hx => OwnAt.ag g (e b (List.mem_cons_of_mem _ (List.mem_of_getElem? hb))) (z5 k b x hb hx)⟩, z6⟩
 | obj t l r =>
  obtain ⟨oa, da, as, rfl, y, z⟩ := x
  obtain ⟨vs, n1, n2⟩ := z.ns
  exact ⟨oa, da, as, rfl, y, g.w _ z.w, (g.k _ z.w).trans z.hd, ⟨vs, Ns1_to n1 (e da List.mem_cons_self), n2.ag g⟩, ⟨z.ol.1, fun k b x hb hx => OwnAt.ag g (e b (List.mem_cons_of_mem _ (List.mem_of_getElem? hb))) (z.ol.2 k b x hb hx)⟩, z.sz, z.nd, z.le⟩
 | dic w k l => obtain ⟨a, vs, rfl, y, z1, z2⟩ := x; exact ⟨a, vs, rfl, y, z1.to (e a List.mem_cons_self), z2.ag g⟩
theorem F0.grow (F : F0 X W φ h) (ow : ∀ i a, a ∈ φ i -> OwO X h a) (g : Grow W h W' h') : F0 X W' φ h' where
 pin := fun a o e => g.k a o (F.pin a o e)
 mu := fun a q => ⟨(F.mu a q).1, fun w => (F.mu a q).2 (by
   rcases q with q | ⟨q1, x, q⟩ | ⟨i, q⟩
   ·obtain ⟨o, _, _, e, _⟩ := F.ns; exact g.nw a o (q ▸ e) w
   ·obtain ⟨o, _, e, _⟩ := F.cells x a q; exact g.nw a o e w
   ·obtain ⟨_, e, _⟩ := ow i a q; exact g.nw a _ e w)⟩
 wf := g.wf
 w0 := fun a o e q => F.w0 a o e (g.nw a o (F.pin a o e) q)
 dis := F.dis
 ns := by obtain ⟨o, es, ep, e, z⟩ := F.ns; exact ⟨o, es, ep, g.k _ _ e, z⟩
 cells := fun x c hc => by obtain ⟨o, v, e, z⟩ := F.cells x c hc; exact ⟨o, v, g.k _ _ e, z⟩
theorem At.grow (F : At X W φ s ρ) {t : Nat} (g : Grow W s.heap W' h') (ht : s.toks <= t) : At X W' φ { s with heap := h', toks := t } ρ where
 tk := fun h => Nat.lt_of_lt_of_le (F.tk h) ht
 kv := fun x v e => (F.kv x v e).grow g.k
 gens := F.gens
 os := F.os
 f := F.f.grow F.ow g
 lr := fun x i hx o ho hk => by
  obtain ⟨v', a, b⟩ := F.lr x i hx o ho hk
  exact ⟨v', a.grow g.k, b.ag (g.ag F.f.wf) fun a q => by obtain ⟨_, e, _⟩ := F.ow i a q; exact (g.k a _ e).trans e.symm⟩
 ow := fun i a q => by obtain ⟨o, e, n⟩ := F.ow i a q; exact ⟨o, g.k _ _ e, n⟩
theorem At.toks (F : At X W φ s ρ) (t : Nat) (ht : s.toks <= t) : At X W φ { s with toks := t } ρ := ⟨F.gens, F.os, F.f, F.lr, F.ow, fun h => Nat.lt_of_lt_of_le (F.tk h) ht, F.kv⟩
theorem F0.turn (F : F0 X W φ h) {a : Addr} (hm : Mut X φ a) (hs : Heap.SameBut a h h') : Ag W h W h' /\ (∀ b o, X.pin b = some o -> h'.get? b = some o) /\ (∀ b, W b -> ∃ o, h'.get? b = some o) := by
 have hk : ∀ b, b ≠ a -> h'.get? b = h.get? b := hs.2
 have wa := (F.mu a hm).2
 have ag : Ag W h W h' := ⟨fun J q => q, fun b q => hk b fun e => wa (e ▸ q)⟩
 refine ⟨ag, fun b o e => (hk b fun q => ?_).trans (F.pin b o e), fun b q => ?_⟩
 ·have := (F.mu a hm).1; rw [<- q, e] at this; cases this
 ·obtain ⟨o, e⟩ := F.wf b q; exact ⟨o, (ag.k b q).trans e⟩
end
end Mine
end
section
namespace Mine
def RO (X : FC) (W : WS) (φ : Nat -> List Addr) (h : Heap) (o : O) (v' : Value) : Prop := ∃ p, OR W h p o v' /\ ∀ a, a ∈ p -> ¬ W a /\ ¬ Mut X φ a /\ X.pin a = none
def upd (φ : Nat -> List Addr) (i : Nat) (p : List Addr) : Nat -> List Addr := fun j => if j = i then p else φ j
theorem upd_same (φ : Nat -> List Addr) (i : Nat) (p : List Addr) : upd φ i p i = p := if_pos rfl
theorem upd_ne (φ : Nat -> List Addr) {i j : Nat} (p : List Addr) (h : j ≠ i) : upd φ i p j = φ j := if_neg h
set_option tactic.hygienic true in
theorem set_get {ρ : Loc} {i j : Nat} {o o' : O} (e : (ρ.set i (some o))[j]? = some (some o')) : (j = i /\ o' = o) \/ (j ≠ i /\ ρ[j]? = some (some o')) := by
 by_cases q : j = i
 ·subst q
  rw [List.getElem?_set] at e
  split at e
  ·split at e
   ·cases e; exact .inl ⟨rfl, rfl⟩
   ·cases e
  ·rename_i q; exact absurd rfl q
 ·exact .inr ⟨q, by rwa [List.getElem?_set_ne (Ne.symm q)] at e⟩
section
variable {X : FC} {W W' : WS} {φ : Nat -> List Addr} {h h' : Heap} {s : Shared} {ρ : Loc}
theorem RO.val {v : V} {v' : Value} (r : VR W h v v') : RO X W φ h (.val v) v' := ⟨[], ⟨rfl, r⟩, fun J q => nomatch q⟩
theorem Ag.more (W : WS) (h : Heap) (a : Addr) : Ag W h (fun b => W b \/ b = a) h := ⟨fun J q => .inl q, fun J J => rfl⟩
theorem Ag.moreS (W : WS) (h : Heap) (D : Addr -> Prop) : Ag W h (fun b => W b \/ D b) h := ⟨fun J q => .inl q, fun J J => rfl⟩
theorem VRs.rev : ∀ {l : List V} {l' : List Value}, VRs W h l l' -> VRs W h l.reverse l'.reverse
 | [], _, r => by cases r; exact rfl
 | v :: l, _, r => by obtain ⟨v', r', rfl, x, y⟩ := VRs.inv r; rw [List.reverse_cons, List.reverse_cons]; exact (VRs.rev y).snoc x
theorem OwnL.frz {as : List Addr} : ∀ {r : List (List V)}, OwnL W h as r -> VRs (fun b => W b \/ b ∈ as) h (r.map fun x => .lst x.reverse) (as.map .ref) := by
 have key : ∀ (as : List Addr) (r : List (List V)) (D : Addr -> Prop), (∀ a, a ∈ as -> D a) -> OwnL W h as r -> VRs (fun b => W b \/ D b) h (r.map fun x => .lst x.reverse) (as.map .ref) := by
  intro as
  induction as with
  | nil => intro r D _ o; cases r with
   | nil => exact rfl
   | cons x r => cases o.1
  | cons a as ih =>
   intro r D hD o
   cases r with
   | nil => cases o.1
   | cons x r =>
    obtain ⟨vs, n, y, z, t⟩ := o.2 0 a x rfl rfl
    exact .cons ⟨a, vs, n, rfl, .inr (hD a List.mem_cons_self), y, by rwa [List.length_reverse], VRs.ag (.moreS W h D) z⟩ (ih r D (fun b q => hD b (List.mem_cons_of_mem _ q)) ⟨Nat.succ.inj o.1, fun k b y hb hy => o.2 (k + 1) b y hb hy⟩)
 intro r o
 exact key as r _ (fun J q => q) o
theorem OR.frz {p : List Addr} {o : O} {v' : Value} (x : OR W h p o v') : VR (fun b => W b \/ b ∈ p) h o.frz v' := by
 cases o with
 | val v => exact VR.ag (.moreS W h _) x.2
 | own r =>
  obtain ⟨a, rfl, rfl, vs, n, y, z, t⟩ := x
  exact ⟨a, vs, n, rfl, .inr List.mem_cons_self, y, by rwa [List.length_reverse], VRs.ag (.moreS W h _) z⟩
 | own2 r =>
  obtain ⟨a, as, rfl, rfl, vs, n, y, z, t, o, _⟩ := x
  have hv := VRs.rev (OwnL.frz o)
  rw [<- z] at hv
  exact ⟨a, vs, n, rfl, .inr List.mem_cons_self, y, by rw [List.length_reverse, List.length_map]; exact t, VRs.ag ⟨fun J q => q.elim .inl fun q => .inr (List.mem_cons_of_mem _ q), fun J J => rfl⟩ hv⟩
 | obj t l r =>
  obtain ⟨oa, da, as, rfl, rfl, z⟩ := x
  obtain ⟨vs, n1, n2⟩ := z.ns
  have hv := OwnL.frz z.ol
  exact ⟨oa, da, vs ++ as.map Value.ref, rfl, .inl z.w, .inr List.mem_cons_self, z.hd, n1, (VRs.ag (.moreS W h _) n2).append (VRs.ag ⟨fun J q => q.elim .inl fun q => .inr (List.mem_cons_of_mem _ q), fun J J => rfl⟩ hv)⟩
 | dic w k l =>
  obtain ⟨a, vs, rfl, rfl, z1, z2⟩ := x
  exact ⟨a, vs, rfl, .inr List.mem_cons_self, z1, VRs.ag (.moreS W h _) z2⟩
theorem OwnL.isList {as : List Addr} {r : List (List V)} (o : OwnL W h as r) {b : Addr} (q : b ∈ as) : ∃ vs n, h.get? b = some (lstO vs n) := by
 obtain ⟨k, hk, e⟩ := List.getElem_of_mem q
 obtain ⟨ws, m, y, _⟩ := o.2 k b (r[k]'(by rw [<- o.1]; exact hk)) (by rw [List.getElem?_eq_getElem hk, e]) (List.getElem?_eq_getElem _)
 exact ⟨ws, m, y⟩
theorem OR.isOwn {p : List Addr} {o : O} {v' : Value} (x : OR W h p o v') : ∀ b, b ∈ p -> ∃ o, h.get? b = some o /\ ∀ v, o.data ≠ .cell v := fun b q => by
 cases o with
 | val v => rw [x.1] at q; cases q
 | own r' => obtain ⟨c, rfl, _, vs, n, z, _⟩ := x; cases List.mem_singleton.mp q; exact ⟨_, z, fun J => by simp⟩
 | own2 r' =>
  obtain ⟨c, as, rfl, _, vs, n, z, _, _, z4, _⟩ := x
  rcases List.mem_cons.mp q with rfl | q
  ·exact ⟨_, z, fun J => by simp⟩
  ·obtain ⟨ws, m, y⟩ := z4.isList q; exact ⟨_, y, fun J => by simp⟩
 | obj t l r =>
  obtain ⟨oa, da, as, rfl, _, z⟩ := x
  rcases List.mem_cons.mp q with rfl | q
  ·obtain ⟨vs, ⟨o, es, ep, n1, n2, _⟩, _⟩ := z.ns; exact ⟨o, n1, fun J => by rw [n2]; simp⟩
  ·obtain ⟨ws, m, y⟩ := z.ol.isList q; exact ⟨_, y, fun J => by simp⟩
 | dic w k l =>
  obtain ⟨a, vs, rfl, _, z, _⟩ := x
  cases List.mem_singleton.mp q
  obtain ⟨o, es, ep, y, y2⟩ := z.is default
  exact ⟨o, y, fun J => by rw [y2]; simp⟩
theorem At.fixS (F : At X W φ s ρ) {D : Addr -> Prop} (hp : ∀ a, D a -> X.pin a = none) (hm : ∀ a, D a -> ¬ Mut X φ a) (he : ∀ a, D a -> ∃ o, s.heap.get? a = some o) : At X (fun b => W b \/ D b) φ s ρ where
 gens := F.gens
 os := F.os
 f := { F.f with
  mu := fun b q => ⟨(F.f.mu b q).1, fun w => w.elim (F.f.mu b q).2 fun e => hm b e q⟩
  wf := fun b q => q.elim (F.f.wf b) fun e => he b e
  w0 := fun b o e q => q.elim (F.f.w0 b o e) fun z => by rw [hp b z] at e; cases e }
 lr := fun x i hx o ho hk => by obtain ⟨v', a, b⟩ := F.lr x i hx o ho hk; exact ⟨v', a, b.ag (.moreS ..) fun J J => rfl⟩
 ow := F.ow
 tk := F.tk
 kv := F.kv
theorem At.frz (F : At X W φ s ρ) {o : O} {v' : Value} (r : RO X W φ s.heap o v') : ∃ W', At X W' φ s ρ /\ Ag W s.heap W' s.heap /\ VR W' s.heap o.frz v' := by
 obtain ⟨p, x, y⟩ := r
 exact ⟨_, F.fixS (D := (· ∈ p)) (fun a q => (y a q).2.2) (fun a q => (y a q).2.1) (fun a q => by obtain ⟨_, e, _⟩ := x.isOwn a q; exact ⟨_, e⟩), .moreS W s.heap _, x.frz⟩
theorem Mut.less {i : Nat} {a : Addr} (q : Mut X (upd φ i []) a) : Mut X φ a := by
 rcases q with q | q | ⟨j, q⟩
 ·exact .inl q
 ·exact .inr (.inl q)
 ·refine .inr (.inr ⟨j, ?_⟩)
  unfold upd at q; split at q
  ·cases q
  ·exact q
theorem At.drop (F : At X W φ s ρ) (i : Nat) {ρ' : Loc} (hρ : ∀ j o, j ≠ i -> ρ'[j]? = some (some o) -> ρ[j]? = some (some o)) (hi : ∀ x, X.fi.tbl.lookup x = some i -> ∀ o, ρ'[i]? = some (some o) -> X.env.kindOf x ≠ none -> ∃ v', Val X.env s.heap x v' /\ OR W s.heap [] o v') : At X W (upd φ i []) s ρ' where
 gens := F.gens
 os := F.os
 f := { F.f with
  mu := fun b q => F.f.mu b q.less
  dis := fun j k a p q => by
   by_cases ej : j = i
   ·rw [ej, upd_same] at p; cases p
   ·by_cases ek : k = i
    ·rw [ek, upd_same] at q; cases q
    ·rw [upd_ne _ _ ej] at p; rw [upd_ne _ _ ek] at q; exact F.f.dis j k a p q }
 lr := fun x j hx o ho hk => by
  by_cases ej : j = i
  ·subst ej; rw [upd_same]; exact hi x hx o ho hk
  ·rw [upd_ne _ _ ej]; exact F.lr x j hx o (hρ j o ej ho) hk
 ow := fun j a q => by
  by_cases ej : j = i
  ·rw [ej, upd_same] at q; cases q
  ·rw [upd_ne _ _ ej] at q; exact F.ow j a q
 tk := F.tk
 kv := F.kv
theorem F0.notCell (F : F0 X W φ h) {a : Addr} {o : Obj} (e : h.get? a = some o) (n : ∀ v, o.data ≠ .cell v) (x : Str) : X.env.cells.lookup x ≠ some a := fun q => by
 obtain ⟨o', v, z, t⟩ := F.cells x a q; rw [e] at z; cases z; exact n v t
theorem F0.notOwn (F : F0 X W φ h) {a : Addr} {vs : Array Value} {n : Nat} (e : h.get? a = some (lstO vs n)) : a ≠ X.env.locals /\ ∀ x, X.env.cells.lookup x ≠ some a := by
 refine ⟨fun q => ?_, fun x q => ?_⟩
 ·obtain ⟨o, _, _, z, t, _⟩ := F.ns; rw [<- q, e] at z; cases z; cases t
 ·obtain ⟨o, _, z, t⟩ := F.cells x a q; rw [e] at z; cases z; cases t
theorem OwO.no {a : Addr} (x : OwO X h a) (F : F0 X W φ h) : a ≠ X.env.locals /\ ∀ x, X.env.cells.lookup x ≠ some a :=
 let ⟨_, e, n, l⟩ := x; ⟨l, F.notCell e n⟩
set_option tactic.hygienic true in
theorem At.free (F : At X W φ s ρ) (i : Nat) : At X W (upd φ i []) s (ρ.set i none) /\ ∀ a, a ∈ φ i -> X.pin a = none /\ ¬ W a /\ ¬ Mut X (upd φ i []) a /\ ∀ x, X.env.cells.lookup x ≠ some a := by
 refine ⟨F.drop i (fun j o q w => by rwa [List.getElem?_set_ne (Ne.symm q)] at w) fun y hy o w => by
  rw [List.getElem?_set] at w
  split at w
  ·split at w <;> cases w
  ·rename_i q; exact absurd rfl q, fun a q => ?_⟩
 have hmu := F.f.mu a (.inr (.inr ⟨i, q⟩))
 have hno := (F.ow i a q).no F.f
 refine ⟨hmu.1, hmu.2, fun z => ?_, hno.2⟩
 rcases z with z | ⟨_, y, z⟩ | ⟨j, z⟩
 ·exact hno.1 z
 ·exact hno.2 y z
 ·by_cases ej : j = i
  ·rw [ej, upd_same] at z; cases z
  ·rw [upd_ne _ _ ej] at z; exact ej (F.f.dis j i a z q)
theorem At.frzVar (F : At X W φ s ρ) {x : Str} {i : Nat} {o : O} {v' : Value} (ti : ∀ y, X.fi.tbl.lookup y = some i -> y = x) (hv : Val X.env s.heap x v') (z : OR W s.heap (φ i) o v') :
  ∃ W', At X W' (upd φ i []) s (ρ.set i (some (.val o.frz))) /\ Ag W s.heap W' s.heap /\ VR W' s.heap o.frz v' := by
 obtain ⟨F1, hf⟩ := F.free i
 have F2 := F1.fixS (D := (· ∈ φ i)) (fun a q => (hf a q).1) (fun a q => (hf a q).2.2.1) (fun a q => by obtain ⟨_, e, _⟩ := F.ow i a q; exact ⟨_, e⟩)
 refine ⟨_, ⟨F2.gens, F2.os, F2.f, fun y j hy o' w hk => ?_, F2.ow, F2.tk, F2.kv⟩, .moreS W s.heap _, z.frz⟩
 rcases set_get w with ⟨rfl, rfl⟩ | ⟨q, w⟩
 ·cases ti y hy; exact ⟨_, hv, by rw [upd_same]; exact ⟨rfl, z.frz⟩⟩
 ·exact F2.lr y j hy o' (by rwa [List.getElem?_set_ne (Ne.symm q)]) hk
theorem At.store (F : At X W φ s ρ) {x : Str} (hxk : X.kv x = none) {i : Nat} {o : O} {v' : Value} {a : Addr} {t : Nat} (ti : ∀ y, X.fi.tbl.lookup y = some i -> y = x) (hx : X.fi.tbl.lookup x = some i) {p : List Addr} (r : OR W s.heap p o v') (hp : ∀ a, a ∈ p -> ¬ W a /\ ¬ Mut X φ a /\ X.pin a = none)
  (ha : a = X.env.locals \/ (X.cm = true /\ ∃ y, X.env.cells.lookup y = some a)) (hs : Heap.SameBut a s.heap h') (hv : Val X.env h' x v') (ho : ∀ y w, y ≠ x -> Val X.env s.heap y w -> Val X.env h' y w)
  (ns : ∃ o es ep, h'.get? X.env.locals = some o /\ o.data = .dict es ep /\ StrKeys es) (cells : ∀ x c, X.env.cells.lookup x = some c -> ∃ o v, h'.get? c = some o /\ o.data = .cell v) (ht : s.toks <= t := by first | exact Nat.le_refl _ | assumption | exact Nat.le_succ _ | omega | (dsimp only; omega) | (dsimp only at *; omega)) :
  At X W (upd φ i p) { s with heap := h', toks := t } (ρ.set i (some o)) /\ Ag W s.heap W h' := by
 have hm : Mut X φ a := ha.elim .inl fun q => .inr (.inl q)
 obtain ⟨ag, pin, wf⟩ := F.f.turn hm hs
 have hl : ∀ b, OwO X s.heap b -> h'.get? b = s.heap.get? b := fun b e => hs.2 b fun q => by
  have := e.no F.f
  rcases ha with z | ⟨_, y, z⟩
  ·exact this.1 (q.trans z)
  ·exact this.2 y (q ▸ z)
 have hl' : ∀ b, b ∈ p -> OwO X s.heap b := fun b q => by
  obtain ⟨o, e, n⟩ := r.isOwn b q
  exact ⟨o, e, n, fun z => (hp b q).2.1 (.inl z)⟩
 have case : ∀ j b, b ∈ upd φ i p j -> (j = i /\ b ∈ p) \/ (j ≠ i /\ b ∈ φ j) := fun j b q => by
  by_cases ej : j = i
  ·rw [ej, upd_same] at q; exact .inl ⟨ej, q⟩
  ·rw [upd_ne _ _ ej] at q; exact .inr ⟨ej, q⟩
 have ow : ∀ j b, b ∈ upd φ i p j -> OwO X s.heap b := fun j b q => (case j b q).elim (fun z => hl' b z.2) fun z => F.ow j b z.2
 refine ⟨⟨F.gens, F.os, ⟨pin, fun b q => ?_, wf, F.f.w0, fun j k b q q' => ?_, ns, cells⟩, fun y j hy o' w hk => ?_, fun j b q => ?_, fun h => Nat.lt_of_lt_of_le (F.tk h) ht, fun y v e => ho y v (fun q => by rw [q, hxk] at e; cases e) (F.kv y v e)⟩, ag⟩
 ·rcases q with q | q | ⟨j, q⟩
  ·exact F.f.mu b (.inl q)
  ·exact F.f.mu b (.inr (.inl q))
  ·rcases case j b q with ⟨_, q⟩ | ⟨_, q⟩
   ·exact ⟨(hp b q).2.2, (hp b q).1⟩
   ·exact F.f.mu b (.inr (.inr ⟨j, q⟩))
 ·rcases case j b q with ⟨e, q⟩ | ⟨e, q⟩ <;> rcases case k b q' with ⟨e', q'⟩ | ⟨e', q'⟩
  ·exact e.trans e'.symm
  ·exact absurd (.inr (.inr ⟨k, q'⟩)) (hp b q).2.1
  ·exact absurd (.inr (.inr ⟨j, q⟩)) (hp b q').2.1
  ·exact F.f.dis j k b q q'
 ·rcases set_get w with ⟨rfl, rfl⟩ | ⟨q, w⟩
  ·cases ti y hy
   refine ⟨v', hv, ?_⟩
   rw [upd_same]
   exact r.ag ag fun b q => hl b (hl' b q)
  ·obtain ⟨w', b1, b2⟩ := F.lr y j hy o' w hk
   refine ⟨w', ho y w' (fun e => q ?_) b1, ?_⟩
   ·rw [e, hx] at hy; exact (Option.some.inj hy).symm
   ·rw [upd_ne _ _ q]
    exact b2.ag ag fun b z => hl b (F.ow j b z)
 ·have e := ow j b q; have e0 := e; obtain ⟨o, e1, e2⟩ := e0; exact ⟨o, (hl b e).trans e1, e2⟩
theorem At.turn (F : At X W φ s ρ) {x : Str} {i : Nat} {a : Addr} {t : Nat} {r : List V} {vs : Array Value} {n : Nat} (ti : ∀ y, X.fi.tbl.lookup y = some i -> y = x) (hi : φ i = [a]) (hs : Heap.SameBut a s.heap h') (hv : Val X.env s.heap x (.ref a))
  (he : h'.get? a = some (lstO vs n)) (hr : VRs W s.heap r.reverse vs.toList) (hz : r.length <= sizeLine) (ht : s.toks <= t := by first | exact Nat.le_refl _ | assumption | exact Nat.le_succ _ | omega | (dsimp only; omega) | (dsimp only at *; omega)) : At X W φ { s with heap := h', toks := t } (ρ.set i (some (.own r))) /\ Ag W s.heap W h' := by
 have hmem : a ∈ φ i := hi ▸ List.mem_cons_self
 obtain ⟨ag, pin, wf⟩ := F.f.turn (.inr (.inr ⟨i, hmem⟩)) hs
 have hno := (F.ow i a hmem).no F.f
 have hL : h'.get? X.env.locals = s.heap.get? X.env.locals := hs.2 _ (Ne.symm hno.1)
 have hC : ∀ y c, X.env.cells.lookup y = some c -> h'.get? c = s.heap.get? c := fun y c q => hs.2 c fun e => hno.2 y (e ▸ q)
 have val : ∀ y w, Val X.env s.heap y w -> Val X.env h' y w := fun y w q => by
  obtain ⟨q, m, ⟨o, es, ep, e, z⟩, hm⟩ | ⟨q, c, hc, o, e, z⟩ := q
  ·exact .inl ⟨q, m, ⟨o, es, ep, hL.trans e, z⟩, hm⟩
  ·exact .inr ⟨q, c, hc, o, (hC y c hc).trans e, z⟩
 refine ⟨⟨F.gens, F.os, { F.f with pin := pin, wf := wf, ns := ?_, cells := fun y c q => ?_ }, fun y j hy o w hk => ?_, fun j b q => ?_, fun h => Nat.lt_of_lt_of_le (F.tk h) ht, fun y v e => val y v (F.kv y v e)⟩, ag⟩
 ·obtain ⟨o, es, ep, e, z⟩ := F.f.ns; exact ⟨o, es, ep, hL.trans e, z⟩
 ·obtain ⟨o, v, e, z⟩ := F.f.cells y c q; exact ⟨o, v, (hC y c q).trans e, z⟩
 ·rcases set_get w with ⟨rfl, rfl⟩ | ⟨q, w⟩
  ·cases ti y hy
   exact ⟨_, val _ _ hv, a, hi, rfl, vs, n, he, hr.ag ag, hz⟩
  ·obtain ⟨w', b1, b2⟩ := F.lr y j hy o w hk
   exact ⟨w', val _ _ b1, b2.ag ag fun b z => hs.2 b fun e => q (F.f.dis j i a (e ▸ z) hmem)⟩
 ·by_cases e : b = a
  ·subst e; exact ⟨_, he, (fun J => by simp), hno.1⟩
  ·obtain ⟨o, z, y⟩ := F.ow j b q; exact ⟨o, (hs.2 b e).trans z, y⟩
end
end Mine
end
section
namespace Mine
def Hd (A : Around) (p : Addr -> Option Obj) : Prop := A.handled = none \/ ∃ e o vs, A.handled = some (.ref e) /\ p e = some o /\ o.data = .fields vs /\ vs[2]? = some .none
theorem Hd.mono {A : Around} {p q : Addr -> Option Obj} (h : Hd A p) (k : ∀ a o, p a = some o -> q a = some o) : Hd A q := h.imp id fun ⟨e, o, vs, h1, h2, h3⟩ => ⟨e, o, vs, h1, k e o h2, h3⟩
theorem Hd.monoF {A : Around} {p q : Addr -> Option Obj} (h : Hd A p) (k : ∀ a o vs, p a = some o -> o.data = .fields vs -> q a = some o) : Hd A q := h.imp id fun ⟨e, o, vs, h1, h2, h3⟩ => ⟨e, o, vs, h1, k e o vs h2 h3.1, h3⟩
theorem Hd.of {A B : Around} {p : Addr -> Option Obj} (h : Hd A p) (e : B.handled = A.handled) : Hd B p := by unfold Hd; rw [e]; exact h
theorem entry_unchain : entryFor table "proto.unchain" = some Builtin.«proto.unchain» := entryFor_of_fast (by left)
section
variable {prog : Program} {w : World} {A : Around} {s : Shared} {E : Value -> Shared -> Prop} {α : Type} {Q : α -> Shared -> Prop}
theorem raise_new {e : Addr} {o : Obj} {vs : Array Value} (hd : Hd A s.heap.get?) (he : s.heap.get? e = some o) (ho : o.data = .fields vs) (hz : 2 < vs.size) (k : ∀ h' o', (h' = s.heap /\ o' = o \/ A.handled ≠ none /\ ∃ v, h' = s.heap.update e (Obj.mapFields (·.setIfInBounds 2 v)) /\ o' = Obj.mapFields (·.setIfInBounds 2 v) o) -> E (.ref e) { s with heap := h' }) (hne : A.handled ≠ some (.ref e)) :
  wpAny (model prog w) A (raiseNew (.ref e) : Sem α) Q E s := by
 unfold raiseNew
 refine wpAny_bind (wpAny_handled ?_)
 rcases hd with hd | ⟨h, oh, us, h1, h2, h3, h4⟩
 ·rw [hd]
  exact wpAny_bind (wpAny_pure (wpAny_throw (k _ o (.inl ⟨rfl, rfl⟩))))
 ·rw [h1]
  have hn : (Value.ref h != Value.ref e) = true := by
   rw [bne_iff_ne]; intro q; rw [h1, q] at hne; exact hne rfl
  show wpAny _ _ (if (Value.ref h != Value.ref e) = true then _ else _) _ _ s
  rw [if_pos hn]
  refine wpAny_bind (wpAny_holding (wpAny_runValue (codeAny_builtin entry_unchain ?_)))
  show wpAny _ _ (field (.ref h) 2 >>= _) _ _ s
  refine wpAny_bind (wpAny_field h2 h3 h4 ?_)
  show wpAny _ _ (if (Value.none == Value.none) = true then _ else _) _ _ s
  rw [if_pos (by rfl)]
  refine wpAny_pure ?_
  show wpAny _ _ (updateField e 2 (.ref h) >>= fun J => throw (.ref e)) _ _ s
  refine wpAny_bind (wpAny_mono (wpAny_setField (x := .ref h) he ho hz (Q := fun J s' => E (.ref e) s') (k _ _ (.inr ⟨by rw [h1]; simp, _, rfl, rfl⟩))) (fun J s' q => wpAny_throw q) fun J J q => q)
theorem stop_new {Q : α -> Shared -> Prop} (hd : Hd A s.heap.get?) (k : ∀ h' e, (∀ b o, s.heap.get? b = some o -> h'.get? b = some o) -> (∃ o, h'.get? e = some o /\ o.cls = .type "StopIteration") -> E (.ref e) { s with heap := h' }) :
  wpAny (model prog w) A (newExc (.type "StopIteration") [] >>= fun e => (raiseNew e : Sem α)) Q E s := by
 refine wpAny_bind ?_
 simp only [newExc, newTuple]
 refine wpAny_bind (wpAny_newObj_type ?_ (by size_fits))
 refine wpAny_bind (m := firstArgMember _ _) (wpAny_of_eq (a := Value.none) (by first | rfl | (simp only [firstArgMember]; rfl)) ?_)
 refine wpAny_newObj_type ?_ (by size_fits)
 have k2 : ∀ b o, s.heap.get? b = some o -> ((s.heap.push { cls := .type "tuple", data := .seq ([] : List Value).toArray }).push { cls := .type "StopIteration", data := .fields (#[.ref s.heap.objs.size, .none, .none, .none, .bool false, .none] ++ ownMembersOf (.type "StopIteration") []) }).get? b = some o := fun b o e => Heap.get?_push_of_some _ (Heap.get?_push_of_some _ e)
 refine raise_new (o := { cls := .type "StopIteration", data := .fields (#[.ref s.heap.objs.size, .none, .none, .none, .bool false, .none] ++ ownMembersOf (.type "StopIteration") []) }) (hd.mono k2) (Heap.get?_push_size _ rfl) rfl (show (2 : Nat) < 6 by decide) (fun h' o' q => ?_) fun q => ?_
 ·rcases q with ⟨rfl, _⟩ | ⟨_, v, rfl, _⟩
  ·exact k _ _ k2 ⟨_, Heap.get?_push_size _ rfl, rfl⟩
  ·refine k _ _ (fun b o e => (Heap.get?_update_other _ _ fun q => ?_).trans (k2 b o e)) ⟨_, Heap.get?_update_self _ (Heap.get?_push_size _ rfl) rfl, rfl⟩
   have := Heap.lt_size e
   rw [<- q, Heap.size_push] at this
   exact absurd this (Nat.not_lt.mpr (Nat.le_succ _))
 ·rcases hd with hd | ⟨h, oh, us, h1, h2, _⟩
  ·rw [hd] at q; cases q
  ·rw [h1] at q
   have := Heap.lt_size h2
   cases q
   rw [Heap.size_push] at this
   exact absurd this (Nat.not_lt.mpr (Nat.le_succ _))
section
variable {p : Addr -> Option Obj} {it : Addr} {Q : Option Value -> Shared -> Prop}
theorem Hd.but (hd : Hd A p) (hp : ∀ a o, p a = some o -> s.heap.get? a = some o) (hi : p it = none) {h' : Heap} (k : Heap.ExtBut it s.heap h') : Hd A h'.get? := hd.mono fun a o e => k a o (fun q => by rw [q, hi] at e; cases e) (hp a o e)
theorem next_list_end {l : Addr} {i : Nat} {items} (hd : Hd A p) (hp : ∀ a o, p a = some o -> s.heap.get? a = some o) (hi : p it = none) (hit : s.heap.IsListIter it l i) (hl : s.heap.IsList l items) (hx : items[i]? = none)
  (hQ : ∀ h', Heap.ExtBut it s.heap h' -> Q none { s with heap := h' }) : wpAny (model prog w) A (pyNext (.ref it)) Q E s := by
 obtain ⟨o, ho, hc, hd'⟩ := id hit
 obtain ⟨ol, hol, _, nl, hdl⟩ := hl
 unfold pyNext
 refine wpAny_bind (wpAny_attempt (wpAny_callSpecial?_slot (name := Str.ofString "__next__") hit.typeIs slot_listiter_next (wpAny_call_entry slot_listiter_next hit.typeIs entry_listiter_next ?_ (args_listiter_next _))))
 show wpAny _ _ (field (.ref it) 0 >>= _) _ _ s
 refine wpAny_bind (wpAny_field ho hd' (x := .ref l) rfl ?_)
 show wpAny _ _ (if (Value.ref l == Value.none) = true then _ else _) _ _ s
 rw [if_neg (show ¬ ((Value.ref l == Value.none) = true) from Bool.false_ne_true)]
 show wpAny _ _ (field (.ref it) 1 >>= _) _ _ s
 refine wpAny_bind (wpAny_field ho hd' (x := .int i 0) rfl ?_)
 show wpAny _ _ (seqItems? (.ref l) >>= _) _ _ s
 refine wpAny_bind (wpAny_seqItems hol hdl ?_)
 simp only [Int.toNat_natCast, hx]
 refine wpAny_bind (wpAny_rule (wpAny_bind (wpAny_setField ho hd' (by simp) ?_)))
 refine stop_new ((hd.but hp hi (Heap.SameBut.update ..).extBut).of rfl) fun h' e k ⟨oe, h1, h2⟩ => ?_
 refine wpAny_bind (wpAny_isInstance (T := "StopIteration") (b := true) ⟨oe, h1, h2⟩ isSubtype_stop ?_)
 exact wpAny_pure (hQ _ fun b o hb e => k b o ((Heap.SameBut.update ..).extBut b o hb e))
theorem next_tuple_end {l : Addr} {i : Nat} {items} (hd : Hd A p) (hp : ∀ a o, p a = some o -> s.heap.get? a = some o) (hi : p it = none) (hit : s.heap.IsTupleIter it l i) (hl : s.heap.IsTuple l items) (hx : items[i]? = none)
  (hQ : ∀ h', Heap.ExtBut it s.heap h' -> Q none { s with heap := h' }) : wpAny (model prog w) A (pyNext (.ref it)) Q E s := by
 obtain ⟨o, ho, hc, hd'⟩ := id hit
 obtain ⟨ol, hol, _, nl, hdl⟩ := hl
 unfold pyNext
 refine wpAny_bind (wpAny_attempt (wpAny_callSpecial?_slot (name := Str.ofString "__next__") hit.typeIs F.slot_tuple_iterator_next (wpAny_call_entry F.slot_tuple_iterator_next hit.typeIs F.entry_tuple_iterator_next ?_ (F.args_tuple_iterator_next_1 _))))
 show wpAny _ _ (field (.ref it) 0 >>= _) _ _ s
 refine wpAny_bind (wpAny_field ho hd' (x := .ref l) rfl ?_)
 show wpAny _ _ (if (Value.ref l == Value.none) = true then _ else _) _ _ s
 rw [if_neg (show ¬ ((Value.ref l == Value.none) = true) from Bool.false_ne_true)]
 show wpAny _ _ (field (.ref it) 1 >>= _) _ _ s
 refine wpAny_bind (wpAny_field ho hd' (x := .int i 0) rfl ?_)
 show wpAny _ _ (seqItems? (.ref l) >>= _) _ _ s
 refine wpAny_bind (wpAny_seqItems hol hdl ?_)
 simp only [Int.toNat_natCast, hx]
 refine wpAny_bind (wpAny_rule (wpAny_bind (wpAny_setField ho hd' (by simp) ?_)))
 refine stop_new ((hd.but hp hi (Heap.SameBut.update ..).extBut).of rfl) fun h' e k ⟨oe, h1, h2⟩ => ?_
 refine wpAny_bind (wpAny_isInstance (T := "StopIteration") (b := true) ⟨oe, h1, h2⟩ isSubtype_stop ?_)
 exact wpAny_pure (hQ _ fun b o hb e => k b o ((Heap.SameBut.update ..).extBut b o hb e))
theorem next_range_end {x left step : Int} (hd : Hd A p) (hp : ∀ a o, p a = some o -> s.heap.get? a = some o) (hi : p it = none) (hit : IsRangeIter s.heap it x left step) (hleft : left <= 0)
  (hQ : ∀ h', Heap.ExtBut it s.heap h' -> Q none { s with heap := h' }) : wpAny (model prog w) A (pyNext (.ref it)) Q E s := by
 have hT : s.TypeIs (.ref it) "range_iterator" := ⟨_, hit, rfl⟩
 unfold pyNext
 refine wpAny_bind (wpAny_attempt (wpAny_callSpecial?_slot (name := Str.ofString "__next__") hT F.slot_range_iterator_next (wpAny_call_entry F.slot_range_iterator_next hT F.entry_range_iterator_next ?_ (F.args_range_iterator_next_1 _))))
 show wpAny _ _ (field (.ref it) 0 >>= _) _ _ s
 refine wpAny_bind (wpAny_field hit rfl (x := rawInt x) rfl ?_)
 show wpAny _ _ (field (.ref it) 1 >>= _) _ _ s
 refine wpAny_bind (wpAny_field hit rfl (x := rawInt left) rfl ?_)
 show wpAny _ _ (field (.ref it) 2 >>= _) _ _ s
 refine wpAny_bind (wpAny_field hit rfl (x := rawInt step) rfl ?_)
 show wpAny _ _ (if left <= 0 then _ else _) _ _ s
 rw [if_pos hleft]
 refine wpAny_bind (wpAny_rule ?_)
 refine wpAny_bind ?_
 refine stop_new ((hd.but hp hi (Heap.ExtBut.refl it s.heap)).of rfl) fun h' e k ⟨oe, h1, h2⟩ => ?_
 refine wpAny_bind (wpAny_isInstance (T := "StopIteration") (b := true) ⟨oe, h1, h2⟩ isSubtype_stop ?_)
 exact wpAny_pure (hQ _ fun b o hb e => k b o (Heap.ExtBut.refl it s.heap b o hb e))
theorem next_rev_end {l : Addr} (hd : Hd A p) (hp : ∀ a o, p a = some o -> s.heap.get? a = some o) (hi : p it = none) (hit : s.heap.IsRevIter it l (-1))
  (hQ : ∀ h', Heap.ExtBut it s.heap h' -> Q none { s with heap := h' }) : wpAny (model prog w) A (pyNext (.ref it)) Q E s := by
 obtain ⟨o, ho, hc, hd'⟩ := id hit
 unfold pyNext
 refine wpAny_bind (wpAny_attempt (wpAny_callSpecial?_slot (name := Str.ofString "__next__") hit.typeIs F.slot_lri_next (wpAny_call_entry F.slot_lri_next hit.typeIs F.entry_lri_next ?_ (F.args_lri_next_1 _))))
 unfold Builtin.«list_reverseiterator.__next__»
 refine wpAny_bind (wpAny_of_eq (a := (Value.ref it, [])) rfl ?_)
 try dsimp only
 refine wpAny_bind (wpAny_field ho hd' (x := rawInt (-1)) rfl ?_)
 show wpAny _ _ (if (-1 : Int) < 0 then _ else _) _ _ s
 rw [if_pos (by decide)]
 refine wpAny_bind (wpAny_rule ?_)
 refine wpAny_bind ?_
 refine stop_new ((hd.but hp hi (Heap.ExtBut.refl it s.heap)).of rfl) fun h' e k ⟨oe, h1, h2⟩ => ?_
 refine wpAny_bind (wpAny_isInstance (T := "StopIteration") (b := true) ⟨oe, h1, h2⟩ isSubtype_stop ?_)
 exact wpAny_pure (hQ _ fun b o hb e => k b o e)
theorem next_ascii_end {x : Str} {t : Tok} {i : Nat} (hd : Hd A p) (hp : ∀ a o, p a = some o -> s.heap.get? a = some o) (hi : p it = none) (hit : s.heap.IsStrIter it "str_ascii_iterator" x t i) (hx : x.cps[i]? = none)
  (hQ : ∀ h', Heap.ExtBut it s.heap h' -> Q none { s with heap := h' }) : wpAny (model prog w) A (pyNext (.ref it)) Q E s := by
 obtain ⟨o, ho, hc, hd'⟩ := id hit
 unfold pyNext
 refine wpAny_bind (wpAny_attempt (wpAny_callSpecial?_slot (name := Str.ofString "__next__") hit.typeIs F.slot_str_ascii_iterator_next (wpAny_call_entry F.slot_str_ascii_iterator_next hit.typeIs F.entry_str_ascii_iterator_next ?_ (F.args_str_ascii_iterator_next_1 _))))
 show wpAny _ _ (field (.ref it) 0 >>= _) _ _ s
 refine wpAny_bind (wpAny_field ho hd' (x := .str x t) rfl ?_)
 show wpAny _ _ (field (.ref it) 1 >>= _) _ _ s
 refine wpAny_bind (wpAny_field ho hd' (x := .int i 0) rfl ?_)
 simp only [Int.toNat_natCast, hx]
 refine wpAny_bind (wpAny_rule (wpAny_bind (wpAny_setField ho hd' (by simp) (wpAny_bind (wpAny_letGo ?_)))))
 refine stop_new ((hd.but hp hi (Heap.SameBut.update ..).extBut).of rfl) fun h' e k ⟨oe, h1, h2⟩ => ?_
 refine wpAny_bind (wpAny_isInstance (T := "StopIteration") (b := true) ⟨oe, h1, h2⟩ isSubtype_stop ?_)
 exact wpAny_pure (hQ _ fun b o hb e => k b o ((Heap.SameBut.update ..).extBut b o hb e))
theorem next_wide_end {x : Str} {t : Tok} {i : Nat} (hd : Hd A p) (hp : ∀ a o, p a = some o -> s.heap.get? a = some o) (hi : p it = none) (hit : s.heap.IsStrIter it "str_iterator" x t i) (hx : x.cps[i]? = none)
  (hQ : ∀ h', Heap.ExtBut it s.heap h' -> Q none { s with heap := h' }) : wpAny (model prog w) A (pyNext (.ref it)) Q E s := by
 obtain ⟨o, ho, hc, hd'⟩ := id hit
 unfold pyNext
 refine wpAny_bind (wpAny_attempt (wpAny_callSpecial?_slot (name := Str.ofString "__next__") hit.typeIs F.slot_str_iterator_next (wpAny_call_entry F.slot_str_iterator_next hit.typeIs F.entry_str_iterator_next ?_ (F.args_str_iterator_next_1 _))))
 show wpAny _ _ (field (.ref it) 0 >>= _) _ _ s
 refine wpAny_bind (wpAny_field ho hd' (x := .str x t) rfl ?_)
 show wpAny _ _ (field (.ref it) 1 >>= _) _ _ s
 refine wpAny_bind (wpAny_field ho hd' (x := .int i 0) rfl ?_)
 simp only [Int.toNat_natCast, hx]
 refine wpAny_bind (wpAny_rule (wpAny_bind (wpAny_setField ho hd' (by simp) (wpAny_bind (wpAny_letGo ?_)))))
 refine stop_new ((hd.but hp hi (Heap.SameBut.update ..).extBut).of rfl) fun h' e k ⟨oe, h1, h2⟩ => ?_
 refine wpAny_bind (wpAny_isInstance (T := "StopIteration") (b := true) ⟨oe, h1, h2⟩ isSubtype_stop ?_)
 exact wpAny_pure (hQ _ fun b o hb e => k b o ((Heap.SameBut.update ..).extBut b o hb e))
theorem assign_tuple {env : Env} {elts : List Expr} {x1} {pos : Pos} {t : Addr} {items : Array Value} {Q : Unit -> Shared -> Prop} (hd : Hd A s.heap.get?) (ht : s.heap.IsTuple t items) (hn : (assignEach elts env).length = items.size) (hstar : (assignEach elts env).findIdx? (·.1) = none)
  (h : ∀ h', Heap.ExtBut s.heap.objs.size s.heap h' -> wpAny (model prog w) A (assignInOrder ((assignEach elts env).map (·.2)) items.toList) Q E { s with heap := h' }) : wpAny (model prog w) A (assign (.Tuple elts x1 pos) env (.ref t)) Q E s := by
 have hlt : t ≠ s.heap.objs.size := by obtain ⟨o, ho, _⟩ := ht; exact Nat.ne_of_lt (Heap.lt_size ho)
 have hnew : s.heap.get? s.heap.objs.size = none := by
  cases q : s.heap.get? s.heap.objs.size with
  | none => rfl
  | some o => exact absurd (Heap.lt_size q) (Nat.lt_irrefl _)
 rw [arm_assign_Tuple]
 refine wpAny_bind (wpAny_standAt ?_)
 unfold unpack
 rw [hn, hstar]
 refine wpAny_bind (wpAny_holding ?_)
 unfold unpackItems notIterableAtAll
 refine wpAny_bind (wpAny_bind (wpAny_specialOf ht.typeIs F.slot_tuple_iter.lookup (wpAny_pure ?_)))
 simp only [Bool.false_eq_true, if_false]
 refine wpAny_bind (wpAny_holding (wpAny_pyIter_tuple ht ?_))
 refine wpAny_bind (wpAny_holding (wpAny_draw_tuple hlt items.size 0 _ _ ⟨_, Heap.get?_push_size _ rfl, rfl, rfl⟩ (ht.push _) (by omega) fun h₁ hit₁ hs₁ => ?_))
 rw [show List.take items.size (List.drop 0 items.toList) = items.toList from by rw [List.drop_zero]; exact List.take_of_length_le (by simp), if_neg (by simp)]
 refine wpAny_bind (wpAny_holding (next_tuple_end hd (fun a o e => hs₁.extBut a o (Nat.ne_of_lt (Heap.lt_size e)) (Heap.get?_push_of_some _ e)) hnew hit₁ ((ht.push _).extBut hs₁.extBut hlt) (by simp) fun h₂ he₂ => ?_))
 simp only [Option.isSome_none, Bool.false_eq_true, if_false]
 exact wpAny_pure (h h₂ fun b o hb e => he₂ b o hb (hs₁.extBut b o hb (Heap.get?_push_of_some _ e)))
end
end
end Mine
end
section
namespace Mine
def Ctxd (A : Around) (e : Addr) (h h' : Heap) : Prop := h' = h \/ (A.handled ≠ none /\ ∃ v, h' = h.update e (Obj.mapFields (·.setIfInBounds 2 v)))
section
variable {prog : Program} {w : World} {A : Around} {E : Value -> Shared -> Prop} {s : Shared} {env : Env}
variable {nm q : Str} {C N : Addr} {bs bm bmB : List Value} {hdct : Bool} {sn : List Str} {sub : List Value} {ab : Bool} {col : Option Bool} {dd : Option Addr} {k0 k1 k2 k3 k5 : Option Value} {B newId nid initId Bn inN : String} {bmN : List Value}
theorem raise_made {x : Sem Value} {Q : Flow -> Shared -> Prop} (hbase : bm.contains (.type "BaseException") = true)
  (h : wpAny (model prog w) A x (fun v s₁ => ∃ e t, v = .ref e /\ Hd A s₁.heap.get? /\ A.handled ≠ some (.ref e) /\ s₁.heap.get? C = some (excClassObj nm q C N bs bm hdct sn sub ab col dd k0 k1 k2 k3 k5 newId) ∧
   s₁.heap.get? e = some { cls := .ref C, data := .fields #[.ref t, .none, .none, .none, .bool false, .none] } /\ ∀ h', Ctxd A e s₁.heap h' -> E (.ref e) { s₁ with heap := h' }) E s) :
  wpAny (model prog w) A (raiseStmt env (some x) none) Q E s := by
 have hcB : (Value.ref C :: bm).contains (.type "BaseException") = true := by rw [List.contains_cons, hbase, Bool.or_true]
 unfold raiseStmt
 refine wpAny_bind (wpAny_mono h (fun v s₁ h₁ => ?_) fun J J x => x)
 obtain ⟨e, t, rfl, hd, hne, hC, he, hE⟩ := h₁
 obtain ⟨hp, g, d, tk, os⟩ := s₁
 repeat (first | with_reducible refine wpAny_loadPart_at he ?_ | with_reducible refine wpAny_loadPart_at hC ?_ | (with_reducible refine wpAny_isSubtype_exc hC ?_; rw [hcB]) | wp_step)
 exact raise_new hd he rfl (show (2 : Nat) < 6 by decide) (fun h' o' q => hE h' (q.imp (·.1) fun ⟨hn, v, z, _⟩ => ⟨hn, v, z⟩)) hne
theorem raise_call (Fn : ExcBaseFacts Bn newId inN bmN) (hBn : bmB.contains (.type Bn) = true) (F : ExcBaseFacts B nid initId bmB) {mN : Str -> Option Value} {x : Str} {np cpos pos : Pos} {args : List Expr} {Q : Flow -> Shared -> Prop}
  (hbase : bm.contains (.type "BaseException") = true) (hplain : (backTo cpos (starEach args env)).any (·.1) = false) (hni : mN "__init__" = none)
  (h : wpAny (model prog w) A (eval (.Name x np) env) (fun f s₁ => f = .ref C /\ wpAny (model prog w) A (evalArgs (.ref C) true (backTo cpos (starEach args env)) [])
   (fun a s₂ => a.kw = [] /\ Hd A s₂.heap.get? /\ a.pos.length <= sizeLine /\ s₂.heap.get? C = some (excClassObj nm q C N bs bm hdct sn sub ab col dd k0 k1 k2 k3 k5 newId) /\ s₂.heap.Ns N mN /\ OwnTail s₂.heap bmB bm ∧
    ∀ h' e h2, Heap.MadeExcOf s₂.heap h' e (.ref C) a.pos -> Ctxd A e h' h2 -> E (.ref e) { s₂ with heap := h2 }) E s₁) E s) :
  wpAny (model prog w) A (exec (.Raise (some (.Call (.Name x np) args [] cpos)) none pos) env) Q E s := by
 rw [arm_exec_Raise]
 refine wpAny_bind (wpAny_standAt (raise_made (C := C) (nm := nm) (q := q) (N := N) (bs := bs) (bm := bm) (hdct := hdct) (sn := sn) (sub := sub) (ab := ab) (col := col) (dd := dd) (k0 := k0) (k1 := k1) (k2 := k2) (k3 := k3) (k5 := k5) (newId := newId) hbase (wpAny_bind (wpAny_mono (wpAny_Call_ofName (wpAny_mono h (fun f s₁ h₁ => ?_) fun J J x => x)) (fun v s₃ h₃ => wpAny_bind (wpAny_standAt (wpAny_pure h₃))) fun J J x => x))))
 obtain ⟨rfl, h₁⟩ := h₁
 unfold callWith
 refine wpAny_bind (wpAny_holding (wpAny_mono h₁ (fun a s₂ h₂ => wpAny_bind (wpAny_standAt ?_)) fun J J x => x))
 obtain ⟨apos, akw⟩ := a
 obtain ⟨hkw, hd, hlen, hC, hn, T, h₂⟩ := h₂
 obtain rfl : akw = [] := hkw
 obtain ⟨hp, g, d, tk, os⟩ := s₂
 simp only [hplain]
 refine wpAny_bind (wpAny_keeperOf_exc hC ?_)
 refine wpAny_bind (wpAny_call_exc_subU (hrest := hlen) Fn hBn F T hC hn hni fun h' e hm => wpAny_bind (wpAny_holding (wpAny_point (wpAny_pure ?_))))
 obtain ⟨t, ht, _, _⟩ := hm.there
 refine ⟨e, t, rfl, hd.mono hm.keeps, fun z => ?_, hm.keeps _ _ hC, ht, fun h2 c => h₂ h' e h2 hm c⟩
 rcases hd with hd | ⟨e', o, vs, h1, h2, _⟩
 ·rw [hd] at z; cases z
 ·rw [h1] at z; cases z
  rw [hm.new] at h2; cases h2
end
end Mine
end
section
namespace Mine
theorem dict_mapFields (o : Obj) (f : Array Value -> Array Value) : (o.mapFields f).dict = o.dict := by unfold Obj.mapFields; split <;> rfl
def C2 (h : Heap) (e : Addr) (c : Value) : Prop := ∃ oe vs, h.get? e = some oe /\ oe.data = .fields vs /\ vs[2]? = some c /\ oe.dict = none
section
variable {M : Model} {A : Around} {E : Value -> Shared -> Prop} {s : Shared} {c : Value}
theorem C2.of {h h' : Heap} {e : Addr} (x : C2 h e c) (k : h'.get? e = h.get? e) : C2 h' e c := let ⟨oe, vs, a, b⟩ := x; ⟨oe, vs, k.trans a, b⟩
theorem entryC {base : Heap} {env : Env} {outer : List Env} {L e : Addr} {oe : Obj} {vs : Array Value} {head a0 : Value} {hadNext : Bool} {Q : Unit -> Shared -> Prop}
  (hfr : A.frames = some (env :: outer)) (hl : s.heap.FunFrames base (env :: outer)) (hf : env.frame = some L)
  (he : s.heap.get? e = some oe) (hkb : base.StaysIn s.heap) (hen : base.get? e = none) (hd : oe.data = .fields vs) (hsz : 1 < vs.size) (h0 : vs[0]? = some a0) (hc : vs[2]? = some c /\ oe.dict = none)
  (h : ∀ h', Heap.NotedW base (env :: outer) e oe.cls a0 (rawInt L) s.heap h' -> C2 h' e c -> Q () { s with heap := h' }) :
  wpAny M A (do let a <- frameOf env; let pl <- entryPlaceOf L hadNext; let b <- EntryCells.newEntry head a .none (rawInt L) .none pl; setField (.ref e) 1 b) Q E s := by
 have hene : e ∉ (env :: outer).filterMap (·.frame) := fun hm => by
  obtain ⟨_, o, ho, hnf⟩ := hl.mem hm
  rw [he] at ho; cases ho; exact hnf vs hd
 refine wpAny_bind (wpAny_frameOf_fun hfr hl hf fun h₁ hs₁ => wpAny_bind (wpAny_entryPlaceOf fun pl hpl => ?_))
 unfold EntryCells.newEntry newFields
 refine wpAny_bind (wpAny_newObj_type ?_ (hpl.sizeOk5 _ _ _ _ _))
 generalize hob : ({ cls := .type "traceback", dict := none, data := .fields ([head, .ref L, .none, rawInt L, .none] ++ (if pl.isEmpty then List.replicate 6 Value.none else pl)).toArray } : Obj) = ob
 have obd : ob.data = .fields ([head, .ref L, .none, rawInt L, .none] ++ (if pl.isEmpty then List.replicate 6 Value.none else pl)).toArray := by rw [<- hob]
 have obf : ob.isFreed = false := by rw [<- hob]; rfl
 have he₁ : h₁.get? e = some oe := (hs₁.2.1 e hene).trans he
 have kb₁ : base.StaysIn h₁ := fun b o hbo => (hs₁.2.1 b fun hm => by rw [(hl.mem hm).1] at hbo; cases hbo).trans (hkb b o hbo)
 have he₂ := Heap.get?_push_of_some (h := h₁) ob he₁
 have hTe : h₁.objs.size ≠ e := Nat.ne_of_gt (Heap.lt_size he₁)
 have hd₃ := Obj.data_mapFields hd (·.setIfInBounds 1 (Value.ref h₁.objs.size))
 have he₃ := Heap.get?_update_self (Obj.mapFields (·.setIfInBounds 1 (Value.ref h₁.objs.size))) he₂ (Obj.isFreed_of_fields hd₃)
 have hT₃ := (Heap.get?_update_other (h₁.push ob) (Obj.mapFields (·.setIfInBounds 1 (Value.ref h₁.objs.size))) (Ne.symm hTe)).trans (Heap.get?_push_size h₁ obf)
 have keep : ∀ b o, b ≠ e -> h₁.get? b = some o -> ((h₁.push ob).update e (Obj.mapFields (·.setIfInBounds 1 (Value.ref h₁.objs.size)))).get? b = some o := fun b o hbe hb => (Heap.get?_update_other _ _ (Ne.symm hbe)).trans (Heap.get?_push_of_some _ hb)
 have noRecord : ∀ b o, s.heap.get? b = some o -> (∀ vs, o.data ≠ .fields vs) -> b ≠ e := fun b o hb hnf q => by
  rw [q, he] at hb; cases hb; exact hnf vs hd
 refine wpAny_setField he₂ hd hsz (h _ ⟨fun b o hbo => keep b o (fun q => by rw [q, hen] at hbo; cases hbo) (kb₁ b o hbo), hl.of_keeps fun b o hb hnf => ?_, ?_, fun b o hb hnf => ?_⟩ ⟨_, _, he₃, hd₃, by rw [Array.getElem?_setIfInBounds_ne (by decide)]; exact hc.1, (dict_mapFields _ _).trans hc.2⟩)
 ·obtain ⟨sl, hs⟩ := hs₁.2.2 b o hb
  exact ⟨_, keep b _ (noRecord b o hb hnf) hs, rfl⟩
 ·exact ⟨_, _, h₁.objs.size, _, _, he₃, ⟨Obj.cls_mapFields _ _, by rw [Array.getElem?_setIfInBounds_ne (by decide)]; exact h0⟩, hd₃, by simp [hsz], kb₁.fresh, hTe, hT₃, obd, by first | (simp; done) | (rcases hpl with rfl | ⟨_, _, _, _, _, _, _, rfl⟩ <;> simp)⟩
 ·obtain ⟨sl, hs⟩ := hs₁.2.2 b o hb
  exact ⟨sl, keep b _ (noRecord b o hb hnf) hs⟩
theorem looksC {base : Heap} {env : Env} {outer : List Env} {L e : Addr} {cls a0 : Value} {Q : Unit -> Shared -> Prop}
  (hfr : A.frames = some (env :: outer)) (hf : env.frame = some L) (hfl : Heap.FlyingW base (env :: outer) e cls a0 s.heap) (hc : C2 s.heap e c)
  (hQ : ∀ h', Heap.HeldW base (env :: outer) e cls a0 L h' -> s.heap.UpToSlots h' -> C2 h' e c -> Q () { s with heap := h' }) : wpAny M A (noteFrame (.ref e) env) Q E s := by
 obtain ⟨hkb, hen, hl, oe, vs, T, oT, ts, he, ⟨hcls, h0⟩, hd, h1, hnT, hTe, hT, hdT, h3⟩ := hfl
 subst hcls
 have hc2 : vs[2]? = some c /\ oe.dict = none := by obtain ⟨o2, v2, a, b, z⟩ := hc; rw [he] at a; cases a; rw [hd] at b; cases b; exact z
 unfold noteFrame
 simp only [hf]
 refine wpAny_bind (wpAny_field he hd h1 ?_)
 rw [if_pos (show (Value.ref T != Value.none) = true from by simp)]
 refine wpAny_bind (wpAny_field hT hdT h3 ?_)
 rw [if_neg (show ¬ ((Value.none == rawInt L) = true) from by simp [rawInt])]
 refine wpAny_bind (wpAny_setField hT hdT (Array.getElem?_eq_some_iff.mp h3).1 ?_)
 have other : ∀ b, b ≠ T -> (s.heap.update T (Obj.mapFields (·.setIfInBounds 3 Value.none))).get? b = s.heap.get? b := fun b hb => Heap.get?_update_other _ _ (Ne.symm hb)
 have noRecord : ∀ b o, s.heap.get? b = some o -> (∀ vs, o.data ≠ .fields vs) -> b ≠ T := fun b o hb hnf q => by
  rw [q, hT] at hb; cases hb; exact hnf ts hdT
 exact entryC hfr (hl.of_keeps fun b o hb hnf => ⟨o, (other b (noRecord b o hb hnf)).trans hb, rfl⟩) hf ((other e (Ne.symm hTe)).trans he)
  (fun b o hbo => (other b fun q => by rw [q, hnT] at hbo; cases hbo).trans (hkb b o hbo)) hen hd (Array.getElem?_eq_some_iff.mp h1).1 h0 hc2
  fun h' ⟨x1, x2, x3, x4⟩ z => hQ h' ⟨x1, hen, x2, x3⟩ (fun b o hb hnf => x4 b o ((other b (noRecord b o hb hnf)).trans hb) hnf) z
theorem landsG {base : Heap} {l : List Env} {e : Addr} {cls a0 fl : Value} {Q : Unit -> Shared -> Prop} (hh : base.StaysIn s.heap /\ base.get? e = none /\ s.heap.FunFrames base l /\ s.heap.TracedAtW base e cls a0 fl) (hc : C2 s.heap e c)
  (hQ : ∀ h', Heap.FlyingW base l e cls a0 h' -> s.heap.UpToSlots h' -> C2 h' e c -> Q () { s with heap := h' }) : wpAny M A (setFlight (.ref e) none) Q E s := by
 obtain ⟨hkb, hen, hl, oe, vs, T, oT, ts, he, hcls, hd, h1, hnT, hTe, hT, hdT, h3⟩ := hh
 have hsz3 : 3 < ts.size := (Array.getElem?_eq_some_iff.mp h3).1
 have other : ∀ b, b ≠ T -> (s.heap.update T (Obj.mapFields (·.setIfInBounds 3 ((none : Option Addr).elim Value.none fun f => rawInt f)))).get? b = s.heap.get? b := fun b hb => Heap.get?_update_other _ _ (Ne.symm hb)
 have noRecord : ∀ b o, s.heap.get? b = some o -> (∀ vs, o.data ≠ .fields vs) -> b ≠ T := fun b o hb hnf q => by
  rw [q, hT] at hb; cases hb; exact hnf ts hdT
 unfold setFlight
 refine wpAny_bind (wpAny_field he hd h1 ?_)
 rw [if_pos (show (Value.ref T != Value.none) = true from by simp)]
 refine wpAny_setField hT hdT hsz3 (hQ _ ⟨fun b o hbo => (other b fun q => by rw [q, hnT] at hbo; cases hbo).trans (hkb b o hbo), hen, hl.of_keeps fun b o hb hnf => ⟨o, (other b (noRecord b o hb hnf)).trans hb, rfl⟩, ?_⟩ (fun b o hb hnf => ⟨o.slots, (other b (noRecord b o hb hnf)).trans hb⟩) (hc.of (other e (Ne.symm hTe))))
 exact ⟨oe, vs, T, _, _, (other e (Ne.symm hTe)).trans he, hcls, hd, h1, hnT, hTe, Heap.get?_update_self _ hT (Obj.isFreed_of_fields (Obj.data_mapFields hdT _)), Obj.data_mapFields hdT _, by simp [hsz3]⟩
theorem landsC {base : Heap} {l : List Env} {e L : Addr} {cls a0 : Value} {Q : Unit -> Shared -> Prop} (hh : Heap.HeldW base l e cls a0 L s.heap) (hc : C2 s.heap e c)
  (hQ : ∀ h', Heap.FlyingW base l e cls a0 h' -> s.heap.UpToSlots h' -> C2 h' e c -> Q () { s with heap := h' }) : wpAny M A (setFlight (.ref e) none) Q E s := landsG hh hc hQ
theorem landsA {base : Heap} {l : List Env} {e : Addr} {cls a0 : Value} {Q : Unit -> Shared -> Prop} (hh : Heap.FlyingW base l e cls a0 s.heap) (hc : C2 s.heap e c)
  (hQ : ∀ h', Heap.FlyingW base l e cls a0 h' -> s.heap.UpToSlots h' -> C2 h' e c -> Q () { s with heap := h' }) : wpAny M A (setFlight (.ref e) none) Q E s := landsG ⟨hh.1, hh.2.1, hh.2.2.1, hh.2.2.2.at⟩ hc hQ
def CK (A : Around) (h : Heap) (e : Addr) : Prop := ∃ c, C2 h e c /\ (A.handled = none -> c = .none)
theorem CK.of {h h' : Heap} {e : Addr} (x : CK A h e) (k : h'.get? e = h.get? e) : CK A h' e := let ⟨c, a, b⟩ := x; ⟨c, a.of k, b⟩
theorem Ctxd.there {h h1 h2 : Heap} {e : Addr} {cls : Value} {args : List Value} (m : Heap.MadeExcOf h h1 e cls args) (x : Ctxd A e h1 h2) : ∃ (t : Addr) (c : Value) (vs : Array Value), h2.get? e = some { cls := cls, data := .fields vs } /\ vs[0]? = some (.ref t) /\ vs[1]? = some .none /\ vs[2]? = some c /\ (A.handled = none -> c = .none) /\ ∀ b o, h.get? b = some o -> h2.get? b = some o := by
 obtain ⟨t, he, _, _⟩ := m.there
 rcases x with rfl | ⟨hn, v, rfl⟩
 ·exact ⟨t, .none, _, he, rfl, rfl, rfl, fun J => rfl, m.keeps⟩
 ·refine ⟨t, v, _, Heap.get?_update_self _ he rfl, rfl, rfl, rfl, fun q => absurd q hn, fun b o e' => (Heap.get?_update_other _ _ fun q => ?_).trans (m.keeps b o e')⟩
  rw [<- q, m.new] at e'; cases e'
end
end Mine
end
section
namespace Mine
inductive Ty | tuple | str | int | bool | list deriving DecidableEq
inductive Kd | none | bool | int | str | tup | list deriving DecidableEq
noncomputable def Kd.v (k : Kd) : Value := .type (Kd.rec "NoneType" "bool" "int" "str" "tuple" "list" k)
noncomputable def Ty.n (t : Ty) : String := Ty.rec "tuple" "str" "int" "bool" "list" t
noncomputable def isiK (k : Kd) (t : Ty) : Bool := Kd.rec false (Ty.rec false false true true false t) (Ty.rec false false true false false t) (Ty.rec false true false false false t) (Ty.rec true false false false false t) (Ty.rec false false false false true t) k
structure FD where
 ps : List Str
 fi : FI
 st : List Stmt
structure Gl where
 fn : List (Str × Addr)
 fd : List (Addr × FD)
 bn : List Str
 ty : List Ty
 mo : Cx -> Prop
 w : World
 cl : List (Str × CT × Addr)
 me : List (Addr × Str × Addr)
 hn : Bool
def HdG (G : Gl) (A : Around) (p : Addr -> Option Obj) : Prop := Hd A p /\ (G.hn = true -> A.handled = none)
theorem HdG.mono {G : Gl} {A : Around} {p q : Addr -> Option Obj} (h : HdG G A p) (k : ∀ a o, p a = some o -> q a = some o) : HdG G A q := ⟨h.1.mono k, h.2⟩
theorem HdG.monoF {G : Gl} {A : Around} {p q : Addr -> Option Obj} (h : HdG G A p) (k : ∀ a o vs, p a = some o -> o.data = .fields vs -> q a = some o) : HdG G A q := ⟨h.1.monoF k, h.2⟩
theorem HdG.of {G : Gl} {A B : Around} {p : Addr -> Option Obj} (h : HdG G A p) (e : B.handled = A.handled) : HdG G B p := ⟨h.1.of e, fun q => e.trans (h.2 q)⟩
theorem HdG.none {G : Gl} {A : Around} {p : Addr -> Option Obj} (h : A.handled = .none) : HdG G A p := ⟨.inl h, fun J => h⟩
open PySem.W (clsIn findIn typeIn specialIn takesIn mroIn makesIn plainGet hasDictIn plainOver takerIn isFn InstAt kitAny lookIn)
def clsChk (K : Frag) (C fI : Addr) (attrs : List Str) : Bool :=
 makesIn K C && plainGet K C "__class__" && hasDictIn K C && (findIn K (.ref C) "__setattr__" == some (some (.builtin "object.__setattr__"))) && plainOver K C &&
 (findIn K (.ref C) "__init__" == some (some (.ref fI))) && isFn K (.ref fI) &&
 (findIn K (.ref C) "__class__" == some (some (.builtin "object.__class__"))) && (specialIn K (.builtin "object.__class__") "__get__" == some (some (.builtin "getset_descriptor.__get__"))) &&
 (takesIn K (.builtin "object.__class__") == some true) && (mroIn K C (.type "object") == some true) && attrs.all fun a => (findIn K (.ref C) a == some none) && (takerIn K C a == some none)
structure ClsAt (C : Cx) (x : Str) (t : CT) (a : Addr) : Prop where
 g : C.mg x = some (.ref t.c)
 keep : keepIn C.K (.ref t.c) = true
 chk : clsChk C.K t.c a (t.vn ++ t.ln) = true
 nd : (t.vn ++ t.ln).Nodup
 few : (t.vn ++ t.ln).length <= 100
 no : ∀ k : Kd, kitOne C.K k.v (.ref t.c) = some false
 yes : kitOne C.K (.ref t.c) (.ref t.c) = some true
structure MeAt (C : Cx) (c : Addr) (x : Str) (a : Addr) : Prop where
 find : findIn C.K (.ref c) x = some (some (.ref a))
 ty : typeIn C.K (.ref a) = some (.type "function")
 keep : keepIn C.K (.ref a) = true
def deep : Nat := 2000
structure FnOk (C : Cx) (a : Addr) (f : FD) (o : Obj) (fd : FuncData) : Prop where
 at_ : C.h.get? a = some o
 dat : o.data = .func fd
 body : fd.body = .stmts f.st
 clo : fd.closure = []
 gl : fd.globals = mainGlobals
 bi : fd.builtins = builtinsNs
 co : fd.scope.isCoroutine = false
 gen : fd.scope.isGenerator = false
 kind : fd.scope.kind = .function
 rec_ : C.h.CodeRec fd.code fd.qualname
 bind : ∀ vals : List Value, vals.length = f.ps.length -> bindArgs fd ⟨vals, []⟩ = pure (f.ps.zip vals)
 nodup : f.ps.Nodup
 names : fd.scope.names = f.fi.names
 own : ∀ p, p ∈ f.ps -> f.fi.names.lookup p = some .local \/ f.fi.names.lookup p = some .cell
 free : ∀ x, x ∈ f.fi.names -> x.2 ≠ .free
 at0 : ∀ i p, f.ps[i]? = some p -> f.fi.tbl.lookup p = some i
 inj : ∀ y z j, f.fi.tbl.lookup y = some j -> f.fi.tbl.lookup z = some j -> y = z
structure GOk (G : Gl) (C : Cx) : Prop where
 X : C.K.In C.h
 g : C.h.Ns mainGlobals C.mg
 b : C.h.Ns builtinsNs C.mb
 bi : ∀ x : Str, x ≠ "__name__" -> C.mb x = bootBuiltins x
 nolimit : C.h.NoLimit
 isi : ∀ k t, t ∈ G.ty -> kitOne C.K k.v (.type t.n) = some (isiK k t)
 bn : ∀ x, x ∈ G.bn -> C.mg x = none /\ x ≠ "__name__"
 fn : ∀ x a, G.fn.lookup x = some a -> C.mg x = some (.ref a) /\ keepIn C.K (.ref a) = true
 fd : ∀ a f, G.fd.lookup a = some f -> ∃ o fd, FnOk C a f o fd
 mo : G.mo C
 w : C.w = G.w
 cl : ∀ x t a, G.cl.lookup x = some (t, a) -> ClsAt C x t a
 me : ∀ c x a, (c, x, a) ∈ G.me -> MeAt C c x a
structure FS (G : Gl) (d : Nat) (X : FC) : Prop where
 g : GOk G X.C
 base : ∀ a o, X.C.h.get? a = some o -> X.pin a = some o
 hd : HdG G X.A X.pin
 dp : X.A.depth + 2 * d + 10 <= recursionLimit
 un : X.A.units + 20 * d + deep + 100 < cLine
 fn : X.env.scope.kind = .function
 gl : X.env.globals = mainGlobals
 bi : X.env.builtins = builtinsNs
 nm : X.env.scope.names = X.fi.names
 cel : ∀ x, X.fi.names.lookup x = some .cell \/ X.fi.names.lookup x = some .free -> ∃ c, X.env.cells.lookup x = some c
 inj : ∀ x y c, X.env.cells.lookup x = some c -> X.env.cells.lookup y = some c -> x = y
 ti : ∀ y z j, X.fi.tbl.lookup y = some j -> X.fi.tbl.lookup z = some j -> y = z
 kv : ∀ x v, X.kv x = some v -> X.fi.kp.contains x = true
def FI.isVar (fi : FI) (x : Str) (i : Nat) : Bool := fi.tbl.lookup x == some i && (fi.names.lookup x == some .local || fi.names.lookup x == some .cell || fi.names.lookup x == some .free) && x != "__debug__" && x != "__classdict__"
def FI.isOwn (fi : FI) (x : Str) (i : Nat) : Bool := fi.tbl.lookup x == some i && (fi.names.lookup x == some .local || fi.names.lookup x == some .cell) && !fi.kp.contains x
def FI.isGlob (fi : FI) (x : Str) : Bool := fi.names.lookup x == some .globalImplicit && x != "__debug__"
def isBi (G : Gl) (fi : FI) (x : Str) : Bool := fi.isGlob x && G.bn.contains x
section
variable {G : Gl} {d : Nat} {X : FC} {W : WS} {φ : Nat -> List Addr} {s : Shared} {ρ : Loc} {E : Value -> Shared -> Prop}
theorem FS.kind (S : FS G d X) (x : Str) : X.env.kindOf x = X.fi.names.lookup x := by unfold Env.kindOf; rw [S.nm]
theorem At.keep (F : At X W φ s ρ) (S : FS G d X) : ∀ a o, X.C.h.get? a = some o -> s.heap.get? a = some o := fun a o e => F.f.pin a o (S.base a o e)
theorem At.In (F : At X W φ s ρ) (S : FS G d X) : X.C.K.In s.heap := S.g.X.keeps (F.keep S)
theorem load_ok {x : Str} {i : Nat} {p : Pos} {o : O} {Q : Value -> Shared -> Prop} (S : FS G d X) (F : At X W φ s ρ) (hx : X.fi.isVar x i = true) (e : ρ[i]? = some (some o))
  (h : ∀ v', X.fi.tbl.lookup x = some i -> X.env.kindOf x ≠ none -> Val X.env s.heap x v' -> OR W s.heap (φ i) o v' -> Q v' s) : wpAny X.C.M X.A (eval (.Name x p) X.env) Q E s := by
 simp only [FI.isVar, Bool.and_eq_true, beq_iff_eq, bne_iff_ne, ne_eq, Bool.or_eq_true] at hx
 obtain ⟨⟨⟨h1, h2⟩, h3⟩, h4⟩ := hx
 have hk : X.env.kindOf x ≠ none := by rw [S.kind]; rintro q; rcases h2 with (z | z) | z <;> rw [q] at z <;> cases z
 obtain ⟨v', a, b⟩ := F.lr x i h1 o e hk
 refine wpAny_Name ?_ (by simpa using h3)
 have fin := h v' h1 hk a b
 rcases a with ⟨hk, m, hn, hm⟩ | ⟨hk | hk, c, hc, hv⟩
 ·exact wpAny_loadName_local S.fn hk hn hm fin
 ·exact wpAny_loadName_cell S.fn hk hc hv fin
 ·exact wpAny_loadName_free S.fn hk hc hv fin (by simpa using h4)
theorem store_ok {x : Str} {i : Nat} {o : O} {v' : Value} {Q : Unit -> Shared -> Prop} (S : FS G d X) (hcm : X.fi.names.lookup x = some .local \/ X.cm = true) (F : At X W φ s ρ) (r : RO X W φ s.heap o v') (hx : X.fi.isOwn x i = true)
  (h : ∀ φ' s', At X W φ' s' (ρ.set i (some o)) -> Ag W s.heap W s'.heap -> Q () s') : wpAny X.C.M X.A (storeName X.env x v') Q E s := by
 simp only [FI.isOwn, Bool.and_eq_true, beq_iff_eq, Bool.or_eq_true, Bool.not_eq_true'] at hx
 obtain ⟨⟨h1, h2⟩, h0⟩ := hx
 have hxk : X.kv x = none := by
  cases q : X.kv x with
  | none => rfl
  | some v => have := S.kv x v q; rw [h0] at this; cases this
 obtain ⟨p, r, hp⟩ := r
 have ti : ∀ y, X.fi.tbl.lookup y = some i -> y = x := fun y hy => S.ti y x i hy h1
 rcases h2 with h2 | h2
 ·have hk := (S.kind x).trans h2
  obtain ⟨o1, es, ep, ho, hd, hs⟩ := F.f.ns
  have hn : s.heap.Ns X.env.locals (fun y => nsFind es y) := ⟨o1, es, ep, ho, hd, hs, fun J => rfl⟩
  refine wpAny_storeName_local hk hn (fun h' hn' hs' => ?_) (by rw [S.fn]; rfl)
  have hC : ∀ y c, X.env.cells.lookup y = some c -> c ≠ X.env.locals := fun y c hc q => by
   obtain ⟨o2, _, e2, e3⟩ := F.f.cells y c hc; rw [q, ho] at e2; cases e2; rw [hd] at e3; cases e3
  obtain ⟨A, B⟩ := F.store hxk (t := s.toks + 1) ti h1 r hp (.inl rfl) hs' (.inl ⟨hk, _, hn', by simp⟩) (fun y w hy q => by
   rcases q with ⟨a1, m, a2, a3⟩ | ⟨a1, c, a2, a3⟩
   ·refine .inl ⟨a1, _, hn', ?_⟩
    rw [if_neg hy]
    obtain ⟨o2, es2, ep2, ho2, hd2, _, hf2⟩ := a2
    rw [ho] at ho2; cases ho2; rw [hd] at hd2; cases hd2
    exact (hf2 y).trans a3
   ·exact .inr ⟨a1, c, a2, a3.sameBut hs' (hC y c a2)⟩)
   (by obtain ⟨o2, es2, ep2, a, b, c, _⟩ := hn'; exact ⟨o2, es2, ep2, a, b, c⟩) (fun y c hc => by
    obtain ⟨o2, v2, a, b⟩ := F.f.cells y c hc; exact ⟨o2, v2, (hs'.2 c (hC y c hc)).trans a, b⟩)
  exact h _ _ A B
 ·have hcm : X.cm = true := hcm.resolve_left fun q => by rw [h2] at q; cases q
  have hk := (S.kind x).trans h2
  obtain ⟨c, hc⟩ := S.cel x (.inl h2)
  obtain ⟨o1, w, ho, hd⟩ := F.f.cells x c hc
  refine wpAny_storeName_cell S.fn hk hc ⟨o1, ho, hd⟩ fun h' hc' hs' => ?_
  have hL : X.env.locals ≠ c := fun q => by
   obtain ⟨o2, _, _, e2, e3, _⟩ := F.f.ns; rw [q, ho] at e2; cases e2; rw [hd] at e3; cases e3
  obtain ⟨A, B⟩ := F.store hxk (t := s.toks) ti h1 r hp (.inr ⟨hcm, x, hc⟩) hs' (.inr ⟨.inl hk, c, hc, hc'⟩) (fun y w hy q => by
   rcases q with ⟨a1, m, a2, a3⟩ | ⟨a1, c2, a2, a3⟩
   ·exact .inl ⟨a1, m, a2.sameBut hs' hL, a3⟩
   ·exact .inr ⟨a1, c2, a2, a3.sameBut hs' fun q => hy (S.inj y x c (q ▸ a2) hc)⟩)
   (by obtain ⟨o2, es2, ep2, a, b, c⟩ := F.f.ns; exact ⟨o2, es2, ep2, (hs'.2 _ hL).trans a, b, c⟩) (fun y c2 hc2 => by
    by_cases q : c2 = c
    ·subst q; obtain ⟨o2, a, b⟩ := hc'; exact ⟨o2, _, a, b⟩
    ·obtain ⟨o2, v2, a, b⟩ := F.f.cells y c2 hc2; exact ⟨o2, v2, (hs'.2 c2 q).trans a, b⟩)
  exact h _ _ A B
theorem glob_ok {x : Str} {p : Pos} {v : Value} {Q : Value -> Shared -> Prop} (S : FS G d X) (F : At X W φ s ρ) (hx : X.fi.isGlob x = true) (hv : X.C.mg x = some v) (h : Q v s) : wpAny X.C.M X.A (eval (.Name x p) X.env) Q E s := by
 simp only [FI.isGlob, Bool.and_eq_true, beq_iff_eq, bne_iff_ne, ne_eq] at hx
 refine PySem.Calls.Name_function_global S.fn ((S.kind x).trans hx.1) (PySem.Calls.loadGlobal_global (mg := X.C.mg) ?_ hv h) (by simpa using hx.2)
 rw [S.gl]; exact S.g.g.keeps (F.keep S)
theorem bi_ok {x : Str} {p : Pos} {v : Value} {Q : Value -> Shared -> Prop} (S : FS G d X) (F : At X W φ s ρ) (hx : isBi G X.fi x = true) (hv : bootBuiltins x = some v) (h : Q v s) : wpAny X.C.M X.A (eval (.Name x p) X.env) Q E s := by
 simp only [isBi, FI.isGlob, Bool.and_eq_true, beq_iff_eq, bne_iff_ne, ne_eq, List.contains_iff_mem] at hx
 obtain ⟨⟨h1, h2⟩, h3⟩ := hx
 obtain ⟨h4, h5⟩ := S.g.bn x h3
 refine PySem.Calls.Name_function_global S.fn ((S.kind x).trans h1) (PySem.Calls.loadGlobal_builtin (mg := X.C.mg) (mb := X.C.mb) ?_ h4 ?_ ((S.g.bi x h5).trans hv) h) (by simpa using h2)
 ·rw [S.gl]; exact S.g.g.keeps (F.keep S)
 ·rw [S.bi]; exact S.g.b.keeps (F.keep S)
end
end Mine
end
section
namespace Mine
set_option genSizeOf false in
set_option genInjectivity false in
inductive Fl where
 | next
 | ret (o : O)
set_option genSizeOf false in
set_option genInjectivity false in
inductive Tk where
 | b (b : Bool)
 | r (o : O)
 | l (fl : Fl) (ρ : Loc)
 | vs (l : List V)
structure St where
 ρ : Loc
 tp : List Tk
 ob : List Prop
noncomputable def All (l : List Prop) : Prop := @List.rec Prop (fun J => Prop) True (fun p J q => p /\ q) l
theorem All.app : ∀ {l m : List Prop}, All (l ++ m) -> All l /\ All m
 | [], _, h => ⟨trivial, h⟩
 | _ :: _, _, h => ⟨⟨h.1, (All.app h.2).1⟩, (All.app h.2).2⟩
noncomputable def bd {α β : Type} (x : Option (α × St)) (f : α -> St -> Option (β × St)) : Option (β × St) := x.bind fun p => f p.1 p.2
noncomputable def rt {α : Type} (x : Option (α × List Prop)) (σ : St) : Option (α × St) := x.bind fun p => some (p.1, ⟨σ.ρ, σ.tp, p.2 ++ σ.ob⟩)
noncomputable def pu {α : Type} (x : α) (σ : St) : Option (α × St) := some (x, σ)
noncomputable def slot (ρ : Loc) (i : Nat) : Option O := (ρ[i]?).bind id
theorem slot_some {ρ : Loc} {i : Nat} {o : O} (e : slot ρ i = some o) : ρ[i]? = some (some o) := by
 unfold slot at e; cases q : ρ[i]? with
 | none => rw [q] at e; cases e
 | some x => rw [q] at e; exact congrArg some e
def Ok {α : Type} (ev : St -> Option (α × St)) (S : Loc -> α -> Loc -> Prop) : Prop := ∀ σ a σ', ev σ = some (a, σ') -> All σ'.ob -> All σ.ob /\ S σ.ρ a σ'.ρ
section
variable {α β : Type} {S : Loc -> α -> Loc -> Prop} {S' : Loc -> β -> Loc -> Prop}
theorem Ok.bd {f : St -> Option (α × St)} {g : α -> St -> Option (β × St)} (hf : Ok f S) {R : α -> Loc -> β -> Loc -> Prop} (hg : ∀ a, Ok (g a) (R a)) (k : ∀ ρ a ρ₁ b ρ', S ρ a ρ₁ -> R a ρ₁ b ρ' -> S' ρ b ρ') : Ok (fun σ => bd (f σ) g) S' := by
 intro σ b σ' e h
 obtain ⟨⟨a, σ₁⟩, e1, e2⟩ := obi e
 obtain ⟨h1, h2⟩ := hg a σ₁ b σ' e2 h
 obtain ⟨h3, h4⟩ := hf σ a σ₁ e1 h1
 exact ⟨h3, k _ _ _ _ _ h4 h2⟩
theorem Ok.rt {x : Option (α × List Prop)} (k : ∀ a p ρ, x = some (a, p) -> All p -> S ρ a ρ) : Ok (rt x) S := by
 intro σ a σ' e h
 obtain ⟨⟨a', p⟩, e1, e2⟩ := obi e
 cases e2
 obtain ⟨h1, h2⟩ := All.app h
 exact ⟨h2, k _ p _ e1 h1⟩
theorem Ok.pu {x : α} (k : ∀ ρ, S ρ x ρ) : Ok (pu x) S := fun σ a σ' e h => by cases e; exact ⟨h, k _⟩
theorem Ok.none {f : St -> Option (α × St)} (h : ∀ σ, f σ = none) : Ok f S := fun σ a σ' e => by rw [h] at e; cases e
end
structure Gs (W : WS) (s : Shared) (W' : WS) (s' : Shared) : Prop where
 g : Grow W s.heap W' s'.heap
 gens : s'.gens = s.gens
 os : s'.os = s.os
 tk : s.toks <= s'.toks
noncomputable def RN (h : Heap) (W' : WS) (h' : Heap) (o : O) (v' : Value) : Prop := O.rec (fun v => VR W' h' v v') (fun r => ∃ a, v' = .ref a /\ h.get? a = none /\ ¬ W' a /\ OwnAt W' h' a r) (fun r => ∃ a as, v' = .ref a /\ (∀ b, b ∈ a :: as -> h.get? b = none /\ ¬ W' b) /\ Own2At W' h' a as r)
 (fun t l r => ∃ oa da as, v' = .ref oa /\ (∀ b, b ∈ da :: as -> h.get? b = none /\ ¬ W' b) /\ ObjAt W' h' oa da as t l r) (fun w k l => ∃ a vs, v' = .ref a /\ h.get? a = none /\ ¬ W' a /\ DicAt w h' a k vs /\ VRs W' h' l vs) o
noncomputable def BR (W : WS) (h : Heap) (o : O) (v' : Value) : Prop := O.rec (fun v => VR W h v v') (fun r => ∃ a, v' = .ref a /\ OwnAt W h a r) (fun r => ∃ a as, v' = .ref a /\ Own2At W h a as r) (fun t l r => ∃ oa da as, v' = .ref oa /\ ObjAt W h oa da as t l r) (fun w k l => ∃ a vs, v' = .ref a /\ DicAt w h a k vs /\ VRs W h l vs) o
def Aft (W : WS) (s : Shared) (Q : Value -> Shared -> Prop) (o : O) : Prop := ∀ v' W' s', Gs W s W' s' -> RN s.heap W' s'.heap o v' -> Q v' s'
section
variable {X : FC} {W : WS} {φ : Nat -> List Addr} {s : Shared} {ρ : Loc} {Q : Value -> Shared -> Prop}
theorem At.gs (F : At X W φ s ρ) {W' : WS} {s' : Shared} (g : Gs W s W' s') : At X W' φ s' ρ :=
 have A := F.grow (t := s'.toks) g.g g.tk
 ⟨g.gens.trans F.gens, g.os.trans F.os, A.f, A.lr, A.ow, A.tk, A.kv⟩
theorem At.fresh (F : At X W φ s ρ) {a : Addr} (e : s.heap.get? a = none) : ¬ Mut X φ a /\ X.pin a = none := by
 refine ⟨fun m => ?_, ?_⟩
 ·rcases m with m | ⟨_, x, m⟩ | ⟨i, m⟩
  ·obtain ⟨o, _, _, z, _⟩ := F.f.ns; rw [<- m, e] at z; cases z
  ·obtain ⟨o, _, z, _⟩ := F.f.cells x a m; rw [e] at z; cases z
  ·obtain ⟨_, z, _⟩ := F.ow i a m; rw [e] at z; cases z
 ·cases q : X.pin a with
  | none => rfl
  | some o => have := F.f.pin a o q; rw [e] at this; cases this
theorem RN.ro (F : At X W φ s ρ) {W' : WS} {h' : Heap} {o : O} {v' : Value} (r : RN s.heap W' h' o v') : RO X W' φ h' o v' := by
 cases o with
 | val v => exact .val r
 | own r' =>
  obtain ⟨a, rfl, e, w, z⟩ := r
  refine ⟨[a], ⟨a, rfl, rfl, z⟩, fun b q => ?_⟩
  cases List.mem_singleton.mp q
  exact ⟨w, F.fresh e⟩
 | own2 r' =>
  obtain ⟨a, as, rfl, e, z⟩ := r
  exact ⟨a :: as, ⟨a, as, rfl, rfl, z⟩, fun b q => ⟨(e b q).2, F.fresh (e b q).1⟩⟩
 | obj t l r' =>
  obtain ⟨oa, da, as, rfl, e, z⟩ := r
  exact ⟨da :: as, ⟨oa, da, as, rfl, rfl, z⟩, fun b q => ⟨(e b q).2, F.fresh (e b q).1⟩⟩
 | dic w k l =>
  obtain ⟨a, vs, rfl, e, w, z1, z2⟩ := r
  refine ⟨[a], ⟨a, vs, rfl, rfl, z1, z2⟩, fun b q => ?_⟩
  cases List.mem_singleton.mp q
  exact ⟨w, F.fresh e⟩
theorem Gs.toks (wf : ∀ a, W a -> ∃ o, s.heap.get? a = some o) (t : Nat) (ht : s.toks <= t) : Gs W s W { s with toks := t } := ⟨⟨fun J J e => e, fun J q => q, wf, fun J J J q => q⟩, rfl, rfl, ht⟩
theorem Aft.here {v : V} {v' : Value} {t : Nat} (k : Aft W s Q (.val v)) (wf : ∀ a, W a -> ∃ o, s.heap.get? a = some o) (r : VR W s.heap v v') (ht : s.toks <= t := by first | exact Nat.le_refl _ | assumption | exact Nat.le_succ _ | omega | (dsimp only; omega) | (dsimp only at *; omega)) : Q v' { s with toks := t } := k _ _ _ (.toks wf t ht) r
theorem fresh_size (h : Heap) : h.get? h.objs.size = none := by
 cases q : h.get? h.objs.size with
 | none => rfl
 | some o => exact absurd (Heap.lt_size q) (Nat.lt_irrefl _)
theorem none_of_le {h : Heap} {a : Addr} (e : h.objs.size <= a) : h.get? a = none := by
 cases q : h.get? a with
 | none => rfl
 | some o => exact absurd (Heap.lt_size q) (Nat.not_lt.mpr e)
theorem Gs.of (wf : ∀ a, W a -> ∃ o, s.heap.get? a = some o) {h' : Heap} {t : Nat} (k : ∀ a o, s.heap.get? a = some o -> h'.get? a = some o) (ht : s.toks <= t := by first | exact Nat.le_refl _ | assumption | exact Nat.le_succ _ | omega | (dsimp only; omega) | (dsimp only at *; omega)) : Gs W s W { s with heap := h', toks := t } :=
 ⟨⟨k, fun J q => q, fun a q => (wf a q).elim fun o e => ⟨o, k a o e⟩, fun J J J q => q⟩, rfl, rfl, ht⟩
theorem Aft.tuple {l : List V} {vs : Array Value} {e t : Nat} (k : Aft W s Q (.val (.tup l))) (wf : ∀ a, W a -> ∃ o, s.heap.get? a = some o) (r : VRs W s.heap l vs.toList) (hz : l.length <= sizeLine) (ht : s.toks <= t := by first | exact Nat.le_refl _ | assumption | exact Nat.le_succ _ | omega | (dsimp only; omega) | (dsimp only at *; omega)) :
  Q (.ref s.heap.objs.size) { s with heap := s.heap.push (tupO vs e), toks := t } := by
 have hk : ∀ a o, s.heap.get? a = some o -> (s.heap.push (tupO vs e)).get? a = some o := fun J J q => Heap.get?_push_of_some _ q
 have g : Grow W s.heap (fun b => W b \/ b = s.heap.objs.size) (s.heap.push (tupO vs e)) := by
  refine ⟨hk, fun J q => .inl q, fun a q => ?_, fun a o z q => q.elim id fun q => by rw [q, fresh_size] at z; cases z⟩
  rcases q with q | q
  ·obtain ⟨o, z⟩ := wf a q; exact ⟨o, hk a o z⟩
  ·rw [q]; exact ⟨_, Heap.get?_push_size _ rfl⟩
 exact k _ _ _ ⟨g, rfl, rfl, ht⟩ ⟨_, vs, e, rfl, .inr rfl, Heap.get?_push_size _ rfl, hz, VRs.ag (g.ag wf) r⟩
theorem Aft.listAt {r : List V} {vs : Array Value} {e t a : Nat} {h' : Heap} (k : Aft W s Q (.own r)) (wf : ∀ a, W a -> ∃ o, s.heap.get? a = some o) (hk : ∀ a o, s.heap.get? a = some o -> h'.get? a = some o) (ha : s.heap.get? a = none)
  (ho : h'.get? a = some (lstO vs e)) (hr : VRs W s.heap r.reverse vs.toList) (hz : r.length <= sizeLine) (ht : s.toks <= t := by first | exact Nat.le_refl _ | assumption | exact Nat.le_succ _ | omega | (dsimp only; omega) | (dsimp only at *; omega)) : Q (.ref a) { s with heap := h', toks := t } :=
 have g := Gs.of (t := t) wf hk ht
 k _ _ _ g ⟨a, rfl, ha, (fun q => (wf a q).elim fun o z => by rw [ha] at z; cases z), vs, e, ho, VRs.ag (g.g.ag wf) hr, hz⟩
theorem Aft.list {r : List V} {vs : Array Value} {e t : Nat} (k : Aft W s Q (.own r)) (wf : ∀ a, W a -> ∃ o, s.heap.get? a = some o) (hr : VRs W s.heap r.reverse vs.toList) (hz : r.length <= sizeLine) (ht : s.toks <= t := by first | exact Nat.le_refl _ | assumption | exact Nat.le_succ _ | omega | (dsimp only; omega) | (dsimp only at *; omega)) :
  Q (.ref s.heap.objs.size) { s with heap := s.heap.push (lstO vs e), toks := t } :=
 k.listAt wf (fun J J q => Heap.get?_push_of_some _ q) (fresh_size _) (Heap.get?_push_size _ rfl) hr hz ht
end
structure Pst (X : FC) (W : WS) (s : Shared) (W' : WS) (φ' : Nat -> List Addr) (s' : Shared) (ρ' : Loc) : Prop where
 f : At X W' φ' s' ρ'
 ag : Ag W s.heap W' s'.heap
 vl : ∀ x v', Val X.env s.heap x v' -> Val X.env s'.heap x v'
section
variable (G : Gl) (d : Nat) (fi : FI)
def EvG (x : Expr) (ρ : Loc) (o : O) (ρ' : Loc) : Prop := ∀ (X : FC) (E : Value -> Shared -> Prop) (W : WS) (φ : Nat -> List Addr) (s : Shared), X.fi = fi -> FS G d X -> At X W φ s ρ →
 ∀ Q : Value -> Shared -> Prop, (∀ v' W' φ' s', Pst X W s W' φ' s' ρ' -> RO X W' φ' s'.heap o v' -> Q v' s') -> wpAny X.C.M X.A (eval x X.env) Q E s
def EvV (x : Expr) (ρ : Loc) (v : V) (ρ' : Loc) : Prop := ∀ (X : FC) (E : Value -> Shared -> Prop) (W : WS) (φ : Nat -> List Addr) (s : Shared), X.fi = fi -> FS G d X -> At X W φ s ρ →
 ∀ Q : Value -> Shared -> Prop, (∀ v' W' φ' s', Pst X W s W' φ' s' ρ' -> VR W' s'.heap v v' -> Q v' s') -> wpAny X.C.M X.A (eval x X.env) Q E s
def PkG (x : Expr) (ρ : Loc) (o : O) (ρ' : Loc) : Prop := ∀ (X : FC) (E : Value -> Shared -> Prop) (W : WS) (φ : Nat -> List Addr) (s : Shared), X.fi = fi -> FS G d X -> At X W φ s ρ →
 ∀ Q : Value -> Shared -> Prop, (∀ v' W' φ' s', Pst X W s W' φ' s' ρ' -> BR W' s'.heap o v' -> Q v' s') -> wpAny X.C.M X.A (eval x X.env) Q E s
def TrG (x : Expr) (ρ : Loc) (t : Bool) (ρ' : Loc) : Prop := ∀ (X : FC) (E : Value -> Shared -> Prop) (W : WS) (φ : Nat -> List Addr) (s : Shared), X.fi = fi -> FS G d X -> At X W φ s ρ →
 ∀ Q : Bool -> Shared -> Prop, (∀ W' φ' s', Pst X W s W' φ' s' ρ' -> Q t s') -> wpAny X.C.M X.A (isTrue x X.env (eval x X.env)) Q E s
abbrev plainArgs (xs : List Expr) (env : Env) : List (Bool × Sem Value) := xs.map fun x => (false, eval x env)
def RwG (xs : List Expr) (ρ : Loc) (vs : List V) (ρ' : Loc) : Prop := vs.length = xs.length /\ ∀ (X : FC) (E : Value -> Shared -> Prop) (W : WS) (φ : Nat -> List Addr) (s : Shared), X.fi = fi -> FS G d X -> At X W φ s ρ →
 ∀ Q : List Value -> Shared -> Prop, (∀ vs' W' φ' s', Pst X W s W' φ' s' ρ' -> VRs W' s'.heap vs vs' -> Q vs' s') -> wpAny X.C.M X.A (spliced (plainArgs xs X.env)) Q E s
end
section
variable {G : Gl} {d : Nat} {fi : FI} {x : Expr} {ρ ρ' ρ₁ : Loc} {o : O} {X : FC} {W W' W'' : WS} {φ φ' φ'' : Nat -> List Addr} {s s' s'' : Shared}
theorem Pst.refl (F : At X W φ s ρ) : Pst X W s W φ s ρ := ⟨F, .refl .., fun J J r => r⟩
theorem Pst.trans (p : Pst X W s W' φ' s' ρ₁) (q : Pst X W' s' W'' φ'' s'' ρ') : Pst X W s W'' φ'' s'' ρ' := ⟨q.f, p.ag.trans q.ag, fun x v r => q.vl x v (p.vl x v r)⟩
theorem Pst.gs (F : At X W φ s ρ) (g : Gs W s W' s') : Pst X W s W' φ s' ρ := ⟨F.gs g, g.g.ag F.f.wf, fun J J r => r.grow g.g.k⟩
theorem EvG.v (h : EvG G d fi x ρ o ρ') : EvV G d fi x ρ o.frz ρ' := fun X E W φ s e S F Q k => h X E W φ s e S F Q fun v' W' φ' s' p r => by
 obtain ⟨W'', A, B, C⟩ := p.f.frz r
 exact k v' W'' φ' s' ⟨A, p.ag.trans B, p.vl⟩ C
theorem RO.br {h : Heap} {v' : Value} (r : RO X W φ h o v') : BR W h o v' := by
 obtain ⟨p, r, _⟩ := r
 cases o with
 | val v => exact r.2
 | own r' => obtain ⟨a, _, e, z⟩ := r; exact ⟨a, e, z⟩
 | own2 r' => obtain ⟨a, as, _, e, z⟩ := r; exact ⟨a, as, e, z⟩
 | obj t l r' => obtain ⟨oa, da, as, _, e, z⟩ := r; exact ⟨oa, da, as, e, z⟩
 | dic w k l => obtain ⟨a, vs, _, e, z⟩ := r; exact ⟨a, vs, e, z⟩
theorem EvG.pk (h : EvG G d fi x ρ o ρ') : PkG G d fi x ρ o ρ' := fun X E W φ s e S F Q k => h X E W φ s e S F Q fun v' W' φ' s' p r => k v' W' φ' s' p r.br
theorem Aft.of {Q : Value -> Shared -> Prop} (p : Pst X W s W' φ' s' ρ') (k : ∀ v' W' φ' s', Pst X W s W' φ' s' ρ' -> RO X W' φ' s'.heap o v' -> Q v' s') : Aft W' s' Q o := fun v' W'' s'' g r => k v' W'' φ' s'' (p.trans (.gs p.f g)) (r.ro p.f)
end
end Mine
end
section
namespace Mine
def plainX : Expr -> Bool
 | .Starred _ _ => false
 | .Slice _ _ _ _ => false
 | .Set _ _ _ => false
 | _ => true
def isComp : Expr -> Bool
 | .ListComp _ _ _ _ => true
 | .SetComp _ _ _ _ => true
 | .DictComp _ _ _ _ _ => true
 | _ => false
noncomputable def V.int? (v : V) : Option Int := V.casesOn v Option.none (fun J => Option.none) some (fun J => Option.none) (fun J => Option.none) (fun J => Option.none) (fun J J => Option.none) (fun J J J => Option.none) (fun J => Option.none)
noncomputable def V.str? (v : V) : Option (List Nat) := V.casesOn v Option.none (fun J => Option.none) (fun J => Option.none) some (fun J => Option.none) (fun J => Option.none) (fun J J => Option.none) (fun J J J => Option.none) (fun J => Option.none)
noncomputable def V.tup? (v : V) : Option (List V) := V.casesOn v Option.none (fun J => Option.none) (fun J => Option.none) (fun J => Option.none) some (fun J => Option.none) (fun J J => Option.none) (fun J J J => Option.none) (fun J => Option.none)
noncomputable def V.lst? (v : V) : Option (List V) := V.casesOn v Option.none (fun J => Option.none) (fun J => Option.none) (fun J => Option.none) (fun J => Option.none) some (fun J J => Option.none) (fun J J J => Option.none) (fun J => Option.none)
theorem V.int_of {v : V} {i : Int} (e : v.int? = some i) : v = .int i := by cases v <;> cases e; rfl
theorem V.str_of {v : V} {i : List Nat} (e : v.str? = some i) : v = .str i := by cases v <;> cases e; rfl
theorem V.tup_of {v : V} {i : List V} (e : v.tup? = some i) : v = .tup i := by cases v <;> cases e; rfl
theorem V.lst_of {v : V} {i : List V} (e : v.lst? = some i) : v = .lst i := by cases v <;> cases e; rfl
noncomputable def truthB (o : O) : Option Bool := O.rec (fun v => V.casesOn v (some false) some (fun i => some (i != 0)) (fun s => some (!s.isEmpty)) (fun l => some (!l.isEmpty)) (fun l => some (!l.isEmpty)) (fun J J => none) (fun J J J => none) (fun J => none)) (fun r => some (!r.isEmpty)) (fun r => some (!r.isEmpty)) (fun J J J => none) (fun J J J => none) o
theorem sizeLine_lt : sizeLine < 2 ^ 62 := by unfold sizeLine; lia
theorem arr_empty {l : List V} {vs : Array Value} (h : vs.size = l.length) : vs.isEmpty = l.isEmpty := by
 rw [Bool.eq_iff_iff]; simp [List.isEmpty_iff, <- List.length_eq_zero_iff, <- h]
section
variable {C : Cx} {A : Around} {E : Value -> Shared -> Prop} {W : WS} {s : Shared}
theorem truth_list {a : Addr} {vs : Array Value} {n : Nat} {l : List V} {Q : Bool -> Shared -> Prop} (e : s.heap.get? a = some (lstO vs n)) (r : VRs W s.heap l vs.toList) (hz : l.length <= sizeLine) (h : ∀ tk, s.toks <= tk -> Q (!l.isEmpty) { s with toks := tk }) : wpAny C.M A (truthy (.ref a)) Q E s := by
 have hs := r.size
 have := sizeLine_lt
 refine wpAny_truthy_list ⟨_, e, rfl, _, rfl⟩ (by rw [hs]; lia) ?_
 rw [arr_empty hs]; exact h _ (by first | exact Nat.le_refl _ | assumption | exact Nat.le_succ _ | omega | (dsimp only; omega) | (dsimp only at *; omega))
theorem truth_ok {o : O} {v' : Value} {t : Bool} {Q : Bool -> Shared -> Prop} (r : BR W s.heap o v') (ht : truthB o = some t) (h : ∀ tk, s.toks <= tk -> Q t { s with toks := tk }) : wpAny C.M A (truthy v') Q E s := by
 have hz := sizeLine_lt
 cases o with
 | obj _ _ _ => cases ht
 | dic _ _ _ => cases ht
 | own r' =>
  cases ht
  obtain ⟨a, rfl, vs, n, e, x, y⟩ := r
  refine truth_list e x (by simpa using y) ?_
  rw [List.isEmpty_reverse]; exact h
 | own2 r' =>
  cases ht
  obtain ⟨a, as, rfl, vs, n, e, x, y, o, _⟩ := r
  have hs : vs.size = r'.length := by rw [<- Array.length_toList, x, List.length_reverse, List.length_map, o.1]
  refine wpAny_truthy_list ⟨_, e, rfl, _, rfl⟩ (by rw [hs]; lia) ?_
  have he : vs.isEmpty = r'.isEmpty := by rw [Bool.eq_iff_iff]; simp [List.isEmpty_iff, <- List.length_eq_zero_iff, <- hs]
  rw [he]; exact h _ (by first | exact Nat.le_refl _ | assumption | exact Nat.le_succ _ | omega | (dsimp only; omega) | (dsimp only at *; omega))
 | val v =>
  cases v with
  | ins _ _ => cases ht
  | dic _ _ _ => cases ht
  | exc _ => cases ht
  | none => cases ht; cases r; exact fun J J J => h _ (by first | exact Nat.le_refl _ | assumption | exact Nat.le_succ _ | omega | (dsimp only; omega) | (dsimp only at *; omega))
  | bool b => cases ht; cases r; exact wpAny_truthy_bool (h s.toks (Nat.le_refl _))
  | int i => cases ht; obtain ⟨t, rfl⟩ := r; exact P.truthy_int (h s.toks (Nat.le_refl _))
  | str z =>
   cases ht
   obtain ⟨t, rfl, ok, hl⟩ := r
   refine P.truthy_str (by simp [Str.length]; lia) ?_
   have : (((⟨z.toArray⟩ : Str).length : Int) != 0) = !z.isEmpty := by cases z <;> simp [Str.length]; lia
   rw [this]; exact h _ (by first | exact Nat.le_refl _ | assumption | exact Nat.le_succ _ | omega | (dsimp only; omega) | (dsimp only at *; omega))
  | tup l =>
   cases ht
   obtain ⟨a, vs, n, rfl, _, e, hl, hr⟩ := VR.tup r
   have hs := hr.size
   refine PyProof.Rows.truthy_tuple ⟨_, e, rfl, _, rfl⟩ (by rw [hs]; lia) ?_
   rw [arr_empty hs]; exact h _ (by first | exact Nat.le_refl _ | assumption | exact Nat.le_succ _ | omega | (dsimp only; omega) | (dsimp only at *; omega))
  | lst l =>
   cases ht
   obtain ⟨a, vs, n, rfl, _, e, hl, hr⟩ := VR.lst r
   exact truth_list e hr hl h
end
structure T (G : Gl) (d : Nat) (fi : FI) where
 x : Expr
 ev : St -> Option (O × St)
 pk : St -> Option (O × St)
 tr : St -> Option (Bool × St)
 pl : plainX x = true
 eo : Ok ev (EvG G d fi x)
 po : Ok pk (PkG G d fi x)
 to : Ok tr (TrG G d fi x)
structure Rw (G : Gl) (d : Nat) (fi : FI) where
 xs : List Expr
 ev : St -> Option (List V × St)
 pl : ∀ x, x ∈ xs -> plainX x = true
 eo : Ok ev (RwG G d fi xs)
section
variable {G : Gl} {d : Nat} {fi : FI}
abbrev trPlain (x : Expr) : Prop := ∀ env, isTrue x env (eval x env) = (do let v <- eval x env; standAt x.pos; holding [v] (truthy v))
theorem PkG.tr {x : Expr} {ρ ρ' : Loc} {o : O} {t : Bool} (h : PkG G d fi x ρ o ρ') (ht : trPlain x) (hb : truthB o = some t) : TrG G d fi x ρ t ρ' := fun X E W φ s e S F Q k =>
 wpAny_isTrue_value (h X E W φ s e S F _ fun v' W' φ' s' p r => truth_ok r hb fun tk ht => k W' φ' { s' with toks := tk } ⟨p.f.toks tk ht, p.ag, p.vl⟩) (ht X.env)
theorem Ok.mono {α : Type} {f : St -> Option (α × St)} {S S' : Loc -> α -> Loc -> Prop} (h : Ok f S) (k : ∀ ρ a ρ', S ρ a ρ' -> S' ρ a ρ') : Ok f S' := fun σ a σ' e q => ⟨(h σ a σ' e q).1, k _ _ _ (h σ a σ' e q).2⟩
noncomputable def tb (o : O) (σ : St) : Option (Bool × St) := (truthB o).bind fun t => some (t, σ)
theorem Ok.tb (o : O) : Ok (tb o) fun ρ t ρ' => truthB o = some t /\ ρ = ρ' := fun σ t σ' e q => by
 obtain ⟨t', e1, e⟩ := obi e; cases e; exact ⟨q, e1, rfl⟩
noncomputable def tst (f : St -> Option (O × St)) (σ : St) : Option (Bool × St) := bd (f σ) tb
theorem Ok.tst {x : Expr} {f : St -> Option (O × St)} (h : Ok f (PkG G d fi x)) (ht : trPlain x) : Ok (tst f) (TrG G d fi x) :=
 h.bd (R := fun o ρ t ρ' => truthB o = some t /\ ρ = ρ') Ok.tb fun ρ o ρ₁ t ρ' a b => by obtain ⟨b, rfl⟩ := b; exact a.tr ht b
noncomputable def T.mk' (x : Expr) (ev : St -> Option (O × St)) (pl : plainX x = true) (eo : Ok ev (EvG G d fi x)) (ht : trPlain x) : T G d fi :=
 have po := eo.mono fun J J J h => h.pk
 ⟨x, ev, ev, tst ev, pl, eo, po, po.tst ht⟩
theorem EvG.here {x : Expr} {ρ : Loc} {v : V} (h : ∀ (M : Model) (A : Around) (E : Value -> Shared -> Prop) (env : Env) (W : WS) (s : Shared) (Q : Value -> Shared -> Prop), (∀ v' t, s.toks <= t -> VR W s.heap v v' -> Q v' { s with toks := t }) -> wpAny M A (eval x env) Q E s) : EvG G d fi x ρ (.val v) ρ :=
 fun X E W φ s e S F Q k => h _ _ _ _ W s Q fun v' t ht r => k v' W φ _ ⟨F.toks t ht, .refl .., fun J J r => r⟩ (.val r)
noncomputable def eNone (k : Nat) (p : Pos) : T G d fi := .mk' (.Constant .none k p) (pu (.val .none)) rfl (.pu fun J => .here fun J J J J W s Q k => wpAny_Constant_none (k _ s.toks (Nat.le_refl _) rfl)) fun J => rfl
noncomputable def eBool (b : Bool) (k : Nat) (p : Pos) : T G d fi := .mk' (.Constant (.bool b) k p) (pu (.val (.bool b))) rfl (.pu fun J => .here fun J J J J W s Q k => wpAny_Constant_bool (k _ s.toks (Nat.le_refl _) rfl)) fun J => rfl
noncomputable def eInt (i : Int) (k : Nat) (p : Pos) : T G d fi := .mk' (.Constant (.int i) k p) (pu (.val (.int i))) rfl (.pu fun J => .here fun J J J J W s Q k => wpAny_Constant_int (k _ _ (Nat.le_succ _) ⟨_, rfl⟩)) fun J => rfl
noncomputable def eStr (x : Str) (z : List Nat) (k : Nat) (p : Pos) (e : x = ⟨z.toArray⟩) (h : (PyData.strOk ⟨z.toArray⟩ && Nat.ble z.length 1000) = true) : T G d fi :=
 .mk' (.Constant (.str x) k p) (pu (.val (.str z))) rfl (.pu fun J => .here fun J J J J W s Q k => wpAny_Constant_str (k _ _ (Nat.le_succ _) (by
  subst e
  rw [Bool.and_eq_true] at h
  exact ⟨_, rfl, h.1, Nat.le_trans (Nat.le_of_ble_eq_true h.2) (by decide)⟩))) fun J => rfl
noncomputable def evVar (i : Nat) (σ : St) : Option (O × St) := (slot σ.ρ i).bind fun o => O.casesOn o (fun v => some (.val v, σ)) (fun r => some (.val (.lst r.reverse), ⟨σ.ρ.set i (some (.val (.lst r.reverse))), σ.tp, σ.ob⟩)) (fun r => some (.val (O.own2 r).frz, ⟨σ.ρ.set i (some (.val (O.own2 r).frz)), σ.tp, σ.ob⟩)) (fun J J J => none) fun w k l => some (.val (.dic w k l), ⟨σ.ρ.set i (some (.val (.dic w k l))), σ.tp, σ.ob⟩)
noncomputable def pkVar (i : Nat) (σ : St) : Option (O × St) := (slot σ.ρ i).bind fun o => some (o, σ)
theorem OR.br {W : WS} {h : Heap} {p : List Addr} {o : O} {v' : Value} (r : OR W h p o v') : BR W h o v' := by
 cases o with
 | val v => exact r.2
 | own r' => obtain ⟨a, _, e, z⟩ := r; exact ⟨a, e, z⟩
 | own2 r' => obtain ⟨a, as, _, e, z⟩ := r; exact ⟨a, as, e, z⟩
 | obj t l r' => obtain ⟨oa, da, as, _, e, z⟩ := r; exact ⟨oa, da, as, e, z⟩
 | dic w k l => obtain ⟨a, vs, _, e, z⟩ := r; exact ⟨a, vs, e, z⟩
theorem pkVar_ok {x : Str} {i : Nat} {p : Pos} (h : fi.isVar x i = true) : Ok (pkVar i) (PkG G d fi (.Name x p)) := by
 intro σ o σ' e q
 obtain ⟨o', e1, e2⟩ := obi e
 cases e2
 refine ⟨q, fun X E W φ s ef S F Q k => ?_⟩
 subst ef
 exact load_ok S F h (slot_some e1) fun v' J J J r => k v' W φ s (.refl F) r.br
theorem evVar_ok {x : Str} {i : Nat} {p : Pos} (h : fi.isVar x i = true) : Ok (evVar i) (EvG G d fi (.Name x p)) := by
 intro σ o σ' e q
 obtain ⟨o', e1, e2⟩ := obi e
 have e1 := slot_some e1
 cases o' with
 | val v =>
  cases e2
  refine ⟨q, fun X E W φ s ef S F Q k => ?_⟩
  subst ef
  exact load_ok S F h e1 fun v' J J J r => k v' W φ s (.refl F) (.val r.2)
 | own r' =>
  cases e2
  refine ⟨q, fun X E W φ s ef S F Q k => ?_⟩
  subst ef
  refine load_ok S F h e1 fun v' h1 h2 hv r => ?_
  obtain ⟨W', b2, b3, b4⟩ := F.frzVar (fun y hy => S.ti y x i hy h1) hv r
  exact k _ W' _ s ⟨b2, b3, fun J J r => r⟩ (.val b4)
 | own2 r' =>
  cases e2
  refine ⟨q, fun X E W φ s ef S F Q k => ?_⟩
  subst ef
  refine load_ok S F h e1 fun v' h1 h2 hv r => ?_
  obtain ⟨W', b2, b3, b4⟩ := F.frzVar (fun y hy => S.ti y x i hy h1) hv r
  exact k _ W' _ s ⟨b2, b3, fun J J r => r⟩ (.val b4)
 | obj t l r' => cases e2
 | dic w k' l =>
  cases e2
  refine ⟨q, fun X E W φ s ef S F Q k => ?_⟩
  subst ef
  refine load_ok S F h e1 fun v' h1 h2 hv r => ?_
  obtain ⟨W', b2, b3, b4⟩ := F.frzVar (fun y hy => S.ti y x i hy h1) hv r
  exact k _ W' _ s ⟨b2, b3, fun J J r => r⟩ (.val b4)
noncomputable def eVar (x : Str) (i : Nat) (p : Pos) (h : fi.isVar x i = true) : T G d fi := ⟨.Name x p, evVar i, pkVar i, tst (pkVar i), rfl, evVar_ok h, pkVar_ok h, (pkVar_ok h).tst fun J => rfl⟩
end
end Mine
end
section
namespace Mine
theorem noStar {x : Expr} (h : plainX x = true) {rest : List Expr} {env : Env} : starEach (x :: rest) env = (false, eval x env) :: starEach rest env := by
 cases x <;> first | rfl | cases h
theorem noMark {x : Expr} (h : plainX x = true) (op : CmpOp) : behindInMarks op x = false := by
 cases x <;> first | rfl | cases h
theorem backTo_plain (pos : Pos) (xs : List Expr) (env : Env) : backTo pos (plainArgs xs env) = plainArgs xs env := by
 simp [backTo, plainArgs]
section
variable {G : Gl} {d : Nat} {fi : FI}
theorem starEach_plain {env : Env} : ∀ {xs : List Expr}, (∀ x, x ∈ xs -> plainX x = true) -> starEach xs env = plainArgs xs env
 | [], _ => rfl
 | x :: xs, h => by rw [noStar (h x List.mem_cons_self), starEach_plain fun y q => h y (List.mem_cons_of_mem _ q)]; rfl
theorem Rw.back (r : Rw G d fi) (pos : Pos) (env : Env) : backTo pos (starEach r.xs env) = plainArgs r.xs env := by rw [starEach_plain r.pl, backTo_plain]
noncomputable def rNil : Rw G d fi := ⟨[], pu [], fun J q => (nomatch q), .pu fun J => ⟨rfl, fun X E W φ s e S F Q k => wpAny_pure (k [] W φ s (.refl F) rfl)⟩⟩
theorem RwG.cons {x : Expr} {xs : List Expr} {ρ ρ₁ ρ' : Loc} {v : V} {vs : List V} (h : EvV G d fi x ρ v ρ₁) (hs : RwG G d fi xs ρ₁ vs ρ') : RwG G d fi (x :: xs) ρ (v :: vs) ρ' :=
 ⟨congrArg (· + 1) hs.1, fun X E W φ s e S F Q k => PySem.Calls.spliced_cons (h X E W φ s e S F _ fun v' W₁ φ₁ s₁ p r => hs.2 X E W₁ φ₁ s₁ e S p.f _ fun vs' W₂ φ₂ s₂ p₂ r₂ => k _ W₂ φ₂ s₂ (p.trans p₂) (.cons (r.ag p₂.ag) r₂))⟩
noncomputable def rCons (a : T G d fi) (b : Rw G d fi) : Rw G d fi :=
 ⟨a.x :: b.xs, fun σ => bd (a.ev σ) fun x σ => bd (b.ev σ) fun vs σ => pu (x.frz :: vs) σ, fun y q => (List.mem_cons.mp q).elim (fun q => q ▸ a.pl) (b.pl y),
  a.eo.bd (R := fun o ρ vs ρ' => ∃ ws, vs = o.frz :: ws /\ RwG G d fi b.xs ρ ws ρ') (fun o => b.eo.bd (R := fun ws ρ vs ρ' => vs = o.frz :: ws /\ ρ = ρ') (fun ws => .pu fun J => ⟨rfl, rfl⟩) fun J ws J J J h q => by obtain ⟨rfl, rfl⟩ := q; exact ⟨ws, rfl, h⟩)
   fun J o J J J h q => by obtain ⟨ws, rfl, hs⟩ := q; exact .cons h.v hs⟩
noncomputable def eTup (r : Rw G d fi) (k : Nat) (p : Pos) (h : Nat.ble r.xs.length 1000 = true) : T G d fi :=
 .mk' (.Tuple r.xs k p) (fun σ => bd (r.ev σ) fun vs σ => pu (.val (.tup vs)) σ) rfl
  (r.eo.bd (R := fun vs ρ o ρ' => o = .val (.tup vs) /\ ρ = ρ') (fun vs => .pu fun J => ⟨rfl, rfl⟩) fun J vs J J J hs q => by
   obtain ⟨rfl, rfl⟩ := q
   intro X E W φ s e S F Q k
   refine wpAny_Tuple ?_
   rw [r.back]
   refine hs.2 X E W φ s e S F _ fun vs' W' φ' s' p' r' => ?_
   have hz : vs.length <= sizeLine := by rw [hs.1]; exact Nat.le_trans (Nat.le_of_ble_eq_true h) (by decide)
   exact ⟨by rw [r'.length]; exact hz, (Aft.of p' k).tuple (t := s'.toks) p'.f.f.wf r' hz⟩) fun J => rfl
noncomputable def eLst (r : Rw G d fi) (p : Pos) (h : Nat.ble r.xs.length 1000 = true) : T G d fi :=
 .mk' (.List r.xs p) (fun σ => bd (r.ev σ) fun vs σ => pu (.own vs.reverse) σ) rfl
  (r.eo.bd (R := fun vs ρ o ρ' => o = .own vs.reverse /\ ρ = ρ') (fun vs => .pu fun J => ⟨rfl, rfl⟩) fun J vs J J J hs q => by
   obtain ⟨rfl, rfl⟩ := q
   intro X E W φ s e S F Q k
   refine wpAny_List ?_
   rw [r.back]
   refine hs.2 X E W φ s e S F _ fun vs' W' φ' s' p' r' => ?_
   have hz : vs.length <= sizeLine := by rw [hs.1]; exact Nat.le_trans (Nat.le_of_ble_eq_true h) (by decide)
   exact ⟨by rw [r'.length]; exact hz, (Aft.of p' k).list (t := s'.toks) p'.f.f.wf (by rw [List.reverse_reverse]; exact r') (by rwa [List.length_reverse])⟩) fun J => rfl
def Prim2 (G : Gl) (d : Nat) (tree : Value -> Value -> Sem Value) (k : V -> V -> Option (O × List Prop)) : Prop :=
 ∀ x y o ps, k x y = some (o, ps) -> All ps -> ∀ (X : FC) (E : Value -> Shared -> Prop) (W : WS) (φ : Nat -> List Addr) (s : Shared) (ρ : Loc), FS G d X -> At X W φ s ρ -> ∀ x' y', VR W s.heap x x' -> VR W s.heap y y' →
  ∀ Q, Aft W s Q o -> wpAny X.C.M X.A (tree x' y') Q E s
noncomputable def ev2 (a b : T G d fi) (k : V -> V -> Option (O × List Prop)) (σ : St) : Option (O × St) := bd (a.ev σ) fun x σ => bd (b.ev σ) fun y σ => rt (k x.frz y.frz) σ
theorem ok2 {a b : T G d fi} {k : V -> V -> Option (O × List Prop)} {x : Expr} {tree : Value -> Value -> Sem Value} (h : Prim2 G d tree k)
  (rule : ∀ (M : Model) (A : Around) (E : Value -> Shared -> Prop) (s : Shared) (env : Env) (Q : Value -> Shared -> Prop), wpAny M A (eval a.x env) (fun a' s₁ => wpAny M A (eval b.x env) (fun b' s₂ => wpAny M A (tree a' b') Q E s₂) E s₁) E s -> wpAny M A (eval x env) Q E s) :
  Ok (ev2 a b k) (EvG G d fi x) :=
 a.eo.bd (R := fun u ρ o ρ' => ∃ v ps, EvG G d fi b.x ρ v ρ' /\ k u.frz v.frz = some (o, ps) /\ All ps) (fun u => b.eo.bd (R := fun v ρ o ρ' => ∃ ps, k u.frz v.frz = some (o, ps) /\ All ps /\ ρ = ρ') (fun v => .rt fun o ps ρ e q => ⟨ps, e, q, rfl⟩)
  fun J v J J J h q => by obtain ⟨ps, q1, q2, rfl⟩ := q; exact ⟨v, ps, h, q1, q2⟩) fun J u J o J h1 q => by
   obtain ⟨v, ps, h2, q1, q2⟩ := q
   intro X E W φ s e S F Q kk
   refine rule _ _ _ _ _ _ (h1.v X E W φ s e S F _ fun u' W₁ φ₁ s₁ p₁ r₁ => h2.v X E W₁ φ₁ s₁ e S p₁.f _ fun v' W₂ φ₂ s₂ p₂ r₂ => ?_)
   exact h _ _ _ _ q1 q2 X E W₂ φ₂ s₂ _ S p₂.f _ _ (r₁.ag p₂.ag) r₂ _ (Aft.of (p₁.trans p₂) kk)
noncomputable def eBin (op : Operator) (k : V -> V -> Option (O × List Prop)) (h : Prim2 G d (binaryOp op) k) (a b : T G d fi) (p : Pos) : T G d fi :=
 .mk' (.BinOp a.x op b.x p) (ev2 a b k) rfl (ok2 h fun J J J J J J q => wpAny_BinOp q) fun J => rfl
noncomputable def kInt (f : Int -> Int -> Int) (c : Int -> Int -> List Prop) (x y : V) : Option (O × List Prop) := x.int?.bind fun i => y.int?.bind fun j => some (.val (.int (f i j)), c i j)
theorem primInt {op : Operator} {f : Int -> Int -> Int} {c : Int -> Int -> List Prop} (h : ∀ (C : Cx) (A : Around) (E : Value -> Shared -> Prop) (s : Shared) (i j : Int) (t u : Tok) (Q : Value -> Shared -> Prop), All (c i j) -> (∀ t n, s.toks <= n -> Q (.int (f i j) t) { s with toks := n }) -> wpAny C.M A (binaryOp op (.int i t) (.int j u)) Q E s) :
  Prim2 G d (binaryOp op) (kInt f c) := by
 intro x y o ps e q X E W φ s ρ S F x' y' rx ry Q k
 obtain ⟨i, e1, e⟩ := obi e
 obtain ⟨j, e2, e⟩ := obi e
 cases e
 rw [V.int_of e1] at rx; rw [V.int_of e2] at ry
 obtain ⟨t, rfl⟩ := rx
 obtain ⟨u, rfl⟩ := ry
 exact h _ _ _ _ _ _ _ _ _ q fun t n hn => k.here F.f.wf ⟨t, rfl⟩ hn
noncomputable def eAdd : T G d fi -> T G d fi -> Pos -> T G d fi := eBin .Add (kInt (· + ·) fun J J => []) (primInt fun J J J J J J J J J J k => P.add_int (k _ _ (by first | exact Nat.le_refl _ | assumption | exact Nat.le_succ _ | omega | (dsimp only; omega) | (dsimp only at *; omega))))
noncomputable def eSub : T G d fi -> T G d fi -> Pos -> T G d fi := eBin .Sub (kInt (· - ·) fun J J => []) (primInt fun J J J J J J J J J J k => P.sub_int (k _ _ (by first | exact Nat.le_refl _ | assumption | exact Nat.le_succ _ | omega | (dsimp only; omega) | (dsimp only at *; omega))))
noncomputable def eMul : T G d fi -> T G d fi -> Pos -> T G d fi := eBin .Mult (kInt (· * ·) fun i j => [i.natAbs < 2 ^ 62 \/ j.natAbs < 2 ^ 62]) (primInt fun J J J J J J J J J q k => P.mul_int (k _ _ (by first | exact Nat.le_refl _ | assumption | exact Nat.le_succ _ | omega | (dsimp only; omega) | (dsimp only at *; omega))) (by
 rcases q.1 with hc | hc
 ·exact IntMulOk.of_left (intBits_le_64 (by lia) (by lia))
 ·exact IntMulOk.of_right (intBits_le_64 (by lia) (by lia))))
noncomputable def eDiv : T G d fi -> T G d fi -> Pos -> T G d fi := eBin .FloorDiv (kInt (· / ·) fun J j => [0 < j /\ j < 2 ^ 29]) (primInt fun J J J s i j J J Q q k => by
 have hc := q.1
 refine AutoIntOps.floordiv_1 (by simp; lia) (by rw [PyProof.noPylong_small (by lia)]; decide) ?_
 show Q (.int (i.fdiv j) s.toks) _
 rw [Int.fdiv_eq_ediv_of_nonneg _ (by lia)]; exact k _ _ (by first | exact Nat.le_refl _ | assumption | exact Nat.le_succ _ | omega | (dsimp only; omega) | (dsimp only at *; omega)))
noncomputable def eMod : T G d fi -> T G d fi -> Pos -> T G d fi := eBin .Mod (kInt (· % ·) fun J j => [0 < j]) (primInt fun J J J s i j J J Q q k => by
 have hc := q.1
 refine AutoIntOps.mod_1 (by simp; lia) ?_
 show Q (.int (i.fmod j) s.toks) _
 rw [Int.fmod_eq_emod_of_nonneg _ (by lia)]; exact k _ _ (by first | exact Nat.le_refl _ | assumption | exact Nat.le_succ _ | omega | (dsimp only; omega) | (dsimp only at *; omega)))
noncomputable def ePow : T G d fi -> T G d fi -> Pos -> T G d fi := eBin .Pow (kInt (fun i j => i ^ j.toNat) fun i j => [i = 10 /\ 0 < j /\ j <= 100]) (primInt fun J J J s i j J J Q q k => by
 obtain ⟨rfl, hj0, hj1⟩ := q.1
 refine AutoIntOps.pow_4 (by lia) (by simp; lia) (by decide) (by decide) ?_ (k _ _ (by first | exact Nat.le_refl _ | assumption | exact Nat.le_succ _ | omega | (dsimp only; omega) | (dsimp only at *; omega)))
 have h10 : Builtin.Int.intBits 10 = 4 := by decide +kernel
 rw [h10]
 have hb : (bitsLine : Int) = 134217728 := by decide +kernel
 unfold Builtin.Int.intTooBig
 rw [decide_eq_true_eq, hb]
 lia)
theorem strOk_append {x y : List Nat} (hx : PyData.strOk ⟨x.toArray⟩ = true) (hy : PyData.strOk ⟨y.toArray⟩ = true) : PyData.strOk ⟨(x ++ y).toArray⟩ = true := by
 simp [PyData.strOk] at *
 exact ⟨hx, hy⟩
theorem strOk_of {x y : List Nat} (hx : PyData.strOk ⟨x.toArray⟩ = true) (h : ∀ c ∈ y, c ∈ x) : PyData.strOk ⟨y.toArray⟩ = true := by
 simp [PyData.strOk] at *
 exact fun c hc => hx c (h c hc)
theorem str_append (x y : List Nat) : (⟨x.toArray⟩ : Str) ++ ⟨y.toArray⟩ = ⟨(x ++ y).toArray⟩ := by
 show Str.mk (x.toArray ++ y.toArray) = _
 simp
def room : Nat := 1000000
theorem room_le : room <= sizeLine := by decide
noncomputable def kCat (x y : V) : Option (O × List Prop) := x.str?.bind fun i => y.str?.bind fun j => some (.val (.str (i ++ j)), [(i ++ j).length <= room])
set_option tactic.hygienic true in
theorem primCat : Prim2 G d (binaryOp .Add) kCat := by
 intro x y o ps e q X E W φ s ρ S F x' y' rx ry Q k
 obtain ⟨i, e1, e⟩ := obi e
 obtain ⟨j, e2, e⟩ := obi e
 cases e
 rw [V.str_of e1] at rx; rw [V.str_of e2] at ry
 obtain ⟨t, rfl, ok1, z1⟩ := rx
 obtain ⟨u, rfl, ok2, z2⟩ := ry
 have hz := Nat.le_trans q.1 room_le
 refine P.add_str ?_
 split
 ·rename_i q
  have : i = [] := by simpa [Str.length] using q
  subst this
  exact k.here F.f.wf ⟨u, rfl, ok2, z2⟩
 ·split
  ·rename_i q
   have : j = [] := by simpa [Str.length] using q
   subst this
   rw [List.append_nil] at k
   exact k.here F.f.wf ⟨t, rfl, ok1, z1⟩
  ·rw [str_append]
   exact ⟨by simpa [Str.length] using hz, k.here F.f.wf ⟨_, rfl, strOk_append ok1 ok2, hz⟩⟩
noncomputable def eCat : T G d fi -> T G d fi -> Pos -> T G d fi := eBin .Add kCat primCat
theorem neg_ok {a : T G d fi} {p : Pos} : Ok (fun σ => bd (a.ev σ) fun x σ => rt (x.frz.int?.bind fun i => some (.val (.int (-i)), [])) σ) (EvG G d fi (.UnaryOp .USub a.x p)) :=
 a.eo.bd (R := fun x ρ o ρ' => ∃ i, x.frz = .int i /\ o = .val (.int (-i)) /\ ρ = ρ') (fun x => .rt fun o ps ρ e q => by
  obtain ⟨i, e1, e⟩ := obi e; cases e; exact ⟨i, V.int_of e1, rfl, rfl⟩) fun J x J J J h q => by
   obtain ⟨i, hx, rfl, rfl⟩ := q
   intro X E W φ s e S F Q k
   refine wpAny_UnaryOp (h.v X E W φ s e S F _ fun v' W' φ' s' p' r' => ?_)
   rw [hx] at r'
   obtain ⟨t, rfl⟩ := r'
   exact P.neg_int ((Aft.of p' k).here p'.f.f.wf ⟨_, rfl⟩)
noncomputable def eNeg (a : T G d fi) (p : Pos) : T G d fi := .mk' (.UnaryOp .USub a.x p) _ rfl (neg_ok (a := a)) fun J => rfl
noncomputable def eNot (a : T G d fi) (p : Pos) : T G d fi where
 x := .UnaryOp .Not a.x p
 ev σ := bd (a.pk σ) fun x σ => bd (tb x σ) fun t σ => pu (.val (.bool (!t))) σ
 pk σ := bd (a.pk σ) fun x σ => bd (tb x σ) fun t σ => pu (.val (.bool (!t))) σ
 tr σ := bd (a.tr σ) fun t σ => pu (!t) σ
 pl := rfl
 eo := a.po.bd (R := fun x ρ o ρ' => ∃ t, truthB x = some t /\ o = .val (.bool (!t)) /\ ρ = ρ') (fun x => (Ok.tb x).bd (R := fun t ρ o ρ' => o = .val (.bool (!t)) /\ ρ = ρ') (fun J => .pu fun J => ⟨rfl, rfl⟩) fun J t J J J h q => ⟨t, h.1, q.1, h.2.trans q.2⟩) fun J x J J J h q => by
  obtain ⟨t, ht, rfl, rfl⟩ := q
  exact fun X E W φ s e S F Q k => wpAny_UnaryOp (h X E W φ s e S F _ fun v' W' φ' s' p' r' => not_value (truth_ok r' ht fun tk ht => k _ W' φ' _ ⟨p'.f.toks tk ht, p'.ag, p'.vl⟩ (.val rfl)))
 po := a.po.bd (R := fun x ρ o ρ' => ∃ t, truthB x = some t /\ o = .val (.bool (!t)) /\ ρ = ρ') (fun x => (Ok.tb x).bd (R := fun t ρ o ρ' => o = .val (.bool (!t)) /\ ρ = ρ') (fun J => .pu fun J => ⟨rfl, rfl⟩) fun J t J J J h q => ⟨t, h.1, q.1, h.2.trans q.2⟩) fun J x J J J h q => by
  obtain ⟨t, ht, rfl, rfl⟩ := q
  exact fun X E W φ s e S F Q k => wpAny_UnaryOp (h X E W φ s e S F _ fun v' W' φ' s' p' r' => not_value (truth_ok r' ht fun tk ht => k _ W' φ' _ ⟨p'.f.toks tk ht, p'.ag, p'.vl⟩ rfl))
 to := a.to.bd (R := fun t ρ u ρ' => u = !t /\ ρ = ρ') (fun t => .pu fun J => ⟨rfl, rfl⟩) fun J t J J J h q => by
  obtain ⟨rfl, rfl⟩ := q
  exact fun X E W φ s e S F Q k => wpAny_isTrue_Not (h X E W φ s e S F _ fun W' φ' s' p' => k W' φ' s' p')
end
end Mine
end
section
namespace Mine
noncomputable def Tk.b? (k : Tk) : Option Bool := Tk.casesOn k some (fun J => none) (fun J J => none) (fun J => none)
noncomputable def Tk.r? (k : Tk) : Option O := Tk.casesOn k (fun J => none) some (fun J J => none) (fun J => none)
noncomputable def Tk.l? (k : Tk) : Option (Fl × Loc) := Tk.casesOn k (fun J => none) (fun J => none) (fun a b => some (a, b)) (fun J => none)
noncomputable def Tk.vs? (k : Tk) : Option (List V) := Tk.casesOn k (fun J => none) (fun J => none) (fun J J => none) some
noncomputable def told {α β : Type} (f : Tk -> Option β) (p : Loc -> β -> Prop) (r : β -> α) (ρ : β -> Loc -> Loc) (σ : St) : Option (α × St) :=
 List.casesOn σ.tp none fun k tp => (f k).bind fun b => some (r b, ⟨ρ b σ.ρ, tp, p σ.ρ b :: σ.ob⟩)
theorem Ok.told {α β : Type} {f : Tk -> Option β} {p : Loc -> β -> Prop} {r : β -> α} {ρ : β -> Loc -> Loc} {S : Loc -> α -> Loc -> Prop} (k : ∀ b ρ₀, p ρ₀ b -> S ρ₀ (r b) (ρ b ρ₀)) : Ok (told f p r ρ) S := by
 intro σ a σ' e h
 unfold Mine.told at e
 cases ht : σ.tp with
 | nil => rw [ht] at e; cases e
 | cons t tp =>
  rw [ht] at e
  obtain ⟨b, _, e⟩ := obi e
  cases e
  exact ⟨h.2, k b _ h.1⟩
noncomputable def dec (f t : Bool) (σ : St) : Option (Bool × St) := Bool.casesOn f (pu t σ) (told Tk.b? (fun J b => t = b) id (fun _ ρ => ρ) σ)
theorem Ok.dec (f t : Bool) : Ok (dec f t) fun ρ b ρ' => b = t /\ ρ = ρ' := by
 cases f with
 | false => exact .pu fun J => ⟨rfl, rfl⟩
 | true => exact Ok.told (f := Tk.b?) (p := fun J b => t = b) (r := id) (ρ := fun _ ρ => ρ) fun b J h => ⟨h.symm, rfl⟩
section
variable {G : Gl} {d : Nat} {fi : FI}
noncomputable def sc (op : BoolOp) (t : Bool) : Bool := BoolOp.casesOn op (!t) t
def BvG (G : Gl) (d : Nat) (fi : FI) (pos : Pos) (op : BoolOp) (xs : List Expr) (ρ : Loc) (o : O) (ρ' : Loc) : Prop := ∀ (X : FC) (E : Value -> Shared -> Prop) (W : WS) (φ : Nat -> List Addr) (s : Shared), X.fi = fi -> FS G d X -> At X W φ s ρ →
 ∀ Q : Value -> Shared -> Prop, (∀ v' W' φ' s', Pst X W s W' φ' s' ρ' -> RO X W' φ' s'.heap o v' -> Q v' s') -> wpAny X.C.M X.A (boolOp pos op (evalEach xs X.env)) Q E s
def BtG (G : Gl) (d : Nat) (fi : FI) (op : BoolOp) (xs : List Expr) (ρ : Loc) (t : Bool) (ρ' : Loc) : Prop := ∀ (X : FC) (E : Value -> Shared -> Prop) (W : WS) (φ : Nat -> List Addr) (s : Shared), X.fi = fi -> FS G d X -> At X W φ s ρ →
 ∀ Q : Bool -> Shared -> Prop, (∀ W' φ' s', Pst X W s W' φ' s' ρ' -> Q t s') -> wpAny X.C.M X.A (allTrue op xs X.env) Q E s
structure Bp (G : Gl) (d : Nat) (fi : FI) (op : BoolOp) where
 x : Expr
 xs : List Expr
 ev : St -> Option (O × St)
 tr : St -> Option (Bool × St)
 eo : ∀ pos, Ok ev (BvG G d fi pos op (x :: xs))
 to : Ok tr (BtG G d fi op (x :: xs))
theorem allTrue_one {op : BoolOp} {M : Model} {A : Around} {E : Value -> Shared -> Prop} {s : Shared} {env : Env} {x : Expr} {rest : List Expr} {Q : Bool -> Shared -> Prop}
  (h : wpAny M A (isTrue x env (eval x env)) (fun t s₁ => Bool.casesOn (motive := fun J => Prop) (sc op t) (wpAny M A (allTrue op rest env) Q E s₁) (Q t s₁)) E s) : wpAny M A (allTrue op (x :: rest) env) Q E s := by
 cases op
 ·exact wpAny_allTrue_And_cons (wpAny_mono h (fun t J q => by cases t <;> exact q) fun J J q => q)
 ·exact wpAny_allTrue_Or_cons (wpAny_mono h (fun t J q => by cases t <;> exact q) fun J J q => q)
noncomputable def bLast (op : BoolOp) (a : T G d fi) : Bp G d fi op :=
 ⟨a.x, [], a.ev, a.tr, fun J => a.eo, a.to.mono fun ρ t ρ' h X E W φ s e S F Q k => allTrue_one (h X E W φ s e S F _ fun W' φ' s' p => by
  cases op <;> cases t
  ·exact k _ _ _ p
  ·exact wpAny_allTrue_And_nil (k _ _ _ p)
  ·exact wpAny_allTrue_Or_nil (k _ _ _ p)
  ·exact k _ _ _ p)⟩
noncomputable def bCons (f : Bool) {op : BoolOp} (a : T G d fi) (b : Bp G d fi op) : Bp G d fi op where
 x := a.x
 xs := b.x :: b.xs
 ev σ := bd (a.ev σ) fun x σ => bd (tb x σ) fun t σ => bd (dec f t σ) fun t σ => Bool.casesOn (sc op t) (b.ev σ) (pu x σ)
 tr σ := bd (a.tr σ) fun t σ => bd (dec f t σ) fun t σ => Bool.casesOn (sc op t) (b.tr σ) (pu t σ)
 eo pos := a.eo.bd (R := fun x ρ o ρ' => ∃ t, truthB x = some t /\ Bool.casesOn (motive := fun J => Prop) (sc op t) (BvG G d fi pos op (b.x :: b.xs) ρ o ρ') (o = x /\ ρ = ρ'))
  (fun x => (Ok.tb x).bd (R := fun t ρ o ρ' => Bool.casesOn (motive := fun J => Prop) (sc op t) (BvG G d fi pos op (b.x :: b.xs) ρ o ρ') (o = x /\ ρ = ρ')) (fun t => (Ok.dec f t).bd (R := fun t ρ o ρ' => Bool.casesOn (motive := fun J => Prop) (sc op t) (BvG G d fi pos op (b.x :: b.xs) ρ o ρ') (o = x /\ ρ = ρ')) (fun t => by
   cases sc op t
   ·exact b.eo pos
   ·exact .pu fun J => ⟨rfl, rfl⟩) fun J t J J J h q => by obtain ⟨rfl, rfl⟩ := h; exact q) fun J t J J J h q => by obtain ⟨h, rfl⟩ := h; exact ⟨t, h, q⟩)
  fun _ x _ o _ h q X E W φ s e S F Q k => by
   obtain ⟨t, htb, q⟩ := q
   show wpAny _ _ (eval a.x X.env >>= fun v => standAt pos >>= fun J => holding [v] (truthy v) >>= fun t => _) Q E s
   refine wpAny_bind (h X E W φ s e S F _ fun v' W' φ' s' p' r' => wpAny_bind (wpAny_standAt (wpAny_bind (wpAny_holding (truth_ok r'.br htb fun tk ht => ?_)))))
   have p1 : Pst X W s W' φ' { s' with toks := tk } _ := ⟨p'.f.toks tk ht, p'.ag, p'.vl⟩
   revert q
   cases t <;> cases op <;> intro q
   ·obtain ⟨rfl, rfl⟩ := q; exact wpAny_pure (k _ _ _ _ p1 r')
   ·exact q X E W' φ' _ e S p1.f _ fun v2 W2 φ2 s2 p2 r2 => k _ _ _ _ (p1.trans p2) r2
   ·exact q X E W' φ' _ e S p1.f _ fun v2 W2 φ2 s2 p2 r2 => k _ _ _ _ (p1.trans p2) r2
   ·obtain ⟨rfl, rfl⟩ := q; exact wpAny_pure (k _ _ _ _ p1 r')
 to := a.to.bd (R := fun t ρ u ρ' => Bool.casesOn (motive := fun J => Prop) (sc op t) (BtG G d fi op (b.x :: b.xs) ρ u ρ') (u = t /\ ρ = ρ'))
  (fun t => (Ok.dec f t).bd (R := fun t ρ u ρ' => Bool.casesOn (motive := fun J => Prop) (sc op t) (BtG G d fi op (b.x :: b.xs) ρ u ρ') (u = t /\ ρ = ρ')) (fun t => by
   cases sc op t
   ·exact b.to
   ·exact .pu fun J => ⟨rfl, rfl⟩) fun J t J J J h q => by obtain ⟨rfl, rfl⟩ := h; exact q)
  fun _ t _ u _ h q X E W φ s e S F Q k => allTrue_one (h X E W φ s e S F _ fun W' φ' s' p' => by
   revert q
   cases sc op t <;> intro q
   ·exact q X E W' φ' s' e S p'.f _ fun W2 φ2 s2 p2 => k _ _ _ (p'.trans p2)
   ·obtain ⟨rfl, rfl⟩ := q; exact k _ _ _ p')
noncomputable def eBop {op : BoolOp} (r : Bp G d fi op) (p : Pos) : T G d fi :=
 ⟨.BoolOp op (r.x :: r.xs) p, r.ev, r.ev, r.tr, rfl, r.eo p, (r.eo p).mono fun ρ o ρ' h => EvG.pk h, r.to.mono fun ρ t ρ' h X E W φ s e S F Q k => wpAny_isTrue_BoolOp (h X E W φ s e S F Q k)⟩
def PrimC (G : Gl) (d : Nat) (op : CmpOp) (k : V -> O -> Option (Bool × List Prop)) : Prop :=
 ∀ x y t ps, k x y = some (t, ps) -> All ps -> ∀ (X : FC) (E : Value -> Shared -> Prop) (W : WS) (φ : Nat -> List Addr) (s : Shared) (ρ : Loc), FS G d X -> At X W φ s ρ -> ∀ x' y', VR W s.heap x x' -> BR W s.heap y y' →
  ∀ Q : Value -> Shared -> Prop, (∀ tk, s.toks <= tk -> Q (.bool t) { s with toks := tk }) -> wpAny X.C.M X.A (compareOp op x' y') Q E s
def CmG (G : Gl) (d : Nat) (fi : FI) (op : CmpOp) (a b : Expr) (ρ : Loc) (t : Bool) (ρ' : Loc) : Prop := ∀ (X : FC) (E : Value -> Shared -> Prop) (W : WS) (φ : Nat -> List Addr) (s : Shared), X.fi = fi -> FS G d X -> At X W φ s ρ →
 ∀ Q : Value -> Shared -> Prop, (∀ W' φ' s', Pst X W s W' φ' s' ρ' -> Q (.bool t) s') -> wpAny X.C.M X.A (eval a X.env) (fun a' s₁ => wpAny X.C.M X.A (eval b X.env) (fun b' s₂ => wpAny X.C.M X.A (compareOp op a' b') Q E s₂) E s₁) E s
noncomputable def evC (a b : T G d fi) (k : V -> O -> Option (Bool × List Prop)) (σ : St) : Option (Bool × St) := bd (a.ev σ) fun x σ => bd (b.pk σ) fun y σ => rt (k x.frz y) σ
theorem evC_ok {op : CmpOp} {k : V -> O -> Option (Bool × List Prop)} (h : PrimC G d op k) (a b : T G d fi) : Ok (evC a b k) (CmG G d fi op a.x b.x) :=
 a.eo.bd (R := fun u ρ t ρ' => ∃ v ps, PkG G d fi b.x ρ v ρ' /\ k u.frz v = some (t, ps) /\ All ps) (fun u => b.po.bd (R := fun v ρ t ρ' => ∃ ps, k u.frz v = some (t, ps) /\ All ps /\ ρ = ρ') (fun v => .rt fun t ps ρ e q => ⟨ps, e, q, rfl⟩)
  fun J v J J J h q => by obtain ⟨ps, q1, q2, rfl⟩ := q; exact ⟨v, ps, h, q1, q2⟩) fun J u J t J h1 q => by
   obtain ⟨v, ps, h2, q1, q2⟩ := q
   exact fun X E W φ s e S F Q kk => h1.v X E W φ s e S F _ fun u' W₁ φ₁ s₁ p₁ r₁ => h2 X E W₁ φ₁ s₁ e S p₁.f _ fun v' W₂ φ₂ s₂ p₂ r₂ =>
    h _ _ _ _ q1 q2 X E W₂ φ₂ s₂ _ S p₂.f _ _ (r₁.ag p₂.ag) r₂ _ fun tk ht => kk _ _ _ ⟨p₂.f.toks tk ht, p₁.ag.trans p₂.ag, (p₁.trans p₂).vl⟩
noncomputable def T.cmp (op : CmpOp) (a b : Expr) (p : Pos) (hb : plainX b = true) (c : St -> Option (Bool × St)) (h : Ok c (CmG G d fi op a b)) : T G d fi :=
 have eo : Ok (fun σ => bd (c σ) fun t σ => pu (O.val (.bool t)) σ) (EvG G d fi (.Compare a [op] [b] p)) :=
  h.bd (R := fun t ρ o ρ' => o = .val (.bool t) /\ ρ = ρ') (fun t => .pu fun J => ⟨rfl, rfl⟩) fun J t J J J h q => by
   obtain ⟨rfl, rfl⟩ := q
   exact fun X E W φ s e S F Q k => wpAny_Compare1 (h X E W φ s e S F Q fun W' φ' s' p' => k _ _ _ _ p' (.val rfl)) (noMark hb _)
 ⟨.Compare a [op] [b] p, _, _, c, rfl, eo, eo.mono fun J J J h => h.pk, h.mono fun ρ t ρ' h X E W φ s e S F Q k => wpAny_isTrue_Compare1 (h X E W φ s e S F _ fun W' φ' s' p' => wpAny_truthy_bool (k _ _ _ p')) (noMark hb _)⟩
noncomputable def eCmp (op : CmpOp) (k : V -> O -> Option (Bool × List Prop)) (h : PrimC G d op k) (a b : T G d fi) (p : Pos) : T G d fi := .cmp op a.x b.x p b.pl (evC a b k) (evC_ok h a b)
noncomputable def V.bool? (v : V) : Option Bool := V.casesOn v Option.none some (fun J => Option.none) (fun J => Option.none) (fun J => Option.none) (fun J => Option.none) (fun J J => Option.none) (fun J J J => Option.none) (fun J => Option.none)
theorem V.bool_of {v : V} {i : Bool} (e : v.bool? = some i) : v = .bool i := by cases v <;> cases e; rfl
noncomputable def O.val? (o : O) : Option V := O.casesOn o some (fun J => none) (fun J => none) (fun J J J => none) fun J J J => none
theorem O.val_of {o : O} {v : V} (e : o.val? = some v) : o = .val v := by cases o <;> cases e; rfl
noncomputable def eqV (x y : V) : Option Bool := V.casesOn x none (fun a => y.bool?.bind fun b => some (a == b)) (fun a => y.int?.bind fun b => some (a == b)) (fun a => y.str?.bind fun b => some (a == b)) (fun J => none) (fun J => none) (fun J J => none) (fun J J J => none) (fun J => none)
theorem eqV_ok {x y : V} {t : Bool} (e : eqV x y = some t) {C : Cx} {A : Around} {E : Value -> Shared -> Prop} {W : WS} {s : Shared} {x' y' : Value} (rx : VR W s.heap x x') (ry : VR W s.heap y y') (hu : A.units < cLine) (Q : Value -> Shared -> Prop) :
  (Q (.bool t) s -> wpAny C.M A (compareOp .Eq x' y') Q E s) /\ (Q (.bool (!t)) s -> wpAny C.M A (compareOp .NotEq x' y') Q E s) := by
 cases x <;> first | cases e | skip
 ·obtain ⟨b, e1, e⟩ := obi e
  cases e; rw [V.bool_of e1] at ry; cases rx; cases ry
  exact ⟨fun k => SeqAt.compareEq_reads (.bool _) (.bool _) rfl rfl hu k, fun k => SeqAt.compareNe_reads (.bool _) (.bool _) rfl rfl hu k⟩
 ·obtain ⟨b, e1, e⟩ := obi e
  cases e; rw [V.int_of e1] at ry; obtain ⟨t, rfl⟩ := rx; obtain ⟨u, rfl⟩ := ry
  exact ⟨fun k => P.eq_int k, fun k => P.ne_int k⟩
 ·obtain ⟨b, e1, e⟩ := obi e
  cases e; rw [V.str_of e1] at ry; obtain ⟨t, rfl, _⟩ := rx; obtain ⟨u, rfl, _⟩ := ry
  exact ⟨fun k => P.eq_str k, fun k => P.ne_str k⟩
theorem FS.u {X : FC} (S : FS G d X) : X.A.units + deep + 1 < cLine := by have := S.un; lia
noncomputable def kEq (x : V) (y : O) : Option (Bool × List Prop) := y.val?.bind fun y => (eqV x y).bind fun t => some (t, [])
noncomputable def kNe (x : V) (y : O) : Option (Bool × List Prop) := y.val?.bind fun y => (eqV x y).bind fun t => some (!t, [])
theorem primEq : PrimC G d .Eq kEq := by
 intro x y t ps e q X E W φ s ρ S F x' y' rx ry Q k
 obtain ⟨v, e1, e⟩ := obi e
 obtain ⟨u, e2, e⟩ := obi e
 cases e; rw [O.val_of e1] at ry
 exact (eqV_ok e2 rx ry (by have := S.u; lia) Q).1 (k s.toks (Nat.le_refl _))
theorem primNe : PrimC G d .NotEq kNe := by
 intro x y t ps e q X E W φ s ρ S F x' y' rx ry Q k
 obtain ⟨v, e1, e⟩ := obi e
 obtain ⟨u, e2, e⟩ := obi e
 cases e; rw [O.val_of e1] at ry
 exact (eqV_ok e2 rx ry (by have := S.u; lia) Q).2 (k s.toks (Nat.le_refl _))
noncomputable def eEq : T G d fi -> T G d fi -> Pos -> T G d fi := eCmp .Eq kEq primEq
noncomputable def eNe : T G d fi -> T G d fi -> Pos -> T G d fi := eCmp .NotEq kNe primNe
noncomputable def kOrd (f : Int -> Int -> Bool) (x : V) (y : O) : Option (Bool × List Prop) := y.val?.bind fun y => x.int?.bind fun i => y.int?.bind fun j => some (f i j, [])
theorem primOrd {op : CmpOp} {f : Int -> Int -> Bool} (h : ∀ (C : Cx) (A : Around) (E : Value -> Shared -> Prop) (s : Shared) (i j : Int) (t u : Tok) (Q : Value -> Shared -> Prop), Q (.bool (f i j)) s -> wpAny C.M A (compareOp op (.int i t) (.int j u)) Q E s) : PrimC G d op (kOrd f) := by
 intro x y t ps e q X E W φ s ρ S F x' y' rx ry Q k
 obtain ⟨v, e1, e⟩ := obi e
 obtain ⟨i, e2, e⟩ := obi e
 obtain ⟨j, e3, e⟩ := obi e
 cases e; rw [O.val_of e1, V.int_of e3] at ry; rw [V.int_of e2] at rx
 obtain ⟨t, rfl⟩ := rx; obtain ⟨u, rfl⟩ := ry
 exact h _ _ _ _ _ _ _ _ _ (k s.toks (Nat.le_refl _))
noncomputable def eLt : T G d fi -> T G d fi -> Pos -> T G d fi := eCmp .Lt (kOrd fun i j => decide (i < j)) (primOrd fun J J J J J J J J J k => P.lt_int k)
noncomputable def eGt : T G d fi -> T G d fi -> Pos -> T G d fi := eCmp .Gt (kOrd fun i j => decide (i > j)) (primOrd fun J J J J J J J J J k => P.gt_int k)
end
end Mine
end
section
namespace Mine
open PySem.W (Looks)
noncomputable def atI {α : Type} (l : List α) (i : Int) : Option α := Int.casesOn i (fun n => l[n]?) (fun n => l.reverse[n]?)
noncomputable def atR {α : Type} (r : List α) (i : Int) : Option α := Int.casesOn i (fun n => r.reverse[n]?) (fun n => r[n]?)
theorem atR_eq {α : Type} (r : List α) (i : Int) : atR r i = atI r.reverse i := by
 cases i with
 | ofNat n => rfl
 | negSucc n => show r[n]? = r.reverse.reverse[n]?; rw [List.reverse_reverse]
noncomputable def subO (o : O) (i : Int) : Option V := O.casesOn o (fun v => V.casesOn v none (fun J => none) (fun J => none) (fun s => (atI s i).bind fun c => some (.str [c])) (fun l => atI l i) (fun l => atI l i) (fun J J => none) (fun J J J => none) (fun J => none)) (fun r => atR r i) (fun J => none) (fun J J J => none) fun J J J => none
theorem atI_inv {α : Type} {l : List α} {i : Int} {v : α} (e : atI l i = some v) : ∃ k : Nat, seqIndex? i l.length = some k /\ l[k]? = some v /\ ((0 <= i /\ k = i.toNat) \/ (i < 0 /\ -(l.length : Int) <= i /\ k = (i + l.length).toNat)) /\ k < l.length := by
 cases i with
 | ofNat n =>
  have e' : l[n]? = some v := e
  have hl := (List.getElem?_eq_some_iff.mp e').1
  exact ⟨n, seqIndex_of (Int.natCast_nonneg n) (Int.ofNat_lt.mpr hl), e', .inl ⟨Int.natCast_nonneg n, rfl⟩, hl⟩
 | negSucc n =>
  have e' : l.reverse[n]? = some v := e
  have hl := (List.getElem?_eq_some_iff.mp e').1
  rw [List.length_reverse] at hl
  rw [List.getElem?_reverse hl] at e'
  have hk : (Int.negSucc n + l.length).toNat = l.length - 1 - n := by lia
  exact ⟨l.length - 1 - n, by rw [<- hk]; exact seqIndex_neg (by lia) (by lia), e', .inr ⟨by lia, by lia, hk.symm⟩, by lia⟩
theorem slice_plain {e : Expr} (h : plainX e = true) (o i : Value) : subscripted e false o i = operate [o, i] (getItem o i) := by
 cases e <;> first | rfl | cases h
section
variable {C : Cx} {A : Around} {E : Value -> Shared -> Prop} {W : WS} {s : Shared}
theorem getList {l : List V} {vs : Array Value} {n : Nat} {a : Addr} {i : Int} {t : Tok} {v : V} {Q : Value -> Shared -> Prop} (ho : s.heap.get? a = some (lstO vs n)) (r : VRs W s.heap l vs.toList) (hz : l.length <= sizeLine) (e : atI l i = some v)
  (k : ∀ v', VR W s.heap v v' -> Q v' s) : wpAny C.M A (getItem (.ref a) (.int i t)) Q E s := by
 obtain ⟨j, _, h2, h3, h4⟩ := atI_inv e
 obtain ⟨v', h5, h6⟩ := r.get h2
 have hsl := sizeLine_lt
 have hs := r.size
 have h5' : vs[j]? = some v' := by rw [<- Array.getElem?_toList]; exact h5
 rcases h3 with ⟨a1, rfl⟩ | ⟨a1, a2, rfl⟩
 ·exact wpAny_getItem_list ⟨_, ho, rfl, _, rfl⟩ a1 (by lia) h5' (k v' h6)
 ·exact wpAny_getItem_list_neg ⟨_, ho, rfl, _, rfl⟩ a1 (by rw [hs]; exact a2) (by lia) (by rw [hs]; exact h5') (k v' h6)
set_option tactic.hygienic true in
theorem idx_ok {o : O} {o' : Value} {i : Int} {t : Tok} {v : V} {value slice : Expr} {Q : Value -> Shared -> Prop} (r : BR W s.heap o o') (e : subO o i = some v) (hs : plainX slice = true) (k : ∀ v' tk, s.toks <= tk -> VR W s.heap v v' -> Q v' { s with toks := tk }) :
  wpAny C.M A (PyProof.Rows.subscriptTail value slice o' (.int i t)) Q E s := by
 have hsl := sizeLine_lt
 cases o with
 | own r' =>
  obtain ⟨a, rfl, vs, n, h1, h2, h3⟩ := r
  exact PyProof.Rows.tail_any (T := "list") ⟨_, h1, rfl⟩ F.slot_list_getitem.lookup (getList h1 h2 (by simpa using h3) ((atR_eq r' i).symm.trans e) fun v' r => k v' s.toks (Nat.le_refl _) r) (slice_plain hs _ _)
 | own2 r' => cases e
 | obj _ _ _ => cases e
 | dic _ _ _ => cases e
 | val w =>
  cases w <;> first | cases e | skip
  ·rename_i z
   obtain ⟨t1, rfl, ok, hz⟩ := r
   obtain ⟨c, e0, e'⟩ := obi e
   cases e'
   obtain ⟨j, e1, e2, e3, e4⟩ := atI_inv e0
   refine PyProof.Rows.tail_any (T := "str") (typeIs_str s _ t1) F.slot_str_getitem.lookup (P.getItem_str (c := c) (by simp; lia) ?_ (k _ _ (by first | exact Nat.le_refl _ | assumption | exact Nat.le_succ _ | omega | (dsimp only; omega) | (dsimp only at *; omega)) ?_)) (slice_plain hs _ _)
   ·show (seqIndex? i (⟨z.toArray⟩ : Str).length).bind _ = _
    have : (⟨z.toArray⟩ : Str).length = z.length := by simp [Str.length]
    rw [this, e1]
    simpa using e2
   ·exact ⟨_, rfl, strOk_of ok fun x hx => by simp at hx; subst hx; exact List.mem_of_getElem? e2, by show 1 <= sizeLine; decide⟩
  ·obtain ⟨p, vs, n, rfl, _, h1, h2, h3⟩ := VR.tup r
   obtain ⟨j, e1, e2, e3, e4⟩ := atI_inv (show atI _ i = some v from e)
   obtain ⟨v', e5, e6⟩ := h3.get e2
   exact PyProof.Rows.tail_any (T := "tuple") ⟨_, h1, rfl⟩ F.slot_tuple_getitem.lookup (P.getItem_tuple h1 (by lia) (by lia) (by rw [h3.size]; exact e1) (by rw [<- Array.getElem?_toList]; exact e5) (k _ s.toks (Nat.le_refl _) e6)) (slice_plain hs _ _)
  ·obtain ⟨p, vs, n, rfl, _, h1, h2, h3⟩ := VR.lst r
   exact PyProof.Rows.tail_any (T := "list") ⟨_, h1, rfl⟩ F.slot_list_getitem.lookup (getList h1 h3 h2 (show atI _ i = some v from e) fun v' r => k v' s.toks (Nat.le_refl _) r) (slice_plain hs _ _)
end
section
variable {G : Gl} {d : Nat} {fi : FI}
noncomputable def item (f : Bool) (o : O) (y : V) (σ : St) : Option (O × St) := y.int?.bind fun i => Bool.casesOn f (rt ((subO o i).bind fun v => some (O.val v, [])) σ) (told Tk.r? (fun J o' => (subO o i).bind (fun v => some (O.val v)) = some o') id (fun _ ρ => ρ) σ)
def ItS (o : O) (y : V) (ρ : Loc) (o' : O) (ρ' : Loc) : Prop := ∃ i v, y = .int i /\ subO o i = some v /\ o' = .val v /\ ρ = ρ'
theorem item_ok {f : Bool} {o : O} {y : V} : Ok (item f o y) (ItS o y) := by
 intro σ a σ' e h
 obtain ⟨i, e1, e⟩ := obi e
 cases f with
 | false => exact Ok.rt (S := ItS o y) (fun a p ρ e q => by obtain ⟨v, e2, e⟩ := obi e; cases e; exact ⟨i, v, V.int_of e1, e2, rfl, rfl⟩) σ a σ' e h
 | true => exact Ok.told (S := ItS o y) (f := Tk.r?) (p := fun J o' => (subO o i).bind (fun v => some (O.val v)) = some o') (r := id) (ρ := fun _ ρ => ρ) (fun b ρ q => by obtain ⟨v, e2, e⟩ := obi q; cases e; exact ⟨i, v, V.int_of e1, e2, rfl, rfl⟩) σ a σ' e h
noncomputable def eIdx (f : Bool) (a k : T G d fi) (p : Pos) : T G d fi :=
 .mk' (.Subscript a.x k.x p) (fun σ => bd (a.ev σ) fun x σ => bd (k.ev σ) fun y σ => item f (.val x.frz) y.frz σ) rfl
  (a.eo.bd (R := fun x ρ o ρ' => ∃ y i v, EvG G d fi k.x ρ y ρ' /\ y.frz = .int i /\ subO (.val x.frz) i = some v /\ o = .val v) (fun x => k.eo.bd (fun y => item_ok (f := f) (o := .val x.frz) (y := y.frz)) fun J y J J J h q => by
   obtain ⟨i, v, e1, e2, e3, rfl⟩ := q; exact ⟨y, i, v, h, e1, e2, e3⟩) fun J x J J J h q => by
   obtain ⟨y, i, v, hk, e1, e2, rfl⟩ := q
   intro X E W φ s e S F Q kk
   refine PyProof.Rows.Subscript_ (h.v X E W φ s e S F _ fun x' W₁ φ₁ s₁ p₁ r₁ => hk.v X E W₁ φ₁ s₁ e S p₁.f _ fun y' W₂ φ₂ s₂ p₂ r₂ => ?_)
   rw [e1] at r₂
   obtain ⟨t, rfl⟩ := r₂
   exact idx_ok (show BR W₂ s₂.heap (.val x.frz) x' from r₁.ag p₂.ag) e2 k.pl fun v' tk ht r => kk _ _ _ _ ⟨p₂.f.toks tk ht, p₁.ag.trans p₂.ag, (p₁.trans p₂).vl⟩ (.val r)) fun J => rfl
theorem Val.uniq {env : Env} {h : Heap} {x : Str} {v w : Value} (p : Val env h x v) (q : Val env h x w) : v = w := by
 rcases p with ⟨p, m, ⟨o1, es1, ep1, p1, p2, p3, p4⟩, p5⟩ | ⟨p, c1, p1, o1, p2, p3⟩ <;> rcases q with ⟨q, m', ⟨o2, es2, ep2, q1, q2, q3, q4⟩, q5⟩ | ⟨q, c2, q1, o2, q2, q3⟩
 ·rw [p1] at q1; cases q1; rw [p2] at q2; cases q2
  rw [<- p4, q4, q5] at p5; exact (Option.some.inj p5).symm
 ·rcases q with q | q <;> rw [p] at q <;> cases q
 ·rcases p with p | p <;> rw [q] at p <;> cases p
 ·rw [p1] at q1; cases q1; rw [p2] at q2; cases q2; rw [p3] at q3; exact Option.some.inj (Data.cell.inj q3)
theorem still {x : Str} {i : Nat} {X : FC} {W : WS} {φ : Nat -> List Addr} {s : Shared} {ρ : Loc} {o : O} {v' : Value} (F : At X W φ s ρ) (h1 : X.fi.tbl.lookup x = some i) (hk : X.env.kindOf x ≠ none) (hv : Val X.env s.heap x v') (e : ρ[i]? = some (some o)) : OR W s.heap (φ i) o v' := by
 obtain ⟨w, a, b⟩ := F.lr x i h1 o e hk
 rw [hv.uniq a]; exact b
noncomputable def eIdxV (f : Bool) (x : Str) (i : Nat) (xp : Pos) (k : T G d fi) (p : Pos) (h : fi.isVar x i = true) : T G d fi :=
 .mk' (.Subscript (.Name x xp) k.x p) (fun σ => (slot σ.ρ i).bind fun J => bd (k.ev σ) fun y σ => (slot σ.ρ i).bind fun o => item f o y.frz σ) rfl (by
  intro σ a σ' e q
  obtain ⟨o0, e0, e⟩ := obi e
  obtain ⟨⟨y, σ₁⟩, e1, e⟩ := obi e
  obtain ⟨o, e2, e⟩ := obi e
  obtain ⟨q1, j, v, h1, h2, rfl, h3⟩ := item_ok _ _ _ e q
  obtain ⟨q2, hk⟩ := k.eo σ y σ₁ e1 q1
  refine ⟨q2, fun X E W φ s ef S F Q kk => PyProof.Rows.Subscript_ (load_ok S F (ef ▸ h) (slot_some e0) fun x' hx hn hv r => hk.v X E W φ s ef S F _ fun y' W₂ φ₂ s₂ p₂ r₂ => ?_)⟩
  dsimp only at h1; rw [h1] at r₂
  obtain ⟨t, rfl⟩ := r₂
  rw [<- h3] at kk
  exact idx_ok (still p₂.f hx hn (p₂.vl _ _ hv) (slot_some e2)).br h2 k.pl fun v' tk ht r => kk _ _ _ _ ⟨p₂.f.toks tk ht, p₂.ag, p₂.vl⟩ (.val r)) fun J => rfl
noncomputable def listO (o : O) : Option (List V) := O.casesOn o (fun v => v.lst?) (fun r => some r.reverse) (fun J => none) (fun J J J => none) fun J J J => none
theorem BR.list {W : WS} {h : Heap} {o : O} {v' : Value} {l : List V} (r : BR W h o v') (e : listO o = some l) : ∃ a vs n, v' = .ref a /\ h.get? a = some (lstO vs n) /\ l.length <= sizeLine /\ VRs W h l vs.toList := by
 cases o with
 | own r' => cases e; obtain ⟨a, rfl, vs, n, h1, h2, h3⟩ := r; exact ⟨a, vs, n, rfl, h1, by simpa using h3, h2⟩
 | own2 r' => cases e
 | obj _ _ _ => cases e
 | dic _ _ _ => cases e
 | val v => cases V.lst_of e; obtain ⟨a, vs, n, e1, _, e2, e3, e4⟩ := VR.lst r; exact ⟨a, vs, n, e1, e2, e3, e4⟩
noncomputable def nilO (o : O) : Option Bool := O.casesOn o (fun v => v.lst?.bind fun l => some l.isEmpty) (fun r => some r.isEmpty) (fun J => none) (fun J J J => none) fun J J J => none
theorem nilO_of {o : O} {t : Bool} (e : nilO o = some t) : ∃ l, listO o = some l /\ l.isEmpty = t := by
 cases o with
 | val v => obtain ⟨l, e1, e⟩ := obi e; cases e; exact ⟨l, e1, rfl⟩
 | own r => cases e; exact ⟨_, rfl, by cases r <;> simp⟩
 | own2 r => cases e
 | obj _ _ _ => cases e
 | dic _ _ _ => cases e
theorem nil_cmp {C : Cx} {A : Around} {E : Value -> Shared -> Prop} {W : WS} {s : Shared} {l : List V} {a b : Addr} {vs ws : Array Value} {n m : Nat} (h1 : s.heap.get? a = some (lstO vs n)) (r1 : vs.size = l.length) (h2 : s.heap.get? b = some (lstO ws m)) (r2 : ws.size = 0) (hu : A.units < cLine) (Q : Value -> Shared -> Prop) :
  (Q (.bool l.isEmpty) s -> wpAny C.M A (compareOp .Eq (.ref a) (.ref b)) Q E s) /\ (Q (.bool (!l.isEmpty)) s -> wpAny C.M A (compareOp .NotEq (.ref a) (.ref b)) Q E s) := by
 cases l with
 | nil =>
  have r1 : vs.size = 0 := r1
  refine ⟨fun k => ?_, fun k => ?_⟩
  ·have z := SeqAt.RcAt.lists (A := A) (s := s) (e := fun J => true) ⟨_, h1, rfl, _, rfl⟩ ⟨_, h2, rfl, _, rfl⟩ (r1.trans r2.symm) hu (fun j j1 => by rw [r1] at j1; cases j1)
   rw [r1] at z; exact z _ _ E Q k
  ·have z := SeqAt.RcNeAt.lists (A := A) (s := s) (e := fun J => true) ⟨_, h1, rfl, _, rfl⟩ ⟨_, h2, rfl, _, rfl⟩ (r1.trans r2.symm) hu (fun j j1 => by rw [r1] at j1; cases j1)
   rw [r1] at z; exact z _ _ E Q k
 | cons v l =>
  have hne : (vs.size != ws.size) = true := by rw [r1, r2]; rfl
  exact ⟨fun k => SeqAt.RcAt.lists_lengths (A := A) (s := s) ⟨_, h1, rfl, _, rfl⟩ ⟨_, h2, rfl, _, rfl⟩ hne (by lia) _ _ E Q k, fun k => SeqAt.RcNeAt.lists_lengths (A := A) (s := s) ⟨_, h1, rfl, _, rfl⟩ ⟨_, h2, rfl, _, rfl⟩ hne (by lia) _ _ E Q k⟩
theorem nil_core (a : T G d fi) (ne : Bool) (lp : Pos) : Ok (fun σ => bd (a.pk σ) fun x σ => rt ((nilO x).bind fun t => some (t != ne, [])) σ) (CmG G d fi (Bool.casesOn ne .Eq .NotEq) a.x (.List [] lp)) :=
 a.po.bd (R := fun x ρ t ρ' => ∃ l, listO x = some l /\ t = (l.isEmpty != ne) /\ ρ = ρ') (fun x => .rt fun t ps ρ e q => by
  obtain ⟨u, e1, e⟩ := obi e; cases e; obtain ⟨l, e2, rfl⟩ := nilO_of e1; exact ⟨l, e2, rfl, rfl⟩) fun J x J t J h q => by
   obtain ⟨l, e2, rfl, rfl⟩ := q
   intro X E W φ s e S F Q k
   refine h X E W φ s e S F _ fun x' W' φ' s' p' r' => wpAny_List (wpAny_pure ⟨Nat.zero_le _, ?_⟩)
   obtain ⟨b, vs, n, rfl, e3, e4, e5⟩ := r'.list e2
   have hk : ∀ a o, s'.heap.get? a = some o -> (s'.heap.push (lstO ([] : List Value).toArray 0)).get? a = some o := fun J J q => Heap.get?_push_of_some _ q
   have fin : Q (.bool (l.isEmpty != ne)) { s' with heap := s'.heap.push (lstO ([] : List Value).toArray 0) } := k _ _ _ (p'.trans (.gs p'.f (Gs.of (t := s'.toks) p'.f.f.wf hk)))
   have z := nil_cmp (C := X.C) (A := X.A) (E := E) (W := W') (s := { s' with heap := s'.heap.push (lstO ([] : List Value).toArray 0) }) (hk _ _ e3) e5.size (Heap.get?_push_size _ rfl) rfl (by have := S.u; lia) Q
   cases ne
   ·exact z.1 (by simpa using fin)
   ·exact z.2 (by simpa using fin)
noncomputable def eNil (ne : Bool) (a : T G d fi) (lp p : Pos) : T G d fi := .cmp _ a.x (.List [] lp) p rfl _ (nil_core a ne lp)
end
end Mine
end
section
namespace Mine
open PySem.W (Looks keepIn)
theorem boot_len : bootBuiltins "len" = some (.builtin "len") := by left
theorem boot_isinstance : bootBuiltins "isinstance" = some (.builtin "isinstance") := by left
theorem boot_list : bootBuiltins "list" = some (.type "list") := by left
theorem boot_tuple : bootBuiltins "tuple" = some (.type "tuple") := by left
theorem boot_range : bootBuiltins "range" = some (.type "range") := by left
theorem boot_reversed : bootBuiltins "reversed" = some (.type "reversed") := by left
noncomputable def Ty.s (t : Ty) : Str := Ty.rec "tuple" "str" "int" "bool" "list" t
theorem boot_ty (t : Ty) : bootBuiltins t.s = some (.type t.n) := by
 cases t
 ·exact boot_tuple
 ·show bootBuiltins "str" = some (.type "str"); kernel_rfl
 ·show bootBuiltins "int" = some (.type "int"); kernel_rfl
 ·show bootBuiltins "bool" = some (.type "bool"); kernel_rfl
 ·exact boot_list
abbrev KeepsIt (M : Model) (h : Heap) (f : Value) : Prop := ∃ k, (k = Keeper.frame \/ k = Keeper.machine \/ k = Keeper.boundFrame) /\ Looks M h (keeperOf f) k
theorem keeper_builtin (M : Model) (h : Heap) (id : String) : KeepsIt M h (.builtin id) := ⟨.machine, .inr (.inl rfl), Looks.of_pure rfl⟩
theorem keeper_type (M : Model) (h : Heap) (id : String) : KeepsIt M h (.type id) := ⟨.machine, .inr (.inl rfl), Looks.of_pure rfl⟩
section
variable {M : Model} {A : Around} {E : Value -> Shared -> Prop} {s : Shared} {env : Env}
theorem callW {K : PySem.W.Frag} {f : Value} {pos : Pos} {first : List Value} {xs : List Expr} {Q : Value -> Shared -> Prop} (hk : ∀ h, K.In h -> KeepsIt M h f)
  (h : wpAny M A (spliced (plainArgs xs env)) (fun vs s₁ => K.In s₁.heap /\ wpAny M A (call f (first ++ vs)) Q E s₁) E s) : wpAny M A (callWith pos f first (plainArgs xs env) []) Q E s := by
 refine PySem.W.callWith_of (P := K.In) (by rw [show (plainArgs xs env).any (·.1) = false by simp [plainArgs]]; rfl) hk ?_
 cases xs with
 | nil =>
  unfold evalArgs
  show wpAny _ _ (spliced [] >>= _) _ _ _
  refine wpAny_bind (wpAny_mono h (fun vs s' h' => ?_) fun J J x => x)
  refine wpAny_holding ?_
  exact wpAny_bind (wpAny_pure (wpAny_bind (wpAny_pure (wpAny_pure h'))))
 | cons x xs => exact PySem.Calls.evalArgs_plain h
theorem method_call {o : Expr} {m : Str} {ap p : Pos} {xs : List Expr} {Q : Value -> Shared -> Prop} (hs : attributeBase o m env (eval o env) = eval o env) (hp : ∀ x, x ∈ xs -> plainX x = true) (hl : (ap.endLine == p.line) = true) (hn : Nat.blt xs.length 30 = true)
  (h : ∀ pl, wpAny M A (eval o env) (fun ov s₁ => wpAny M A (getMethod ov m pl) (fun fx s₂ => wpAny M A (callWith p fx.1 fx.2 (plainArgs xs env) []) Q E s₂) E s₁) E s) : wpAny M A (eval (.Call (.Attribute o m ap) xs [] p) env) Q E s := by
 rw [arm_eval_Call, hs]
 refine wpAny_bind (wpAny_mono (h (do return (<- importBound o env).getD true)) (fun ov s₁ h₁ => wpAny_bind (wpAny_standAt ?_)) fun J J x => x)
 rw [starEach_plain hp, backTo_plain]
 unfold methodCall
 have hf : methodCallForm (xs.length + ([] : List Keyword).length) (plainArgs xs env) (backToKw p (keywordEach [] env)) = true := by
  have : xs.length < 30 := Nat.le_of_ble_eq_true hn
  simp [methodCallForm, plainArgs, keywordEach, backToKw, this]
 rw [hf]
 refine wpAny_bind (wpAny_holding ?_)
 unfold calleeOf
 rw [if_pos rfl]
 refine wpAny_mono h₁ (fun fx s₂ h₂ => ?_) fun J J x => x
 unfold methodCallPos
 refine wpAny_bind ?_
 rw [if_pos (by rw [beq_iff_eq.mp hl]; simp)]
 exact wpAny_pure h₂
end
section
variable {G : Gl} {d : Nat} {fi : FI}
def Prim1 (G : Gl) (d : Nat) (f : Value) (k : O -> Option (O × List Prop)) : Prop :=
 ∀ x o ps, k x = some (o, ps) -> All ps -> ∀ (X : FC) (E : Value -> Shared -> Prop) (W : WS) (φ : Nat -> List Addr) (s : Shared) (ρ : Loc), FS G d X -> At X W φ s ρ -> ∀ x', BR W s.heap x x' -> ∀ Q, Aft W s Q o -> wpAny X.C.M X.A (call f [x']) Q E s
noncomputable def eBi (x : Str) (f : Value) (hf : bootBuiltins x = some f) (hk : ∀ M h, KeepsIt M h f) (k : O -> Option (O × List Prop)) (h : Prim1 G d f k) (a : T G d fi) (p' p : Pos) (hb : isBi G fi x = true) : T G d fi :=
 .mk' (.Call (.Name x p') [a.x] [] p) (fun σ => bd (a.pk σ) fun x σ => rt (k x) σ) rfl
  (a.po.bd (R := fun x ρ o ρ' => ∃ ps, k x = some (o, ps) /\ All ps /\ ρ = ρ') (fun x => .rt fun o ps ρ e q => ⟨ps, e, q, rfl⟩) fun J x J J J hx q => by
   obtain ⟨ps, q1, q2, rfl⟩ := q
   intro X E W φ s e S F Q kk
   refine PyProof.Rows.Call_ (bi_ok S F (e ▸ hb) hf ?_)
   rw [starEach_plain (xs := [a.x]) (fun y q => by cases List.mem_singleton.mp q; exact a.pl), backTo_plain]
   refine callW (K := X.C.K) (fun h J => hk _ h) (PySem.Calls.spliced_cons (hx X E W φ s e S F _ fun x' W' φ' s' p' r' => PySem.Calls.spliced_nil ⟨p'.f.In S, ?_⟩))
   exact h _ _ _ q1 q2 X E W' φ' s' _ S p'.f _ r' _ (Aft.of p' kk)) fun J => rfl
noncomputable def lenO (o : O) : Option Nat := O.casesOn o (fun v => V.casesOn v none (fun J => none) (fun J => none) (fun s => some s.length) (fun l => some l.length) (fun l => some l.length) (fun J J => none) (fun J J J => none) (fun J => none)) (fun r => some r.length) (fun r => some r.length) (fun J J J => none) (fun J J J => none)
set_option tactic.hygienic true in
theorem primLen : Prim1 G d (.builtin "len") fun x => (lenO x).bind fun n => some (.val (.int n), []) := by
 intro x o ps e q X E W φ s ρ S F x' r Q k
 have hsl := sizeLine_lt
 obtain ⟨n, e1, e⟩ := obi e
 cases e
 have lst : ∀ {l : List V} {a : Addr} {vs : Array Value} {m : Nat}, s.heap.get? a = some (lstO vs m) -> VRs W s.heap l vs.toList -> l.length <= sizeLine -> l.length = n -> wpAny X.C.M X.A (call (.builtin "len") [.ref a]) Q E s := fun h1 h3 h2 e => by
  have hs := h3.size
  refine Calls.call_len_list ⟨_, h1, rfl, _, rfl⟩ (by rw [hs]; lia) ?_
  rw [hs, e]; exact k.here F.f.wf ⟨_, rfl⟩
 cases x with
 | obj _ _ _ => cases e1
 | dic _ _ _ => cases e1
 | own r' => cases e1; obtain ⟨a, rfl, vs, m, h1, h2, h3⟩ := r; exact lst h1 h2 (by simpa using h3) (by simp)
 | own2 r' =>
  cases e1
  obtain ⟨a, as, rfl, vs, m, h1, h2, h3, h4, _⟩ := r
  have hs : vs.size = r'.length := by rw [<- Array.length_toList, h2, List.length_reverse, List.length_map, h4.1]
  refine Calls.call_len_list ⟨_, h1, rfl, _, rfl⟩ (by rw [hs]; lia) ?_
  rw [hs]; exact k.here F.f.wf ⟨_, rfl⟩
 | val v =>
  cases v <;> first | cases e1 | skip
  ·rename_i z
   obtain ⟨t, rfl, ok, hz⟩ := r
   have hlen : (⟨z.toArray⟩ : Str).length = z.length := by simp [Str.length]
   refine P.len_str (by rw [hlen]; lia) ?_
   rw [hlen]; exact k.here F.f.wf ⟨_, rfl⟩
  ·obtain ⟨p, vs, m, rfl, _, h1, h2, h3⟩ := VR.tup r
   have hs := h3.size
   refine P.len_tuple h1 (by rw [hs]; lia) ?_
   rw [hs]; exact k.here F.f.wf ⟨_, rfl⟩
  ·obtain ⟨p, vs, m, rfl, _, h1, h2, h3⟩ := VR.lst r
   exact lst h1 h3 h2 rfl
noncomputable def eLen : T G d fi -> Pos -> Pos -> isBi G fi "len" = true -> T G d fi := eBi "len" (.builtin "len") boot_len (fun M h => keeper_builtin M h _) _ primLen
theorem primListT : Prim1 G d (.type "list") fun x => x.val?.bind fun v => v.tup?.bind fun l => some (.own l.reverse, []) := by
 intro x o ps e q X E W φ s ρ S F x' r Q k
 obtain ⟨v, e1, e⟩ := obi e
 obtain ⟨l, e2, e⟩ := obi e
 cases e
 rw [O.val_of e1, V.tup_of e2] at r
 obtain ⟨p, vs, m, rfl, _, h1, h2, h3⟩ := VR.tup r
 exact call_list_seq p (T := "tuple") (.inr rfl) h1 rfl rfl (fun h' c' hk ho => k.listAt (t := s.toks) F.f.wf hk (fresh_size _) ho (by rw [List.reverse_reverse]; exact h3) (by rwa [List.length_reverse])) (by rw [h3.size]; exact h2)
noncomputable def eListT : T G d fi -> Pos -> Pos -> isBi G fi "list" = true -> T G d fi := eBi "list" (.type "list") boot_list (fun M h => keeper_type M h _) _ primListT
theorem primTup : Prim1 G d (.type "tuple") fun x => (listO x).bind fun l => some (.val (.tup l), []) := by
 intro x o ps e q X E W φ s ρ S F x' r Q k
 obtain ⟨l, e1, e⟩ := obi e
 cases e
 obtain ⟨a, vs, n, rfl, h1, h2, h3⟩ := r.list e1
 refine call_tuple_list ⟨_, h1, rfl, _, rfl⟩ (fun h' hk => ?_) (by rw [h3.size]; exact h2)
 have g := Gs.of (t := s.toks) F.f.wf hk
 have k' : Aft W { s with heap := h' } Q (.val (.tup l)) := fun v' W' s' g' r => k v' W' s' ⟨g.g.trans g'.g, g'.gens, g'.os, g'.tk⟩ r
 exact k'.tuple (t := s.toks) (fun a q => by obtain ⟨o, e⟩ := F.f.wf a q; exact ⟨o, hk a o e⟩) (VRs.ag (g.g.ag F.f.wf) h3) h2
noncomputable def eTupL : T G d fi -> Pos -> Pos -> isBi G fi "tuple" = true -> T G d fi := eBi "tuple" (.type "tuple") boot_tuple (fun M h => keeper_type M h _) _ primTup
noncomputable def kindO (o : O) : Option Kd := O.casesOn o (fun v => V.casesOn v (some .none) (fun J => some .bool) (fun J => some .int) (fun J => some .str) (fun J => some .tup) (fun J => some .list) (fun J J => none) (fun J J J => none) (fun J => none)) (fun J => some .list) (fun J => some .list) (fun J J J => none) (fun J J J => none)
theorem isi_ok {X : FC} {W : WS} {φ : Nat -> List Addr} {s : Shared} {ρ : Loc} {E : Value -> Shared -> Prop} {a : O} {a' : Value} {t : Ty} {Q : Value -> Shared -> Prop} (S : FS G d X) (F : At X W φ s ρ) (r : BR W s.heap a a') (ht : t ∈ G.ty) {kd : Kd} (hk : kindO a = some kd)
  (fin : ∀ tk, s.toks <= tk -> Q (.bool (isiK kd t)) { s with toks := tk }) : wpAny X.C.M X.A (call (.builtin "isinstance") [a', .type t.n]) Q E s := by
 have f0 := fin s.toks (Nat.le_refl _)
 have f1 := fin (s.toks + 1) (Nat.le_succ _)
 cases a with
 | obj _ _ _ => cases hk
 | dic _ _ _ => cases hk
 | own r' =>
  cases hk
  obtain ⟨p, rfl, vs, n, h1, _⟩ := r
  cases t
  ·exact IsiPair.list_tuple h1 rfl f1
  ·exact IsiPair.list_str h1 rfl f1
  ·exact IsiPair.list_int h1 rfl f1
  ·exact IsiPair.list_bool h1 rfl f1
  ·exact IsiPair.list_list h1 rfl f0
 | own2 r' =>
  cases hk
  obtain ⟨p, as, rfl, vs, n, h1, _⟩ := r
  cases t
  ·exact IsiPair.list_tuple h1 rfl f1
  ·exact IsiPair.list_str h1 rfl f1
  ·exact IsiPair.list_int h1 rfl f1
  ·exact IsiPair.list_bool h1 rfl f1
  ·exact IsiPair.list_list h1 rfl f0
 | val v =>
  cases v with
  | ins _ _ => cases hk
  | dic _ _ _ => cases hk
  | exc _ => cases hk
  | none =>
   cases hk
   cases r
   cases t
   ·exact IsiPair.NoneType_tuple f1
   ·exact IsiPair.NoneType_str f1
   ·exact IsiPair.NoneType_int f1
   ·exact IsiPair.NoneType_bool f1
   ·exact IsiPair.NoneType_list f1
  | bool b =>
   cases hk
   cases r
   cases t
   ·exact IsiPair.bool_tuple f1
   ·exact IsiPair.bool_str f1
   ·exact IsiPair.bool_int f0
   ·exact IsiPair.bool_bool f0
   ·exact IsiPair.bool_list f1
  | int i =>
   cases hk
   obtain ⟨_, rfl⟩ := r
   cases t
   ·exact IsiPair.int_tuple f1
   ·exact IsiPair.int_str f1
   ·exact IsiPair.int_int f0
   ·exact IsiPair.int_bool f1
   ·exact IsiPair.int_list f1
  | str z =>
   cases hk
   obtain ⟨_, rfl, _⟩ := r
   cases t
   ·exact IsiPair.str_tuple f1
   ·exact IsiPair.str_str f0
   ·exact IsiPair.str_int f1
   ·exact IsiPair.str_bool f1
   ·exact IsiPair.str_list f1
  | tup l =>
   cases hk
   obtain ⟨p, vs, m, rfl, _, h1, _⟩ := VR.tup r
   cases t
   ·exact IsiPair.tuple_tuple h1 rfl f0
   ·exact IsiPair.tuple_str h1 rfl f1
   ·exact IsiPair.tuple_int h1 rfl f1
   ·exact IsiPair.tuple_bool h1 rfl f1
   ·exact IsiPair.tuple_list h1 rfl f1
  | lst l =>
   cases hk
   obtain ⟨p, vs, m, rfl, _, h1, _⟩ := VR.lst r
   cases t
   ·exact IsiPair.list_tuple h1 rfl f1
   ·exact IsiPair.list_str h1 rfl f1
   ·exact IsiPair.list_int h1 rfl f1
   ·exact IsiPair.list_bool h1 rfl f1
   ·exact IsiPair.list_list h1 rfl f0
noncomputable def eIsi (a : T G d fi) (t : Ty) (p' p'' p : Pos) (h : (isBi G fi "isinstance" && isBi G fi t.s && G.ty.contains t) = true) : T G d fi :=
 .mk' (.Call (.Name "isinstance" p') [a.x, .Name t.s p''] [] p) (fun σ => bd (a.pk σ) fun x σ => rt ((kindO x).bind fun k => some (.val (.bool (isiK k t)), [])) σ) rfl
  (a.po.bd (R := fun x ρ o ρ' => ∃ k, kindO x = some k /\ o = .val (.bool (isiK k t)) /\ ρ = ρ') (fun x => .rt fun o ps ρ e q => by obtain ⟨k, e1, e⟩ := obi e; cases e; exact ⟨k, e1, rfl, rfl⟩) fun J x J J J hx q => by
   obtain ⟨kd, hkd, rfl, rfl⟩ := q
   rw [Bool.and_eq_true, Bool.and_eq_true, List.contains_iff_mem] at h
   intro X E W φ s e S F Q kk
   refine PyProof.Rows.Call_ (bi_ok S F (e ▸ h.1.1) boot_isinstance ?_)
   rw [starEach_plain (xs := [a.x, .Name t.s p'']) (fun y q => by
    rcases List.mem_cons.mp q with rfl | q
    ·exact a.pl
    ·cases List.mem_singleton.mp q; rfl), backTo_plain]
   refine callW (K := X.C.K) (fun h J => keeper_builtin _ h _) (PySem.Calls.spliced_cons (hx X E W φ s e S F _ fun x' W' φ' s' p' r' => PySem.Calls.spliced_cons (bi_ok S p'.f (e ▸ h.1.2) (boot_ty t) (PySem.Calls.spliced_nil ⟨p'.f.In S, ?_⟩))))
   exact isi_ok S p'.f r' h.2 hkd fun tk ht => kk _ _ _ _ ⟨p'.f.toks tk ht, p'.ag, p'.vl⟩ (.val rfl)) fun J => rfl
def CallOK (G : Gl) (d : Nat) (a : Addr) (args : List V) (o : O) : Prop := ∀ (C : Cx) (A : Around) (W : WS) (s : Shared) (vals : List Value) (R : Result -> Shared -> Prop), GOk G C -> HdG G A s.heap.get? -> A.depth + 2 * d + 9 <= recursionLimit -> A.units + 20 * d + deep + 90 < cLine →
 (∀ b o, C.h.get? b = some o -> s.heap.get? b = some o) -> s.gens = #[] -> (∀ f, G.fd.lookup a = some f -> f.fi.pos = true -> 0 < s.toks) -> s.os = C.os -> (∀ a, W a -> ∃ o, s.heap.get? a = some o) -> VRs W s.heap args vals -> Aft W s (fun v' s' => R (.ok (.ret v')) s') o -> codeAny C.M A (.call (.ref a) ⟨vals, []⟩) R s
def tkOk (G : Gl) (b : Bool) (a : Addr) : Bool := match G.fd.lookup a with
 | some f => !f.fi.pos || b
 | none => true
theorem tkOk_of {G : Gl} {b : Bool} {a : Addr} {f : FD} (h : tkOk G b a = true) (hf : G.fd.lookup a = some f) (hp : f.fi.pos = true) : b = true := by
 unfold tkOk at h; rw [hf] at h; simpa [hp] using h
noncomputable def eCall (x : Str) (a : Addr) (r : Rw G d fi) (p' p : Pos) (h : (fi.isGlob x && (G.fn.lookup x == some a) && tkOk G fi.pos a) = true) : T G d fi :=
 .mk' (.Call (.Name x p') r.xs [] p) (fun σ => bd (r.ev σ) fun vs σ => told Tk.r? (fun J o => CallOK G d a vs o) id (fun _ ρ => ρ) σ) rfl
  (r.eo.bd (R := fun vs ρ o ρ' => CallOK G d a vs o /\ ρ = ρ') (fun vs => Ok.told (f := Tk.r?) (p := fun J o => CallOK G d a vs o) (r := id) (ρ := fun _ ρ => ρ) fun o ρ q => ⟨q, rfl⟩) fun J vs J o J hs q => by
   obtain ⟨q, rfl⟩ := q
   rw [Bool.and_eq_true, Bool.and_eq_true, beq_iff_eq] at h
   intro X E W φ s e S F Q kk
   obtain ⟨g1, g2⟩ := S.g.fn x a h.1.2
   refine PyProof.Rows.Call_ (glob_ok S F (e ▸ h.1.1) g1 ?_)
   rw [r.back]
   refine callW (K := X.C.K) (fun h hX => PySem.W.keeps_K g2 h hX) (hs.2 X E W φ s e S F _ fun vs' W' φ' s' p' r' => ⟨p'.f.In S, wpAny_call ?_⟩)
   exact q X.C X.A W' s' _ _ S.g (S.hd.mono p'.f.f.pin) (by have := S.dp; lia) (by have := S.un; lia) (p'.f.keep S) p'.f.gens (fun f hf hp => p'.f.tk (e ▸ tkOk_of h.2 hf hp)) p'.f.os p'.f.f.wf r' (Aft.of p' kk)) fun J => rfl
end
end Mine
end
section
namespace Mine
open PySem.W (Looks keepIn)
def asI : Option Nat -> Option Int := Option.map fun n => (n : Int)
noncomputable def cut {α : Type} (l : List α) (lo hi : Option Nat) : List α := (Option.casesOn hi l fun h => l.take h : List α).drop (Option.casesOn lo 0 id)
section
variable {M : Model} {A : Around} {E : Value -> Shared -> Prop} {s : Shared}
theorem wpAny_slicePartIndex {v : Value} {k : Option Int} {Q : Option Int -> Shared -> Prop} (hv : IsPart v k) (h : Q k s) : wpAny M A (Builtin.Slice.slicePartIndex v) Q E s := by
 cases hv with
 | none => exact wpAny_pure h
 | int i t =>
  unfold Builtin.Slice.slicePartIndex
  rw [if_neg (show ¬ ((Value.int i t == Value.none) = true) from Bool.false_ne_true)]
  refine wpAny_bind (wpAny_specialOf (T := "int") (typeIs_int s i t) F.slot_int_index.lookup ?_)
  simp only [Option.isNone_some, Bool.false_eq_true, if_false]
  exact wpAny_bind (wpAny_of_eq (a := i) rfl (wpAny_pure h))
end
theorem cut_eq {α : Type} (l : List α) (lo hi : Option Nat) : cut l lo hi = (l.drop (min (lo.getD 0) l.length)).take (min (hi.getD l.length) l.length - min (lo.getD 0) l.length) := by
 have e : ∀ a : Nat, (lo.getD 0) = a -> cut l lo hi = (Option.casesOn hi l fun h => l.take h : List α).drop a := by intro a h; subst h; cases lo <;> rfl
 rw [e _ rfl]
 generalize lo.getD 0 = a
 cases hi with
 | none =>
  show l.drop a = _
  simp only [Option.getD_none, Nat.min_self]
  rw [List.take_of_length_le (by rw [List.length_drop]; lia)]
  by_cases h : a <= l.length
  ·rw [Nat.min_eq_left h]
  ·rw [Nat.min_eq_right (by lia), List.drop_of_length_le (by lia), List.drop_of_length_le (Nat.le_refl _)]
 | some b =>
  show (l.take b).drop a = _
  simp only [Option.getD_some]
  by_cases h : a <= l.length
  ·rw [Nat.min_eq_left h, List.drop_take]
   by_cases h2 : b <= l.length
   ·rw [Nat.min_eq_left h2]
   ·rw [Nat.min_eq_right (by lia), List.take_of_length_le (by rw [List.length_drop]; lia), List.take_of_length_le (by rw [List.length_drop]; lia)]
  ·have h3 : min a l.length = l.length := by lia
   rw [h3, List.drop_of_length_le (by rw [List.length_take]; lia), List.drop_of_length_le (Nat.le_refl _)]; simp
theorem slicePick_cut (items : Array Value) (lo hi : Option Nat) : slicePick items (asI lo) (asI hi) none = (cut items.toList lo hi).toArray := by
 rw [slicePick_plain, cut_eq]
 cases lo <;> cases hi <;> simp [asI, clipAt_nat]
theorem cut_length_le {α : Type} (l : List α) (lo hi : Option Nat) : (cut l lo hi).length <= l.length := by
 rw [cut_eq, List.length_take, List.length_drop]; lia
theorem VRs.cut {W : WS} {h : Heap} {l : List V} {l' : List Value} (r : VRs W h l l') (lo hi : Option Nat) : VRs W h (Mine.cut l lo hi) (Mine.cut l' lo hi) := by
 unfold Mine.cut
 cases hi with
 | none => exact r.drop _
 | some n => exact (r.take n).drop _
theorem str_cut (z : List Nat) (lo hi : Option Nat) : (Builtin.Str.strSliceIndices (asI lo) (asI hi) 1 z.length).filterMap (z.toArray[·]?) = Mine.cut z lo hi /\ (Builtin.Str.strSliceIndices (asI lo) (asI hi) 1 z.length).length = (Mine.cut z lo hi).length := by
 have h : Builtin.Str.strSliceIndices (asI lo) (asI hi) 1 z.length = sliceRange (sliceBounds (asI lo) (asI hi) none z.length).1 (sliceBounds (asI lo) (asI hi) none z.length).2.1 1 := by
  cases lo <;> cases hi <;> rfl
 rw [h, sliceBounds_plain]
 simp only
 rw [sliceRange_one, pick_run, cut_eq, List.length_map, List.length_range, List.length_take, List.length_drop]
 cases lo <;> cases hi <;> simp [asI, clipAt_nat] <;> lia
def PR (x : Option Int) (v : Value) : Prop := Option.casesOn x (v = .none) fun i => ∃ t, v = .int i t
noncomputable def bds (x : Option Int) : Option Nat := Option.casesOn x none fun i => some i.toNat
noncomputable def bdo (x : Option Int) (ps : List Prop) : List Prop := Option.casesOn x ps fun i => (0 <= i /\ i <= 1000000) :: ps
theorem bdo_all {x : Option Int} {ps : List Prop} (h : All (bdo x ps)) : All ps /\ ∀ v, PR x v -> IsPart v (asI (bds x)) /\ ∃ q : Option (Int × Tok), v = partValue q /\ q.map (·.1) = asI (bds x) := by
 cases x with
 | none => exact ⟨h, fun v r => by cases r; exact ⟨.none, none, rfl, rfl⟩⟩
 | some i =>
  have h1 : 0 <= i := h.1.1
  have e : asI (bds (some i)) = some i := congrArg some (Int.toNat_of_nonneg h1)
  refine ⟨h.2, fun v r => ?_⟩
  obtain ⟨t, rfl⟩ := r
  rw [e]
  exact ⟨.int i t, some (i, t), rfl, rfl⟩
section
variable {G : Gl} {d : Nat} {fi : FI}
def BdG (G : Gl) (d : Nat) (fi : FI) (x : Option Expr) (ρ : Loc) (b : Option Int) (ρ' : Loc) : Prop := ∀ (X : FC) (E : Value -> Shared -> Prop) (W : WS) (φ : Nat -> List Addr) (s : Shared), X.fi = fi -> FS G d X -> At X W φ s ρ →
 ∀ Q : Value -> Shared -> Prop, (∀ v' W' φ' s', Pst X W s W' φ' s' ρ' -> PR b v' -> Q v' s') -> wpAny X.C.M X.A (evalPart x X.env) Q E s
structure Bd (G : Gl) (d : Nat) (fi : FI) where
 x : Option Expr
 ev : St -> Option (Option Int × St)
 eo : Ok ev (BdG G d fi x)
noncomputable def dNone : Bd G d fi := ⟨none, pu none, .pu fun _ X E W φ s e S F Q k => wpAny_pure (k _ _ _ _ (.refl F) rfl)⟩
noncomputable def dSome (a : T G d fi) : Bd G d fi := ⟨some a.x, fun σ => bd (a.ev σ) fun x σ => x.frz.int?.bind fun i => pu (some i) σ,
 a.eo.bd (R := fun x ρ b ρ' => ∃ i, x.frz = .int i /\ b = some i /\ ρ = ρ') (fun x σ b σ' e q => by
  obtain ⟨i, e1, e⟩ := obi e; cases e; exact ⟨q, i, V.int_of e1, rfl, rfl⟩) fun _ x _ _ _ h q X E W φ s e S F Q k => by
   obtain ⟨i, hx, rfl, rfl⟩ := q
   exact h.v X E W φ s e S F _ fun v' W' φ' s' p' r' => k _ _ _ _ p' (by rw [hx] at r'; exact r')⟩
noncomputable def kSlc (v : V) (lo hi : Option Int) : Option (O × List Prop) := V.casesOn v none (fun J => none) (fun J => none) (fun z => some (.val (.str (cut z (bds lo) (bds hi))), bdo lo (bdo hi []))) (fun l => some (.val (.tup (cut l (bds lo) (bds hi))), bdo lo (bdo hi [])))
 (fun l => some (.own (cut l (bds lo) (bds hi)).reverse, bdo lo (bdo hi []))) (fun J J => none) (fun J J J => none) (fun J => none)
theorem adjust_eq (lo hi : Option Nat) (n : Nat) : Builtin.Slice.sliceAdjust (asI lo) (asI hi) 1 (n : Int) = (((min (lo.getD 0) n : Nat) : Int), ((min (hi.getD n) n : Nat) : Int)) := by
 unfold Builtin.Slice.sliceAdjust asI
 cases lo <;> cases hi <;> simp <;> lia
theorem places_eq (a b : Nat) : Builtin.Slice.slicePlaces (a : Int) (b : Int) 1 = b - a := by
 unfold Builtin.Slice.slicePlaces
 simp only [Int.zero_lt_one, if_true, gt_iff_lt]
 split <;> lia
theorem range_pick (xs : Array Value) (a k : Nat) : ((List.range k).filterMap fun (i : Nat) => xs[((a : Int) + (i : Int) * 1).toNat]?) = (xs.toList.drop a).take k := by
 rw [<- pick_run xs a k, List.filterMap_map]
 congr 1
 funext i
 have : ((a : Int) + (i : Int) * 1).toNat = a + i := by lia
 rw [this]; rfl
set_option tactic.hygienic true in
theorem tuple_getitem_slice (l : Addr) (items : Array Value) (n : Nat) (a : Addr) (vl vu : Value) (lo hi : Option Nat) (pl : IsPart vl (asI lo)) (pu : IsPart vu (asI hi)) (hz : items.size <= sizeLine) :
  Meets (Builtin.«tuple.__getitem__» ⟨[.ref l, .ref a], []⟩)
   (fun J R s => s.heap.get? l = some (tupO items n) /\ s.heap.IsSliceOf a vl vu .none /\ (cut items.toList lo hi = items.toList -> R (.ok (.ret (.ref l))) s) ∧
    R (.ok (.ret (.ref s.heap.objs.size))) { s with heap := s.heap.push (tupO (cut items.toList lo hi).toArray 0) }) :=
 .of_wp fun prog w A R s h => by
  obtain ⟨hl, hs, h1, h2⟩ := h
  obtain ⟨os, hos, hcs, hds⟩ := id hs
  have hTs : s.TypeIs (.ref a) "slice" := ⟨os, hos, hcs⟩
  have hT : s.TypeIs (.ref l) "tuple" := ⟨_, hl, rfl⟩
  unfold Builtin.«tuple.__getitem__»
  show wpAny _ _ (Builtin.Tuple.tupleItemsOf (.ref l) >>= _) _ _ s
  refine wpAny_bind (wpAny_tupleItemsOf hl rfl ?_)
  refine wpAny_bind (wpAny_typeOf hTs ?_)
  rw [if_pos (by decide)]
  unfold Builtin.Slice.sliceApplied Builtin.Slice.sliceFields
  refine wpAny_bind (wpAny_bind (wpAny_bind (wpAny_field hos hds (x := vl) rfl (wpAny_bind (wpAny_field hos hds (x := vu) rfl (wpAny_bind (wpAny_field hos hds (x := .none) rfl (wpAny_pure ?_))))))))
  refine wpAny_bind (wpAny_slicePartIndex .none ?_)
  rw [if_neg (by decide)]
  refine wpAny_bind (wpAny_slicePartIndex pl (wpAny_bind (wpAny_slicePartIndex pu (wpAny_bind (wpAny_pure ?_)))))
  simp only [Option.getD_none]
  rw [adjust_eq]
  refine wpAny_pure ?_
  simp only [places_eq]
  have hc : ((List.range (min (hi.getD items.size) items.size - min (lo.getD 0) items.size)).filterMap fun (k : Nat) => items[(((min (lo.getD 0) items.size : Nat) : Int) + (k : Int) * 1).toNat]?) = cut items.toList lo hi := by
   rw [range_pick, cut_eq]; simp
  have fin : wpAny (model prog w) A.in1 (do let x <- Builtin.Tuple.tupleExact ((List.range (min (hi.getD items.size) items.size - min (lo.getD 0) items.size)).filterMap fun (k : Nat) => items[(((min (lo.getD 0) items.size : Nat) : Int) + (k : Int) * 1).toNat]?).toArray; ret x)
    (fun fin s' => ∃ v, fin = .done (.ret v) /\ R (.ok (.ret v)) s') (fun e s' => R (.error e) s') s := by
   rw [hc]
   refine wpAny_bind (wpAny_newObj_type (wpAny_pure ⟨_, rfl, h2⟩) ?_)
   show (cut items.toList lo hi).toArray.size <= sizeLine
   rw [List.size_toArray]
   exact Nat.le_trans (cut_length_le _ _ _) (by simpa using hz)
  refine wpAny_ite ?_
  split
  ·rename_i q
   simp only [Bool.and_eq_true, beq_iff_eq] at q
   refine wpAny_bind (wpAny_bind (wpAny_typeOf hT (wpAny_pure ?_)))
   rw [if_pos (by decide)]
   refine wpAny_bind (wpAny_rule (wpAny_pure ⟨_, rfl, h1 ?_⟩))
   rw [cut_eq]
   have h0 : min (lo.getD 0) items.toList.length = 0 := by have := q.1.1; simp at this ⊢; lia
   rw [h0, List.drop_zero]
   refine List.take_of_length_le ?_
   have := q.2
   simp only [Array.length_toList] at h0 ⊢
   lia
  ·exact fin
set_option tactic.hygienic true in
theorem slc_ok {C : Cx} {A : Around} {E : Value -> Shared -> Prop} {W : WS} {s : Shared} {v : V} {v' vl vu : Value} {lo hi : Option Int} {o : O} {ps : List Prop} {value : Expr} {lower upper : Option Expr} {p : Pos} {Q : Value -> Shared -> Prop} {sl : Addr} (wf : ∀ a, W a -> ∃ o, s.heap.get? a = some o) (r : VR W s.heap v v')
  (rl : PR lo vl) (ru : PR hi vu) (e : kSlc v lo hi = some (o, ps)) (hq : All ps) (hsl : s.heap.IsSliceOf sl vl vu .none) (k : Aft W s Q o) : wpAny C.M A (PyProof.Rows.subscriptTail value (.Slice lower upper none p) v' (.ref sl)) Q E s := by
 have hss := sizeLine_lt
 have hsub : ∀ o i : Value, subscripted (.Slice lower upper none p) false o i = operate [i, o] (getItem o i) := fun J J => rfl
 cases v <;> first | cases e | skip
 ·rename_i z
  obtain ⟨hq, b1⟩ := bdo_all hq
  obtain ⟨_, ql, rfl, ql2⟩ := b1 _ rl
  obtain ⟨_, qu, rfl, qu2⟩ := (bdo_all hq).2 _ ru
  obtain ⟨t1, rfl, ok, hz⟩ := r
  generalize bds lo = nlo at *
  generalize bds hi = nhi at *
  have hcl := cut_length_le z nlo nhi
  obtain ⟨hc1, hc2⟩ := str_cut z nlo nhi
  have hpk : slicePicked ⟨z.toArray⟩ ql qu none = Builtin.Str.strSliceIndices (asI nlo) (asI nhi) 1 z.length := by
   unfold slicePicked
   rw [ql2, qu2]; simp [Str.length]
  have hok : PyData.strOk ⟨(Mine.cut z nlo nhi).toArray⟩ = true := strOk_of ok fun c hc => by
   rw [cut_eq] at hc; exact List.mem_of_mem_drop (List.mem_of_mem_take hc)
  refine PyProof.Rows.tail_any (T := "str") (typeIs_str s _ t1) F.slot_str_getitem.lookup (wpAny_getItem_str_slice (l := ql) (u := qu) (st := none) ?_ rfl ?_) (hsub _ _)
  ·obtain ⟨o, a1, a2, a3⟩ := hsl; exact ⟨o, a1, a2, a3⟩
  ·unfold sliceMade
   rw [hpk]
   split
   ·rename_i q
    simp only [Option.map_none, Option.getD_none, beq_self_eq_true, Bool.true_and, beq_iff_eq] at q
    rw [hc2] at q
    have hcz : Mine.cut z nlo nhi = z := by
     have q : (Mine.cut z nlo nhi).length = z.length := by simpa [Str.length] using q
     rw [cut_eq, List.length_take, List.length_drop] at q
     rw [cut_eq]
     have h0 : z.length = 0 \/ min (nlo.getD 0) z.length = 0 := by lia
     rcases h0 with h0 | h0
     ·rw [List.length_eq_zero_iff.mp h0]; simp
     ·rw [h0, List.drop_zero]; exact List.take_of_length_le (by lia)
    rw [hcz] at k
    exact k.here (t := s.toks) wf ⟨_, rfl, ok, hz⟩
   ·have hm : ((Builtin.Str.strSliceIndices (asI nlo) (asI nhi) 1 z.length).filterMap ((⟨z.toArray⟩ : Str).cps[·]?)) = Mine.cut z nlo nhi := hc1
    rw [hm]
    exact ⟨by simp [Str.length]; lia, k.here wf ⟨_, rfl, hok, by lia⟩⟩
 ·rename_i l
  obtain ⟨hq, b1⟩ := bdo_all hq
  obtain ⟨pl, _⟩ := b1 _ rl
  obtain ⟨pu, _⟩ := (bdo_all hq).2 _ ru
  obtain ⟨ad, vs, n, rfl, hw, h1, h2, h3⟩ := VR.tup r
  generalize bds lo = nlo at *
  generalize bds hi = nhi at *
  have hcr := h3.cut nlo nhi
  have hcl := cut_length_le l nlo nhi
  refine PyProof.Rows.tail_any (T := "tuple") ⟨_, h1, rfl⟩ F.slot_tuple_getitem.lookup (getItem_meets ⟨_, h1, rfl⟩ (by decide) F.slot_tuple_getitem F.entry_tuple_getitem (F.args_tuple_getitem_2 _ _)
   (tuple_getitem_slice ad vs n sl vl vu nlo nhi pl pu (by rw [h3.size]; exact h2)) ⟨h1, hsl, fun hw' => ?_, ?_⟩) (hsub _ _)
  ·refine k.here (t := s.toks) wf ⟨ad, vs, n, rfl, hw, h1, by lia, ?_⟩
   rw [hw'] at hcr; exact hcr
  ·exact k.tuple (t := s.toks) wf (by simpa using hcr) (by lia)
 ·rename_i l
  obtain ⟨hq, b1⟩ := bdo_all hq
  obtain ⟨pl, _⟩ := b1 _ rl
  obtain ⟨pu, _⟩ := (bdo_all hq).2 _ ru
  obtain ⟨ad, vs, n, rfl, hw, h1, h2, h3⟩ := VR.lst r
  generalize bds lo = nlo at *
  generalize bds hi = nhi at *
  have hcr := h3.cut nlo nhi
  have hcl := cut_length_le l nlo nhi
  refine PyProof.Rows.tail_any (T := "list") ⟨_, h1, rfl⟩ F.slot_list_getitem.lookup (wpAny_getItem_list_slice ⟨_, h1, rfl, _, rfl⟩ hsl pl pu .none (by simp) (k.list (t := s.toks) wf ?_ (by rw [List.length_reverse]; lia)) (by rw [h3.size]; exact h2)) (hsub _ _)
  rw [slicePick_cut, List.reverse_reverse]; simpa using hcr
noncomputable def eSlc (a : T G d fi) (lo hi : Bd G d fi) (p' p : Pos) : T G d fi :=
 .mk' (.Subscript a.x (.Slice lo.x hi.x none p') p) (fun σ => bd (a.ev σ) fun x σ => bd (lo.ev σ) fun l σ => bd (hi.ev σ) fun h σ => rt (kSlc x.frz l h) σ) rfl
  (a.eo.bd (R := fun x ρ o ρ' => ∃ l h ρ₁ ps, BdG G d fi lo.x ρ l ρ₁ /\ BdG G d fi hi.x ρ₁ h ρ' /\ kSlc x.frz l h = some (o, ps) /\ All ps) (fun x => lo.eo.bd (R := fun l ρ o ρ' => ∃ h ps, BdG G d fi hi.x ρ h ρ' /\ kSlc x.frz l h = some (o, ps) /\ All ps)
   (fun l => hi.eo.bd (R := fun h ρ o ρ' => ∃ ps, kSlc x.frz l h = some (o, ps) /\ All ps /\ ρ = ρ') (fun h => .rt fun o ps ρ e q => ⟨ps, e, q, rfl⟩) fun J h J J J z q => by obtain ⟨ps, q1, q2, rfl⟩ := q; exact ⟨h, ps, z, q1, q2⟩)
   fun _ l ρ₁ _ _ z q => by obtain ⟨h, ps, q1, q2, q3⟩ := q; exact ⟨l, h, ρ₁, ps, z, q1, q2, q3⟩) fun J x J J J z q => by
   obtain ⟨l, h, ρ₁, ps, hl, hh, q1, q2⟩ := q
   intro X E W φ s e S F Q kk
   refine PyProof.Rows.Subscript_ (z.v X E W φ s e S F _ fun x' W₁ φ₁ s₁ p₁ r₁ => wpAny_Slice (hl X E W₁ φ₁ s₁ e S p₁.f _ fun l' W₂ φ₂ s₂ p₂ r₂ => hh X E W₂ φ₂ s₂ e S p₂.f _ fun h' W₃ φ₃ s₃ p₃ r₃ => wpAny_pure ?_))
   have hk : ∀ a o, s₃.heap.get? a = some o -> (s₃.heap.push { cls := .type "slice", data := .fields #[l', h', .none] }).get? a = some o := fun J J q => Heap.get?_push_of_some _ q
   have g := Gs.of (t := s₃.toks) p₃.f.f.wf hk
   have p4 := Pst.gs p₃.f g
   exact slc_ok (s := { s₃ with heap := _ }) p4.f.f.wf (((r₁.ag p₂.ag).ag p₃.ag).ag p4.ag) r₂ r₃ q1 q2 (Heap.IsSliceOf.new ..) (Aft.of (((p₁.trans p₂).trans p₃).trans p4) kk)) fun J => rfl
end
end Mine
end
section
namespace Mine
open PySem.W (Looks keepIn)
section
variable {G : Gl} {d : Nat} {fi : FI}
noncomputable def textsOf (l : List V) : Option (List (List Nat)) := @List.rec V (fun J => Option (List (List Nat))) (some []) (fun v J r => v.str?.bind fun s => r.bind fun t => some (s :: t)) l
noncomputable def popV (i : Nat) (σ : St) : Option (O × St) := (slot σ.ρ i).bind fun o => O.casesOn o (fun J => none) (fun r => List.casesOn r none fun v r => some (.val v, ⟨σ.ρ.set i (some (.own r)), σ.tp, σ.ob⟩)) (fun J => none) (fun J J J => none) fun J J J => none
noncomputable def ePop (x : Str) (i : Nat) (xp ap p : Pos) (h : (fi.isVar x i && (ap.endLine == p.line)) = true) : T G d fi :=
 .mk' (.Call (.Attribute (.Name x xp) "pop" ap) [] [] p) (popV i) rfl (by
  intro σ a σ' e q
  obtain ⟨o, e1, e⟩ := obi e
  rw [Bool.and_eq_true] at h
  cases o with
  | val v => cases e
  | own2 r => cases e
  | obj _ _ _ => cases e
  | dic _ _ _ => cases e
  | own r =>
   cases r with
   | nil => cases e
   | cons v r =>
    cases e
    refine ⟨q, fun X E W φ s ef S F Q kk => method_call rfl (fun z q => by cases q) h.2 rfl fun pl => load_ok S F (ef ▸ h.1) (slot_some e1) fun x' hx hn hv rr => ?_⟩
    obtain ⟨ad, hp, rfl, vs, n, h1, h2, h3⟩ := rr
    refine getMethod_builtin (T := "list") ⟨_, h1, rfl⟩ PySem.F.plainAttrs_list PySem.F.slot_list_pop PySem.F.type_list_pop (fun a q => by cases q; exact ⟨_, h1, rfl⟩) ?_
    refine callW (K := X.C.K) (fun h J => keeper_builtin _ h _) (PySem.Calls.spliced_nil ⟨F.In S, ?_⟩)
    have hs := h2.size
    rw [List.length_reverse] at hs
    have hz : vs.size - 1 = r.length := by rw [hs]; rfl
    rw [List.reverse_cons] at h2
    obtain ⟨v', g1, g2⟩ := h2.get (i := r.length) (v := v) (by rw [<- List.length_reverse]; exact List.getElem?_concat_length)
    refine call_meets PySem.F.slot_list_pop ⟨_, h1, rfl⟩ PySem.F.entry_list_pop (PySem.F.args_list_pop_1 _) (MeetsSeq.list_pop_last ad vs n v' (by rw [hz, <- Array.getElem?_toList]; exact g1) (by rw [hs]; exact h3)) ⟨h1, ?_⟩
    have hd : (vs.eraseIdxIfInBounds (vs.size - 1)).toList = vs.toList.take r.length := by
     have : r.length + 1 = vs.toList.length := by rw [Array.length_toList]; exact hs.symm
     rw [Array.toList_eraseIdxIfInBounds, hz, List.eraseIdx_eq_dropLast this, List.dropLast_eq_take, <- this]; rfl
    have ht := h2.take r.length
    rw [show ((r.reverse ++ [v]).take r.length) = r.reverse by rw [<- List.length_reverse]; exact List.take_left] at ht
    have hsb : Heap.SameBut ad s.heap (s.heap.update ad (Obj.mapSeq fun xs => xs.eraseIdxIfInBounds (vs.size - 1))) := Heap.SameBut.update ..
    obtain ⟨A, B⟩ := F.turn (x := x) (i := i) (t := s.toks) (r := r) (fun y hy => S.ti y x i hy hx) hp hsb hv (Heap.get?_update_self _ h1 rfl) (by rw [hd]; exact ht) (Nat.le_of_succ_le h3)
    refine kk _ _ _ _ ⟨A, B, fun y w hw => ?_⟩ (.val (g2.ag B))
    have hno := F.f.notOwn h1
    obtain ⟨q, m, ⟨o, es, ep, e, z⟩, hm⟩ | ⟨q, c, hc, o, e, z⟩ := hw
    ·exact .inl ⟨q, m, ⟨o, es, ep, (hsb.2 _ (Ne.symm hno.1)).trans e, z⟩, hm⟩
    ·exact .inr ⟨q, c, hc, o, (hsb.2 c fun e => hno.2 y (e ▸ hc)).trans e, z⟩) fun J => rfl
end
end Mine
end
section
namespace Mine
open PySem.W (Looks keepIn)
structure Fre (X : FC) (W : WS) (φ : Nat -> List Addr) (a : Addr) : Prop where
 pin : X.pin a = none
 w : ¬ W a
 mu : ¬ Mut X φ a
 nc : ∀ x, X.env.cells.lookup x ≠ some a
noncomputable def FC.pinned (X : FC) (a : Addr) (o : Obj) : FC := { X with pin := fun b => if b = a then some o else X.pin b, W0 := fun b => b ≠ a /\ X.W0 b }
section
variable {G : Gl} {d : Nat} {X : FC} {W : WS} {φ : Nat -> List Addr} {s : Shared} {ρ : Loc} {h' : Heap} {a : Addr} {o : Obj}
theorem Fre.of (F : At X W φ s ρ) (e : s.heap.get? a = none) : Fre X W φ a := by
 have nc : ∀ x, X.env.cells.lookup x ≠ some a := fun x m => by obtain ⟨o, _, z, _⟩ := F.f.cells x a m; rw [e] at z; cases z
 refine ⟨?_, fun q => ?_, fun m => ?_, nc⟩
 ·cases q : X.pin a with
  | none => rfl
  | some o => have := F.f.pin a o q; rw [e] at this; cases this
 ·obtain ⟨o, z⟩ := F.f.wf a q; rw [e] at z; cases z
 ·rcases m with m | ⟨_, x, m⟩ | ⟨i, m⟩
  ·obtain ⟨o, _, _, z, _⟩ := F.f.ns; rw [<- m, e] at z; cases z
  ·exact nc x m
  ·obtain ⟨_, z, _⟩ := F.ow i a m; rw [e] at z; cases z
theorem At.move (F : At X W φ s ρ) {D : Addr -> Prop} (f : ∀ b, D b -> Fre X W φ b) {W' : WS} {t : Nat} (hk : ∀ b o, ¬ D b -> s.heap.get? b = some o -> h'.get? b = some o) (hw : ∀ b, W b -> W' b) (wf : ∀ b, W' b -> ∃ o, h'.get? b = some o) (nw : ∀ b o, ¬ D b -> s.heap.get? b = some o -> W' b -> W b) (ht : s.toks <= t := by first | exact Nat.le_refl _ | assumption | exact Nat.le_succ _ | omega | (dsimp only; omega) | (dsimp only at *; omega)) :
  At X W' φ { s with heap := h', toks := t } ρ /\ Ag W s.heap W' h' /\ ∀ x v, Val X.env s.heap x v -> Val X.env h' x v := by
 have ne : ∀ b, W b -> ¬ D b := fun b q e => (f b e).w q
 have nm : ∀ b, Mut X φ b -> ¬ D b := fun b q e => (f b e).mu q
 have ag : Ag W s.heap W' h' := ⟨hw, fun b q => by obtain ⟨o, e⟩ := F.f.wf b q; exact (hk b o (ne b q) e).trans e.symm⟩
 have val : ∀ x v, Val X.env s.heap x v -> Val X.env h' x v := fun x v r => by
  obtain ⟨q, m, ⟨o, es, ep, e, z⟩, hm⟩ | ⟨q, c, hc, o, e, z⟩ := r
  ·exact .inl ⟨q, m, ⟨o, es, ep, hk _ _ (nm _ (.inl rfl)) e, z⟩, hm⟩
  ·exact .inr ⟨q, c, hc, o, hk _ _ (fun e => (f c e).nc x hc) e, z⟩
 have ow : ∀ i b, b ∈ φ i -> ¬ D b := fun i b q => nm b (.inr (.inr ⟨i, q⟩))
 have np : ∀ b o, X.pin b = some o -> ¬ D b := fun b o e q => by rw [(f b q).pin] at e; cases e
 refine ⟨⟨F.gens, F.os, ⟨fun b o e => hk b o (np b o e) (F.f.pin b o e), fun b q => ⟨(F.f.mu b q).1, fun w => (F.f.mu b q).2 ?_⟩, wf, fun b o e w => F.f.w0 b o e (nw b o (np b o e) (F.f.pin b o e) w), F.f.dis, ?_, fun x c q => ?_⟩, fun x i hx o ho hn => ?_, fun i b q => ?_, fun h => Nat.lt_of_lt_of_le (F.tk h) ht, fun y v e => val y v (F.kv y v e)⟩, ag, val⟩
 ·have : ∃ o, s.heap.get? b = some o := by
   rcases q with q | ⟨_, x, q⟩ | ⟨i, q⟩
   ·obtain ⟨o, _, _, e, _⟩ := F.f.ns; exact ⟨o, q ▸ e⟩
   ·obtain ⟨o, _, e, _⟩ := F.f.cells x b q; exact ⟨o, e⟩
   ·obtain ⟨_, e, _⟩ := F.ow i b q; exact ⟨_, e⟩
  obtain ⟨o, e⟩ := this
  exact nw b o (nm b q) e w
 ·obtain ⟨o, es, ep, e, z⟩ := F.f.ns; exact ⟨o, es, ep, hk _ _ (nm _ (.inl rfl)) e, z⟩
 ·obtain ⟨o, v, e, z⟩ := F.f.cells x c q; exact ⟨o, v, hk c o (fun e => (f c e).nc x q) e, z⟩
 ·obtain ⟨v', p, r⟩ := F.lr x i hx o ho hn
  exact ⟨v', val _ _ p, r.ag ag fun b q => by obtain ⟨_, e, _⟩ := F.ow i b q; exact (hk b _ (ow i b q) e).trans e.symm⟩
 ·obtain ⟨o, e, n⟩ := F.ow i b q; exact ⟨o, hk b _ (ow i b q) e, n⟩
theorem At.loose (F : At X W φ s ρ) (f : Fre X W φ a) {t : Nat} (hk : ∀ b o, b ≠ a -> s.heap.get? b = some o -> h'.get? b = some o) (ht : s.toks <= t := by first | exact Nat.le_refl _ | assumption | exact Nat.le_succ _ | omega | (dsimp only; omega) | (dsimp only at *; omega)) :
  At X W φ { s with heap := h', toks := t } ρ /\ Ag W s.heap W h' /\ ∀ x v, Val X.env s.heap x v -> Val X.env h' x v :=
 F.move (D := (· = a)) (fun b q => q ▸ f) hk (fun J q => q) (fun b q => by obtain ⟨o, e⟩ := F.f.wf b q; exact ⟨o, hk b o (fun z => f.w (z ▸ q)) e⟩) (fun J J J J q => q) ht
set_option tactic.hygienic true in
theorem At.pinned (F : At X W φ s ρ) (f : Fre X W φ a) (e : s.heap.get? a = some o) : At (X.pinned a o) W φ s ρ where
 gens := F.gens
 os := F.os
 f := { F.f with
  pin := fun b o' q => by
   dsimp only [FC.pinned] at q
   split at q
   ·rename_i z; cases q; rw [z]; exact e
   ·exact F.f.pin b o' q
  mu := fun b q => by
   have q : Mut X φ b := q
   have z : b ≠ a := fun z => f.mu (z ▸ q)
   exact ⟨(if_neg z).trans (F.f.mu b q).1, (F.f.mu b q).2⟩
  w0 := fun b o' q w => by
   dsimp only [FC.pinned] at q ⊢
   split at q
   ·rename_i z; exact absurd (z ▸ w) f.w
   ·rename_i z; exact ⟨z, F.f.w0 b o' q w⟩ }
 lr := F.lr
 ow := F.ow
 tk := F.tk
 kv := F.kv
theorem FC.pinned_ne {b : Addr} (h : b ≠ a) : (X.pinned a o).pin b = X.pin b := if_neg h
theorem FC.pinned_same : (X.pinned a o).pin a = some o := if_pos rfl
theorem At.unpin (F : At (X.pinned a o) W φ s ρ) (hp : X.pin a = none) (nc : ∀ x, X.env.cells.lookup x ≠ some a) : At X W φ s ρ /\ Fre X W φ a /\ s.heap.get? a = some o := by
 have ne : ∀ b, Mut X φ b -> b ≠ a := fun b q e => by have := (F.f.mu b q).1; rw [e, FC.pinned_same] at this; cases this
 refine ⟨⟨F.gens, F.os, { F.f with pin := fun b o' q => F.f.pin b o' ?_, mu := fun b q => ⟨?_, (F.f.mu b q).2⟩, w0 := fun b o' q w => (F.f.w0 b o' ?_ w).2 }, F.lr, F.ow, F.tk, F.kv⟩, ⟨hp, fun w => (F.f.w0 a o FC.pinned_same w).1 rfl, fun q => ne a q rfl, nc⟩, F.f.pin a o FC.pinned_same⟩
 ·rw [FC.pinned_ne fun e => by rw [e, hp] at q; cases q]; exact q
 ·rw [<- FC.pinned_ne (ne b q)]; exact (F.f.mu b q).1
 ·rw [FC.pinned_ne fun e => by rw [e, hp] at q; cases q]; exact q
theorem FS.pinned (S : FS G d X) (hp : X.pin a = none) : FS G d (X.pinned a o) :=
 ⟨S.g, fun b o' q => by rw [FC.pinned_ne fun e => by have := S.base b o' q; rw [e, hp] at this; cases this]; exact S.base b o' q, S.hd.mono fun b o' q => by rw [FC.pinned_ne fun e => by rw [e, hp] at q; cases q]; exact q, S.dp, S.un, S.fn, S.gl, S.bi, S.nm, S.cel, S.inj, S.ti, S.kv⟩
theorem RO.unpin {r : O} {v' : Value} {h : Heap} (x : RO (X.pinned a o) W φ h r v') : RO X W φ h r v' := by
 obtain ⟨p, x, y⟩ := x
 refine ⟨p, x, fun b q => ⟨(y b q).1, (y b q).2.1, ?_⟩⟩
 have z := (y b q).2.2
 rwa [FC.pinned_ne fun e => by rw [e, FC.pinned_same] at z; cases z] at z
end
noncomputable def rangeL (a : Int) (n : Nat) : List V := @Nat.rec (fun J => Int -> List V) (fun J => []) (fun J f a => .int a :: f (a + 1)) n a
noncomputable def rangeS (st a : Int) (n : Nat) : List V := @Nat.rec (fun J => Int -> List V) (fun J => []) (fun J f a => .int a :: f (a + st)) n a
noncomputable def signsL (l : List Nat) : List V := @List.rec Nat (fun J => List V) [] (fun c J r => .str [c] :: r) l
inductive ItR (W : WS) (h : Heap) (it : Addr) : List V -> Prop
 | list {a : Addr} {vs : Array Value} {n i : Nat} {l : List V} : h.IsListIter it a i -> W a -> h.get? a = some (lstO vs n) -> VRs W h l (vs.toList.drop i) -> ItR W h it l
 | rev {a : Addr} {vs : Array Value} {n i : Nat} {l : List V} : h.IsRevIter it a ((i : Int) - 1) -> W a -> h.get? a = some (lstO vs n) -> i <= vs.size -> VRs W h l (vs.toList.take i).reverse -> ItR W h it l
 | range {a : Int} {n : Nat} : IsRangeIter h it a n 1 -> ItR W h it (rangeL a n)
 | tup {a : Addr} {vs : Array Value} {n i : Nat} {l : List V} : h.IsTupleIter it a i -> W a -> h.get? a = some (tupO vs n) -> VRs W h l (vs.toList.drop i) -> ItR W h it l
 | range2 {a st : Int} {n : Nat} : IsRangeIter h it a n st -> ItR W h it (rangeS st a n)
 | str {b : Bool} {z : List Nat} {t : Tok} {i : Nat} {l : List V} : h.IsStrIter it (Bool.casesOn b "str_iterator" "str_ascii_iterator") ⟨z.toArray⟩ t i -> PyData.strOk ⟨z.toArray⟩ = true -> l = signsL (z.drop i) -> ItR W h it l
section
variable {X : FC} {W : WS} {φ : Nat -> List Addr} {s : Shared} {ρ : Loc} {it : Addr} {E : Value -> Shared -> Prop}
theorem ItR.ag {h h' : Heap} {W' : WS} {l : List V} (I : ItR W h it l) (g : Ag W h W' h') (e : h'.get? it = h.get? it) : ItR W' h' it l := by
 cases I with
 | list hit w ha r => obtain ⟨o, a, b⟩ := hit; exact .list ⟨o, e.trans a, b⟩ (g.w _ w) ((g.k _ w).trans ha) (r.ag g)
 | rev hit w ha hi r => obtain ⟨o, a, b⟩ := hit; exact .rev ⟨o, e.trans a, b⟩ (g.w _ w) ((g.k _ w).trans ha) hi (r.ag g)
 | range hit => exact .range (e.trans hit)
 | tup hit w ha r => obtain ⟨o, a, b⟩ := hit; exact .tup ⟨o, e.trans a, b⟩ (g.w _ w) ((g.k _ w).trans ha) (r.ag g)
 | range2 hit => exact .range2 (e.trans hit)
 | str hit ok r => obtain ⟨o, a, b⟩ := hit; exact .str ⟨o, e.trans a, b⟩ ok r
theorem ItR.at {h : Heap} {l : List V} (I : ItR W h it l) : ∃ o, h.get? it = some o := by
 cases I with
 | list hit w ha r => obtain ⟨o, a, b⟩ := hit; exact ⟨o, a⟩
 | rev hit w ha hi r => obtain ⟨o, a, b⟩ := hit; exact ⟨o, a⟩
 | range hit => exact ⟨_, hit⟩
 | tup hit w ha r => obtain ⟨o, a, b⟩ := hit; exact ⟨o, a⟩
 | range2 hit => exact ⟨_, hit⟩
 | str hit _ _ => obtain ⟨o, a, b⟩ := hit; exact ⟨o, a⟩
theorem ItR.self {l : List V} {C : Cx} {A : Around} {Q : Value -> Shared -> Prop} (I : ItR W s.heap it l) (h : Q (.ref it) s) : wpAny C.M A (pyIter (.ref it)) Q E s := by
 cases I with
 | list hit _ _ _ => exact wpAny_pyIter_listiter hit h
 | rev hit _ _ _ _ => exact wpAny_pyIter_revIter hit h
 | range hit => exact wpAny_pyIter_rangeiter hit h
 | tup hit _ _ _ => exact wpAny_pyIter_tupleiter hit h
 | range2 hit => exact wpAny_pyIter_rangeiter hit h
 | @str b _ _ _ _ hit _ _ => cases b with
  | false => exact wpAny_pyIter_striter_wide hit h
  | true => exact wpAny_pyIter_striter_ascii hit h
theorem ItR.next {l : List V} {Q : Option Value -> Shared -> Prop} (hh : Hd X.A X.pin) (F : At X W φ s ρ) (f : Fre X W φ it) (I : ItR W s.heap it l)
  (k : ∀ s', At X W φ s' ρ -> Ag W s.heap W s'.heap -> (∀ b o, b ≠ it -> s.heap.get? b = some o -> s'.heap.get? b = some o) -> @List.casesOn V (fun J => Prop) l (Q none s') (fun v r => ∀ v', VR W s'.heap v v' -> ItR W s'.heap it r -> Q (some v') s')) :
  wpAny X.C.M X.A (pyNext (.ref it)) Q E s := by
 have go : ∀ {h' : Heap} {t : Nat}, s.toks <= t -> (∀ b o, b ≠ it -> s.heap.get? b = some o -> h'.get? b = some o) -> Ag W s.heap W h' /\ @List.casesOn V (fun J => Prop) l (Q none { s with heap := h', toks := t }) (fun v r => ∀ v', VR W h' v v' -> ItR W h' it r -> Q (some v') { s with heap := h', toks := t }) := fun {h' t} ht hk => by
  obtain ⟨A, B, _⟩ := F.loose (t := t) f hk ht; exact ⟨B, k _ A B hk⟩
 have go' : ∀ {h' : Heap} {t : Nat}, Heap.SameBut it s.heap h' -> s.toks <= t -> _ := fun {h' t} hs ht => go (h' := h') (t := t) ht fun b o q e => (hs.2 b q).trans e
 cases I with
 | @list a vs n i l hit w ha r =>
  cases l with
  | nil =>
   refine next_list_end hh F.f.pin f.pin hit ⟨_, ha, rfl, _, rfl⟩ ?_ fun h' he' => (go (t := s.toks) (Nat.le_refl _) fun b o q e => he' b o q e).2
   have := congrArg List.length (show vs.toList.drop i = [] from r)
   rw [List.length_drop, Array.length_toList] at this
   exact Array.getElem?_eq_none (by simp at this; lia)
  | cons v l =>
   obtain ⟨v', r', e, rv, rl⟩ := VRs.inv r
   have hv : vs[i]? = some v' := by rw [<- Array.getElem?_toList, <- Nat.add_zero i, <- List.getElem?_drop, e]; rfl
   have hr : r' = vs.toList.drop (i + 1) := by rw [<- List.drop_drop, e]; rfl
   refine wpAny_pyNext_list_item hit ⟨_, ha, rfl, _, rfl⟩ hv fun h' hit' hs' => ?_
   obtain ⟨g, k⟩ := go' (t := s.toks) hs' (Nat.le_refl _)
   exact k v' (rv.ag g) (.list hit' w ((g.k _ w).trans ha) (hr ▸ rl.ag g))
 | @tup a vs n i l hit w ha r =>
  cases l with
  | nil =>
   refine next_tuple_end hh F.f.pin f.pin hit ⟨_, ha, rfl, _, rfl⟩ ?_ fun h' he' => (go (t := s.toks) (Nat.le_refl _) fun b o q e => he' b o q e).2
   have := congrArg List.length (show vs.toList.drop i = [] from r)
   rw [List.length_drop, Array.length_toList] at this
   exact Array.getElem?_eq_none (by simp at this; lia)
  | cons v l =>
   obtain ⟨v', r', e, rv, rl⟩ := VRs.inv r
   have hv : vs[i]? = some v' := by rw [<- Array.getElem?_toList, <- Nat.add_zero i, <- List.getElem?_drop, e]; rfl
   have hr : r' = vs.toList.drop (i + 1) := by rw [<- List.drop_drop, e]; rfl
   refine wpAny_pyNext_tuple_item hit ⟨_, ha, rfl, _, rfl⟩ hv fun h' hit' hs' => ?_
   obtain ⟨g, k⟩ := go' (t := s.toks) hs' (Nat.le_refl _)
   exact k v' (rv.ag g) (.tup hit' w ((g.k _ w).trans ha) (hr ▸ rl.ag g))
 | @rev a vs n i l hit w ha hi r =>
  cases i with
  | zero =>
   have hl : l = [] := by cases l with
    | nil => rfl
    | cons v l => obtain ⟨_, _, e, _⟩ := VRs.inv r; cases e
   subst hl
   exact next_rev_end hh F.f.pin f.pin (by simpa using hit) fun h' he' => (go (t := s.toks) (Nat.le_refl _) fun b o q e => he' b o q e).2
  | succ i =>
   have hlt : i < vs.toList.length := by rw [Array.length_toList]; exact hi
   rw [List.take_succ_eq_append_getElem hlt, List.reverse_append] at r
   cases l with
   | nil => cases (show _ = [] from r)
   | cons v l =>
    obtain ⟨v', r', e, rv, rl⟩ := VRs.inv r
    cases e
    have hit1 : s.heap.IsRevIter it a (i : Int) := by
     have : ((i + 1 : Nat) : Int) - 1 = i := by lia
     rw [this] at hit; exact hit
    refine wpAny_pyNext_rev_item hit1 ⟨_, ha, rfl, _, rfl⟩ (x := vs.toList[i]) (by simp [hlt]) fun h' hit' hs' => ?_
    obtain ⟨g, k⟩ := go' (t := s.toks) hs' (Nat.le_refl _)
    exact k _ (rv.ag g) (.rev hit' w ((g.k _ w).trans ha) (Nat.le_of_succ_le hi) (rl.ag g))
 | @range a n hit =>
  cases n with
  | zero => exact next_range_end hh F.f.pin f.pin hit (by simp) fun h' he' => (go (t := s.toks) (Nat.le_refl _) fun b o q e => he' b o q e).2
  | succ n =>
   refine wpAny_pyNext_range_item hit (by lia) fun h' hit' hs' => ?_
   obtain ⟨g, k⟩ := go' (t := s.toks + 1) hs' (Nat.le_succ _)
   refine k _ ⟨_, rfl⟩ (.range ?_)
   have : ((n + 1 : Nat) : Int) - 1 = n := by lia
   rw [this] at hit'; exact hit'
 | @range2 a st n hit =>
  cases n with
  | zero => exact next_range_end hh F.f.pin f.pin hit (by simp) fun h' he' => (go (t := s.toks) (Nat.le_refl _) fun b o q e => he' b o q e).2
  | succ n =>
   refine wpAny_pyNext_range_item hit (by lia) fun h' hit' hs' => ?_
   obtain ⟨g, k⟩ := go' (t := s.toks + 1) hs' (Nat.le_succ _)
   refine k _ ⟨_, rfl⟩ (.range2 ?_)
   have : ((n + 1 : Nat) : Int) - 1 = n := by lia
   rw [this] at hit'; exact hit'
 | @str b z t i l hit ok r =>
  cases hz : z.drop i with
  | nil =>
   rw [hz] at r
   subst r
   have hi : z.length <= i := by
    have := congrArg List.length hz
    rw [List.length_drop, List.length_nil] at this; lia
   cases b with
   | false => exact next_wide_end hh F.f.pin f.pin hit (by simp; lia) fun h' he' => (go (t := s.toks) (Nat.le_refl _) fun b o q e => he' b o q e).2
   | true => exact next_ascii_end hh F.f.pin f.pin hit (by simp; lia) fun h' he' => (go (t := s.toks) (Nat.le_refl _) fun b o q e => he' b o q e).2
  | cons c l' =>
   rw [hz] at r
   subst r
   have hc : z[i]? = some c := by rw [<- Nat.add_zero i, <- List.getElem?_drop, hz]; rfl
   have hr : l' = z.drop (i + 1) := by rw [<- List.drop_drop, hz]; rfl
   have hv : VR W s.heap (.str [c]) (.str ⟨#[c]⟩ s.toks) := ⟨_, rfl, strOk_of ok fun x hx => by simp at hx; subst hx; exact List.mem_of_getElem? hc, by show 1 <= sizeLine; decide⟩
   cases b with
   | false =>
    refine wpAny_pyNext_wide_item hit (c := c) (by simpa using hc) fun h' hit' hs' => ?_
    obtain ⟨g, k⟩ := go' (t := s.toks + 1) hs' (Nat.le_succ _)
    exact k _ (hv.ag g) (.str (b := false) hit' ok (hr ▸ rfl))
   | true =>
    refine wpAny_pyNext_ascii_item hit (c := c) (by simpa using hc) fun h' hit' hs' => ?_
    obtain ⟨g, k⟩ := go' (t := s.toks + 1) hs' (Nat.le_succ _)
    exact k _ (hv.ag g) (.str (b := true) hit' ok (hr ▸ rfl))
end
def ItG (G : Gl) (d : Nat) (fi : FI) (x : Expr) (ρ : Loc) (l : List V) (ρ' : Loc) : Prop := ∀ (X : FC) (E : Value -> Shared -> Prop) (W : WS) (φ : Nat -> List Addr) (s : Shared), X.fi = fi -> FS G d X -> At X W φ s ρ →
 ∀ Q : Value -> Shared -> Prop, (∀ it W' φ' s', Pst X W s W' φ' s' ρ' -> Fre X W' φ' it -> ItR W' s'.heap it l -> Q (.ref it) s') -> wpAny X.C.M X.A (eval x X.env) (fun v s₁ => wpAny X.C.M X.A (pyIter v) Q E s₁) E s
structure It (G : Gl) (d : Nat) (fi : FI) where
 x : Expr
 ev : St -> Option (List V × St)
 pl : plainX x = true
 eo : Ok ev (ItG G d fi x)
section
variable {G : Gl} {d : Nat} {fi : FI}
theorem Pst.push {X : FC} {W W' : WS} {φ' : Nat -> List Addr} {s s' : Shared} {ρ' : Loc} (p : Pst X W s W' φ' s' ρ') (o : Obj) (t : Nat) (ht : s'.toks <= t := by first | exact Nat.le_refl _ | assumption | exact Nat.le_succ _ | omega | (dsimp only; omega) | (dsimp only at *; omega)) : Pst X W s W' φ' { s' with heap := s'.heap.push o, toks := t } ρ' /\ Fre X W' φ' s'.heap.objs.size :=
 ⟨p.trans (.gs p.f (Gs.of p.f.f.wf (fun J J q => Heap.get?_push_of_some _ q) ht)), .of p.f (fresh_size _)⟩
noncomputable def iList (a : T G d fi) : It G d fi := ⟨a.x, fun σ => bd (a.ev σ) fun x σ => x.frz.lst?.bind fun l => pu l σ, a.pl,
 a.eo.bd (R := fun x ρ l ρ' => x.frz = .lst l /\ ρ = ρ') (fun x σ l σ' e q => by obtain ⟨i, e1, e⟩ := obi e; cases e; exact ⟨q, V.lst_of e1, rfl⟩) fun _ x _ l _ h q X E W φ s e S F Q k => by
  obtain ⟨hx, rfl⟩ := q
  refine h.v X E W φ s e S F _ fun v' W' φ' s' p' r' => ?_
  rw [hx] at r'
  obtain ⟨b, vs, n, rfl, hw, h1, h2, h3⟩ := VR.lst r'
  refine wpAny_pyIter_list ⟨_, h1, rfl, _, rfl⟩ ?_
  obtain ⟨p2, f⟩ := p'.push { cls := .type "list_iterator", data := .fields #[.ref b, .int 0 0] } s'.toks
  have g : Ag W' s'.heap W' (s'.heap.push { cls := .type "list_iterator", data := .fields #[.ref b, .int 0 0] }) := (Gs.of (t := s'.toks) p'.f.f.wf fun J J q => Heap.get?_push_of_some _ q).g.ag p'.f.f.wf
  exact k _ _ _ _ p2 f (.list (i := 0) ⟨_, Heap.get?_push_size _ rfl, rfl, rfl⟩ hw ((g.k _ hw).trans h1) (h3.ag g))⟩
noncomputable def iRev (a : T G d fi) (p' p : Pos) (hb : isBi G fi "reversed" = true) : It G d fi := ⟨.Call (.Name "reversed" p') [a.x] [] p, fun σ => bd (a.ev σ) fun x σ => O.casesOn x (fun v => v.lst?.bind fun l => pu l.reverse σ) (fun r => pu r σ) (fun J => none) (fun J J J => none) (fun J J J => none), rfl,
 a.eo.bd (R := fun x ρ l ρ' => x.frz = .lst l.reverse /\ ρ = ρ') (fun x σ l σ' e q => by
  cases x with
  | val v => obtain ⟨i, e1, e⟩ := obi e; cases e; exact ⟨q, by rw [List.reverse_reverse]; exact V.lst_of e1, rfl⟩
  | own2 r => cases e
  | obj _ _ _ => cases e
  | dic _ _ _ => cases e
  | own r => cases e; exact ⟨q, rfl, rfl⟩) fun _ x _ l _ h q X E W φ s e S F Q k => by
  obtain ⟨hx, rfl⟩ := q
  refine PyProof.Rows.Call_ (bi_ok S F (e ▸ hb) boot_reversed ?_)
  rw [starEach_plain (xs := [a.x]) (fun y q => by cases List.mem_singleton.mp q; exact a.pl), backTo_plain]
  refine callW (K := X.C.K) (fun h J => keeper_type _ h _) (PySem.Calls.spliced_cons (h.v X E W φ s e S F _ fun v' W' φ' s' p' r' => PySem.Calls.spliced_nil ⟨p'.f.In S, ?_⟩))
  rw [hx] at r'
  obtain ⟨b, vs, n, rfl, hw, h1, h2, h3⟩ := VR.lst r'
  have hit : (s'.heap.push (revObj b ((vs.size : Int) - 1))).IsRevIter s'.heap.objs.size b ((vs.size : Int) - 1) := ⟨_, Heap.get?_push_size _ rfl, rfl, rfl⟩
  refine call_reversed_list ⟨_, h1, rfl, _, rfl⟩ (wpAny_pyIter_revIter hit ?_)
  obtain ⟨p2, f⟩ := p'.push (revObj b ((vs.size : Int) - 1)) s'.toks
  have g : Ag W' s'.heap W' (s'.heap.push (revObj b ((vs.size : Int) - 1))) := (Gs.of (t := s'.toks) p'.f.f.wf fun J J q => Heap.get?_push_of_some _ q).g.ag p'.f.f.wf
  refine k _ _ _ _ p2 f (.rev (i := vs.size) hit hw ((g.k _ hw).trans h1) (Nat.le_refl _) ?_)
  rw [<- Array.length_toList, List.take_length]
  have : ∀ {l : List V} {l' : List Value}, VRs W' (s'.heap.push (revObj b ((vs.size : Int) - 1))) l l' -> VRs W' (s'.heap.push (revObj b ((vs.size : Int) - 1))) l.reverse l'.reverse := by
   intro l
   induction l with
   | nil => intro l' r; cases r; exact rfl
   | cons v l ih => intro l' r; obtain ⟨v', r', rfl, x, y⟩ := VRs.inv r; rw [List.reverse_cons, List.reverse_cons]; exact (ih y).snoc x
  have z := this (h3.ag g)
  rwa [List.reverse_reverse] at z⟩
theorem range_small {a b : Int} (ha : a.natAbs <= 1000000) (hb : b.natAbs <= 1000000) : Builtin.Range.small a b 1 = true := by
 simp only [Builtin.Range.small, Builtin.Range.rangeFitsLong, Builtin.Range.rangeSize, Bool.and_eq_true, Bool.or_eq_true, decide_eq_true_eq]
 refine ⟨⟨⟨⟨⟨?_, ?_⟩, ?_, ?_⟩, ?_, ?_⟩, ?_, ?_⟩, .inr ?_⟩ <;> (try simp) <;> (try split) <;> (try simp) <;> lia
noncomputable def rangeV (vs : List V) : Option ((Int × Int) × List Prop) := List.casesOn vs none fun v r => v.int?.bind fun a => List.casesOn r (some ((0, a), [a.natAbs <= 1000000])) fun u r => u.int?.bind fun b => List.casesOn r (some ((a, b), [a.natAbs <= 1000000 /\ b.natAbs <= 1000000])) fun J J => none
theorem range_ok {C : Cx} {A : Around} {E : Value -> Shared -> Prop} {W : WS} {s : Shared} {args : List V} {vals : List Value} {x : Int × Int} {ps : List Prop} {Q : Value -> Shared -> Prop} (r : VRs W s.heap args vals) (e : rangeV args = some (x, ps)) (q : All ps)
  (k : ∀ t u v tk, s.toks <= tk -> Builtin.Range.small x.1 x.2 1 = true -> Builtin.Range.rangeSize x.1 x.2 1 = (x.2 - x.1).toNat -> (x.2 - x.1).toNat <= 2 ^ 24 →
   Q (.ref s.heap.objs.size) { s with heap := s.heap.push { cls := .type "range", data := .fields #[.int x.1 t, .int x.2 u, .int 1 v] }, toks := tk }) : wpAny C.M A (call (.type "range") vals) Q E s := by
 have hsz : ∀ a b : Int, Builtin.Range.rangeSize a b 1 = (b - a).toNat := fun a b => by simp only [Builtin.Range.rangeSize]; simp; split <;> lia
 cases args with
 | nil => cases e
 | cons v args =>
  obtain ⟨v', r', rfl, rv, rr⟩ := VRs.inv r
  obtain ⟨a, e1, e⟩ := obi e
  rw [V.int_of e1] at rv
  obtain ⟨t, rfl⟩ := rv
  cases args with
  | nil =>
   cases e; obtain rfl : r' = [] := rr
   have q1 : a.natAbs <= 1000000 := q.1
   exact call_range_1 (k _ _ _ _ (by first | exact Nat.le_refl _ | assumption | exact Nat.le_succ _ | omega | (dsimp only; omega) | (dsimp only at *; omega)) (range_small (show (0 : Int).natAbs <= 1000000 by decide) q1) (hsz _ _) (by dsimp only; lia))
  | cons u args =>
   obtain ⟨u', r2, rfl, ru, rr2⟩ := VRs.inv rr
   obtain ⟨b, e2, e⟩ := obi e
   rw [V.int_of e2] at ru
   obtain ⟨t2, rfl⟩ := ru
   cases args with
   | nil =>
    cases e; obtain rfl : r2 = [] := rr2
    have q1 : a.natAbs <= 1000000 /\ b.natAbs <= 1000000 := q.1
    exact call_range_2 (k _ _ _ _ (by first | exact Nat.le_refl _ | assumption | exact Nat.le_succ _ | omega | (dsimp only; omega) | (dsimp only at *; omega)) (range_small q1.1 q1.2) (hsz _ _) (by dsimp only; lia))
   | cons _ _ => cases e
noncomputable def iRange (r : Rw G d fi) (p' p : Pos) (hb : isBi G fi "range" = true) : It G d fi := ⟨.Call (.Name "range" p') r.xs [] p, fun σ => bd (r.ev σ) fun vs σ => rt ((rangeV vs).bind fun x => some (rangeL x.1.1 (x.1.2 - x.1.1).toNat, x.2)) σ, rfl,
 r.eo.bd (R := fun vs ρ l ρ' => ∃ x ps, rangeV vs = some (x, ps) /\ All ps /\ l = rangeL x.1 (x.2 - x.1).toNat /\ ρ = ρ') (fun vs => .rt fun l ps ρ e q => by
  obtain ⟨x, e1, e⟩ := obi e; cases e; exact ⟨x.1, x.2, e1, q, rfl, rfl⟩) fun _ vs _ l _ hs q X E W φ s e S F Q k => by
  obtain ⟨x, ps, q1, q2, rfl, rfl⟩ := q
  refine PyProof.Rows.Call_ (bi_ok S F (e ▸ hb) boot_range ?_)
  rw [r.back]
  refine callW (K := X.C.K) (fun h J => keeper_type _ h _) (hs.2 X E W φ s e S F _ fun vs' W' φ' s' p' r' => ⟨p'.f.In S, range_ok r' q1 q2 fun t u v tk htk hsm hn J => wpAny_pyIter_range (Heap.get?_push_size _ rfl) hsm ?_⟩)
  rw [hn]
  obtain ⟨p2, _⟩ := p'.push { cls := .type "range", data := .fields #[.int x.1 t, .int x.2 u, .int 1 v] } tk
  obtain ⟨p3, f⟩ := p2.push _ tk
  exact k _ _ _ _ p3 f (.range (Heap.get?_push_size _ rfl))⟩
theorem rangeL_length : ∀ (n : Nat) (a : Int), (rangeL a n).length = n
 | 0, _ => rfl
 | n + 1, a => congrArg (· + 1) (rangeL_length n (a + 1))
theorem rangeL_items {W : WS} {h : Heap} : ∀ (n : Nat) (a : Int) (l : List Value), l.length = n -> (∀ (i : Nat) (v : Value), l[i]? = some v -> ∃ t, v = .int (a + (i : Int) * 1) t) -> VRs W h (rangeL a n) l
 | 0, a, l, hl, _ => by cases l with | nil => exact rfl | cons _ _ => cases hl
 | n + 1, a, [], hl, _ => by cases hl
 | n + 1, a, v :: l, hl, h => by
  obtain ⟨t, rfl⟩ := h 0 v rfl
  refine VRs.cons ⟨t, by simp⟩ (rangeL_items n (a + 1) l (Nat.succ.inj hl) fun i u hu => ?_)
  obtain ⟨t', q⟩ := h (i + 1) u hu
  exact ⟨t', by rw [q]; congr 1; lia⟩
noncomputable def eListR (r : Rw G d fi) (p' p'' p2 p : Pos) (hb : (isBi G fi "list" && isBi G fi "range" && G.hn) = true) : T G d fi :=
 .mk' (.Call (.Name "list" p') [.Call (.Name "range" p'') r.xs [] p2] [] p) (fun σ => bd (r.ev σ) fun vs σ => rt ((rangeV vs).bind fun x => some (.own (rangeL x.1.1 (x.1.2 - x.1.1).toNat).reverse, x.2)) σ) rfl
  (r.eo.bd (R := fun vs ρ o ρ' => ∃ x ps, rangeV vs = some (x, ps) /\ All ps /\ o = .own (rangeL x.1 (x.2 - x.1).toNat).reverse /\ ρ = ρ') (fun vs => .rt fun l ps ρ e q => by
   obtain ⟨x, e1, e⟩ := obi e; cases e; exact ⟨x.1, x.2, e1, q, rfl, rfl⟩) fun _ vs _ o _ hs q X E W φ s e S F Q k => by
   obtain ⟨x, ps, q1, q2, rfl, rfl⟩ := q
   rw [Bool.and_eq_true, Bool.and_eq_true] at hb
   refine PyProof.Rows.Call_ (bi_ok S F (e ▸ hb.1.1) boot_list ?_)
   show wpAny _ X.A (callWith p (.type "list") [] (plainArgs [.Call (.Name "range" p'') r.xs [] p2] X.env) []) Q E s
   refine callW (K := X.C.K) (fun h J => keeper_type _ h _) (PySem.Calls.spliced_cons (PyProof.Rows.Call_ (bi_ok S F (e ▸ hb.1.2) boot_range ?_)))
   rw [r.back]
   refine callW (K := X.C.K) (fun h J => keeper_type _ h _) (hs.2 X E W φ s e S F _ fun vs' W' φ' s' p' r' => ⟨p'.f.In S, range_ok r' q1 q2 fun t u v tk htk hsm hn hlen => PySem.Calls.spliced_nil ?_⟩)
   obtain ⟨p2, _⟩ := p'.push { cls := .type "range", data := .fields #[.int x.1 t, .int x.2 u, .int 1 v] } tk
   refine ⟨p2.f.In S, wpAny_with_toks (Nat.le_refl _) (call_list_range (S.hd.2 hb.2) (Heap.get?_push_size _ rfl) hsm hn hlen fun h' tk' acc c' hk hget hit htk' => ?_)⟩
   refine (Aft.of p2 k).listAt (t := tk') p2.f.f.wf hk (fresh_size _) hget ?_ ?_ htk'
   ·rw [List.reverse_reverse]; exact rangeL_items _ _ acc.toList (by rw [Array.length_toList]; exact hit.1) fun i v hv => hit.2 i v (by simpa using hv)
   ·rw [List.length_reverse, rangeL_length]; exact Nat.le_trans hlen (by decide)) fun J => rfl
noncomputable def iStr (a : T G d fi) : It G d fi := ⟨a.x, fun σ => bd (a.ev σ) fun x σ => x.frz.str?.bind fun z => pu (signsL z) σ, a.pl,
 a.eo.bd (R := fun x ρ l ρ' => ∃ z, x.frz = .str z /\ l = signsL z /\ ρ = ρ') (fun x σ l σ' e q => by obtain ⟨z, e1, e⟩ := obi e; cases e; exact ⟨q, z, V.str_of e1, rfl, rfl⟩) fun _ x _ l _ h q X E W φ s e S F Q k => by
  obtain ⟨z, hx, rfl, rfl⟩ := q
  refine h.v X E W φ s e S F _ fun v' W' φ' s' p' r' => ?_
  rw [hx] at r'
  obtain ⟨t, rfl, ok, _⟩ := r'
  refine wpAny_pyIter_strU ?_
  obtain ⟨p2, f⟩ := p'.push { cls := .type (strIterType ⟨z.toArray⟩), data := .fields #[.str ⟨z.toArray⟩ t, .int 0 0] } s'.toks
  refine k _ _ _ _ p2 f (.str (b := (⟨z.toArray⟩ : Str).cps.all (· < 128)) (z := z) (t := t) (i := 0) ⟨_, Heap.get?_push_size _ rfl, ?_, rfl⟩ ok rfl)
  show Value.type (strIterType _) = _
  unfold strIterType
  cases (⟨z.toArray⟩ : Str).cps.all (· < 128) <;> rfl⟩
end
end Mine
end
section
namespace Mine
open PySem.W (Looks keepIn)
def FlR (X : FC) (W : WS) (φ : Nat -> List Addr) (h : Heap) (fl : Fl) (f : Flow) : Prop := Fl.casesOn fl (f = .next) fun o => ∃ v', f = .ret v' /\ RO X W φ h o v'
def AfS (X : FC) (W : WS) (s : Shared) (fl : Fl) (ρ' : Loc) (Q : Flow -> Shared -> Prop) : Prop := ∀ f W' φ' s', At X W' φ' s' ρ' -> Ag W s.heap W' s'.heap -> FlR X W' φ' s'.heap fl f -> Q f s'
section
variable (G : Gl) (d : Nat) (fi : FI)
def ExG (x : Stmt) (ρ : Loc) (fl : Fl) (ρ' : Loc) : Prop := ∀ (X : FC) (E : Value -> Shared -> Prop) (W : WS) (φ : Nat -> List Addr) (s : Shared), X.fi = fi -> X.cm = true -> FS G d X -> At X W φ s ρ →
 ∀ Q : Flow -> Shared -> Prop, AfS X W s fl ρ' Q -> wpAny X.C.M X.A (exec x X.env) Q E s
def ExsG (xs : List Stmt) (ρ : Loc) (fl : Fl) (ρ' : Loc) : Prop := ∀ (X : FC) (E : Value -> Shared -> Prop) (W : WS) (φ : Nat -> List Addr) (s : Shared), X.fi = fi -> X.cm = true -> FS G d X -> At X W φ s ρ →
 ∀ Q : Flow -> Shared -> Prop, AfS X W s fl ρ' Q -> wpAny X.C.M X.A (execs xs X.env) Q E s
def WhilOK (c : Expr) (b : List Stmt) (ρ : Loc) (fl : Fl) (ρ' : Loc) : Prop := ∀ (X : FC) (W : WS) (φ : Nat -> List Addr) (s : Shared), X.fi = fi -> X.cm = true -> FS G d X -> At X W φ s ρ →
 ∀ R : Result -> Shared -> Prop, AfS X W s fl ρ' (fun f s' => R (.ok f) s') -> codeAny X.C.M X.A (.whileLoop c b [] X.env) R s
def ForOK (t : Expr) (b : List Stmt) (l : List V) (ρ : Loc) (fl : Fl) (ρ' : Loc) : Prop := ∀ (X : FC) (W : WS) (φ : Nat -> List Addr) (s : Shared) (it : Addr), X.fi = fi -> X.cm = true -> FS G d X -> At X W φ s ρ -> Fre X W φ it -> ItR W s.heap it l →
 ∀ R : Result -> Shared -> Prop, AfS X W s fl ρ' (fun f s' => R (.ok f) s') -> codeAny X.C.M X.A (.forLoop t (.ref it) b [] X.env) R s
end
structure SS (G : Gl) (d : Nat) (fi : FI) where
 x : Stmt
 ex : St -> Option (Fl × St)
 eo : Ok ex (ExG G d fi x)
structure SL (G : Gl) (d : Nat) (fi : FI) where
 xs : List Stmt
 ex : St -> Option (Fl × St)
 eo : Ok ex (ExsG G d fi xs)
theorem noSwap {x : Expr} (h : isComp x = false) (t : Option Expr) (n : Nat) (env : Env) : swapsWith x t n env = pure false := by
 cases x <;> first | rfl | cases h
theorem noSet {x : Expr} (h : plainX x = true) (env : Env) (v : Value) : foldedSetIterable x env v = pure v := by
 cases x <;> first | rfl | cases h
section
variable {G : Gl} {d : Nat} {fi : FI}
noncomputable def lNil : SL G d fi := ⟨[], pu .next, .pu fun ρ X E W φ s e c S F Q k => wpAny_execs_nil (k _ _ _ _ F (.refl ..) rfl)⟩
noncomputable def lCons (a : SS G d fi) (b : SL G d fi) : SL G d fi := ⟨a.x :: b.xs, fun σ => bd (a.ex σ) fun fl σ => Fl.casesOn fl (b.ex σ) fun o => pu (.ret o) σ,
 a.eo.bd (R := fun f ρ fl ρ' => Fl.casesOn (motive := fun J => Prop) f (ExsG G d fi b.xs ρ fl ρ') fun o => fl = .ret o /\ ρ = ρ') (fun f => by
  cases f with
  | next => exact b.eo
  | ret o => exact .pu fun J => ⟨rfl, rfl⟩) fun ρ f ρ₁ fl ρ' h q X E W φ s e c S F Q k => wpAny_execs_cons (h X E W φ s e c S F _ fun f' W' φ' s' A B C => by
  cases f with
  | next => cases C; exact q X E W' φ' s' e c S A Q fun g W2 φ2 s2 A2 B2 C2 => k _ _ _ _ A2 (B.trans B2) C2
  | ret o =>
   obtain ⟨rfl, rfl⟩ := q
   obtain ⟨v', rfl, r⟩ := C
   exact k _ _ _ _ A B ⟨v', rfl, r⟩)⟩
noncomputable def sExpr (a : T G d fi) (p : Pos) (hc : isComp a.x = false) : SS G d fi := ⟨.Expr a.x p, fun σ => bd (a.ev σ) fun _ σ => pu .next σ,
 a.eo.bd (R := fun _ ρ fl ρ' => fl = .next /\ ρ = ρ') (fun J => .pu fun J => ⟨rfl, rfl⟩) fun _ _ _ _ _ h q X E W φ s e c S F Q k => by
  obtain ⟨rfl, rfl⟩ := q
  exact wpAny_Expr_any (h X E W φ s e S F _ fun v' W' φ' s' p' r' => k _ _ _ _ p'.f p'.ag rfl) (by unfold interactive; rw [S.fn]; rfl) (noSwap hc _ _ _)⟩
noncomputable def setL (i : Nat) (o : O) (σ : St) : Option (Fl × St) := some (.next, ⟨σ.ρ.set i (some o), σ.tp, σ.ob⟩)
theorem Ok.setL {i : Nat} {o : O} {S : Loc -> Fl -> Loc -> Prop} (k : ∀ ρ, S ρ .next (ρ.set i (some o))) : Ok (setL i o) S := fun σ a σ' e h => by cases e; exact ⟨h, k _⟩
noncomputable def sAsg (x : Str) (i : Nat) (a : T G d fi) (p' p : Pos) (h : (fi.isOwn x i && !isComp a.x) = true) : SS G d fi := ⟨.Assign [.Name x p'] a.x p, fun σ => bd (a.ev σ) fun o σ => setL i o σ,
 a.eo.bd (R := fun o ρ fl ρ' => fl = .next /\ ρ' = ρ.set i (some o)) (fun J => .setL fun J => ⟨rfl, rfl⟩) fun _ _ _ _ _ ha q X E W φ s e c S F Q k => by
  obtain ⟨rfl, rfl⟩ := q
  rw [Bool.and_eq_true, Bool.not_eq_true'] at h
  exact wpAny_Assign_Name (ha X E W φ s e S F _ fun v' W' φ' s' p' r' => store_ok S (.inr c) p'.f r' (e ▸ h.1) fun φ2 s2 A B => k _ _ _ _ A (p'.ag.trans B) rfl) (noSwap h.2 _ _ _)⟩
noncomputable def setN (is : List (Str × Nat × Pos)) (vs : List V) (ρ : Loc) : Option Loc := @List.rec (Str × Nat × Pos) (fun J => List V -> Loc -> Option Loc) (fun vs ρ => List.casesOn vs (some ρ) fun J J => none) (fun i _ f vs ρ => List.casesOn vs none fun v vs => f vs (ρ.set i.2.1 (some (.val v)))) is vs ρ
abbrev nmX (is : List (Str × Nat × Pos)) : List Expr := is.map fun i => .Name i.1 i.2.2
theorem setN_ok {X : FC} {E : Value -> Shared -> Prop} (S : FS G d X) (c : X.cm = true) : ∀ {is : List (Str × Nat × Pos)} {vs : List V} {vs' : List Value} {ρ ρ' : Loc} {W : WS} {φ : Nat -> List Addr} {s : Shared} {Q : Unit -> Shared -> Prop}, (is.all fun i => X.fi.isOwn i.1 i.2.1) = true -> At X W φ s ρ -> VRs W s.heap vs vs' -> setN is vs ρ = some ρ' →
  (∀ φ' s', At X W φ' s' ρ' -> Ag W s.heap W s'.heap -> Q () s') -> wpAny X.C.M X.A (assignInOrder ((assignEach (nmX is) X.env).map (·.2)) vs') Q E s
 | [], [], _, ρ, ρ', W, φ, s, Q, h, F, r, e, k => by cases r; cases e; exact wpAny_pure (k _ _ F (.refl ..))
 | [], _ :: _, _, ρ, ρ', W, φ, s, Q, h, F, r, e, k => by cases e
 | _ :: _, [], _, ρ, ρ', W, φ, s, Q, h, F, r, e, k => by cases e
 | i :: is, v :: vs, _, ρ, ρ', W, φ, s, Q, h, F, r, e, k => by
  obtain ⟨v', r', rfl, rv, rr⟩ := VRs.inv r
  rw [List.all_cons, Bool.and_eq_true] at h
  show wpAny _ X.A (do holding r' (assign (.Name i.1 i.2.2) X.env v'); assignInOrder ((assignEach (nmX is) X.env).map (·.2)) r') Q E s
  exact wpAny_bind (wpAny_holding (wpAny_assign_Name (store_ok S (.inr c) F (.val rv) h.1 fun φ' s' A B => setN_ok S c h.2 A (rr.ag B) e fun φ2 s2 A2 B2 => k _ _ A2 (B.trans B2))))
theorem setN_len : ∀ {is : List (Str × Nat × Pos)} {vs : List V} {ρ ρ' : Loc}, setN is vs ρ = some ρ' -> is.length = vs.length
 | [], [], _, _, _ => rfl
 | [], _ :: _, _, _, e => nomatch e
 | _ :: _, [], _, _, e => nomatch e
 | _ :: _, _ :: vs, _, _, e => congrArg (· + 1) (setN_len (vs := vs) e)
theorem nmX_each (env : Env) : ∀ is : List (Str × Nat × Pos), (assignEach (nmX is) env).length = is.length /\ (assignEach (nmX is) env).findIdx? (·.1) = none
 | [] => ⟨rfl, rfl⟩
 | i :: is => by
  have e : assignEach (nmX (i :: is)) env = (false, assign (.Name i.1 i.2.2) env) :: assignEach (nmX is) env := rfl
  rw [e, List.findIdx?_cons, (nmX_each env is).2]
  exact ⟨congrArg (· + 1) (nmX_each env is).1, rfl⟩
noncomputable def sUnp (is : List (Str × Nat × Pos)) (a : T G d fi) (k0 : Nat) (p' p : Pos) (h : ((is.all fun i => fi.isOwn i.1 i.2.1) && !isComp a.x) = true) (hw : ∀ env, swappedStores [.Tuple (nmX is) k0 p'] a.x env = pure none) : SS G d fi :=
 ⟨.Assign [.Tuple (nmX is) k0 p'] a.x p, fun σ => bd (a.ev σ) fun o σ => o.frz.tup?.bind fun vs => (setN is vs σ.ρ).bind fun ρ => some (.next, ⟨ρ, σ.tp, σ.ob⟩),
 a.eo.bd (R := fun o ρ fl ρ' => ∃ vs, o.frz = .tup vs /\ setN is vs ρ = some ρ' /\ fl = .next) (fun o σ f σ' e q => by
  obtain ⟨vs, e1, e⟩ := obi e
  obtain ⟨ρ, e2, e⟩ := obi e
  cases e; exact ⟨q, vs, V.tup_of e1, e2, rfl⟩) fun _ o _ _ _ ha q X E W φ s e c S F Q k => by
  obtain ⟨vs, hx, hs, rfl⟩ := q
  rw [Bool.and_eq_true, Bool.not_eq_true'] at h
  refine wpAny_Assign_stores (ha.v X E W φ s e S F _ fun v' W' φ' s' p' r' => ?_) (by unfold swapsWithSole; exact noSwap h.2 _ _ _) (hw _)
  rw [hx] at r'
  obtain ⟨b, ws, n, rfl, _, h1, h2, h3⟩ := VR.tup r'
  obtain ⟨z1, z2⟩ := nmX_each X.env is
  refine assign_tuple (x1 := k0) (S.hd.1.mono p'.f.f.pin) ⟨_, h1, rfl, _, rfl⟩ (by rw [z1, h3.size, setN_len hs]) z2 fun h' he' => ?_
  have g := Gs.of (t := s'.toks) p'.f.f.wf fun b o q => he' b o (fun z => absurd (Heap.lt_size q) (by rw [z]; exact Nat.lt_irrefl _)) q
  exact setN_ok S c (e ▸ h.1) (p'.f.gs g) (h3.ag (g.g.ag p'.f.f.wf)) hs fun φ2 s2 A B => k _ _ _ _ A ((p'.ag.trans (g.g.ag p'.f.f.wf)).trans B) rfl⟩
noncomputable def sIte (f : Bool) (c : T G d fi) (a b : SL G d fi) (p : Pos) : SS G d fi := ⟨.If c.x a.xs b.xs p, fun σ => bd (c.tr σ) fun t σ => bd (dec f t σ) fun t σ => Bool.casesOn t (b.ex σ) (a.ex σ),
 c.to.bd (R := fun t ρ fl ρ' => Bool.casesOn (motive := fun J => Prop) t (ExsG G d fi b.xs ρ fl ρ') (ExsG G d fi a.xs ρ fl ρ')) (fun t => (Ok.dec f t).bd (R := fun t ρ fl ρ' => Bool.casesOn (motive := fun J => Prop) t (ExsG G d fi b.xs ρ fl ρ') (ExsG G d fi a.xs ρ fl ρ')) (fun t => by
  cases t
  ·exact b.eo
  ·exact a.eo) fun J t J J J h q => by obtain ⟨rfl, rfl⟩ := h; exact q) fun _ t _ _ _ h q X E W φ s e c S F Q k => wpAny_If (h X E W φ s e S F _ fun W' φ' s' p' => by
  cases t
  ·exact q X E W' φ' s' e c S p'.f Q fun g W2 φ2 s2 A2 B2 C2 => k _ _ _ _ A2 (p'.ag.trans B2) C2
  ·exact q X E W' φ' s' e c S p'.f Q fun g W2 φ2 s2 A2 B2 C2 => k _ _ _ _ A2 (p'.ag.trans B2) C2)⟩
noncomputable def sRet (a : T G d fi) (p : Pos) : SS G d fi := ⟨.Return (some a.x) p, fun σ => bd (a.ev σ) fun o σ => pu (.ret o) σ,
 a.eo.bd (R := fun o ρ fl ρ' => fl = .ret o /\ ρ = ρ') (fun J => .pu fun J => ⟨rfl, rfl⟩) fun _ _ _ _ _ h q X E W φ s e c S F Q k => by
  obtain ⟨rfl, rfl⟩ := q
  exact wpAny_Return_some (h X E W φ s e S F _ fun v' W' φ' s' p' r' => k _ _ _ _ p'.f p'.ag ⟨_, rfl, r'⟩)⟩
set_option tactic.hygienic true in
noncomputable def sRetV (x : Str) (i : Nat) (xp p : Pos) (h : fi.isVar x i = true) : SS G d fi := ⟨.Return (some (.Name x xp)) p, fun σ => (slot σ.ρ i).bind fun o => some (.ret o, ⟨σ.ρ.set i none, σ.tp, σ.ob⟩), by
 intro σ a σ' e q
 obtain ⟨o, e1, e⟩ := obi e
 cases e
 refine ⟨q, fun X E W φ s ef c S F Q k => wpAny_Return_some (load_ok S F (ef ▸ h) (slot_some e1) fun v' hx hn hv r => ?_)⟩
 have F1 : At X W (upd φ i []) s (σ.ρ.set i none) := F.drop i (fun j o q w => by rwa [List.getElem?_set_ne (Ne.symm q)] at w) fun y hy o w => by
  rw [List.getElem?_set] at w
  split at w
  ·split at w <;> cases w
  ·rename_i q; exact absurd rfl q
 refine k _ _ _ _ F1 (.refl ..) ⟨_, rfl, φ i, r, fun b q => ?_⟩
 have hm := F.f.mu b (.inr (.inr ⟨i, q⟩))
 have hno := (F.ow i b q).no F.f
 refine ⟨hm.2, fun m => ?_, hm.1⟩
 rcases m with m | ⟨_, y, m⟩ | ⟨j, m⟩
 ·exact hno.1 m
 ·exact hno.2 y m
 ·by_cases ej : j = i
  ·rw [ej, upd_same] at m; cases m
  ·rw [upd_ne _ _ ej] at m; exact ej (F.f.dis j i b m q)⟩
noncomputable def sWhil (c : T G d fi) (b : SL G d fi) (p : Pos) : SS G d fi := ⟨.While c.x b.xs [] p, told Tk.l? (fun ρ x => WhilOK G d fi c.x b.xs ρ x.1 x.2) (·.1) (fun x J => x.2),
 .told fun x ρ h X E W φ s e cm S F Q k => wpAny_While (h X W φ s e cm S F _ k)⟩
noncomputable def sFor (x : Str) (it : It G d fi) (b : SL G d fi) (p' p : Pos) : SS G d fi := ⟨.For (.Name x p') it.x b.xs [] p, fun σ => bd (it.ev σ) fun l σ => told Tk.l? (fun ρ y => ForOK G d fi (.Name x p') b.xs l ρ y.1 y.2) (·.1) (fun y J => y.2) σ,
 it.eo.bd (R := fun l ρ fl ρ' => ForOK G d fi (.Name x p') b.xs l ρ fl ρ') (fun l => .told fun y ρ h => h) fun _ l _ _ _ h q X E W φ s e c S F Q k => wpAny_For (h X E W φ s e S F _ fun a W' φ' s' p2 f I => q X W' φ' s' a e c S p2.f f I _ fun g W3 φ3 s3 A B C => k _ _ _ _ A (p2.ag.trans B) C) (noSet it.pl _)⟩
end
end Mine
end
section
namespace Mine
open PySem.W (Looks keepIn)
noncomputable def ownAt (ρ : Loc) (i : Nat) : Option (List V) := (slot ρ i).bind fun o => O.casesOn o (fun J => none) some (fun J => none) (fun J J J => none) fun J J J => none
theorem ownAt_some {ρ : Loc} {i : Nat} {r : List V} (e : ownAt ρ i = some r) : ρ[i]? = some (some (.own r)) := by
 obtain ⟨o, e1, e⟩ := obi e
 cases o with
 | val v => cases e
 | own2 r' => cases e
 | obj _ _ _ => cases e
 | dic _ _ _ => cases e
 | own r' => cases e; exact slot_some e1
noncomputable def setR (r : List V) (i : Int) (v : V) : Option (List V) := Int.casesOn i (fun n => (r.reverse[n]?).bind fun J => some (r.reverse.set n v).reverse) (fun n => (r[n]?).bind fun J => some (r.set n v))
theorem rev_set (r : List V) (n : Nat) (v : V) (h : n < r.length) : (r.set n v).reverse = r.reverse.set (r.length - 1 - n) v := by
 apply List.ext_getElem?
 intro j
 by_cases hj : j < r.length
 ·rw [List.getElem?_reverse (by rwa [List.length_set]), List.length_set, List.getElem?_set, List.getElem?_set, List.getElem?_reverse hj]
  by_cases e : n = r.length - 1 - j
  ·rw [if_pos e, if_pos (by lia), if_pos (by lia), if_pos (by rw [List.length_reverse]; lia)]
  ·rw [if_neg e, if_neg (by lia)]
 ·rw [List.getElem?_eq_none (by rw [List.length_reverse, List.length_set]; lia), List.getElem?_eq_none (by rw [List.length_set, List.length_reverse]; lia)]
section
variable {G : Gl} {d : Nat} {fi : FI}
noncomputable def sApp (x : Str) (i : Nat) (a : T G d fi) (xp ap cp p : Pos) (h : (fi.isVar x i && (ap.endLine == cp.line)) = true) : SS G d fi :=
 ⟨.Expr (.Call (.Attribute (.Name x xp) "append" ap) [a.x] [] cp) p, fun σ => (ownAt σ.ρ i).bind fun J => bd (a.ev σ) fun y σ => (ownAt σ.ρ i).bind fun r => some (.next, ⟨σ.ρ.set i (some (.own (y.frz :: r))), σ.tp, (r.length < room) :: σ.ob⟩), by
  intro σ f σ' e q
  obtain ⟨o0, e0, e⟩ := obi e
  obtain ⟨⟨y, σ₁⟩, e1, e⟩ := obi e
  obtain ⟨r, e2, e⟩ := obi e
  rw [Bool.and_eq_true] at h
  cases e
  obtain ⟨q2, hk⟩ := a.eo σ y σ₁ e1 q.2
  refine ⟨q2, fun X E W φ s ef c S F Q k => wpAny_Expr_any (method_call rfl (fun z q => by cases List.mem_singleton.mp q; exact a.pl) h.2 rfl fun pl => load_ok S F (ef ▸ h.1) (ownAt_some e0) fun x' hx hn hv rr => ?_) (by unfold interactive; rw [S.fn]; rfl) rfl⟩
  obtain ⟨a0, _, rfl, vs0, n0, z0, _⟩ := rr
  refine getMethod_builtin (T := "list") ⟨_, z0, rfl⟩ PySem.F.plainAttrs_list PySem.F.slot_list_append PySem.F.type_list_append (fun a q => by cases q; exact ⟨_, z0, rfl⟩) ?_
  refine callW (K := X.C.K) (fun h J => keeper_builtin _ h _) (PySem.Calls.spliced_cons (hk.v X E W φ s ef S F _ fun y' W' φ' s' p' r' => PySem.Calls.spliced_nil ⟨p'.f.In S, ?_⟩))
  obtain ⟨ad, hp, ea, vs, n, h1, h2, h3⟩ := still p'.f hx hn (p'.vl _ _ hv) (ownAt_some e2)
  cases ea
  have hs := h2.size
  rw [List.length_reverse] at hs
  refine call_meets PySem.F.slot_list_append ⟨_, h1, rfl⟩ PySem.F.entry_list_append (PySem.F.args_list_append_2 _ _) (list_append a0 vs n _ (by rw [hs]; exact h3)) ⟨h1, ?_⟩
  have q1 : r.length < room := q.1
  have := room_le
  obtain ⟨A, B⟩ := p'.f.turn (x := x) (i := i) (t := s'.toks) (r := y.frz :: r) (h' := s'.heap.update a0 (Obj.mapSeq (·.push y'))) (fun z hz => S.ti z x i hz hx) hp (Heap.SameBut.update ..) (p'.vl _ _ hv) (Heap.get?_update_self _ h1 rfl)
   (by rw [Array.toList_push, List.reverse_cons]; exact h2.snoc r') (by rw [List.length_cons]; lia)
  exact k _ _ _ _ A (p'.ag.trans B) rfl⟩
noncomputable def sSet (x : Str) (i : Nat) (kx a : T G d fi) (xp sp p : Pos) (h : (fi.isVar x i && !isComp a.x) = true) : SS G d fi :=
 ⟨.Assign [.Subscript (.Name x xp) kx.x sp] a.x p, fun σ => bd (a.ev σ) fun y σ => (ownAt σ.ρ i).bind fun J => bd (kx.ev σ) fun z σ => (ownAt σ.ρ i).bind fun r => z.frz.int?.bind fun j => (setR r j y.frz).bind fun r' => some (.next, ⟨σ.ρ.set i (some (.own r')), σ.tp, σ.ob⟩), by
  intro σ f σ' e q
  obtain ⟨⟨y, σ₁⟩, e1, e⟩ := obi e
  obtain ⟨o0, e0, e⟩ := obi e
  obtain ⟨⟨z, σ₂⟩, e2, e⟩ := obi e
  obtain ⟨r, e3, e⟩ := obi e
  obtain ⟨j, e4, e⟩ := obi e
  obtain ⟨r', e5, e⟩ := obi e
  rw [Bool.and_eq_true, Bool.not_eq_true'] at h
  cases e
  obtain ⟨q1, hz⟩ := kx.eo _ _ _ e2 q
  obtain ⟨q2, hy⟩ := a.eo _ _ _ e1 q1
  refine ⟨q2, fun X E W φ s ef c S F Q k => wpAny_Assign_Subscript (hy.v X E W φ s ef S F _ fun y' W1 φ1 s1 p1 r1 => load_ok S p1.f (ef ▸ h.1) (ownAt_some e0) fun x' hx hn hv rr => hz.v X E W1 φ1 s1 ef S p1.f _ fun z' W2 φ2 s2 p2 r2 => ?_) (noSwap h.2 _ _ _)⟩
  dsimp only at e4; rw [V.int_of e4] at r2
  obtain ⟨t, rfl⟩ := r2
  obtain ⟨ad, hp, rfl, vs, n, h1, h2, h3⟩ := still p2.f hx hn (p2.vl _ _ hv) (ownAt_some e3)
  have hs := h2.size
  rw [List.length_reverse] at hs
  have hsl := sizeLine_lt
  have ry := r1.ag p2.ag
  have fin : ∀ m : Nat, r'.length = r.length -> r'.reverse = r.reverse.set m y.frz -> Q .next { s2 with heap := s2.heap.update ad (Obj.mapSeq (·.setIfInBounds m y')) } := fun m hl hr => by
   obtain ⟨A, B⟩ := p2.f.turn (x := x) (i := i) (t := s2.toks) (r := r') (h' := s2.heap.update ad (Obj.mapSeq (·.setIfInBounds m y'))) (fun z hz => S.ti z x i hz hx) hp (Heap.SameBut.update ..) (p2.vl _ _ hv) (Heap.get?_update_self _ h1 rfl)
    (by rw [Array.toList_setIfInBounds, hr]; exact h2.set m ry) (by rw [hl]; exact h3)
   exact k _ _ _ _ A ((p1.ag.trans p2.ag).trans B) rfl
  cases j with
  | ofNat m =>
   obtain ⟨w, e6, e5⟩ := obi e5
   cases e5
   have hm := (List.getElem?_eq_some_iff.mp e6).1
   rw [List.length_reverse] at hm
   exact PySem.W.ki_setAt h1 (Int.natCast_nonneg m) (by show (m : Int) < _; lia) (by rw [hs]; exact Int.ofNat_lt.mpr hm) (fin m (by simp) (by rw [List.reverse_reverse]))
  | negSucc m =>
   obtain ⟨w, e6, e5⟩ := obi e5
   cases e5
   have hm := (List.getElem?_eq_some_iff.mp e6).1
   refine PySem.W.ki_setBack h1 (by lia) (by rw [hs]; lia) (by lia) ?_
   have he : (Int.negSucc m + (vs.size : Int)).toNat = r.length - 1 - m := by rw [hs]; lia
   rw [he]
   exact fin _ (List.length_set ..) (rev_set r m _ hm)⟩
section
variable {M : Model} {A : Around} {R : Result -> Shared -> Prop} {s : Shared}
theorem code_while {test : Expr} {body : List Stmt} {env : Env} {prog : Program} {w : World}
  (h : wpAny (model prog w) A (isTrue test env (eval test env)) (fun b s₂ =>
    if b then wpAny (model prog w) A (execs body env) (fun f s₃ => match f with
      | .next | .cont => codeAny (model prog w) A (.whileLoop test body [] env) R s₃
      | .brk => R (.ok .next) s₃
      | .ret v => R (.ok (.ret v)) s₃) (notedBy (model prog w) A env fun e s' => R (.error e) s') s₂
    else R (.ok .next) s₂)
    (notedBy (model prog w) A env fun e s' => R (.error e) s') s) : codeAny (model prog w) A (.whileLoop test body [] env) R s := by
 refine codeAny_of_tree ?_
 show wpAny _ A ((whileTurn test body [] env).onRaise (fun x => do noteFrame x env; theTreesLotGoes x)) _ _ s
 refine wpAny_noted ?_
 simp only [whileTurn]
 refine wpAny_bind (wpAny_mono h (fun b s₂ h₂ => ?_) fun J J h' => h')
 cases b with
 | false =>
  simp only [Bool.false_eq_true, if_false] at h₂ ⊢
  exact wpAny_bind (wpAny_execs_nil (wpAny_pure h₂))
 | true =>
  simp only [if_true] at h₂ ⊢
  refine wpAny_bind (wpAny_mono h₂ (fun f s₃ h₃ => ?_) fun J J h' => h')
  cases f with
  | next => exact wpAny_pure ⟨rfl, h₃⟩
  | cont => exact wpAny_pure ⟨rfl, h₃⟩
  | brk => exact wpAny_pure h₃
  | ret v => exact wpAny_pure h₃
theorem code_for {x : Str} {p' : Pos} {it : Value} {body : List Stmt} {env : Env} {prog : Program} {w : World}
  (h : wpAny (model prog w) A (pyNext it) (fun r s₁ => match r with
   | none => R (.ok .next) s₁
   | some v => wpAny (model prog w) A (storeName env x v) (fun _ s₂ => wpAny (model prog w) A (execs body env) (fun f s₃ => match f with
      | .next | .cont => codeAny (model prog w) A (.forLoop (.Name x p') it body [] env) R s₃
      | .brk => R (.ok .next) s₃
      | .ret v => R (.ok (.ret v)) s₃) (notedBy (model prog w) A env fun e s' => R (.error e) s') s₂) (notedBy (model prog w) A env fun e s' => R (.error e) s') s₁) (notedBy (model prog w) A env fun e s' => R (.error e) s') s) :
  codeAny (model prog w) A (.forLoop (.Name x p') it body [] env) R s := by
 refine codeAny_of_tree ?_
 show wpAny _ A ((forTurn (.Name x p') it body [] env).onRaise (fun x => do noteFrame x env; theTreesLotGoes x)) _ _ s
 refine wpAny_noted ?_
 simp only [forTurn]
 refine wpAny_bind (wpAny_standAt (wpAny_bind (wpAny_onRaise (wpAny_mono h (fun r s₁ h₁ => ?_) fun J J h' => wpAny_standAt h'))))
 cases r with
 | none => exact wpAny_pure ⟨rfl, codeAny_block (wpAny_execs_nil h₁)⟩
 | some v =>
  refine wpAny_bind (wpAny_pure ?_)
  refine wpAny_bind (wpAny_mono (wpAny_assign_Name h₁) (fun _ s₂ h₂ => wpAny_bind (wpAny_mono h₂ (fun f s₃ h₃ => ?_) fun J J h' => h')) fun J J h' => h')
  cases f with
  | next => exact wpAny_pure ⟨rfl, h₃⟩
  | cont => exact wpAny_pure ⟨rfl, h₃⟩
  | brk => exact wpAny_pure h₃
  | ret v => exact wpAny_pure h₃
end
noncomputable def turn (c : T G d fi) (b : SL G d fi) (f : Bool) (σ : St) : Option (Option Fl × St) := bd (c.tr σ) fun t σ => bd (dec f t σ) fun t σ => Bool.casesOn t (pu none σ) (bd (b.ex σ) fun fl σ => pu (some fl) σ)
theorem turn_ok (c : T G d fi) (b : SL G d fi) (f : Bool) : Ok (turn c b f) fun ρ r ρ' => ∀ fl ρ'', Option.casesOn (motive := fun J => Prop) r (fl = .next /\ ρ'' = ρ') (fun g => Fl.casesOn (motive := fun J => Prop) g (WhilOK G d fi c.x b.xs ρ' fl ρ'') fun o => fl = .ret o /\ ρ'' = ρ') -> WhilOK G d fi c.x b.xs ρ fl ρ'' :=
 c.to.bd (R := fun t ρ r ρ' => Bool.casesOn (motive := fun J => Prop) t (r = none /\ ρ = ρ') (∃ g, r = some g /\ ExsG G d fi b.xs ρ g ρ')) (fun t => (Ok.dec f t).bd (R := fun t ρ r ρ' => Bool.casesOn (motive := fun J => Prop) t (r = none /\ ρ = ρ') (∃ g, r = some g /\ ExsG G d fi b.xs ρ g ρ')) (fun t => by
  cases t
  ·exact .pu fun J => ⟨rfl, rfl⟩
  ·exact b.eo.bd (R := fun g ρ r ρ' => r = some g /\ ρ = ρ') (fun g => .pu fun J => ⟨rfl, rfl⟩) fun J g J J J h q => by obtain ⟨rfl, rfl⟩ := q; exact ⟨g, rfl, h⟩) fun J t J J J h q => by obtain ⟨rfl, rfl⟩ := h; exact q)
  fun ρ t ρ₁ r ρ' h q fl ρ'' k X W φ s e cm S F R kk => code_while (h X _ W φ s e S F _ fun W' φ' s' p' => by
   cases t with
   | false =>
    obtain ⟨rfl, rfl⟩ := q
    obtain ⟨rfl, rfl⟩ := k
    exact kk _ _ _ _ p'.f p'.ag rfl
   | true =>
    obtain ⟨g, rfl, hb⟩ := q
    refine hb X _ W' φ' s' e cm S p'.f _ fun f W2 φ2 s2 A2 B2 C2 => ?_
    cases g with
    | next => cases C2; exact k X W2 φ2 s2 e cm S A2 R fun f W3 φ3 s3 A3 B3 C3 => kk _ _ _ _ A3 ((p'.ag.trans B2).trans B3) C3
    | ret o =>
     obtain ⟨rfl, rfl⟩ := k
     obtain ⟨v', rfl, ro⟩ := C2
     exact kk _ _ _ _ A2 (p'.ag.trans B2) ⟨v', rfl, ro⟩)
theorem for_nil {x : Str} {p' : Pos} {b : List Stmt} {ρ : Loc} : ForOK G d fi (.Name x p') b [] ρ .next ρ := fun X W φ s it e cm S F f I R k =>
 code_for (I.next S.hd.1 F f fun s' A B C => k _ _ _ _ A B rfl)
theorem for_ok {x : Str} {p' : Pos} {i : Nat} (hx : fi.isOwn x i = true) (b : SL G d fi) (v : V) (l : List V) : Ok (fun σ => b.ex ⟨σ.ρ.set i (some (.val v)), σ.tp, σ.ob⟩) fun ρ g ρ' => ∀ fl ρ'', Fl.casesOn (motive := fun J => Prop) g (ForOK G d fi (.Name x p') b.xs l ρ' fl ρ'') (fun o => fl = .ret o /\ ρ'' = ρ') -> ForOK G d fi (.Name x p') b.xs (v :: l) ρ fl ρ'' := by
 intro σ g σ' e q
 obtain ⟨q1, hb⟩ := b.eo _ _ _ e q
 refine ⟨q1, fun fl ρ'' k X W φ s it ef cm S F f I R kk => code_for (I.next S.hd.1 F f fun s' A B C => fun v' rv I' => ?_)⟩
 obtain ⟨o, ho⟩ := I'.at
 refine store_ok (X := X.pinned it o) (S.pinned f.pin) (.inr cm) (A.pinned f ho) (.val rv) (ef ▸ hx) fun φ2 s2 A2 B2 => ?_
 refine hb (X.pinned it o) _ W φ2 s2 ef cm (S.pinned f.pin) A2 _ fun g' W3 φ3 s3 A3 B3 C3 => ?_
 obtain ⟨A4, f4, h4⟩ := A3.unpin f.pin f.nc
 have ag := B2.trans B3
 cases g with
 | next => cases C3; exact k X W3 φ3 s3 it ef cm S A4 f4 (I'.ag ag (h4.trans ho.symm)) R fun f W3 φ3 s3 A3 B3 C3 => kk _ _ _ _ A3 ((B.trans ag).trans B3) C3
 | ret r =>
  obtain ⟨rfl, rfl⟩ := k
  obtain ⟨v', rfl, ro⟩ := C3
  exact kk _ _ _ _ A4 (B.trans ag) ⟨v', rfl, ro.unpin⟩
theorem cellsFrom_acc : ∀ (names : List (Str × NameKind)) (n : Nat) (acc : List (Str × Addr)) (x : Str), (acc.lookup x).isSome = true -> ((cellsFrom n names acc).lookup x).isSome = true
 | [], _, _, _, h => h
 | (y, k) :: r, n, acc, x, h => by
  unfold cellsFrom
  split
  ·refine cellsFrom_acc r _ _ x ?_
   rw [List.lookup_cons]; split <;> first | rfl | exact h
  ·exact cellsFrom_acc r n acc x h
theorem cellsFrom_has : ∀ (names : List (Str × NameKind)) (n : Nat) (acc : List (Str × Addr)) (x : Str), names.lookup x = some .cell -> ((cellsFrom n names acc).lookup x).isSome = true
 | [], _, _, _, h => by cases h
 | (y, k) :: r, n, acc, x, h => by
  rw [List.lookup_cons] at h
  unfold cellsFrom
  cases q : x == y with
  | true =>
   rw [q] at h; cases h
   rw [if_pos (by decide)]
   refine cellsFrom_acc r _ _ x ?_
   rw [List.lookup_cons, q]; rfl
  | false =>
   rw [q] at h
   split <;> exact cellsFrom_has r _ _ x h
section
variable {kindOf : Str -> Option NameKind}
theorem bindL_not {q : Str} : ∀ (ps : List Str) (vals : List Value) (m : Str -> Option Value), q ∉ ps -> bindL kindOf (ps.zip vals) m q = m q
 | [], _, _, _ => rfl
 | _ :: _, [], _, _ => rfl
 | a :: ps, b :: vals, m, hq => by
  rw [List.zip_cons_cons, bindL, bindL_not ps vals _ fun z => hq (List.mem_cons_of_mem _ z)]
  split
  ·exact if_neg (fun e : q = a => hq (e ▸ List.mem_cons_self))
  ·rfl
theorem bindC_not {q : Str} : ∀ (ps : List Str) (vals : List Value) (m : Str -> Option Value), q ∉ ps -> bindC kindOf (ps.zip vals) m q = m q
 | [], _, _, _ => rfl
 | _ :: _, [], _, _ => rfl
 | a :: ps, b :: vals, m, hq => by
  rw [List.zip_cons_cons, bindC, bindC_not ps vals _ fun z => hq (List.mem_cons_of_mem _ z)]
  split
  ·rfl
  ·exact if_neg (fun e : q = a => hq (e ▸ List.mem_cons_self))
theorem bindL_lookup : ∀ (ps : List Str) (vals : List Value) (m : Str -> Option Value) (i : Nat) (p : Str) (v : Value), ps.Nodup -> ps[i]? = some p -> vals[i]? = some v -> kindOf p = some .local -> bindL kindOf (ps.zip vals) m p = some v
 | [], _, _, _, _, _, _, h, _, _ => nomatch h
 | q :: ps, [], _, i, _, _, _, _, h, _ => nomatch h
 | q :: ps, u :: vals, m, 0, p, v, hn, h1, h2, hk => by
  cases h1; cases h2
  rw [List.zip_cons_cons, bindL, if_pos hk, bindL_not _ _ _ (List.nodup_cons.mp hn).1]; exact if_pos rfl
 | q :: ps, u :: vals, m, i + 1, p, v, hn, h1, h2, hk => by
  rw [List.zip_cons_cons, bindL]
  exact bindL_lookup ps vals _ i p v (List.nodup_cons.mp hn).2 h1 h2 hk
theorem bindC_lookup : ∀ (ps : List Str) (vals : List Value) (m : Str -> Option Value) (i : Nat) (p : Str) (v : Value), ps.Nodup -> ps[i]? = some p -> vals[i]? = some v -> kindOf p ≠ some .local -> bindC kindOf (ps.zip vals) m p = some v
 | [], _, _, _, _, _, _, h, _, _ => nomatch h
 | q :: ps, [], _, i, _, _, _, _, h, _ => nomatch h
 | q :: ps, u :: vals, m, 0, p, v, hn, h1, h2, hk => by
  cases h1; cases h2
  rw [List.zip_cons_cons, bindC, if_neg hk, bindC_not _ _ _ (List.nodup_cons.mp hn).1]; exact if_pos rfl
 | q :: ps, u :: vals, m, i + 1, p, v, hn, h1, h2, hk => by
  rw [List.zip_cons_cons, bindC]
  exact bindC_lookup ps vals _ i p v (List.nodup_cons.mp hn).2 h1 h2 hk
end
theorem cells_toks {prog : Program} {w : World} {A : Around} {s : Shared} {R : Result -> Shared -> Prop} {a : Addr} {o : Obj} {fd : FuncData} {body : List Stmt} {vals : List Value} {binds : List (Str × Value)}
  (hroom : A.depth < recursionLimit) (ho : s.heap.get? a = some o) (hdata : o.data = .func fd) (hlim : s.heap.NoLimit) (hcd : s.heap.CodeRec fd.code fd.qualname)
  (hbody : fd.body = .stmts body) (hbind : bindArgs fd ⟨vals, []⟩ = pure binds) (hclo : fd.closure = [])
  (hkind : ∀ x ∈ binds, fd.scope.names.lookup x.1 = some .local \/ (fd.scope.names.lookup x.1 = some .cell /\ ((cellsFrom (s.heap.objs.size + 1) fd.scope.names []).lookup x.1).isSome = true))
  (h : ∀ s₁, InCallC s (callEnvC fd s.heap.objs.size a).locals (bindL (callEnvC fd s.heap.objs.size a).kindOf binds fun J => none) (callEnvC fd s.heap.objs.size a).cells
    (bindC (callEnvC fd s.heap.objs.size a).kindOf binds fun J => none) s₁ -> s.toks <= s₁.toks →
   wpAny (model prog w) (A.deeper (callEnvC fd s.heap.objs.size a)) (execs body (callEnvC fd s.heap.objs.size a)) (fun f s' => R (.ok (.ret (match f with | .ret v => v | _ => .none))) s')
    (fun e s' => wpAny (model prog w) (A.deeper (callEnvC fd s.heap.objs.size a)) (leaving (callEnvC fd s.heap.objs.size a) e) (fun J s'' => R (.error e) s'') (fun e' s'' => R (.error e') s'') s') s₁)
  (hco : fd.scope.isCoroutine = false) (hgen : fd.scope.isGenerator = false) (hk : fd.scope.kind = .function) :
  codeAny (model prog w) A (.call (.ref a) ⟨vals, []⟩) R s := by
 refine codeAny_call_function hroom ho hdata hco hgen hbody hcd ?_
 rw [hbind, hclo]
 refine wpAny_pure (wpAny_with_toks (Nat.le_refl _) (wpAny_newFunctionEnv_cells hk hkind fun env he s' x ht => ?_))
 subst he
 exact ⟨hlim.keeps x.toInCall.keep, codeAny_func (h s' x ht)⟩
noncomputable def loc0 (args : List V) (n : Nat) : Loc := args.map (fun v => some (.val v)) ++ List.replicate n none
theorem call_gen {a : Addr} {f : FD} {args : List V} {n : Nat} (hf : G.fd.lookup a = some f) (hn : args.length = f.ps.length) {C : Cx} {A : Around} {W : WS} {s : Shared} {vals : List Value} {R : Result -> Shared -> Prop} (g : GOk G C) (hh : HdG G A s.heap.get?) (hdp : A.depth + 2 * (d + 1) + 9 <= recursionLimit)
  (hun : A.units + 20 * (d + 1) + deep + 90 < cLine) (hkeep : ∀ b o, C.h.get? b = some o -> s.heap.get? b = some o) (hgens : s.gens = #[]) (htk : f.fi.pos = true -> 0 < s.toks) (hos : s.os = C.os) (wf : ∀ a, W a -> ∃ o, s.heap.get? a = some o) (r : VRs W s.heap args vals)
  (h : ∀ env s₁, env.frame = some env.locals -> env.locals = s.heap.objs.size -> FS G d ⟨C, A.deeper env, env, f.fi, s.heap.get?, W, true, fun J => none⟩ -> At ⟨C, A.deeper env, env, f.fi, s.heap.get?, W, true, fun J => none⟩ W (fun J => []) s₁ (loc0 args n) →
   wpAny C.M (A.deeper env) (execs f.st env) (fun f s' => R (.ok (.ret (match f with | .ret v => v | _ => .none))) s') (fun e s' => wpAny C.M (A.deeper env) (leaving env e) (fun J s'' => R (.error e) s'') (fun e' s'' => R (.error e') s'') s') s₁) :
  codeAny C.M A (.call (.ref a) ⟨vals, []⟩) R s := by
 obtain ⟨ob, fd, fo⟩ := g.fd a f hf
 have hlen : vals.length = f.ps.length := r.length.trans hn
 have hkind : ∀ x ∈ f.ps.zip vals, fd.scope.names.lookup x.1 = some .local \/ (fd.scope.names.lookup x.1 = some .cell /\ ((cellsFrom (s.heap.objs.size + 1) fd.scope.names []).lookup x.1).isSome = true) := fun x hx => by
  rw [fo.names]
  rcases fo.own x.1 (List.of_mem_zip hx).1 with q | q
  ·exact .inl q
  ·exact .inr ⟨q, cellsFrom_has _ _ _ _ q⟩
 refine cells_toks (by lia) (hkeep _ _ fo.at_) fo.dat (g.nolimit.keeps hkeep) (fo.rec_.keeps hkeep) fo.body (fo.bind vals hlen) fo.clo hkind (fun s₁ IC ht1 => ?_) fo.co fo.gen fo.kind
 generalize he : callEnvC fd s.heap.objs.size a = env at IC ⊢
 have hL : env.locals = s.heap.objs.size := by rw [<- he]; rfl
 have hNm : env.scope.names = f.fi.names := by rw [<- he]; exact fo.names
 have hcs : env.cells = cellsFrom (s.heap.objs.size + 1) fd.scope.names [] := by rw [<- he]; rfl
 obtain ⟨h₁, tk, rfl⟩ := IC.toInCall.same
 have hk := IC.toInCall.keep
 have cAbove : ∀ x c, env.cells.lookup x = some c -> s.heap.objs.size <= c := fun x c hc => by
  have := IC.above x c (mem_of_lookup hc); rw [hL] at this; exact Nat.le_of_lt this
 have hko : ∀ x, env.kindOf x = f.fi.names.lookup x := fun x => by unfold Env.kindOf; rw [hNm]
 let X : FC := ⟨C, A.deeper env, env, f.fi, s.heap.get?, W, true, fun J => none⟩
 have S : FS G d X := by
  refine ⟨g, hkeep, hh.of rfl, ?_, ?_, ?_, ?_, ?_, hNm, ?_, ?_, fo.inj, fun J J q => (by cases q)⟩
  ·show A.depth + 1 + 2 * d + 10 <= _; lia
  ·show A.units + 3 + 20 * d + deep + 100 < _; lia
  ·show env.scope.kind = _; rw [<- he]; exact fo.kind
  ·show env.globals = _; rw [<- he]; exact fo.gl
  ·show env.builtins = _; rw [<- he]; exact fo.bi
  ·rintro x (q | q)
   ·have q : f.fi.names.lookup x = some .cell := q
    rw [<- fo.names] at q
    have := cellsFrom_has fd.scope.names (s.heap.objs.size + 1) [] x q
    rw [<- hcs] at this
    exact Option.isSome_iff_exists.mp this
   ·exact absurd rfl (fo.free _ (mem_of_lookup q))
  ·intro x y c hx hy; exact name_of_addr IC.apart (mem_of_lookup hx) (mem_of_lookup hy)
 have gs : Gs W s W { s with heap := h₁, toks := tk } := Gs.of wf hk ht1
 have nof : ∀ b, s.heap.objs.size <= b -> s.heap.get? b = none /\ ¬ W b := fun b q => ⟨none_of_le q, fun w => by obtain ⟨_, z⟩ := wf b w; rw [none_of_le q] at z; cases z⟩
 have F : At X W (fun J => []) { s with heap := h₁, toks := tk } (loc0 args n) := by
  refine ⟨hgens, hos, ⟨hk, ?_, gs.g.wf, fun J J J q => q, fun J J J q => (by cases q), ?_, ?_⟩, ?_, fun J J q => (by cases q), fun h => Nat.lt_of_lt_of_le (htk h) ht1, fun J J q => (by cases q)⟩
  ·rintro b (q | ⟨_, x, q⟩ | ⟨i, q⟩)
   ·exact nof b (by rw [show b = env.locals from q, hL]; exact Nat.le_refl _)
   ·exact nof b (cAbove x b q)
   ·cases q
  ·obtain ⟨o, es, ep, h1, h2, h3, _⟩ := IC.toInCall.ns; exact ⟨o, es, ep, h1, h2, h3⟩
  ·intro x c hc; obtain ⟨o, h1, h2⟩ := IC.cell x c hc; exact ⟨o, _, h1, h2⟩
  ·intro x i hx w hw hkd
   have hx : f.fi.tbl.lookup x = some i := hx
   unfold loc0 at hw
   have hi : i < args.length := by
    rcases Nat.lt_or_ge i args.length with q | q
    ·exact q
    ·rw [List.getElem?_append_right (by rwa [List.length_map]), List.getElem?_replicate] at hw
     split at hw <;> cases hw
   rw [List.getElem?_append_left (by rwa [List.length_map]), List.getElem?_map, Option.map_eq_some_iff] at hw
   obtain ⟨w', hw1, hw2⟩ := hw
   cases hw2
   obtain ⟨u, hu, hr⟩ := r.get hw1
   obtain ⟨p, hp⟩ : ∃ p, f.ps[i]? = some p := ⟨_, List.getElem?_eq_getElem (by rw [<- hn]; exact hi)⟩
   obtain rfl : x = p := fo.inj x p i hx (fo.at0 i p hp)
   refine ⟨u, ?_, rfl, hr.ag (gs.g.ag wf)⟩
   rcases fo.own x (List.mem_of_getElem? hp) with q | q
   ·exact .inl ⟨(hko x).trans q, _, IC.toInCall.ns, bindL_lookup f.ps vals _ i x u fo.nodup hp hu ((hko x).trans q)⟩
   ·have hc := cellsFrom_has fd.scope.names (s.heap.objs.size + 1) [] x (by rw [fo.names]; exact q)
    rw [<- hcs] at hc
    obtain ⟨c, hc⟩ := Option.isSome_iff_exists.mp hc
    refine .inr ⟨.inl ((hko x).trans q), c, hc, ?_⟩
    have := IC.cell x c hc
    rw [bindC_lookup f.ps vals _ i x u fo.nodup hp hu (by rw [hko, q]; decide)] at this
    exact this
 exact h env _ (by rw [<- he]; rfl) hL S F
theorem call_of {a : Addr} {f : FD} {args : List V} {o : O} {n : Nat} {g : Fl} {ρ' : Loc} (hf : G.fd.lookup a = some f) (hn : args.length = f.ps.length) (h : ExsG G d f.fi f.st (loc0 args n) g ρ') (hg : g = .ret o \/ (g = .next /\ o = .val .none)) : CallOK G (d + 1) a args o := by
 intro C A W s vals R g hh hdp hun hkeep hgens htk hos wf r k
 refine codeAny_with_toks (Nat.le_refl _) ?_
 refine call_gen (n := n) hf hn g hh hdp hun hkeep hgens (htk f hf) hos wf r fun env s₁ _ _ S F => ?_
 refine h ⟨C, A.deeper env, env, f.fi, s.heap.get?, W, true, fun J => none⟩ _ W _ _ rfl rfl S F _ fun fw W' φ' s' A' B' C' => ?_
 intro tle
 have gs' : Gs W s W' s' := ⟨⟨fun b o e => A'.f.pin b o e, fun a q => B'.w a q, A'.f.wf, fun b o e q => A'.f.w0 b o e q⟩, A'.gens.trans hgens.symm, A'.os.trans hos.symm, tle⟩
 rcases hg with rfl | ⟨rfl, rfl⟩
 ·obtain ⟨v', rfl, p, ro, hp⟩ := C'
  refine k v' W' s' gs' ?_
  cases o with
  | val v => exact ro.2
  | own r' =>
   obtain ⟨b, rfl, rfl, z⟩ := ro
   obtain ⟨w1, _, w3⟩ := hp b List.mem_cons_self
   exact ⟨b, rfl, w3, w1, z⟩
  | own2 r' =>
   obtain ⟨b, as, rfl, rfl, z⟩ := ro
   exact ⟨b, as, rfl, fun c q => ⟨(hp c q).2.2, (hp c q).1⟩, z⟩
  | obj t l r' =>
   obtain ⟨oa, da, as, rfl, rfl, z⟩ := ro
   exact ⟨oa, da, as, rfl, fun c q => ⟨(hp c q).2.2, (hp c q).1⟩, z⟩
  | dic w k l =>
   obtain ⟨a, vs, rfl, rfl, z⟩ := ro
   obtain ⟨w1, _, w3⟩ := hp a List.mem_cons_self
   exact ⟨a, vs, rfl, w3, w1, z⟩
 ·cases C'
  exact k _ W' s' gs' rfl
end
end Mine
end
section
namespace Mine
open PySem.W (Looks keepIn)
def relab (outer names : List (Str × NameKind)) : List (Str × NameKind) := names.map fun (n, k) => if (k == .free && outer.lookup n == some .cell) then (n, .cell) else (n, k)
def FI.inner (fi : FI) (sc : Scope) (x : Str) (i : Nat) : FI := ⟨relab fi.names sc.names, (x, i) :: fi.tbl, fi.pos, []⟩
def compName (fi : FI) (sc : Scope) (x : Str) (y : Str × NameKind) : Bool := match y.2 with
 | .local => sc.names.lookup y.1 == some .local && (y.1 == x || (fi.tbl.lookup y.1).isNone)
 | .free => sc.names.lookup y.1 == some .free && (fi.names.lookup y.1 == some .cell || fi.names.lookup y.1 == some .free)
 | .cell => false
 | _ => (fi.tbl.lookup y.1).isNone
def compOk (fi : FI) (sc : Scope) (x : Str) (i : Nat) : Bool := sc.kind == .function && sc.names.lookup x == some .local && (sc.names.all (compName fi sc x)) && (fi.tbl.all fun p => p.2 != i)
theorem relab_lookup (outer : List (Str × NameKind)) (y : Str) : ∀ names : List (Str × NameKind), (relab outer names).lookup y = (names.lookup y).map fun k => if (k == .free && outer.lookup y == some .cell) then .cell else k
 | [] => rfl
 | (n, k) :: r => by
  have ih := relab_lookup outer y r
  show List.lookup y ((if (k == .free && outer.lookup n == some .cell) then (n, .cell) else (n, k)) :: relab outer r) = _
  have e : (if (k == .free && outer.lookup n == some .cell) then (n, NameKind.cell) else (n, k)) = (n, if (k == .free && outer.lookup n == some .cell) then NameKind.cell else k) := by split <;> rfl
  rw [e, List.lookup_cons, List.lookup_cons, ih]
  cases q : y == n with
  | true => rw [beq_iff_eq.mp q]; rfl
  | false => rfl
theorem relabel_names {fi : FI} {env : Env} (sc : Scope) (hf : env.scope.kind = .function) (hn : env.scope.names = fi.names) : (relabel sc env).names = relab fi.names sc.names := by
 unfold relabel relab
 simp only [hf, Env.kindOf, hn, beq_self_eq_true, Bool.and_true]
structure CompC (fi : FI) (sc : Scope) (x : Str) (i : Nat) : Prop where
 kind : sc.kind = .function
 own : sc.names.lookup x = some .local
 names : ∀ y, y ∈ sc.names -> compName fi sc x y = true
 new : ∀ y j, fi.tbl.lookup y = some j -> j ≠ i
theorem CompC.of {fi : FI} {sc : Scope} {x : Str} {i : Nat} (h : compOk fi sc x i = true) : CompC fi sc x i := by
 simp only [compOk, Bool.and_eq_true, beq_iff_eq, List.all_eq_true, bne_iff_ne, ne_eq] at h
 exact ⟨h.1.1.1, h.1.1.2, h.1.2, fun y j hy => h.2 (y, j) (mem_of_lookup hy)⟩
section
variable {fi : FI} {sc : Scope} {x : Str} {i : Nat}
theorem CompC.cell (h : CompC fi sc x i) : ∀ y ∈ sc.names, y.2 ≠ .cell := fun y hy q => by
 have := h.names y hy; unfold compName at this; rw [q] at this; cases this
theorem CompC.local (h : CompC fi sc x i) : ∀ y ∈ sc.names, y.2 = .local -> sc.names.lookup y.1 = some .local := fun y hy q => by
 have := h.names y hy; unfold compName at this; rw [q] at this
 exact beq_iff_eq.mp (Bool.and_eq_true_iff.mp this).1
theorem CompC.free (h : CompC fi sc x i) {y : Str} (hy : sc.names.lookup y = some .free) : fi.names.lookup y = some .cell \/ fi.names.lookup y = some .free := by
 have := h.names _ (mem_of_lookup hy); unfold compName at this
 simp only [Bool.and_eq_true, beq_iff_eq, Bool.or_eq_true] at this; exact this.2
theorem CompC.isFree (h : CompC fi sc x i) {y : Str} {j : Nat} (hne : y ≠ x) (hy : fi.tbl.lookup y = some j) (hk : (fi.inner sc x i).names.lookup y ≠ none) : sc.names.lookup y = some .free := by
 have hk : (relab fi.names sc.names).lookup y ≠ none := hk
 rw [relab_lookup] at hk
 cases z : sc.names.lookup y with
 | none => rw [z] at hk; exact absurd rfl hk
 | some kd =>
  have := h.names _ (mem_of_lookup z)
  unfold compName at this
  cases kd with
  | free => rfl
  | cell => cases this
  | «local» =>
   simp only [Bool.and_eq_true, Bool.or_eq_true, beq_iff_eq] at this
   rcases this.2 with z1 | z1
   ·exact absurd z1 hne
   ·rw [hy] at z1; cases z1
  | globalExplicit => dsimp only at this; rw [hy] at this; cases this
  | globalImplicit => dsimp only at this; rw [hy] at this; cases this
theorem CompC.cells (h : CompC fi sc x i) {y : Str} (hy : (fi.inner sc x i).names.lookup y = some .cell \/ (fi.inner sc x i).names.lookup y = some .free) : sc.names.lookup y = some .free := by
 have hy : (relab fi.names sc.names).lookup y = some .cell \/ (relab fi.names sc.names).lookup y = some .free := hy
 rw [relab_lookup] at hy
 cases z : sc.names.lookup y with
 | none => rw [z] at hy; rcases hy with q | q <;> cases q
 | some kd =>
  rw [z] at hy
  cases kd with
  | free => rfl
  | cell => exact absurd rfl (h.cell _ (mem_of_lookup z))
  | _ => rcases hy with q | q <;> cases q
end
theorem closure_ok (env : Env) : ∀ (names : List (Str × NameKind)), (∀ y ∈ names, y.2 = .free -> ∃ c, env.cells.lookup y.1 = some c) -> ∀ acc : List (Str × Addr),
  ∃ cl : List (Str × Addr), (forIn names acc fun (y : Str × NameKind) cs => if (y.2 == NameKind.free) = true then do let a <- cellOf env y.1; pure (ForInStep.yield ((y.1, a) :: cs)) else pure (ForInStep.yield cs) : Sem (List (Str × Addr))) = pure cl ∧
   (∀ n c, (n, c) ∈ cl -> (n, c) ∈ acc \/ env.cells.lookup n = some c) /\ (∀ y ∈ names, y.2 = .free -> (cl.lookup y.1).isSome = true) /\ (∀ n, (acc.lookup n).isSome = true -> (cl.lookup n).isSome = true)
 | [], _, acc => ⟨acc, rfl, fun n c h => .inl h, fun y h => (by cases h), fun n h => h⟩
 | (n, k) :: r, h, acc => by
  by_cases q : k = .free
  ·subst q
   obtain ⟨c, hc⟩ := h (n, .free) List.mem_cons_self rfl
   obtain ⟨cl, e, h1, h2, h3⟩ := closure_ok env r (fun y hy => h y (List.mem_cons_of_mem _ hy)) ((n, c) :: acc)
   refine ⟨cl, ?_, fun m d hd => ?_, fun y hy hk => ?_, fun m hm => h3 m ?_⟩
   ·rw [List.forIn_cons]
    have e1 : cellOf env n = pure c := by unfold cellOf; rw [hc]
    simp only [beq_self_eq_true, if_true, e1]
    exact e
   ·rcases h1 m d hd with z | z
    ·rcases List.mem_cons.mp z with z | z
     ·cases z; exact .inr hc
     ·exact .inl z
    ·exact .inr z
   ·rcases List.mem_cons.mp hy with z | z
    ·subst z; exact h3 n (by rw [List.lookup_cons, beq_self_eq_true]; rfl)
    ·exact h2 y z hk
   ·rw [List.lookup_cons]; split <;> first | rfl | exact hm
  ·obtain ⟨cl, e, h1, h2, h3⟩ := closure_ok env r (fun y hy => h y (List.mem_cons_of_mem _ hy)) acc
   refine ⟨cl, ?_, h1, fun y hy hk => ?_, h3⟩
   ·rw [List.forIn_cons]
    have : (k == NameKind.free) = false := by simpa using q
    simp only [this, Bool.false_eq_true, if_false]
    exact e
   ·rcases List.mem_cons.mp hy with z | z
    ·subst z; exact absurd hk q
    ·exact h2 y z hk
theorem closureFor_ok {env : Env} {scope : Scope} (h : ∀ y ∈ scope.names, y.2 = .free -> ∃ c, env.cells.lookup y.1 = some c) :
  ∃ cl : List (Str × Addr), closureFor scope env = pure cl /\ (∀ n c, cl.lookup n = some c -> env.cells.lookup n = some c) /\ (∀ y ∈ scope.names, y.2 = .free -> (cl.lookup y.1).isSome = true) := by
 obtain ⟨cl, e, h1, h2, _⟩ := closure_ok env scope.names h []
 refine ⟨cl, ?_, fun n c hc => (h1 n c (mem_of_lookup hc)).elim (fun z => nomatch z) id, h2⟩
 have : closureFor scope env = (forIn scope.names ([] : List (Str × Addr)) fun (y : Str × NameKind) cs => if (y.2 == NameKind.free) = true then do let a <- cellOf env y.1; pure (ForInStep.yield ((y.1, a) :: cs)) else pure (ForInStep.yield cs) : Sem (List (Str × Addr))) >>= fun cs => pure cs := rfl
 rw [this, e]; rfl
section
variable {A : Around} {R : Result -> Shared -> Prop} {s : Shared}
noncomputable def TestsW (M : Model) (A : Around) (E : Value -> Shared -> Prop) (env : Env) (cs : List Expr) (Q : Bool -> Shared -> Prop) (s : Shared) : Prop := List.casesOn cs (Q true s) fun c cs => List.casesOn cs (wpAny M A (isTrue c env (eval c env)) Q E s) fun J J => False
theorem code_comp {elt iter : Expr} {cs : List Expr} {x : Str} {px : Pos} {scope : Scope} {pos : Pos} {it acc : Value} {env : Env} {prog : Program} {w : World}
  (h : wpAny (model prog w) A (pyNext it) (fun r s₁ => match r with
   | none => R (.ok .next) s₁
   | some v => wpAny (model prog w) A (storeName env x v) (fun _ s₂ => TestsW (model prog w) A (notedBy (model prog w) A env fun e s' => R (.error e) s') env cs (fun ok s₃ => Bool.casesOn (motive := fun J => Prop) ok (codeAny (model prog w) A (.compLoop (.ListComp elt [⟨.Name x px, iter, cs, 0⟩] scope pos) 0 it acc env) R s₃) (wpAny (model prog w) A (eval elt env) (fun y s₄ =>
       wpAny (model prog w) A (call (.builtin "list.append") [acc, y]) (fun _ s₅ => codeAny (model prog w) A (.compLoop (.ListComp elt [⟨.Name x px, iter, cs, 0⟩] scope pos) 0 it acc env) R s₅) (notedBy (model prog w) A env fun e s' => R (.error e) s') s₄) (notedBy (model prog w) A env fun e s' => R (.error e) s') s₃)) s₂) (notedBy (model prog w) A env fun e s' => R (.error e) s') s₁) (notedBy (model prog w) A env fun e s' => R (.error e) s') s) :
  codeAny (model prog w) A (.compLoop (.ListComp elt [⟨.Name x px, iter, cs, 0⟩] scope pos) 0 it acc env) R s := by
 refine codeAny_of_tree ?_
 show wpAny _ A ((compTurn (.ListComp elt [⟨.Name x px, iter, cs, 0⟩] scope pos) 0 it acc env).onRaise (fun x => do noteFrame x env; theTreesLotGoes x)) _ _ s
 refine wpAny_noted ?_
 rw [compTurn_list]
 refine wpAny_bind (wpAny_standAt (wpAny_bind (wpAny_mono h (fun r s₁ h₁ => ?_) fun J J h' => h')))
 cases r with
 | none => exact wpAny_pure h₁
 | some v =>
  refine wpAny_bind (wpAny_pure ?_)
  refine wpAny_bind (wpAny_mono (wpAny_assign_Name h₁) (fun _ s₂ h₂ => ?_) fun J J h' => h')
  cases cs with
  | nil =>
   refine wpAny_bind (wpAny_tests_nil ?_)
   exact wpAny_bind (wpAny_bind (wpAny_mono h₂ (fun x s₄ h₄ => wpAny_bind (wpAny_mono h₄ (fun _ s₅ h₅ => wpAny_pure (wpAny_pure ⟨rfl, h₅⟩)) fun J J h' => h')) fun J J h' => h'))
  | cons c cs =>
   cases cs with
   | nil =>
    refine wpAny_bind (wpAny_tests_one (wpAny_mono h₂ (fun ok s₃ h₃ => ?_) fun J J h' => h'))
    cases ok with
    | true => exact wpAny_bind (wpAny_bind (wpAny_mono h₃ (fun x s₄ h₄ => wpAny_bind (wpAny_mono h₄ (fun _ s₅ h₅ => wpAny_pure (wpAny_pure ⟨rfl, h₅⟩)) fun J J h' => h')) fun J J h' => h'))
    | false => exact wpAny_bind (wpAny_pure (wpAny_pure ⟨rfl, h₃⟩))
   | cons => cases h₂
end
noncomputable def TestsG (G : Gl) (d : Nat) (fi : FI) (cs : List Expr) (ρ : Loc) (t : Bool) : Prop := List.casesOn cs (t = true) fun c cs => List.casesOn cs (TrG G d fi c ρ t ρ) fun J J => False
noncomputable def CompI (G : Gl) (d : Nat) (fi : FI) (cs : List Expr) (elt : Expr) (i : Nat) (ρ : Loc) (l vs : List V) : Prop :=
 @List.rec V (fun J => List V -> Prop) (fun vs => vs = []) (fun v J ih vs => (∃ w r, vs = w :: r /\ TestsG G d fi cs (ρ.set i (some (.val v))) true /\ EvV G d fi elt (ρ.set i (some (.val v))) w (ρ.set i (some (.val v))) /\ ih r) \/ (TestsG G d fi cs (ρ.set i (some (.val v))) false /\ ih vs)) l vs
abbrev CompL (G : Gl) (d : Nat) (fi : FI) (elt : Expr) (i : Nat) (ρ : Loc) (l vs : List V) : Prop := CompI G d fi [] elt i ρ l vs
noncomputable def shr (ρ : Loc) : Loc := ρ.map fun o => o.bind fun o => O.casesOn o (fun v => some (.val v)) (fun J => none) (fun J => none) (fun J J J => none) fun J J J => none
theorem shr_get {ρ : Loc} {j : Nat} {o : O} (e : (shr ρ)[j]? = some (some o)) : ∃ v, o = .val v /\ ρ[j]? = some (some (.val v)) := by
 unfold shr at e
 rw [List.getElem?_map] at e
 obtain ⟨o', e1, e2⟩ := Option.map_eq_some_iff.mp e
 cases o' with
 | none => cases e2
 | some o' => cases o' with
  | own r => cases e2
  | own2 r => cases e2
  | obj _ _ _ => cases e2
  | dic _ _ _ => cases e2
  | val v => cases e2; exact ⟨v, rfl, e1⟩
noncomputable def shrL (ln : Option (Str × Nat)) (ρ : Loc) : Loc := Option.casesOn ln (shr ρ) fun p => (shr ρ).set p.2 (slot ρ p.2)
noncomputable def lentI (ln : Option (Str × Nat)) (j : Nat) : Prop := Option.casesOn ln False fun p => j = p.2
noncomputable def lnOk (fi : FI) (sc : Scope) (x : Str) (ln : Option (Str × Nat)) : Bool := Option.casesOn ln true fun p => fi.tbl.lookup p.1 == some p.2 && sc.names.lookup p.1 == some .free && p.1 != x
noncomputable def lnHas (ln : Option (Str × Nat)) (ρ : Loc) : Prop := Option.casesOn ln True fun p => ∃ o, slot ρ p.2 = some o
set_option tactic.hygienic true in
theorem shrL_get {ln : Option (Str × Nat)} {ρ : Loc} {j : Nat} {o : O} (e : (shrL ln ρ)[j]? = some (some o)) : ρ[j]? = some (some o) /\ (lentI ln j \/ ∃ v, o = .val v) := by
 cases ln with
 | none => obtain ⟨v, rfl, h⟩ := shr_get e; exact ⟨h, .inr ⟨v, rfl⟩⟩
 | some p =>
  have e : ((shr ρ).set p.2 (slot ρ p.2))[j]? = some (some o) := e
  by_cases q : j = p.2
  ·subst q
   rw [List.getElem?_set] at e
   split at e
   ·split at e
    ·exact ⟨slot_some (Option.some.inj e), .inl rfl⟩
    ·cases e
   ·rename_i q; exact absurd rfl q
  ·rw [List.getElem?_set_ne (Ne.symm q)] at e
   obtain ⟨v, rfl, h⟩ := shr_get e; exact ⟨h, .inr ⟨v, rfl⟩⟩
open Classical in
noncomputable def lentφ (ln : Option (Str × Nat)) (φ : Nat -> List Addr) (j : Nat) : List Addr := if lentI ln j then φ j else []
theorem lentφ_in {ln : Option (Str × Nat)} {φ : Nat -> List Addr} {j : Nat} (h : lentI ln j) : lentφ ln φ j = φ j := if_pos h
theorem lentφ_out {ln : Option (Str × Nat)} {φ : Nat -> List Addr} {j : Nat} (h : ¬ lentI ln j) : lentφ ln φ j = [] := if_neg h
theorem lentφ_of {ln : Option (Str × Nat)} {φ : Nat -> List Addr} {j : Nat} {b : Addr} (h : b ∈ lentφ ln φ j) : lentI ln j /\ b ∈ φ j := by
 by_cases q : lentI ln j
 ·rw [lentφ_in q] at h; exact ⟨q, h⟩
 ·rw [lentφ_out q] at h; cases h
section
variable {X : FC} {W : WS} {φ : Nat -> List Addr} {s : Shared} {ρ : Loc}
theorem At.put {x : Str} {i : Nat} {o : O} {v' : Value} {p : List Addr} (F : At X W (upd φ i []) s (ρ.set i none)) (ti : ∀ y, X.fi.tbl.lookup y = some i -> y = x) (hv : Val X.env s.heap x v') (r : OR W s.heap p o v') (hp : ∀ a, a ∈ p -> Fre X W (upd φ i []) a) :
  At X W (upd φ i p) s (ρ.set i (some o)) := by
 have case : ∀ j b, b ∈ upd φ i p j -> (j = i /\ b ∈ p) \/ (j ≠ i /\ b ∈ upd φ i [] j) := fun j b q => by
  by_cases ej : j = i
  ·rw [ej, upd_same] at q; exact .inl ⟨ej, q⟩
  ·rw [upd_ne _ _ ej] at q; exact .inr ⟨ej, by rw [upd_ne _ _ ej]; exact q⟩
 refine ⟨F.gens, F.os, { F.f with mu := fun b q => ?_, dis := fun j k b q q' => ?_ }, fun y j hy o' w hk => ?_, fun j b q => (case j b q).elim (fun z => by obtain ⟨o, e, n⟩ := r.isOwn b z.2; exact ⟨o, e, n, fun e' => (hp b z.2).mu (.inl e')⟩) fun z => F.ow j b z.2, F.tk, F.kv⟩
 ·rcases q with q | q | ⟨j, q⟩
  ·exact F.f.mu b (.inl q)
  ·exact F.f.mu b (.inr (.inl q))
  ·rcases case j b q with ⟨_, q⟩ | ⟨_, q⟩
   ·exact ⟨(hp b q).pin, (hp b q).w⟩
   ·exact F.f.mu b (.inr (.inr ⟨j, q⟩))
 ·rcases case j b q with ⟨e, q⟩ | ⟨e, q⟩ <;> rcases case k b q' with ⟨e', q'⟩ | ⟨e', q'⟩
  ·exact e.trans e'.symm
  ·exact absurd (.inr (.inr ⟨k, q'⟩)) (hp b q).mu
  ·exact absurd (.inr (.inr ⟨j, q⟩)) (hp b q').mu
  ·exact F.f.dis j k b q q'
 ·rcases set_get w with ⟨rfl, rfl⟩ | ⟨q, w⟩
  ·cases ti y hy; exact ⟨v', hv, by rw [upd_same]; exact r⟩
  ·obtain ⟨w', a, b⟩ := F.lr y j hy o' (by rwa [List.getElem?_set_ne (Ne.symm q)]) hk
   exact ⟨w', a, by rw [upd_ne _ _ q] at b ⊢; exact b⟩
theorem At.backL (F : At X W φ s ρ) {ln : Option (Str × Nat)} {a : Addr} (f : Fre X W φ a) {W' : WS} {s' : Shared} {φ' : Nat -> List Addr} (hg : s'.gens = #[]) (hos : s'.os = X.C.os) (htk : X.fi.pos = true -> 0 < s'.toks)
  (hk : ∀ b o, b ≠ a -> (∀ j, b ∉ lentφ ln φ j) -> s.heap.get? b = some o -> s'.heap.get? b = some o) (hw : ∀ b, W b -> W' b) (wf : ∀ b, W' b -> ∃ o, s'.heap.get? b = some o) (nw : ∀ b o, b ≠ a -> (∀ j, b ∉ lentφ ln φ j) -> s.heap.get? b = some o -> W' b -> W b)
  (hl : ∀ y i, ln = some (y, i) -> (∀ z, X.fi.tbl.lookup z = some i -> z = y) /\ ∃ o v', ρ[i]? = some (some o) /\ Val X.env s.heap y v' /\ OR W' s'.heap (φ' i) o v' /\ ∀ b, b ∈ φ' i -> ¬ W' b /\ b ≠ a /\ (b ∈ φ i \/ s.heap.get? b = none)) :
  ∃ φ2, At X W' φ2 s' ρ /\ Ag W s.heap W' s'.heap /\ (∀ x v, Val X.env s.heap x v -> Val X.env s'.heap x v) /\ ∀ b, Fre X W φ b -> ¬ W' b -> (∀ y i, ln = some (y, i) -> b ∉ φ' i) -> Fre X W' φ2 b := by
 cases ln with
 | none =>
  have nl : ∀ b j, b ∉ lentφ none φ j := fun b j q => (lentφ_of q).1
  obtain ⟨A, B, V⟩ := F.move (D := (· = a)) (W' := W') (h' := s'.heap) (t := s.toks) (fun b q => q ▸ f) (fun b o q e => hk b o q (nl b) e) hw wf (fun b o q e => nw b o q (nl b) e)
  exact ⟨φ, ⟨hg, hos, A.f, A.lr, A.ow, htk, A.kv⟩, B, V, fun b f w J => ⟨f.pin, w, f.mu, f.nc⟩⟩
 | some p =>
  obtain ⟨y, i⟩ := p
  obtain ⟨ti, o, v', e, hv, ro, hp⟩ := hl y i rfl
  obtain ⟨F1, hf⟩ := F.free i
  have fr : ∀ b, b ∈ φ i -> Fre X W (upd φ i []) b := fun b q => ⟨(hf b q).1, (hf b q).2.1, (hf b q).2.2.1, (hf b q).2.2.2⟩
  have less : ∀ b, Fre X W φ b -> Fre X W (upd φ i []) b := fun b f => ⟨f.pin, f.w, fun m => f.mu m.less, f.nc⟩
  have nl : ∀ b, b ∉ φ i -> ∀ j, b ∉ lentφ (some (y, i)) φ j := fun b q j z => by
   obtain ⟨z1, z2⟩ := lentφ_of z
   have z1 : j = i := z1
   exact q (z1 ▸ z2)
  obtain ⟨F2, ag, val⟩ := F1.move (D := fun b => b = a \/ b ∈ φ i) (h' := s'.heap) (W' := W') (t := s.toks) (fun b q => q.elim (fun q => q ▸ less a f) (fr b)) (fun b o q e => hk b o (fun z => q (.inl z)) (nl b fun z => q (.inr z)) e) hw wf (fun b o q e => nw b o (fun z => q (.inl z)) (nl b fun z => q (.inr z)) e)
  have F3 : At X W' (upd φ i []) s' (ρ.set i none) := ⟨hg, hos, F2.f, F2.lr, F2.ow, htk, F2.kv⟩
  have A := F3.put (o := o) (p := φ' i) ti (val _ _ hv) ro fun b q => by
   obtain ⟨h1, h2, h3 | h3⟩ := hp b q
   ·have f := fr b h3; exact ⟨f.pin, h1, f.mu, f.nc⟩
   ·have f := Fre.of F1 h3; exact ⟨f.pin, h1, f.mu, f.nc⟩
  have er : ρ.set i (some o) = ρ := by
   apply List.ext_getElem?
   intro j
   by_cases q : j = i
   ·subst q; rw [e, List.getElem?_set_self (List.getElem?_eq_some_iff.mp e).1]
   ·rw [List.getElem?_set_ne (Ne.symm q)]
  rw [er] at A
  refine ⟨_, A, ag, val, fun b f w n => ⟨f.pin, w, fun m => ?_, f.nc⟩⟩
  rcases m with m | m | ⟨j, m⟩
  ·exact f.mu (.inl m)
  ·exact f.mu (.inr (.inl m))
  ·by_cases ej : j = i
   ·rw [ej, upd_same] at m; exact n y i rfl m
   ·rw [upd_ne _ _ ej] at m; exact f.mu (.inr (.inr ⟨j, m⟩))
end
section
variable {G : Gl} {d : Nat} {fi : FI}
theorem TestsG.go {cs : List Expr} {ρ : Loc} {t : Bool} (h : TestsG G d fi cs ρ t) {X : FC} {E : Value -> Shared -> Prop} {W : WS} {φ : Nat -> List Addr} {s : Shared} {Q : Bool -> Shared -> Prop} (e : X.fi = fi) (S : FS G d X) (F : At X W φ s ρ)
  (k : ∀ W' φ' s', Pst X W s W' φ' s' ρ -> Q t s') : TestsW X.C.M X.A E X.env cs Q s := by
 cases cs with
 | nil => cases h; exact k _ _ _ (.refl F)
 | cons c cs => cases cs with
  | nil => exact h X E W φ s e S F Q k
  | cons => cases h
theorem comp_loop {elt iter : Expr} {cs : List Expr} {x : Str} {px : Pos} {i : Nat} {sc : Scope} {pos : Pos} {ρ₀ : Loc} (hx : fi.isOwn x i = true) (hl : fi.names.lookup x = some .local) : ∀ {l vs : List V} {r : List V} {ρ : Loc} {X : FC} {W : WS} {φ : Nat -> List Addr} {s : Shared} {it acc : Addr} {R : Result -> Shared -> Prop},
  CompI G d fi cs elt i ρ₀ l vs -> X.fi = fi -> FS G d X -> (∀ o, ρ.set i o = ρ₀.set i o) -> At X W φ s ρ -> Fre X W φ it -> ItR W s.heap it l -> Fre X W φ acc -> acc ≠ it -> OwnAt W s.heap acc r -> l.length + r.length <= room →
  (∀ W' φ' s' ρ', At X W' φ' s' ρ' -> (∀ o, ρ'.set i o = ρ₀.set i o) -> Ag W s.heap W' s'.heap -> Fre X W' φ' it -> Fre X W' φ' acc -> OwnAt W' s'.heap acc (vs.reverse ++ r) -> R (.ok .next) s') -> codeAny X.C.M X.A (.compLoop (.ListComp elt [⟨.Name x px, iter, cs, 0⟩] sc pos) 0 (.ref it) (.ref acc) X.env) R s := by
 intro l
 induction l with
 | nil =>
  intro vs r ρ X W φ s it acc R h e S hρ F f I fa hne O hr k
  cases h
  refine code_comp (I.next S.hd.1 F f fun s' A B C => k _ _ _ _ A hρ B f fa ?_)
  obtain ⟨vs, n, e, _⟩ := id O
  exact O.ag B ((C acc _ hne e).trans e.symm)
 | cons v l ih =>
  intro vs r ρ X W φ s it acc R h e S hρ F f I fa hne O hr k
  refine code_comp (I.next S.hd.1 F f fun s' A B C => fun v' rv I' => ?_)
  obtain ⟨o, ho⟩ := I'.at
  obtain ⟨zs, n, he, _⟩ := id O
  have he1 := C acc _ hne he
  have O1 := O.ag B (he1.trans he.symm)
  have F1 := A.pinned f ho
  have fa1 : Fre (X.pinned it o) W φ acc := ⟨by rw [FC.pinned_ne hne]; exact fa.pin, fa.w, fa.mu, fa.nc⟩
  have F2 := F1.pinned fa1 he1
  have S1 : FS G d (X.pinned it o) := S.pinned f.pin
  have S2 : FS G d ((X.pinned it o).pinned acc (lstO zs n)) := S1.pinned fa1.pin
  refine store_ok (X := (X.pinned it o).pinned acc (lstO zs n)) S2 (.inl (show X.fi.names.lookup x = _ by rw [e]; exact hl)) F2 (.val rv) (show X.fi.isOwn x i = true by rw [e]; exact hx) fun φ2 s2 A2 B2 => ?_
  rw [hρ] at A2
  rw [List.length_cons] at hr
  have := room_le
  rcases h with ⟨w, ws, rfl, ht, hw, hl'⟩ | ⟨ht, hl'⟩
  ·refine ht.go (X := (X.pinned it o).pinned acc (lstO zs n)) e S2 A2 fun Wt φt st pt => ?_
   refine hw ((X.pinned it o).pinned acc (lstO zs n)) _ Wt φt st e S2 pt.f _ fun w' W3 φ3 s3 p3 r3 => ?_
   obtain ⟨A4, fa4, h4⟩ := p3.f.unpin fa1.pin fa.nc
   obtain ⟨A5, f5, h5⟩ := A4.unpin f.pin f.nc
   have fa5 : Fre X W3 φ3 acc := ⟨fa.pin, fa4.w, fa4.mu, fa.nc⟩
   have ag := (B2.trans pt.ag).trans p3.ag
   have O3 := O1.ag ag (h4.trans he1.symm)
   obtain ⟨vs, m, g1, g2, g3⟩ := O3
   have hs := g2.size
   rw [List.length_reverse] at hs
   refine call_meets PySem.F.slot_list_append ⟨_, g1, rfl⟩ PySem.F.entry_list_append (PySem.F.args_list_append_2 _ _) (list_append acc vs m _ (by rw [hs]; exact g3)) ⟨g1, ?_⟩
   have hsb : Heap.SameBut acc s3.heap (s3.heap.update acc (Obj.mapSeq (·.push w'))) := Heap.SameBut.update ..
   obtain ⟨A6, B6, _⟩ := A5.loose fa5 (t := s3.toks) fun b o q e => (hsb.2 b q).trans e
   refine ih hl' e S (ρ := ρ₀.set i (some (.val v))) (fun o => by rw [List.set_set]) A6 f5 (I'.ag (ag.trans B6) ((hsb.2 it (Ne.symm hne)).trans (h5.trans ho.symm))) fa5 hne (r := w :: r) ⟨_, _, Heap.get?_update_self _ g1 rfl, ?_, ?_⟩ (by rw [List.length_cons]; lia) fun W' φ' s' ρ' a a2 b b2 c d => k W' φ' s' ρ' a a2 ((B.trans (ag.trans B6)).trans b) b2 c ?_
   ·rw [Array.toList_push, List.reverse_cons]; exact (g2.snoc r3).ag B6
   ·rw [List.length_cons]; lia
   ·rw [List.reverse_cons, List.append_assoc]; exact d
  ·refine ht.go (X := (X.pinned it o).pinned acc (lstO zs n)) e S2 A2 fun W3 φ3 s3 p3 => ?_
   obtain ⟨A4, fa4, h4⟩ := p3.f.unpin fa1.pin fa.nc
   obtain ⟨A5, f5, h5⟩ := A4.unpin f.pin f.nc
   have fa5 : Fre X W3 φ3 acc := ⟨fa.pin, fa4.w, fa4.mu, fa.nc⟩
   have ag := B2.trans p3.ag
   exact ih hl' e S (ρ := ρ₀.set i (some (.val v))) (fun o => by rw [List.set_set]) A5 f5 (I'.ag ag (h5.trans ho.symm)) fa5 hne (O1.ag ag (h4.trans he1.symm)) (by lia) fun W' φ' s' ρ' a a2 b b2 c d => k W' φ' s' ρ' a a2 ((B.trans ag).trans b) b2 c d
open Classical in
noncomputable def pinL (P : Prop) (o : Option Obj) : Option Obj := if P then none else o
theorem pinL_in {P : Prop} {o : Option Obj} (h : P) : pinL P o = none := if_pos h
theorem pinL_out {P : Prop} {o : Option Obj} (h : ¬ P) : pinL P o = o := if_neg h
theorem pinL_some {P : Prop} {o : Option Obj} {b : Obj} (e : pinL P o = some b) : ¬ P /\ o = some b := by
 by_cases h : P
 ·rw [pinL_in h] at e; cases e
 ·rw [pinL_out h] at e; exact ⟨h, e⟩
set_option tactic.hygienic true in
theorem comp_core {ln : Option (Str × Nat)} {elt : Expr} {cs : List Expr} {x : Str} {px : Pos} {i : Nat} {sc : Scope} {pos pos' : Pos} {itx : Expr} {ρ₁ : Loc} {l vs : List V} (hc : CompC fi sc x i) (hln : lnOk fi sc x ln = true) (hlh : lnHas ln ρ₁) (hpl : plainX itx = true) (h2 : CompI G d (fi.inner sc x i) cs elt i ((shrL ln ρ₁).set i none) l vs) (hr : l.length <= room)
  {X : FC} {E : Value -> Shared -> Prop} {s : Shared} {use : Option (Value -> Sem Unit)} {Q : Value -> Shared -> Prop} (e : X.fi = fi) (S : FS G d X) {P : Addr -> WS -> (Nat -> List Addr) -> Shared -> Prop}
  (h1 : ∀ Q' : Value -> Shared -> Prop, (∀ it W' φ' s', P it W' φ' s' -> At X W' φ' s' ρ₁ -> Fre X W' φ' it -> ItR W' s'.heap it l -> Q' (.ref it) s') -> wpAny X.C.M X.A (eval itx X.env) (fun v s₁ => wpAny X.C.M X.A (pyIter v) Q' E s₁) E s)
  (k : ∀ a W1 φ1 s1, P a W1 φ1 s1 -> ∀ acc C W' φ' s', At X W' φ' s' ρ₁ -> Ag W1 s1.heap W' s'.heap -> (∀ x v, Val X.env s1.heap x v -> Val X.env s'.heap x v) -> (ln = none -> ∀ b o, b ≠ a -> s1.heap.get? b = some o -> s'.heap.get? b = some o) -> (s1.heap.get? acc = none /\ s1.heap.get? C = none /\ s1.toks <= s'.toks) -> Fre X W' φ' C -> (∃ m, s'.heap.Ns C m) -> acc ≠ C -> Fre X W' φ' acc -> OwnAt W' s'.heap acc vs.reverse -> compPost X.C.M X.A E use Q (.ref acc) C (.ok .next) s') :
  wpAny X.C.M X.A (comprehension (.ListComp elt [⟨.Name x px, itx, cs, 0⟩] sc pos) sc X.env pos' (newList []) false (eval itx X.env) use) Q E s := by
 subst e
 obtain ⟨cl, hcl, hcl1, hcl2⟩ := closureFor_ok (env := X.env) (scope := sc) fun y hy q => S.cel y.1 (hc.free (by
  have := hc.names y hy; unfold compName at this; rw [q] at this; exact beq_iff_eq.mp (Bool.and_eq_true_iff.mp this).1))
 refine wpAny_comprehension_free (g := ⟨.Name x px, itx, cs, 0⟩) (gs := []) rfl (noSet hpl X.env) hcl hc.kind hc.local ?_
 refine h1 _ fun a W1 φ1 s1 p0 p1 f1 I1 => wpAny_newObj_type ?_
 refine wpAny_newFunctionEnv hc.cell (by intro y hy; cases hy) (fun h3 hns hsb => ?_) hc.kind
 generalize hh2 : s1.heap.push { cls := .type "list", data := .seq ([] : List Value).toArray } = h2' at hns hsb ⊢
 have hz2 : h2'.objs.size = s1.heap.objs.size + 1 := by rw [<- hh2]; exact Heap.size_push ..
 have hk2 : ∀ b o, s1.heap.get? b = some o -> h2'.get? b = some o := fun b o q => by rw [<- hh2]; exact Heap.get?_push_of_some _ q
 have hk3 : ∀ b o, h2'.get? b = some o -> h3.get? b = some o := fun b o q => (hsb.2 b (fun z => absurd (Heap.lt_size q) (by rw [z]; exact Nat.lt_irrefl _))).trans (Heap.get?_push_of_some _ q)
 have ha3 : h3.get? s1.heap.objs.size = some (lstO ([] : List Value).toArray 0) := hk3 _ _ (by rw [<- hh2]; exact Heap.get?_push_size _ rfl)
 have g3 : Gs W1 s1 W1 { s1 with heap := h3, toks := s1.toks + ([] : List (Str × Value)).length } := Gs.of p1.f.wf fun b o q => hk3 b o (hk2 b o q)
 have F3 := p1.gs g3
 have n1 : s1.heap.get? s1.heap.objs.size = none := fresh_size _
 have n2 : s1.heap.get? h2'.objs.size = none := none_of_le (by rw [hz2]; exact Nat.le_succ _)
 have fa : Fre X W1 φ1 s1.heap.objs.size := .of p1 n1
 have fC : Fre X W1 φ1 h2'.objs.size := .of p1 n2
 obtain ⟨io, hio⟩ := I1.at
 have ita : s1.heap.objs.size ≠ a := fun q => by rw [q, hio] at n1; cases n1
 have itC : a ≠ h2'.objs.size := fun q => by rw [<- q, hio] at n2; cases n2
 have aC : s1.heap.objs.size ≠ h2'.objs.size := by rw [hz2]; exact Nat.ne_of_lt (Nat.lt_succ_self _)
 -- the comprehension's frame
 generalize hce : ({ newEnv sc h2'.objs.size X.env.globals cl X.env.qual none .none (some X.env) builtinsNs with scope := relabel sc X.env } : Env) = cenv
 have cL : cenv.locals = h2'.objs.size := by rw [<- hce]; rfl
 have cC : cenv.cells = cl := by rw [<- hce]; rfl
 have cN : cenv.scope.names = relab X.fi.names sc.names := by rw [<- hce]; exact relabel_names sc S.fn S.nm
 let Y : FC := ⟨X.C, X.A, cenv, X.fi.inner sc x i, fun b => pinL ((b = s1.heap.objs.size \/ b = h2'.objs.size \/ b = a) \/ ∃ j, b ∈ lentφ ln φ1 j) (h3.get? b), W1, false, fun J => none⟩
 have pinY : ∀ b o, s1.heap.get? b = some o -> b ≠ a -> (∀ j, b ∉ lentφ ln φ1 j) -> Y.pin b = some o := fun b o q z zl => by
  have e1 : ¬ ((b = s1.heap.objs.size \/ b = h2'.objs.size \/ b = a) \/ ∃ j, b ∈ lentφ ln φ1 j) := by
   rintro ((w | w | w) | ⟨j, w⟩)
   ·rw [w, n1] at q; cases q
   ·rw [w, n2] at q; cases q
   ·exact z w
   ·exact zl j w
  exact (pinL_out e1).trans (hk3 b o (hk2 b o q))
 have cellv : ∀ y c, cl.lookup y = some c -> ∃ o v, h3.get? c = some o /\ o.data = .cell v := fun y c q => F3.f.cells y c (hcl1 y c q)
 have SY : FS G d Y := by
  refine ⟨S.g, fun b o q => pinY b o (p1.keep S b o q) (fun z => ?_) fun j z => ?_, S.hd.mono fun b o q => pinY b o (p1.f.pin b o q) (fun z => ?_) fun j z => ?_, S.dp, S.un, ?_, ?_, ?_, cN, fun y q => ?_, ?_, ?_, fun J J q => (by cases q)⟩
  ·have := S.base b o q; rw [z, f1.pin] at this; cases this
  ·have := S.base b o q; rw [(p1.f.mu b (.inr (.inr ⟨j, (lentφ_of z).2⟩))).1] at this; cases this
  ·rw [z, f1.pin] at q; cases q
  ·rw [(p1.f.mu b (.inr (.inr ⟨j, (lentφ_of z).2⟩))).1] at q; cases q
  ·show cenv.scope.kind = _; rw [<- hce]; exact hc.kind
  ·show cenv.globals = _; rw [<- hce]; exact S.gl
  ·show cenv.builtins = _; rw [<- hce]; exact S.bi
  ·show ∃ c, cenv.cells.lookup y = some c
   rw [cC]; exact Option.isSome_iff_exists.mp (hcl2 (y, .free) (mem_of_lookup (hc.cells q)) rfl)
  ·intro y z c hy hz
   have hy : cenv.cells.lookup y = some c := hy
   have hz : cenv.cells.lookup z = some c := hz
   rw [cC] at hy hz
   exact S.inj y z c (hcl1 y c hy) (hcl1 z c hz)
  ·intro y z j hy hz
   have hy : ((x, i) :: X.fi.tbl).lookup y = some j := hy
   have hz : ((x, i) :: X.fi.tbl).lookup z = some j := hz
   rw [List.lookup_cons] at hy hz
   split at hy <;> split at hz
   ·rename_i q1 _ q2; rw [beq_iff_eq.mp q1, beq_iff_eq.mp q2]
   ·cases hy; exact absurd rfl (hc.new z _ hz)
   ·cases hz; exact absurd rfl (hc.new y _ hy)
   ·exact S.ti y z j hy hz
 have FY : At Y W1 (lentφ ln φ1) { s1 with heap := h3, toks := s1.toks + ([] : List (Str × Value)).length } ((shrL ln ρ₁).set i none) := by
  refine ⟨F3.gens, F3.os, ⟨fun b o q => (pinL_some q).2, ?_, F3.f.wf, fun J J J q => q, fun j k b q q' => F3.f.dis j k b (lentφ_of q).2 (lentφ_of q').2, ?_, fun y c q => ?_⟩, fun y j hy o ho hkd => ?_, fun j b q => ?_, F3.tk, fun J J q => (by cases q)⟩
  ·rintro b (q | ⟨q, _⟩ | ⟨j, q⟩)
   ·have q : b = h2'.objs.size := q.trans cL
    exact ⟨pinL_in (.inl (.inr (.inl q))), fun w => fC.w (q ▸ w)⟩
   ·cases q
   ·exact ⟨pinL_in (.inr ⟨j, q⟩), (F3.f.mu b (.inr (.inr ⟨j, (lentφ_of q).2⟩))).2⟩
  ·obtain ⟨o, es, ep, e1, e2, e3, _⟩ := hns
   exact ⟨o, es, ep, (show h3.get? cenv.locals = _ by rw [cL]; exact e1), e2, e3⟩
  ·have q : cenv.cells.lookup y = some c := q
   rw [cC] at q; exact cellv y c q
  ·have hy : ((x, i) :: X.fi.tbl).lookup y = some j := hy
   have hkd : (X.fi.inner sc x i).names.lookup y ≠ none := by
    have hkd : cenv.kindOf y ≠ none := hkd
    unfold Env.kindOf at hkd; rw [cN] at hkd; exact hkd
   rw [List.lookup_cons] at hy
   split at hy
   ·cases hy
    rw [List.getElem?_set] at ho
    split at ho
    ·split at ho <;> cases ho
    ·rename_i q; exact absurd rfl q
   ·rename_i q
    have hj : j ≠ i := hc.new y j hy
    rw [List.getElem?_set_ne (Ne.symm hj)] at ho
    obtain ⟨ho2, hlv⟩ := shrL_get ho
    have hfree := hc.isFree (fun e => by rw [e, beq_self_eq_true] at q; cases q) hy hkd
    have hout := hc.free hfree
    have hk2 : X.env.kindOf y ≠ none := by rw [S.kind]; rcases hout with z | z <;> rw [z] <;> simp
    obtain ⟨v', a1, a2⟩ := F3.lr y j hy _ ho2 hk2
    refine ⟨v', ?_, ?_⟩
    rotate_left
    ·by_cases zl : lentI ln j
     ·rw [lentφ_in zl]; exact a2
     ·obtain ⟨v, rfl⟩ := hlv.resolve_left zl
      rw [lentφ_out zl]; exact ⟨rfl, a2.2⟩
    rcases a1 with ⟨b1, _⟩ | ⟨b1, c, b2, b3⟩
    ·rw [S.kind] at b1; rcases hout with z | z <;> rw [z] at b1 <;> cases b1
    ·have hcy : cl.lookup y = some c := by
      obtain ⟨c', hc'⟩ := Option.isSome_iff_exists.mp (hcl2 (y, .free) (mem_of_lookup hfree) rfl)
      have := hcl1 y c' hc'
      rw [b2] at this; cases this; exact hc'
     refine .inr ⟨?_, c, (show cenv.cells.lookup y = _ by rw [cC]; exact hcy), b3⟩
     show cenv.kindOf y = _ \/ cenv.kindOf y = _
     unfold Env.kindOf; rw [cN, relab_lookup, hfree]
     by_cases z : (NameKind.free == NameKind.free && X.fi.names.lookup y == some .cell) = true
     ·left; exact congrArg some (if_pos z)
     ·right; exact congrArg some (if_neg z)
  ·obtain ⟨o, e, n, _⟩ := F3.ow j b (lentφ_of q).2
   refine ⟨o, e, n, fun z => ?_⟩
   have z : b = h2'.objs.size := z.trans cL
   obtain ⟨o2, e2, _⟩ := p1.ow j b (lentφ_of q).2
   rw [z, n2] at e2; cases e2
 have fY : ∀ b, Fre X W1 φ1 b -> (b = s1.heap.objs.size \/ b = h2'.objs.size \/ b = a) -> b ≠ h2'.objs.size -> Fre Y W1 (lentφ ln φ1) b := fun b f q hb => by
  refine ⟨pinL_in (.inl q), f.w, ?_, fun y z => ?_⟩
  ·rintro (z | ⟨z, _⟩ | ⟨j, z⟩)
   ·exact hb (z.trans cL)
   ·cases z
   ·exact f.mu (.inr (.inr ⟨j, (lentφ_of z).2⟩))
  ·have z : cenv.cells.lookup y = some b := z
   rw [cC] at z
   exact f.nc y (hcl1 y b z)
 have I3 : ItR W1 h3 a l := I1.ag (g3.g.ag p1.f.wf) ((hk3 _ _ (hk2 _ _ hio)).trans hio.symm)
 have O3 : OwnAt W1 h3 s1.heap.objs.size [] := ⟨_, _, ha3, rfl, Nat.zero_le _⟩
 have hxl : (X.fi.inner sc x i).names.lookup x = some .local := by
  show (relab _ _).lookup x = _
  rw [relab_lookup, hc.own]; rfl
 have hxo : (X.fi.inner sc x i).isOwn x i = true := by
  unfold FI.isOwn
  rw [hxl, show (X.fi.inner sc x i).tbl.lookup x = some i by show List.lookup x ((x, i) :: _) = _; rw [List.lookup_cons, beq_self_eq_true], beq_self_eq_true]; rfl
 have loop : codeAny X.C.M X.A (.compLoop (.ListComp elt [⟨.Name x px, itx, cs, 0⟩] sc pos) 0 (.ref a) (.ref s1.heap.objs.size) cenv) (compPost X.C.M X.A E use Q (.ref s1.heap.objs.size) h2'.objs.size) { s1 with heap := h3, toks := s1.toks + ([] : List (Str × Value)).length } := by
  refine codeAny_with_toks (Nat.le_refl _) ?_
  refine comp_loop hxo hxl h2 (X := Y) rfl SY (fun J => rfl) FY (fY a f1 (.inr (.inr rfl)) itC) I3 (fY _ fa (.inl rfl) aC) ita O3 (by simpa using hr) fun W' φ' s' ρ' A' hρ' B' f' fa' O' => ?_
  have A2 := A'.f
  obtain ⟨φ2, A5, B4, V4, nm⟩ := p1.backL (ln := ln) (W' := W') (s' := s') (φ' := φ') f1 A'.gens A'.os A'.tk (fun b o q q2 z => A2.pin b o (pinY b o z q q2)) (fun b q => B'.w b q) A2.wf (fun b o q q2 z w => A2.w0 b o (pinY b o z q q2) w) (fun y j hj => by
   subst hj
   have hln : (X.fi.tbl.lookup y == some j && sc.names.lookup y == some .free && y != x) = true := hln
   simp only [Bool.and_eq_true, beq_iff_eq, bne_iff_ne, ne_eq] at hln
   obtain ⟨⟨ly, lf⟩, lx⟩ := hln
   obtain ⟨o, ho⟩ := hlh
   have ho : slot ρ₁ j = some o := ho
   have hji : j ≠ i := hc.new y j ly
   have hout := hc.free lf
   have hk2 : X.env.kindOf y ≠ none := by rw [S.kind]; rcases hout with z | z <;> rw [z] <;> simp
   obtain ⟨v', a1, a2⟩ := p1.lr y j ly o (slot_some ho) hk2
   refine ⟨fun z hz => S.ti z y j hz ly, o, v', slot_some ho, a1, ?_, fun b q => ⟨(A2.mu b (.inr (.inr ⟨j, q⟩))).2, fun z => f'.mu (.inr (.inr ⟨j, z ▸ q⟩)), ?_⟩⟩
   ·have hr : ρ'[j]? = some (some o) := by
     have := congrArg (·[j]?) (hρ' none)
     rw [List.getElem?_set_ne (Ne.symm hji), List.set_set, List.getElem?_set_ne (Ne.symm hji)] at this
     rw [this]
     show ((shr ρ₁).set j (slot ρ₁ j))[j]? = _
     have hlt := (List.getElem?_eq_some_iff.mp (slot_some ho)).1
     rw [List.getElem?_set_self (by unfold shr; rwa [List.length_map]), ho]
    have hty : Y.fi.tbl.lookup y = some j := by
     show ((x, i) :: X.fi.tbl).lookup y = _
     rw [List.lookup_cons, beq_eq_false_iff_ne.mpr lx]; exact ly
    have hky : Y.env.kindOf y = some .cell \/ Y.env.kindOf y = some .free := by
     show cenv.kindOf y = _ \/ cenv.kindOf y = _
     unfold Env.kindOf; rw [cN, relab_lookup, lf]
     by_cases z : (NameKind.free == NameKind.free && X.fi.names.lookup y == some .cell) = true
     ·left; exact congrArg some (if_pos z)
     ·right; exact congrArg some (if_neg z)
    obtain ⟨u, u1, u2⟩ := A'.lr y j hty o hr (by rcases hky with z | z <;> rw [z] <;> simp)
    have : u = v' := by
     rcases a1 with ⟨b1, _⟩ | ⟨b1, c, b2, ⟨o1, b3, b4⟩⟩
     ·rw [S.kind] at b1; rcases hout with z | z <;> rw [z] at b1 <;> cases b1
     ·rcases u1 with ⟨d1, _⟩ | ⟨d1, c', d2, ⟨o2, d3, d4⟩⟩
      ·rcases hky with z | z <;> rw [z] at d1 <;> cases d1
      ·have d2 : cenv.cells.lookup y = some c' := d2
       rw [cC] at d2
       have := hcl1 y c' d2
       rw [b2] at this; cases this
       have := A2.pin c o1 (pinY c o1 b3 (fun z => f1.nc y (z ▸ b2)) fun k z => by
        obtain ⟨o3, z1, z2, _⟩ := p1.ow k c (lentφ_of z).2
        rw [b3] at z1; cases z1; exact z2 _ b4)
       rw [d3] at this; cases this
       rw [b4] at d4; cases d4; rfl
    rw [<- this]; exact u2
   ·by_cases z : b ∈ φ1 j
    ·exact .inl z
    ·refine .inr ?_
     cases e : s1.heap.get? b with
     | none => rfl
     | some o2 =>
      have := pinY b o2 e (fun z => f'.mu (.inr (.inr ⟨j, z ▸ q⟩))) fun k w => by
       obtain ⟨w1, w2⟩ := lentφ_of w
       have w1 : k = j := w1
       exact z (w1 ▸ w2)
      rw [(A2.mu b (.inr (.inr ⟨j, q⟩))).1] at this; cases this)
  intro tle
  refine k a W1 φ1 s1 p0 _ _ W' φ2 s' A5 B4 V4 (fun hn b o q z => A2.pin b o (pinY b o z q fun j w => by subst hn; exact (lentφ_of w).1)) ⟨n1, n2, tle⟩ (nm _ fC (A2.mu _ (.inl cL.symm)).2 fun y j J q => by
   obtain ⟨_, _, _, z⟩ := A'.ow j _ q; exact z cL.symm) ?_ aC (nm _ fa fa'.w fun y j J q => fa'.mu (.inr (.inr ⟨j, q⟩))) (by rw [List.append_nil] at O'; exact O')
  obtain ⟨o, es, ep, e1, e2, e3⟩ := A2.ns
  have e1 : s'.heap.get? cenv.locals = some o := e1
  rw [cL] at e1
  exact ⟨fun y => nsFind es y, o, es, ep, e1, e2, e3, fun J => rfl⟩
 exact codeAny_compStart_list loop (I3.self (s := { s1 with heap := h3, toks := s1.toks + ([] : List (Str × Value)).length }) loop)
noncomputable def CompT (G : Gl) (d : Nat) (fi : FI) (ln : Option (Str × Nat)) (cs : List Expr) (elt : Expr) (i : Nat) (l : List V) (ρ : Loc) (vs : List V) : Prop := Option.casesOn ln (CompI G d fi cs elt i ((shr ρ).set i none) l vs /\ l.length <= room) fun p => CompI G d fi cs elt i (((shr ρ).set p.2 (slot ρ p.2)).set i none) l vs /\ l.length <= room /\ ∃ o, slot ρ p.2 = some o
noncomputable def evComp (ln : Option (Str × Nat)) (it : It G d fi) (cs : List Expr) (elt : Expr) (fi' : FI) (i : Nat) (σ : St) : Option (O × St) := bd (it.ev σ) fun l σ => told Tk.vs? (fun ρ vs => CompT G d fi' ln cs elt i l ρ vs) (fun vs => O.own vs.reverse) (fun _ ρ => ρ) σ
theorem evComp_ok {ln : Option (Str × Nat)} {it : It G d fi} {cs : List Expr} {elt : Expr} {fi' : FI} {i : Nat} : Ok (evComp ln it cs elt fi' i) fun ρ o ρ' => ∃ l vs, ItG G d fi it.x ρ l ρ' /\ CompT G d fi' ln cs elt i l ρ' vs /\ o = .own vs.reverse :=
 it.eo.bd (R := fun l ρ o ρ' => ∃ vs, CompT G d fi' ln cs elt i l ρ vs /\ o = .own vs.reverse /\ ρ = ρ') (fun l => .told fun vs ρ q => ⟨vs, q, rfl, rfl⟩) fun J l J J J h q => by
  obtain ⟨vs, q1, q2, rfl⟩ := q; exact ⟨l, vs, h, q1, q2⟩
noncomputable def sAsgI (y : Str) (j : Nat) (p' p : Pos) (x : Str) (i : Nat) (px : Pos) (it : It G d fi) (sc : Scope) (cs : List Expr) (elt : T G d (fi.inner sc x i)) (pos : Pos)
  (h : (compOk fi sc x i && fi.isOwn y j && (fi.names.lookup y == some .local && p'.line == pos.line && !(sc.names.any fun (n, k) => n == y && (k == .local || k == .cell)))) = true) : SS G d fi :=
 ⟨.Assign [.Name y p'] (.ListComp elt.x [⟨.Name x px, it.x, cs, 0⟩] sc pos) p, fun σ => bd (evComp none it cs elt.x (fi.inner sc x i) i σ) fun o σ => setL j o σ,
 evComp_ok.bd (R := fun o ρ fl ρ' => fl = .next /\ ρ' = ρ.set j (some o)) (fun J => .setL fun J => ⟨rfl, rfl⟩) fun ρ o ρ₁ fl ρ' q q' X E W φ s e c S F Q k => by
  obtain ⟨l, vs, h1, h2, rfl⟩ := q
  obtain ⟨rfl, rfl⟩ := q'
  rw [Bool.and_eq_true, Bool.and_eq_true] at h
  have hsw : swapsWith (.ListComp elt.x [⟨.Name x px, it.x, cs, 0⟩] sc pos) (some (.Name y p')) p.line X.env = pure true := by
   show (pure (X.env.blockKind == .function && X.env.kindOf y == some .local && p'.line == pos.line && !(sc.names.any fun (n, k) => n == y && (k == .local || k == .cell))) : Sem Bool) = _
   rw [S.kind, e, show X.env.blockKind = .function by unfold Env.blockKind; rw [S.fn]; rfl, beq_self_eq_true, Bool.true_and, h.2]
  rw [exec_Assign_Name_used _ _ _ _ hsw]
  refine wpAny_bind (wpAny_standAt (wpAny_bind ?_))
  show wpAny _ X.A (do let _ <- comprehension (.ListComp elt.x [⟨.Name x px, it.x, cs, 0⟩] sc pos) sc X.env _ (newList []) false (eval it.x X.env) (some (assign (.Name y p') X.env))) _ _ s
  refine wpAny_bind (wpAny_mono (comp_core (use := some (assign (.Name y p') X.env)) (Q := fun J s' => Q .next s') (ln := none) (P := fun _ W1 φ1 s1 => Pst X W s W1 φ1 s1 ρ₁) (.of h.1.1) rfl trivial it.pl h2.1 h2.2 e S (fun Q' k' => h1 X E W φ s e S F Q' fun a W1 φ1 s1 p f I => k' a W1 φ1 s1 p p.f f I) fun a W1 φ1 s1 p1 acc C W' φ' s' A' B' V' _ _ fC hn hne fa O => ?_) (fun J s' hq => wpAny_pure (wpAny_pure hq)) fun J J e => e)
  have p2 : Pst X W s W' φ' s' ρ₁ := ⟨A', p1.ag.trans B', fun y v q => V' y v (p1.vl y v q)⟩
  obtain ⟨m, hn⟩ := hn
  obtain ⟨o, es, ep, e1, e2, e3, _⟩ := hn
  show wpAny _ X.A (assign (.Name y p') X.env (.ref acc)) _ _ _
  have ro : RO (X.pinned C o) W' φ' s'.heap (.own vs.reverse) (.ref acc) := ⟨[acc], ⟨acc, rfl, rfl, O⟩, fun b q => by cases List.mem_singleton.mp q; exact ⟨fa.w, fa.mu, by rw [FC.pinned_ne hne]; exact fa.pin⟩⟩
  refine wpAny_assign_Name (store_ok (X := X.pinned C o) (S.pinned fC.pin) (.inr c) (p2.f.pinned fC e1) ro (show X.fi.isOwn y j = true by rw [e]; exact h.1.2) fun φ2 s2 A B => ?_)
  obtain ⟨A2, fC2, e4⟩ := A.unpin fC.pin fC.nc
  refine ⟨fun y => nsFind es y, ⟨o, es, ep, e4, e2, e3, fun J => rfl⟩, fun h' hs => ?_⟩
  obtain ⟨A3, B3, _⟩ := A2.loose fC2 (t := s2.toks) fun b o q e => (hs.2 b q).trans e
  exact k _ _ _ _ A3 ((p2.ag.trans B).trans B3) rfl⟩
noncomputable def sAsgC (y : Str) (j : Nat) (p' p : Pos) (x : Str) (i : Nat) (px : Pos) (it : It G d fi) (sc : Scope) (elt : T G d (fi.inner sc x i)) (pos : Pos)
  (h : (compOk fi sc x i && fi.isOwn y j && (fi.names.lookup y == some .local && p'.line == pos.line && !(sc.names.any fun (n, k) => n == y && (k == .local || k == .cell)))) = true) : SS G d fi := sAsgI y j p' p x i px it sc [] elt pos h
end
end Mine
end
section
namespace Mine
theorem texts_reads {W : WS} {h : Heap} : ∀ {l : List V} {l' : List Value} {ss : List (List Nat)}, VRs W h l l' -> textsOf l = some ss -> (∃ as, ReadsAll h l' (ss.map fun z => PyData.str ⟨z.toArray⟩) as) /\ PyData.canLayAll0 (ss.map fun z => PyData.str ⟨z.toArray⟩) = true /\ PyData.depthAll (ss.map fun z => PyData.str ⟨z.toArray⟩) = 0
 | [], _, _, r, e => by cases r; cases e; exact ⟨⟨_, .nil⟩, rfl, rfl⟩
 | v :: l, _, _, r, e => by
  obtain ⟨v', r', rfl, rv, rl⟩ := VRs.inv r
  obtain ⟨z, e1, e⟩ := obi e
  obtain ⟨t, e2, e⟩ := obi e
  cases e
  rw [V.str_of e1] at rv
  obtain ⟨tk, rfl, ok, _⟩ := rv
  obtain ⟨⟨as, a⟩, b, c⟩ := texts_reads rl e2
  refine ⟨⟨_, .cons (.str _ tk) a⟩, ?_, ?_⟩
  ·show (PyData.canLay0 (.str ⟨z.toArray⟩) && PyData.canLayAll0 _) = true
   rw [b, Bool.and_true]; simpa [PyData.canLay0] using ok
  ·show max (PyData.depth (.str ⟨z.toArray⟩)) (PyData.depthAll _) = 0
   rw [c]; rfl
section
variable {G : Gl} {d : Nat} {fi : FI}
noncomputable def kIn (x : V) (y : O) : Option (Bool × List Prop) := y.val?.bind fun y => x.str?.bind fun z => y.tup?.bind fun l => (textsOf l).bind fun ss => some (ss.any fun t => t == z, [])
theorem primIn : PrimC G d .In kIn := by
 intro x y t ps e q X E W φ s ρ S F x' y' rx ry Q k
 obtain ⟨v, e1, e⟩ := obi e
 obtain ⟨z, e2, e⟩ := obi e
 obtain ⟨l, e3, e⟩ := obi e
 obtain ⟨ss, e4, e⟩ := obi e
 cases e; rw [O.val_of e1, V.tup_of e3] at ry; rw [V.str_of e2] at rx
 obtain ⟨tk, rfl, ok, _⟩ := rx
 obtain ⟨a, vs, n, rfl, _, h1, h2, h3⟩ := VR.tup ry
 obtain ⟨⟨as, ra⟩, b, c⟩ := texts_reads h3 e4
 refine SeqAt.in_tuple_reads (.tuple h1 rfl rfl ra) (.str _ tk) b (by simpa [PyData.canLay0] using ok) (by rw [c]; have := S.u; simp; lia) ?_
 have he : (ss.map fun z => PyData.str ⟨z.toArray⟩).any (fun y => PyData.eqv y (.str ⟨z.toArray⟩)) = ss.any fun t => t == z := by
  rw [List.any_map]
  congr 1
  funext t
  show PyData.eqv (.str ⟨t.toArray⟩) (.str ⟨z.toArray⟩) = (t == z)
  by_cases q : t = z
  ·subst q; simp [PyData.eqv]
  ·have q' : (t == z) = false := by simpa using q
   rw [q']
   simp [PyData.eqv, q]
 rw [he]; exact k s.toks (Nat.le_refl _)
noncomputable def eIn : T G d fi -> T G d fi -> Pos -> T G d fi := eCmp .In kIn primIn
noncomputable def eTell (a : T G d fi) : T G d fi :=
 have eo : Ok (fun σ => bd (a.ev σ) fun o σ => told Tk.r? (fun J o' => o = o') id (fun _ ρ => ρ) σ) (EvG G d fi a.x) := a.eo.bd (R := fun o ρ o' ρ' => o = o' /\ ρ = ρ') (fun o => Ok.told (f := Tk.r?) (p := fun J o' => o = o') (r := id) (ρ := fun _ ρ => ρ) fun o' ρ q => ⟨q, rfl⟩) fun J J J J J h q => by
  obtain ⟨rfl, rfl⟩ := q; exact h
 ⟨a.x, _, a.pk, a.tr, a.pl, eo, a.po, a.to⟩
noncomputable def namesAt (p : Program) (k : Nat) : List (Str × NameKind) := match p.main.body[k]? with
 | some (.FunctionDef _ _ _ _ _ _ sc _ _ _) => sc.names
 | _ => []
noncomputable def bodyAt (p : Program) (k : Nat) : List Stmt := match p.main.body[k]? with
 | some (.FunctionDef _ _ b _ _ _ _ _ _ _) => b
 | _ => []
noncomputable def obs {α : Type} (r : Option (α × St)) : List Prop := Option.casesOn r [] fun p => p.2.ob
noncomputable def out {α : Type} (r : Option (α × St)) : Option (α × Loc × List Tk) := r.bind fun p => some (p.1, p.2.ρ, p.2.tp)
theorem Ok.run {α : Type} {f : St -> Option (α × St)} {S : Loc -> α -> Loc -> Prop} (h : Ok f S) {ρ ρ' : Loc} {tp : List Tk} {a : α} {P : Prop} (e : out (f ⟨ρ, tp, []⟩) = some (a, ρ', [])) (o : All (obs (f ⟨ρ, tp, []⟩)) = P) (p : P) : S ρ a ρ' := by
 subst o
 obtain ⟨⟨a', ρ2, tp2, ob2⟩, e1, e2⟩ := obi e
 cases e2
 have : All ob2 := by rw [e1] at p; exact p
 exact (h _ _ _ e1 this).2
end
end Mine
end
section
open PySem PySem.W
namespace Mine
theorem items_ints {R : WRecords} : ∀ {xs : List WData}, WShape.hasItems R xs .int = true -> ∃ ns : List Int, xs = ns.map .int
 | [], _ => ⟨[], rfl⟩
 | x :: xs, h => by
  have h := Bool.and_eq_true_iff.mp (show (WShape.has R x .int && WShape.hasItems R xs .int) = true from h)
  obtain ⟨i, rfl⟩ := hasW_int h.1
  obtain ⟨ns, rfl⟩ := items_ints h.2
  exact ⟨i :: ns, rfl⟩
theorem law_args {l : OpenLaw} (hm : l.most = some 63) (hb : l.bound = none) {args : List WData} (hpre : l.row.toRowW.claim.pre args = true) : ∃ ns : List Int, args = [.list (ns.map .int)] /\ ns.length <= 63 := by
 obtain ⟨h1, h2⟩ := pre_splitW hpre
 obtain ⟨d, r, rfl, h3, h4⟩ := hasAllW_cons (e := .list .int) (es := []) h1
 obtain rfl := hasAllW_nil h4
 obtain ⟨xs, rfl, h5⟩ := hasW_list h3
 obtain ⟨ns, rfl⟩ := items_ints h5
 refine ⟨ns, rfl, ?_⟩
 have h2' : l.pre.holds [] { args := [.list (ns.map .int)] } = true := h2
 unfold OpenLaw.pre at h2'
 rw [hm, hb] at h2'
 by_cases q : ns.length <= 63
 ·exact q
 ·exfalso
  have hl : less? (WData.int 63) (WData.int (ns.length : Int)) = some true := by
   simp [less?, Num.less?]; lia
  simp [WTm.holds, WTm.value, hl] at h2'
theorem reads_ints {W : WS} {h : Heap} {P : Params} : ∀ {ns : List Int} {vs : List Value}, WellAll P h vs (ns.map .int) -> VRs W h (ns.map .int) vs
 | [], _, .nil => rfl
 | n :: ns, _, .cons h r => by cases h with | int i t => exact .cons ⟨t, rfl⟩ (reads_ints r)
noncomputable def codeChk (K : Frag) (cd : Value) (q : Str) : Bool := match cd with
 | .ref c => (match K.lookup c with
  | some o => (match o.data with
   | .fields vs => (match (vs[1]? : Option Value) with
    | some (.str z _) => z == q
    | _ => false)
   | _ => false)
  | none => false)
 | _ => false
set_option tactic.hygienic true in
theorem codeChk_of {K : Frag} {h : Heap} (X : K.In h) {cd : Value} {q : Str} (e : codeChk K cd q = true) : h.CodeRec cd q := by
 unfold codeChk at e
 split at e
 ·split at e
  ·rename_i o ho
   split at e
   ·rename_i vs hd
    split at e
    ·rename_i z t hz
     rw [beq_iff_eq.mp e] at hz
     exact ⟨_, o, vs, t, rfl, X _ _ ho, hd, hz⟩
    ·cases e
   ·cases e
  ·cases e
 ·cases e
noncomputable def fdOf (K : Frag) (a : Addr) : Option FuncData := (K.lookup a).bind fun o => match o.data with
 | .func fd => some fd
 | _ => none
noncomputable def fdChk (K : Frag) (f : FD) (fd : FuncData) : Bool :=
 fd.closure.isEmpty && fd.globals == mainGlobals && fd.builtins == builtinsNs && !fd.scope.isCoroutine && !fd.scope.isGenerator && fd.scope.kind == .function && codeChk K fd.code fd.qualname &&
 fd.params.posonlyargs.isEmpty && fd.params.args.map (·.arg) == f.ps && fd.params.vararg.isNone && fd.params.kwonlyargs.isEmpty && fd.params.kwarg.isNone && fd.defaults == .none &&
 decide f.ps.Nodup && (f.ps.all fun p => f.fi.names.lookup p == some .local || f.fi.names.lookup p == some .cell) && (f.fi.names.all fun x => x.2 != .free) &&
 (f.ps.zipIdx.all fun x => f.fi.tbl.lookup x.1 == some x.2) && decide ((f.fi.tbl.map (·.2)).Nodup)
noncomputable def bodyIs (K : Frag) (a : Addr) : Option (FuncBody × List (Str × NameKind)) := (fdOf K a).bind fun fd => some (fd.body, fd.scope.names)
structure FnAt (K : Frag) (a : Addr) (f : FD) : Prop where
 body : bodyIs K a = some (.stmts f.st, f.fi.names)
 chk : (Option.casesOn (fdOf K a) false fun fd => fdChk K f fd : Bool) = true
theorem zip_lookup : ∀ (ps : List Str) (vals : List Value), ps.Nodup -> vals.length = ps.length -> (ps.filterMap fun n => ((ps.zip vals).lookup n).map (n, ·)) = ps.zip vals := by
 have key : ∀ (ps : List Str) (vals : List Value) (pre : List (Str × Value)), (∀ p ∈ ps, pre.lookup p = none) -> ps.Nodup -> vals.length = ps.length -> (ps.filterMap fun n => ((pre ++ ps.zip vals).lookup n).map (n, ·)) = ps.zip vals := by
  intro ps
  induction ps with
  | nil => intro vals pre _ _ _; rfl
  | cons p ps ih =>
   intro vals pre hpre hn hl
   cases vals with
   | nil => cases hl
   | cons v vals =>
    rw [List.zip_cons_cons, List.filterMap_cons]
    have e : ((pre ++ (p, v) :: ps.zip vals).lookup p).map (p, ·) = some (p, v) := by
     rw [List.lookup_append, hpre p List.mem_cons_self]; simp
    rw [e]
    have := ih vals (pre ++ [(p, v)]) (fun q hq => ?_) (List.nodup_cons.mp hn).2 (by simpa using hl)
    ·rw [List.append_assoc] at this
     simp only [List.singleton_append] at this
     rw [this]
    ·rw [List.lookup_append, hpre q (List.mem_cons_of_mem _ hq)]
     have hne : (q == p) = false := by
      rw [beq_eq_false_iff_ne]; rintro rfl; exact (List.nodup_cons.mp hn).1 hq
     simp [List.lookup_cons, hne]
 intro ps vals hn hl
 have := key ps vals [] (fun J J => rfl) hn hl
 simpa using this
set_option tactic.hygienic true in
theorem zip_some : ∀ (ps : List Str) (vals : List Value), vals.length = ps.length -> ∀ p ∈ ps, ((ps.zip vals).lookup p).isSome = true
 | [], _, _, p, h => by cases h
 | q :: ps, [], hl, _, _ => by cases hl
 | q :: ps, v :: vals, hl, p, h => by
  rw [List.zip_cons_cons, List.lookup_cons]
  split
  ·rfl
  ·rename_i z
   rcases List.mem_cons.mp h with r | r
   ·rw [r, beq_self_eq_true] at z; cases z
   ·exact zip_some ps vals (by simpa using hl) p r
theorem bind_plain {fd : FuncData} {as : List Arg} {d : List Expr} {kd : List (Option Expr)} (hp : fd.params = { posonlyargs := [], args := as, vararg := none, kwonlyargs := [], kw_defaults := kd, kwarg := none, defaults := d }) (hd : fd.defaults = .none)
  (hn : (as.map (·.arg)).Nodup) (vals : List Value) (hl : vals.length = (as.map (·.arg)).length) : bindArgs fd ⟨vals, []⟩ = pure ((as.map (·.arg)).zip vals) := by
 have hmiss : ((as.map (·.arg)).filter fun n => (((as.map (·.arg)).zip vals).lookup n).isNone) = [] := by
  rw [List.filter_eq_nil_iff]
  intro p hp q
  have := zip_some (as.map (·.arg)) vals hl p hp
  cases z : ((as.map (·.arg)).zip vals).lookup p with
  | none => rw [z] at this; cases this
  | some v => rw [z] at q; cases q
 have hseq : seqItems? Value.none = pure none := rfl
 have hz := zip_lookup (as.map (·.arg)) vals hn hl
 unfold bindArgs
 rw [hp, hd, hseq]
 have hle : ¬ vals.length > (as.map (·.arg)).length := by lia
 simp only [List.map_nil, List.nil_append, List.forIn_nil, pure_bind, Option.getD_none, List.length_nil, Nat.zero_sub, List.drop_nil, Nat.sub_zero, List.zip_nil_right, List.append_nil, List.take_length]
 simp [hmiss, hz]
 intro q
 rw [List.length_map] at hl
 lia
set_option tactic.hygienic true in
theorem fn_of {C : Cx} {a : Addr} {f : FD} (X : C.K.In C.h) (h : FnAt C.K a f) : ∃ o fd, FnOk C a f o fd := by
 have h0 := h.body
 unfold bodyIs fdOf at h0
 obtain ⟨fd, e1, e2⟩ := obi h0
 obtain ⟨o, ho, e4⟩ := obi e1
 have hfd : fdOf C.K a = some fd := e1
 have hc := h.chk
 rw [hfd] at hc
 have h : fdChk C.K f fd = true := hc
 obtain ⟨b1, b2⟩ := Prod.mk.inj (Option.some.inj e2)
 split at e4
 ·rename_i fd' hd
  cases e4
  unfold fdChk at h
  simp only [Bool.and_eq_true, Bool.not_eq_true', beq_iff_eq, decide_eq_true_eq, List.isEmpty_iff, Option.isNone_iff_eq_none, List.all_eq_true, Bool.or_eq_true, bne_iff_ne, ne_eq] at h
  obtain ⟨⟨⟨⟨⟨⟨⟨⟨⟨⟨⟨⟨⟨⟨⟨⟨⟨h2, h3⟩, h4⟩, h5⟩, h6⟩, h7⟩, h8⟩, h9⟩, h10⟩, h11⟩, h12⟩, h13⟩, h14⟩, h16⟩, h17⟩, h18⟩, h19⟩, h20⟩ := h
  refine ⟨o, fd, ⟨X _ _ ho, hd, b1, h2, h3, h4, h5, h6, h7, codeChk_of X h8, ?_, h16, b2, h17, h18, ?_, ?_⟩⟩
  ·intro vals hl
   rw [<- h10] at hl h16 ⊢
   refine bind_plain (as := fd.params.args) (d := fd.params.defaults) (kd := fd.params.kw_defaults) ?_ h14 h16 vals hl
   generalize fd.params = pp at h9 h11 h12 h13
   obtain ⟨a1, a2, a3, a4, a5, a6, a7⟩ := pp
   dsimp only at h9 h11 h12 h13
   subst h9 h11 h12 h13; rfl
  ·intro i p hp
   exact h19 (p, i) (by rw [List.mem_zipIdx_iff_getElem?]; simpa using hp)
  ·intro y z j hy hz
   have m1 := mem_of_lookup hy
   have m2 := mem_of_lookup hz
   obtain ⟨a, la, ea⟩ := List.getElem_of_mem m1
   obtain ⟨b, lb, eb⟩ := List.getElem_of_mem m2
   have : (f.fi.tbl.map (·.2))[a]'(by simpa using la) = (f.fi.tbl.map (·.2))[b]'(by simpa using lb) := by
    rw [List.getElem_map, List.getElem_map, ea, eb]
   have hab : a = b := (List.getElem_inj h20).mp this
   subst hab
   rw [ea] at eb
   exact (Prod.mk.inj eb).1
 ·cases e4
noncomputable def topOf (K : Frag) : Array DictEntry := match K.lookup mainGlobals with
 | some o => (match o.data with
  | .dict es _ => es
  | _ => #[])
 | none => #[]
noncomputable def isTop (K : Frag) : Bool := match K.lookup mainGlobals with
 | some o => (match o.data with
  | .dict _ _ => true
  | _ => false)
 | none => false
set_option tactic.hygienic true in
theorem top_of {K : Frag} {h : Heap} {mg : Str -> Option Value} (X : K.In h) (g : h.Ns mainGlobals mg) (e : isTop K = true) (x : Str) : mg x = nsFind (topOf K) x := by
 obtain ⟨o, es, ep, h1, h2, h3, h4⟩ := g
 unfold isTop at e
 split at e
 ·rename_i o' ho
  split at e
  ·rename_i es' ep' hd
   have h1' := X _ _ ho
   rw [h1] at h1'
   cases h1'
   rw [hd] at h2
   cases h2
   unfold topOf
   rw [ho]
   dsimp only
   rw [hd]
   exact (h4 x).symm
  ·cases e
 ·cases e
set_option tactic.hygienic true in
theorem mem_fd {a : Addr} {f : FD} : ∀ {l : List (Addr × FD)}, l.lookup a = some f -> (a, f) ∈ l
 | [], e => nomatch e
 | (b, g) :: l, e => by
  rw [List.lookup_cons] at e
  split at e
  ·rename_i q; cases e; rw [beq_iff_eq.mp q]; exact List.mem_cons_self
  ·exact List.mem_cons_of_mem _ (mem_fd e)
inductive FdAll (K : Frag) : List (Addr × FD) -> Prop where
 | nil : FdAll K []
 | cons {a : Addr} {f : FD} {l : List (Addr × FD)} (h1 : bodyIs K a = some (.stmts f.st, f.fi.names)) (h2 : (Option.casesOn (fdOf K a) false fun fd => fdChk K f fd : Bool) = true) (r : FdAll K l) : FdAll K ((a, f) :: l)
theorem FdAll.at {K : Frag} {l : List (Addr × FD)} (h : FdAll K l) {a : Addr} {f : FD} (q : (a, f) ∈ l) : FnAt K a f := by
 induction h with
 | nil => cases q
 | cons h1 h2 r ih =>
  rcases List.mem_cons.mp q with e | q
  ·cases e; exact ⟨h1, h2⟩
  ·exact ih q
structure GChk (G : Gl) (K : Frag) : Prop where
 top : isTop K = true
 fn : (G.fn.all fun x => nsFind (topOf K) x.1 == some (.ref x.2) && keepIn K (.ref x.2)) = true
 bn : (G.bn.all fun x => nsFind (topOf K) x == none && x != "__name__") = true
 isi : (([.none, .bool, .int, .str, .tup, .list] : List Kd).all fun k => G.ty.all fun t => kitOne K k.v (.type t.n) == some (isiK k t)) = true
 fd : FdAll K G.fd
 cl : (G.cl.all fun x => nsFind (topOf K) x.1 == some (.ref x.2.1.c) && keepIn K (.ref x.2.1.c) && clsChk K x.2.1.c x.2.2 (x.2.1.vn ++ x.2.1.ln) && decide ((x.2.1.vn ++ x.2.1.ln).Nodup) && Nat.ble (x.2.1.vn ++ x.2.1.ln).length 100 &&
  (([.none, .bool, .int, .str, .tup, .list] : List Kd).all fun k => kitOne K k.v (.ref x.2.1.c) == some false) && kitOne K (.ref x.2.1.c) (.ref x.2.1.c) == some true) = true
 me : (G.me.all fun x => PySem.W.findIn K (.ref x.1) x.2.1 == some (some (.ref x.2.2)) && PySem.W.typeIn K (.ref x.2.2) == some (.type "function") && keepIn K (.ref x.2.2)) = true
theorem GChk.ok {G : Gl} {C : Cx} (c : GChk G C.K) (X : C.K.In C.h) (g : C.h.Ns mainGlobals C.mg) (b : C.h.Ns builtinsNs C.mb) (bi : ∀ x : Str, x ≠ "__name__" -> C.mb x = bootBuiltins x) (nl : C.h.NoLimit) (hmo : G.mo C) (hw : C.w = G.w) : GOk G C where
 X := X
 g := g
 b := b
 bi := bi
 nolimit := nl
 isi := fun k t ht => beq_iff_eq.mp (List.all_eq_true.mp (List.all_eq_true.mp c.isi k (by cases k <;> decide)) t ht)
 bn := fun x hx => by
  have := List.all_eq_true.mp c.bn x hx
  rw [Bool.and_eq_true, beq_iff_eq, bne_iff_ne] at this
  rw [top_of X g c.top]; exact this
 fn := fun x a hx => by
  have := List.all_eq_true.mp c.fn _ (mem_of_lookup hx)
  rw [Bool.and_eq_true, beq_iff_eq] at this
  rw [top_of X g c.top]; exact this
 fd := fun a f hf => fn_of X (c.fd.at (mem_fd hf))
 mo := hmo
 w := hw
 cl := fun x t a hx => by
  have := List.all_eq_true.mp c.cl _ (mem_of_lookup hx)
  simp only [Bool.and_eq_true, beq_iff_eq, decide_eq_true_eq, List.all_eq_true] at this
  obtain ⟨⟨⟨⟨⟨⟨h1, h2⟩, h3⟩, h4⟩, h5⟩, h6⟩, h7⟩ := this
  exact ⟨by rw [top_of X g c.top]; exact h1, h2, h3, h4, Nat.le_of_ble_eq_true h5, fun k => h6 k (by cases k <;> decide), h7⟩
 me := fun k x a hx => by
  have := List.all_eq_true.mp c.me _ hx
  simp only [Bool.and_eq_true, beq_iff_eq] at this
  exact ⟨this.1.1, this.1.2, this.2⟩
end Mine
end
section
namespace Mine
section
variable {G : Gl} {d : Nat} {fi : FI}
noncomputable def res (r : Option (Fl × St)) : Option O := r.bind fun p => Fl.casesOn p.1 none fun o => List.casesOn p.2.tp (some o) fun J J => none
theorem res_of {r : Option (Fl × St)} {o : O} (e : res r = some o) : ∃ ρ ob, r = some (.ret o, ⟨ρ, [], ob⟩) := by
 obtain ⟨⟨f, ρ, tp, ob⟩, e1, e⟩ := obi e
 cases f with
 | next => cases e
 | ret o' =>
  cases tp with
  | nil => cases e; exact ⟨ρ, ob, e1⟩
  | cons => cases e
theorem call_go {a : Addr} {f : FD} {args : List V} {o : O} {n : Nat} {tp : List Tk} {P : Prop} (B : SL G d f.fi) (hf : G.fd.lookup a = some f) (hB : B.xs = f.st) (hn : args.length = f.ps.length)
  (e : res (B.ex ⟨loc0 args n, tp, []⟩) = some o) (ob : All (obs (B.ex ⟨loc0 args n, tp, []⟩)) = P) (p : P) : CallOK G (d + 1) a args o := by
 obtain ⟨ρ, o', h⟩ := res_of e
 subst ob
 have q : All o' := by rw [h] at p; exact p
 exact call_of hf hn (hB ▸ (B.eo _ _ _ h q).2) (.inl rfl)
section
variable {c : T G d fi} {b : SL G d fi} {ρ ρ' ρ'' : Loc} {fl : Fl} {tp : List Tk} {P : Prop}
theorem whil_go (f : Bool) (e : out (turn c b f ⟨ρ, tp, []⟩) = some (some .next, ρ', [])) (o : All (obs (turn c b f ⟨ρ, tp, []⟩)) = P) (p : P) (h : WhilOK G d fi c.x b.xs ρ' fl ρ'') : WhilOK G d fi c.x b.xs ρ fl ρ'' :=
 (turn_ok c b f).run e o p fl ρ'' h
theorem whil_end (f : Bool) (e : out (turn c b f ⟨ρ, tp, []⟩) = some (none, ρ', [])) (o : All (obs (turn c b f ⟨ρ, tp, []⟩)) = P) (p : P) : WhilOK G d fi c.x b.xs ρ .next ρ' :=
 (turn_ok c b f).run e o p .next ρ' ⟨rfl, rfl⟩
theorem for_go {x : Str} {p' : Pos} {i : Nat} {v : V} {l : List V} (hx : fi.isOwn x i = true) (e : out (b.ex ⟨ρ.set i (some (.val v)), tp, []⟩) = some (.next, ρ', [])) (o : All (obs (b.ex ⟨ρ.set i (some (.val v)), tp, []⟩)) = P) (p : P)
  (h : ForOK G d fi (.Name x p') b.xs l ρ' fl ρ'') : ForOK G d fi (.Name x p') b.xs (v :: l) ρ fl ρ'' :=
 (for_ok hx b v l).run (ρ := ρ) e o p fl ρ'' h
theorem comp_nil {elt : Expr} {i : Nat} : CompL G d fi elt i ρ [] [] := rfl
theorem comp_go {elt : T G d fi} {i : Nat} {v : V} {l vs : List V} {o : O} (e : out (elt.ev ⟨ρ.set i (some (.val v)), tp, []⟩) = some (o, ρ.set i (some (.val v)), [])) (ob : All (obs (elt.ev ⟨ρ.set i (some (.val v)), tp, []⟩)) = P) (p : P)
  (h : CompL G d fi elt.x i ρ l vs) : CompL G d fi elt.x i ρ (v :: l) (o.frz :: vs) := .inl ⟨_, _, rfl, rfl, (elt.eo.run e ob p).v, h⟩
def WhP (c : T G d fi) (b : SL G d fi) (ρ : Loc) (Φ : Fl -> Loc -> Prop) : Prop := ∃ fl ρ', WhilOK G d fi c.x b.xs ρ fl ρ' /\ Φ fl ρ'
theorem whp_go {Φ : Fl -> Loc -> Prop} (f : Bool) (e : out (turn c b f ⟨ρ, tp, []⟩) = some (some .next, ρ', [])) (o : All (obs (turn c b f ⟨ρ, tp, []⟩)) = P) (p : P) (h : WhP c b ρ' Φ) : WhP c b ρ Φ := by
 obtain ⟨fl, ρ2, h1, h2⟩ := h
 exact ⟨fl, ρ2, whil_go f e o p h1, h2⟩
theorem whp_end {Φ : Fl -> Loc -> Prop} (f : Bool) (e : out (turn c b f ⟨ρ, tp, []⟩) = some (none, ρ', [])) (o : All (obs (turn c b f ⟨ρ, tp, []⟩)) = P) (p : P) (h : Φ .next ρ') : WhP c b ρ Φ := ⟨_, _, whil_end f e o p, h⟩
end
end
end Mine
end
section
namespace Mine
noncomputable def dpt (v : V) : Nat := @V.rec (fun J => Nat) (fun J => Nat) 0 (fun J => 0) (fun J => 0) (fun J => 0) (fun J n => n + 1) (fun J n => n + 1) (fun J J n => 2000 + n) (fun J J J n => 2000 + n) (fun J => 2000) 0 (fun J J a b => max a b) v
noncomputable def dpts (l : List V) : Nat := @V.rec_1 (fun J => Nat) (fun J => Nat) 0 (fun J => 0) (fun J => 0) (fun J => 0) (fun J n => n + 1) (fun J n => n + 1) (fun J J n => 2000 + n) (fun J J J n => 2000 + n) (fun J => 2000) 0 (fun J J a b => max a b) l
theorem dat_of (v : V) : ∃ x : PyData, dpt v <= 1900 -> ∀ (W : WS) (h : Heap) (v' : Value), VR W h v v' -> (∃ as, Reads h v' x as) /\ x.canLay0 = true /\ x.depth <= dpt v :=
 V.rec (motive_1 := fun v => ∃ x : PyData, dpt v <= 1900 -> ∀ (W : WS) (h : Heap) (v' : Value), VR W h v v' -> (∃ as, Reads h v' x as) /\ x.canLay0 = true /\ x.depth <= dpt v)
  (motive_2 := fun l => ∃ xs : List PyData, dpts l <= 1900 -> ∀ (W : WS) (h : Heap) (l' : List Value), VRs W h l l' -> (∃ as, ReadsAll h l' xs as) /\ PyData.canLayAll0 xs = true /\ PyData.depthAll xs <= dpts l)
  ⟨.none, fun J W h v' r => by cases r; exact ⟨⟨_, .none⟩, rfl, Nat.zero_le _⟩⟩
  (fun b => ⟨.bool b, fun J W h v' r => by cases r; exact ⟨⟨_, .bool _⟩, rfl, Nat.zero_le _⟩⟩)
  (fun i => ⟨.int i, fun J W h v' r => by obtain ⟨t, rfl⟩ := r; exact ⟨⟨_, .int _ _⟩, rfl, Nat.zero_le _⟩⟩)
  (fun z => ⟨.str ⟨z.toArray⟩, fun J W h v' r => by obtain ⟨t, rfl, ok, _⟩ := r; exact ⟨⟨_, .str _ _⟩, by simpa [PyData.canLay0] using ok, Nat.zero_le _⟩⟩)
  (fun l ih => by
   obtain ⟨xs, ih⟩ := ih
   refine ⟨.tuple xs, fun hd W h v' r => ?_⟩
   have hd : dpts l + 1 <= 1900 := hd
   obtain ⟨a, vs, n, rfl, _, h1, _, h3⟩ := VR.tup r
   obtain ⟨⟨as, A⟩, B, C⟩ := ih (by lia) W h _ h3
   refine ⟨⟨as, .tuple h1 rfl rfl A⟩, by simpa [PyData.canLay0] using B, ?_⟩
   show PyData.depthAll xs + 1 <= dpts l + 1
   exact Nat.succ_le_succ C)
  (fun l ih => by
   obtain ⟨xs, ih⟩ := ih
   refine ⟨.list xs, fun hd W h v' r => ?_⟩
   have hd : dpts l + 1 <= 1900 := hd
   obtain ⟨a, vs, n, rfl, _, h1, _, h3⟩ := VR.lst r
   obtain ⟨⟨as, A⟩, B, C⟩ := ih (by lia) W h _ h3
   refine ⟨⟨_, .list h1 rfl rfl A⟩, by simpa [PyData.canLay0] using B, ?_⟩
   show PyData.depthAll xs + 1 <= dpts l + 1
   exact Nat.succ_le_succ C)
  (fun t l J => ⟨.none, fun hd => absurd (show 2000 + dpts l <= 1900 from hd) (by lia)⟩)
  (fun w k l J => ⟨.none, fun hd => absurd (show 2000 + dpts l <= 1900 from hd) (by lia)⟩)
  (fun c => ⟨.none, fun hd => absurd (show 2000 <= 1900 from hd) (by decide)⟩)
  ⟨[], fun J W h l' r => by cases r; exact ⟨⟨_, .nil⟩, rfl, Nat.zero_le _⟩⟩
  (fun v l iv il => by
   obtain ⟨x, iv⟩ := iv
   obtain ⟨xs, il⟩ := il
   refine ⟨x :: xs, fun hd W h l' r => ?_⟩
   have hd : max (dpt v) (dpts l) <= 1900 := hd
   obtain ⟨v', r', rfl, rv, rl⟩ := VRs.inv r
   obtain ⟨⟨as, A⟩, B, C⟩ := iv (by lia) W h _ rv
   obtain ⟨⟨bs, A'⟩, B', C'⟩ := il (by lia) W h _ rl
   refine ⟨⟨_, .cons A A'⟩, ?_, ?_⟩
   ·show (x.canLay0 && PyData.canLayAll0 xs) = true
    rw [B, B']; rfl
   ·show max x.depth (PyData.depthAll xs) <= max (dpt v) (dpts l)
    lia) v
section
variable {G : Gl} {d : Nat} {fi : FI}
noncomputable def kSame (b : Bool) (x : V) (y : O) : Option (Bool × List Prop) := y.val?.bind fun y => some (b, [x = y /\ dpt x <= 1900])
theorem primSame : PrimC G d .Eq (kSame true) /\ PrimC G d .NotEq (kSame false) := by
 constructor
 all_goals
  intro x y t ps e q X E W φ s ρ S F x' y' rx ry Q k
  obtain ⟨v, e1, e⟩ := obi e
  cases e
  obtain ⟨rfl, hd⟩ := q.1
  rw [O.val_of e1] at ry
  obtain ⟨z, hz⟩ := dat_of x
  obtain ⟨⟨as, A⟩, B, C⟩ := hz hd W s.heap x' rx
  obtain ⟨⟨bs, A'⟩, _, _⟩ := hz hd W s.heap y' ry
  have hu : X.A.units + min z.depth z.depth < cLine := by have := S.u; unfold deep at this; lia
 ·exact SeqAt.compareEq_reads A A' B B hu (by rw [SeqAt.eqv_refl z B]; exact k s.toks (Nat.le_refl _))
 ·exact SeqAt.compareNe_reads A A' B B hu (by rw [SeqAt.eqv_refl z B]; exact k s.toks (Nat.le_refl _))
noncomputable def eEqS : T G d fi -> T G d fi -> Pos -> T G d fi := eCmp .Eq (kSame true) primSame.1
noncomputable def eLe : T G d fi -> T G d fi -> Pos -> T G d fi := eCmp .LtE (kOrd fun i j => decide (i <= j)) (primOrd fun J J J J J J J J J k => P.le_int k)
noncomputable def kAddT (x y : V) : Option (O × List Prop) := x.tup?.bind fun i => y.tup?.bind fun j => some (.val (.tup (i ++ j)), [(i ++ j).length <= room])
theorem primAddT : Prim2 G d (binaryOp .Add) kAddT := by
 intro x y o ps e q X E W φ s ρ S F x' y' rx ry Q k
 obtain ⟨i, e1, e⟩ := obi e
 obtain ⟨j, e2, e⟩ := obi e
 cases e
 rw [V.tup_of e1] at rx; rw [V.tup_of e2] at ry
 obtain ⟨a, vs, n, rfl, _, h1, z1, r1⟩ := VR.tup rx
 obtain ⟨b, ws, m, rfl, _, h2, z2, r2⟩ := VR.tup ry
 have hz := Nat.le_trans q.1 room_le
 by_cases c1 : vs.isEmpty = true
 ·refine concat_meets ⟨_, h1, rfl⟩ ⟨_, h2, rfl⟩ noFill_tuple_add seq_tuple_add PySem.F.slot_tuple_add PySem.F.entry_tuple_add (PySem.F.args_tuple_add_2 _ _) (PyProof.Rows.tuple_addW0 a b vs ws n m none none #[] #[] c1) ⟨h1, h2, ?_⟩
  have : i = [] := by
   have h0 := r1.size; rw [Array.isEmpty_iff] at c1; rw [c1] at h0
   exact List.length_eq_zero_iff.mp h0.symm
  subst this
  exact k.here (t := s.toks) F.f.wf ry
 ·by_cases c2 : ws.isEmpty = true
  ·refine concat_meets ⟨_, h1, rfl⟩ ⟨_, h2, rfl⟩ noFill_tuple_add seq_tuple_add PySem.F.slot_tuple_add PySem.F.entry_tuple_add (PySem.F.args_tuple_add_2 _ _) (PyProof.Rows.tuple_addW1 a b vs ws n m none none #[] #[] c1 c2) ⟨h1, h2, ?_⟩
   have : j = [] := by
    have h0 := r2.size; rw [Array.isEmpty_iff] at c2; rw [c2] at h0
    exact List.length_eq_zero_iff.mp h0.symm
   subst this
   rw [List.append_nil] at k
   exact k.here (t := s.toks) F.f.wf rx
  ·refine concat_meets ⟨_, h1, rfl⟩ ⟨_, h2, rfl⟩ noFill_tuple_add seq_tuple_add PySem.F.slot_tuple_add PySem.F.entry_tuple_add (PySem.F.args_tuple_add_2 _ _) (PyProof.Rows.tuple_addW2 a b vs ws n m none none #[] #[] c1 c2 (by rw [r1.size, r2.size, <- List.length_append]; exact hz)) ⟨h1, h2, ?_⟩
   exact k.tuple (t := s.toks) F.f.wf (by rw [Array.toList_append]; exact r1.append r2) hz
noncomputable def eAddT : T G d fi -> T G d fi -> Pos -> T G d fi := eBin .Add kAddT primAddT
end
end Mine
end
section
namespace Mine
open PyProof.Rows (StrsAre)
theorem texts_are {W : WS} {h : Heap} : ∀ {l : List V} {l' : List Value} {ss : List (List Nat)}, VRs W h l l' -> textsOf l = some ss -> StrsAre l' (ss.map fun z => (⟨z.toArray⟩ : Str))
 | [], _, _, r, e => by cases r; cases e; exact .nil
 | v :: l, _, _, r, e => by
  obtain ⟨v', r', rfl, rv, rl⟩ := VRs.inv r
  obtain ⟨z, e1, e⟩ := obi e
  obtain ⟨t, e2, e⟩ := obi e
  cases e
  rw [V.str_of e1] at rv
  obtain ⟨tk, rfl, ok, _⟩ := rv
  exact .cons _ tk (texts_are rl e2)
theorem strs_rev : ∀ {l : List Value} {ys : List Str}, StrsAre l ys -> StrsAre l.reverse ys.reverse := by
 have app : ∀ {l : List Value} {ys : List Str} {m : List Value} {zs : List Str}, StrsAre l ys -> StrsAre m zs -> StrsAre (l ++ m) (ys ++ zs) := by
  intro l ys m zs h k
  induction h with
  | nil => exact k
  | cons y t _ ih => exact .cons y t ih
 intro l ys h
 induction h with
 | nil => exact .nil
 | cons y t _ ih => rw [List.reverse_cons, List.reverse_cons]; exact app ih (.cons y t .nil)
theorem any_str (z : List Nat) : ∀ ss : List (List Nat), (ss.map fun z => (⟨z.toArray⟩ : Str)).any (· == ⟨z.toArray⟩) = ss.any (· == z)
 | [] => rfl
 | t :: ss => by
  rw [List.map_cons, List.any_cons, List.any_cons, any_str z ss]
  congr 1
  by_cases q : t = z
  ·subst q; simp
  ·have q' : (t == z) = false := by simpa using q
   rw [q', beq_eq_false_iff_ne]
   intro e; exact q (by simpa using e)
section
variable {G : Gl} {d : Nat} {fi : FI}
noncomputable def textsIn (y : O) : Option (List (List Nat)) := O.casesOn y (fun v => V.casesOn v none (fun J => none) (fun J => none) (fun J => none) textsOf textsOf (fun J J => none) (fun J J J => none) (fun J => none)) textsOf (fun J => none) (fun J J J => none) fun J J J => none
noncomputable def kInT (n : Bool) (x : V) (y : O) : Option (Bool × List Prop) := x.str?.bind fun z => (textsIn y).bind fun ss => some (Bool.casesOn n (ss.any (· == z)) (!ss.any (· == z)), [])
theorem primInT : PrimC G d .In (kInT false) /\ PrimC G d .NotIn (kInT true) := by
 constructor
 all_goals
  intro x y t ps e q X E W φ s ρ S F x' y' rx ry Q k
  obtain ⟨z, e1, e⟩ := obi e
  obtain ⟨ss, e2, e⟩ := obi e
  cases e
  rw [V.str_of e1] at rx
  obtain ⟨tk, rfl, ok, _⟩ := rx
  have k := k s.toks (Nat.le_refl _)
  have ea := any_str z ss
  cases y with
  | own r =>
   obtain ⟨a, rfl, vs, n, h1, h2, h3⟩ := ry
   have hs := strs_rev (texts_are (l := r.reverse.reverse) (l' := vs.toList.reverse) (ss := ss) (by
    rw [List.reverse_reverse]
    have : ∀ {l : List V} {l' : List Value}, VRs W s.heap l l' -> VRs W s.heap l.reverse l'.reverse := by
     intro l
     induction l with
     | nil => intro l' r; cases r; exact rfl
     | cons v l ih => intro l' r; obtain ⟨v', r', rfl, rv, rl⟩ := VRs.inv r; rw [List.reverse_cons, List.reverse_cons]; exact (ih rl).snoc rv
    have := this h2
    rwa [List.reverse_reverse] at this) (by rw [List.reverse_reverse]; exact e2))
   rw [List.reverse_reverse] at hs
   have er : (ss.map fun z => (⟨z.toArray⟩ : Str)).reverse.any (· == ⟨z.toArray⟩) = ss.any (· == z) := by rw [List.any_reverse]; exact ea
   first
   | exact PyProof.Rows.in_list_strs (vs := vs.toList) ⟨_, h1, rfl, _, rfl⟩ hs (by rw [er]; exact k)
   | exact PyProof.Rows.notin_list_strs (vs := vs.toList) ⟨_, h1, rfl, _, rfl⟩ hs (by rw [er]; exact k)
  | own2 r => cases e2
  | obj _ _ _ => cases e2
  | dic _ _ _ => cases e2
  | val v =>
   cases v with
   | ins _ _ => cases e2
   | dic _ _ _ => cases e2
   | exc _ => cases e2
   | none => cases e2
   | bool => cases e2
   | int => cases e2
   | str => cases e2
   | tup l =>
    obtain ⟨a, vs, n, rfl, _, h1, h2, h3⟩ := VR.tup ry
    have hs := texts_are h3 e2
    first
    | exact PyProof.Rows.in_tuple_strs ⟨_, h1, rfl, _, rfl⟩ hs (by rw [ea]; exact k)
    | exact PyProof.Rows.notin_tuple_strs ⟨_, h1, rfl, _, rfl⟩ hs (by rw [ea]; exact k)
   | lst l =>
    obtain ⟨a, vs, n, rfl, _, h1, h2, h3⟩ := VR.lst ry
    have hs := texts_are h3 e2
    first
    | exact PyProof.Rows.in_list_strs (vs := vs.toList) ⟨_, h1, rfl, _, rfl⟩ hs (by rw [ea]; exact k)
    | exact PyProof.Rows.notin_list_strs (vs := vs.toList) ⟨_, h1, rfl, _, rfl⟩ hs (by rw [ea]; exact k)
noncomputable def evP (a b : T G d fi) (p : V -> O -> Bool -> Prop) (σ : St) : Option (Bool × St) := bd (a.ev σ) fun x σ => bd (b.pk σ) fun y σ => told Tk.b? (fun J t => p x.frz y t) id (fun _ ρ => ρ) σ
def PrimP (G : Gl) (d : Nat) (op : CmpOp) (p : V -> O -> Bool -> Prop) : Prop :=
 ∀ x y t, p x y t -> ∀ (X : FC) (E : Value -> Shared -> Prop) (W : WS) (φ : Nat -> List Addr) (s : Shared) (ρ : Loc), FS G d X -> At X W φ s ρ -> ∀ x' y', VR W s.heap x x' -> BR W s.heap y y' →
  ∀ Q : Value -> Shared -> Prop, (∀ tk, s.toks <= tk -> Q (.bool t) { s with toks := tk }) -> wpAny X.C.M X.A (compareOp op x' y') Q E s
theorem evP_ok {op : CmpOp} {p : V -> O -> Bool -> Prop} (h : PrimP G d op p) (a b : T G d fi) : Ok (evP a b p) (CmG G d fi op a.x b.x) :=
 a.eo.bd (R := fun u ρ t ρ' => ∃ v, PkG G d fi b.x ρ v ρ' /\ p u.frz v t) (fun u => b.po.bd (R := fun v ρ t ρ' => p u.frz v t /\ ρ = ρ') (fun v => Ok.told (f := Tk.b?) (p := fun J t => p u.frz v t) (r := id) (ρ := fun _ ρ => ρ) fun t ρ q => ⟨q, rfl⟩)
  fun J v J J J h q => by obtain ⟨q1, rfl⟩ := q; exact ⟨v, h, q1⟩) fun J u J t J h1 q => by
   obtain ⟨v, h2, q1⟩ := q
   exact fun X E W φ s e S F Q kk => h1.v X E W φ s e S F _ fun u' W₁ φ₁ s₁ p₁ r₁ => h2 X E W₁ φ₁ s₁ e S p₁.f _ fun v' W₂ φ₂ s₂ p₂ r₂ =>
    h _ _ _ q1 X E W₂ φ₂ s₂ _ S p₂.f _ _ (r₁.ag p₂.ag) r₂ _ fun tk htk => kk _ _ _ ⟨p₂.f.toks tk htk, p₁.ag.trans p₂.ag, (p₁.trans p₂).vl⟩
noncomputable def eCmpP (op : CmpOp) (p : V -> O -> Bool -> Prop) (h : PrimP G d op p) (a b : T G d fi) (q : Pos) : T G d fi := .cmp op a.x b.x q b.pl (evP a b p) (evP_ok h a b)
def InP (n : Bool) (x : V) (y : O) (t : Bool) : Prop := kInT n x y = some (t, [])
theorem primP {op : CmpOp} {k : V -> O -> Option (Bool × List Prop)} (h : PrimC G d op k) : PrimP G d op (fun x y t => k x y = some (t, [])) := fun x y t e X E W φ s ρ S F x' y' rx ry Q kk => h x y t [] e trivial X E W φ s ρ S F x' y' rx ry Q kk
noncomputable def eInP : T G d fi -> T G d fi -> Pos -> T G d fi := eCmpP .In (InP false) (primP primInT.1)
noncomputable def eNotInP : T G d fi -> T G d fi -> Pos -> T G d fi := eCmpP .NotIn (InP true) (primP primInT.2)
noncomputable def sExt (x : Str) (i : Nat) (a : T G d fi) (xp ap cp p : Pos) (h : (fi.isVar x i && (ap.endLine == cp.line)) = true) : SS G d fi :=
 ⟨.Expr (.Call (.Attribute (.Name x xp) "extend" ap) [a.x] [] cp) p, fun σ => (ownAt σ.ρ i).bind fun J => bd (a.ev σ) fun y σ => y.frz.lst?.bind fun l => (ownAt σ.ρ i).bind fun r => some (.next, ⟨σ.ρ.set i (some (.own (l.reverse ++ r))), σ.tp, (l.length + r.length < room) :: σ.ob⟩), by
  intro σ f σ' e q
  obtain ⟨o0, e0, e⟩ := obi e
  obtain ⟨⟨y, σ₁⟩, e1, e⟩ := obi e
  obtain ⟨l, e3, e⟩ := obi e
  obtain ⟨r, e2, e⟩ := obi e
  rw [Bool.and_eq_true] at h
  cases e
  obtain ⟨q2, hk⟩ := a.eo σ y σ₁ e1 q.2
  refine ⟨q2, fun X E W φ s ef c S F Q k => wpAny_Expr_any (method_call rfl (fun z q => by cases List.mem_singleton.mp q; exact a.pl) h.2 rfl fun pl => load_ok S F (ef ▸ h.1) (ownAt_some e0) fun x' hx hn hv rr => ?_) (by unfold interactive; rw [S.fn]; rfl) rfl⟩
  obtain ⟨a0, _, rfl, vs0, n0, z0, _⟩ := rr
  refine getMethod_builtin (T := "list") ⟨_, z0, rfl⟩ PySem.F.plainAttrs_list PySem.F.slot_list_extend PySem.F.type_list_extend (fun a q => by cases q; exact ⟨_, z0, rfl⟩) ?_
  refine callW (K := X.C.K) (fun h J => keeper_builtin _ h _) (PySem.Calls.spliced_cons (hk.v X E W φ s ef S F _ fun y' W' φ' s' p' r' => PySem.Calls.spliced_nil ⟨p'.f.In S, ?_⟩))
  obtain ⟨ad, hp, ea, vs, n, h1, h2, h3⟩ := still p'.f hx hn (p'.vl _ _ hv) (ownAt_some e2)
  cases ea
  have hs := h2.size
  rw [List.length_reverse] at hs
  rw [V.lst_of e3] at r'
  obtain ⟨b, ws, m, rfl, _, g1, g2, g3⟩ := VR.lst r'
  have hs2 := g3.size
  have q1 : l.length + r.length < room := q.1
  have := room_le
  have hz : vs.size + ws.size <= sizeLine := by lia
  refine call_meets PySem.F.slot_list_extend ⟨_, h1, rfl⟩ PySem.F.entry_list_extend (PySem.F.args_list_extend_2 _ _) (AutoSeq1.list_extend_list_list_0 a0 vs n b ws m (PyProof.Rows.extend_door hz) (by lia)) ⟨h1, g1, ?_⟩
  obtain ⟨A, B⟩ := p'.f.turn (x := x) (i := i) (t := s'.toks) (r := l.reverse ++ r) (h' := s'.heap.update a0 (Obj.mapSeq (· ++ ws))) (fun z hz => S.ti z x i hz hx) hp (Heap.SameBut.update ..) (p'.vl _ _ hv) (Heap.get?_update_self _ h1 rfl)
   (by rw [Array.toList_append, List.reverse_append, List.reverse_reverse]; exact h2.append g3) (by rw [List.length_append, List.length_reverse]; lia)
  exact k _ _ _ _ A (p'.ag.trans B) rfl⟩
end
end Mine
end
section
namespace Mine
def Wh (h : Heap) : WS := fun a => ∃ o, h.get? a = some o
def GVal (C : Cx) (x : Str) (v : V) : Prop := ∃ v', C.mg x = some v' /\ VR (Wh C.h) C.h v v'
def GDic (C : Cx) (x : Str) (kvs : List (List Nat × Int)) : Prop := ∃ a kws, C.mg x = some (.ref a) /\ C.h.DictOf (strKind C.prog C.w) a kws /\ ∀ z i, kvs.lookup z = some i -> ∃ t, valueAt kws ⟨z.toArray⟩ = some (.int i t)
section
variable {G : Gl} {d : Nat} {fi : FI}
theorem Wh.ag {X : FC} {W : WS} {φ : Nat -> List Addr} {s : Shared} {ρ : Loc} (S : FS G d X) (F : At X W φ s ρ) : Ag (Wh X.C.h) X.C.h (Wh X.C.h) s.heap := ⟨fun J q => q, fun a ⟨o, q⟩ => (F.keep S a o q).trans q.symm⟩
noncomputable def lStuck (xs : List Stmt) : SL G d fi := ⟨xs, fun J => none, .none fun J => rfl⟩
theorem for_ret {x : Str} {p' : Pos} {i : Nat} {v : V} {l : List V} {b : SL G d fi} {ρ ρ' : Loc} {tp : List Tk} {P : Prop} {o' : O} (hx : fi.isOwn x i = true) (e : out (b.ex ⟨ρ.set i (some (.val v)), tp, []⟩) = some (.ret o', ρ', [])) (o : All (obs (b.ex ⟨ρ.set i (some (.val v)), tp, []⟩)) = P) (p : P) :
  ForOK G d fi (.Name x p') b.xs (v :: l) ρ (.ret o') ρ' := (for_ok hx b v l).run (ρ := ρ) e o p (.ret o') ρ' ⟨rfl, rfl⟩
noncomputable def eGlobI (x : Str) (i : Int) (p : Pos) (h : fi.isGlob x = true) (hv : ∀ C, G.mo C -> GVal C x (.int i)) : T G d fi :=
 .mk' (.Name x p) (pu (.val (.int i))) rfl (.pu fun ρ X E W φ s e S F Q k => by
  obtain ⟨v', e1, t, rfl⟩ := hv X.C S.g.mo
  exact glob_ok S F (e ▸ h) e1 (k _ _ _ _ (.refl F) (.val ⟨t, rfl⟩))) fun J => rfl
noncomputable def eGlobS (x : Str) (z : List Nat) (p : Pos) (h : fi.isGlob x = true) (hv : ∀ C, G.mo C -> GVal C x (.str z)) : T G d fi :=
 .mk' (.Name x p) (pu (.val (.str z))) rfl (.pu fun ρ X E W φ s e S F Q k => by
  obtain ⟨v', e1, t, rfl, ok⟩ := hv X.C S.g.mo
  exact glob_ok S F (e ▸ h) e1 (k _ _ _ _ (.refl F) (.val ⟨t, rfl, ok⟩))) fun J => rfl
noncomputable def evIn (n : Bool) (ss : List (List Nat)) (a : T G d fi) (σ : St) : Option (Bool × St) := bd (a.ev σ) fun u σ => u.frz.str?.bind fun z => told Tk.b? (fun J t => t = Bool.casesOn n (ss.any (· == z)) (!ss.any (· == z))) id (fun _ ρ => ρ) σ
theorem evIn_ok (n : Bool) (a : T G d fi) (x : Str) (l : List V) (ss : List (List Nat)) (xp : Pos) (h : fi.isGlob x = true) (hl : textsOf l = some ss) (hv : ∀ C, G.mo C -> GVal C x (.tup l)) :
  Ok (evIn n ss a) (CmG G d fi (Bool.casesOn n .In .NotIn) a.x (.Name x xp)) :=
 a.eo.bd (R := fun u ρ t ρ' => ∃ z, u.frz = .str z /\ t = Bool.casesOn n (ss.any (· == z)) (!ss.any (· == z)) /\ ρ = ρ') (fun u σ t σ' e q => by
  obtain ⟨z, e1, e⟩ := obi e
  obtain ⟨q1, q2, q3⟩ := Ok.told (f := Tk.b?) (p := fun J t => t = Bool.casesOn n (ss.any (· == z)) (!ss.any (· == z))) (r := id) (ρ := fun _ ρ => ρ) (S := fun ρ t ρ' => t = Bool.casesOn n (ss.any (· == z)) (!ss.any (· == z)) /\ ρ = ρ') (fun t ρ q => ⟨q, rfl⟩) σ t σ' e q
  exact ⟨q1, z, V.str_of e1, q2, q3⟩) fun _ u _ t _ h1 q X E W φ s e S F Q kk => by
  obtain ⟨z, e1, rfl, rfl⟩ := q
  obtain ⟨v', m1, r⟩ := hv X.C S.g.mo
  refine h1.v X E W φ s e S F _ fun u' W₁ φ₁ s₁ p₁ r₁ => glob_ok S p₁.f (e ▸ h) m1 ?_
  rw [e1] at r₁
  obtain ⟨tk, rfl, ok, _⟩ := r₁
  obtain ⟨a, vs, m, rfl, _, h1, h2, h3⟩ := VR.tup (VR.ag (Wh.ag S p₁.f) r)
  have hs := texts_are h3 hl
  have ea := any_str z ss
  have kk := kk _ _ _ p₁
  cases n with
  | false => exact PyProof.Rows.in_tuple_strs ⟨_, h1, rfl, _, rfl⟩ hs (by rw [ea]; exact kk)
  | true => exact PyProof.Rows.notin_tuple_strs ⟨_, h1, rfl, _, rfl⟩ hs (by rw [ea]; exact kk)
noncomputable def eInG (n : Bool) (a : T G d fi) (x : Str) (l : List V) (ss : List (List Nat)) (xp p : Pos) (h : fi.isGlob x = true) (hl : textsOf l = some ss) (hv : ∀ C, G.mo C -> GVal C x (.tup l)) : T G d fi :=
 .cmp (Bool.casesOn n .In .NotIn) a.x (.Name x xp) p rfl (evIn n ss a) (evIn_ok n a x l ss xp h hl hv)
noncomputable def eDicG (x : Str) (kvs : List (List Nat × Int)) (k : T G d fi) (xp p : Pos) (h : fi.isGlob x = true) (hv : ∀ C, G.mo C -> GDic C x kvs) : T G d fi :=
 .mk' (.Subscript (.Name x xp) k.x p) (fun σ => bd (k.ev σ) fun y σ => y.frz.str?.bind fun z => (kvs.lookup z).bind fun i => pu (.val (.int i)) σ) rfl
  (k.eo.bd (R := fun y ρ o ρ' => ∃ z i, y.frz = .str z /\ kvs.lookup z = some i /\ o = .val (.int i) /\ ρ = ρ') (fun y σ o σ' e q => by
   obtain ⟨z, e1, e⟩ := obi e
   obtain ⟨i, e2, e⟩ := obi e
   cases e; exact ⟨q, z, i, V.str_of e1, e2, rfl, rfl⟩) fun _ y _ _ _ hk q X E W φ s e S F Q kk => by
   obtain ⟨z, i, e1, e2, rfl, rfl⟩ := q
   obtain ⟨a, kws, m1, hd, hz⟩ := hv X.C S.g.mo
   obtain ⟨t, ht⟩ := hz z i e2
   refine PyProof.Rows.Subscript_ (glob_ok S F (e ▸ h) m1 (hk.v X E W φ s e S F _ fun y' W₂ φ₂ s₂ p₂ r₂ => ?_))
   rw [e1] at r₂
   obtain ⟨u, rfl, _⟩ := r₂
   have hd2 := hd.keep (p₂.f.keep S)
   exact PyProof.Rows.tail_any (T := "dict") hd2.typeIs PySem.F.slot_dict_getitem.lookup (wpAny_getItem_of (knd := strKind X.C.prog X.C.w) (k := ⟨z.toArray⟩) (by simp [strKind, Value.isStrOf]) hd2.mapOf ht
    (kk _ _ _ _ ⟨p₂.f.toks (s₂.toks + 1) (Nat.le_succ _), p₂.ag, p₂.vl⟩ (.val ⟨t, rfl⟩))) (slice_plain k.pl _ _)) fun J => rfl
noncomputable def evCh (f g : Int -> Int -> Bool) (a b c : T G d fi) (σ : St) : Option (Bool × St) :=
 bd (a.ev σ) fun x σ => bd (b.ev σ) fun y σ => x.frz.int?.bind fun i => y.frz.int?.bind fun j => bd (dec true (f i j) σ) fun t σ => Bool.casesOn t (pu false σ) (bd (c.ev σ) fun z σ => z.frz.int?.bind fun k => pu (g j k) σ)
def ChS (G : Gl) (d : Nat) (fi : FI) (f g : Int -> Int -> Bool) (a b c : Expr) (ρ : Loc) (t : Bool) (ρ' : Loc) : Prop := ∃ x i ρ₁ y j ρ₂, EvG G d fi a ρ x ρ₁ /\ x.frz = .int i /\ EvG G d fi b ρ₁ y ρ₂ /\ y.frz = .int j ∧
 ((f i j = false /\ t = false /\ ρ' = ρ₂) \/ (f i j = true /\ ∃ z k, EvG G d fi c ρ₂ z ρ' /\ z.frz = .int k /\ t = g j k))
theorem evCh_ok (f g : Int -> Int -> Bool) (a b c : T G d fi) : Ok (evCh f g a b c) (ChS G d fi f g a.x b.x c.x) := by
 intro σ t σ' e q
 obtain ⟨⟨x, σ₁⟩, e1, e⟩ := obi e
 obtain ⟨⟨y, σ₂⟩, e2, e⟩ := obi e
 obtain ⟨i, e3, e⟩ := obi e
 obtain ⟨j, e4, e⟩ := obi e
 obtain ⟨⟨t', σ₃⟩, e5, e⟩ := obi e
 cases t' with
 | false =>
  cases e
  obtain ⟨q3, z1, z2⟩ := Ok.dec true (f i j) _ _ _ e5 q
  obtain ⟨q2, h2⟩ := b.eo _ _ _ e2 q3
  obtain ⟨q1, h1⟩ := a.eo _ _ _ e1 q2
  exact ⟨q1, x, i, _, y, j, _, h1, V.int_of e3, h2, V.int_of e4, .inl ⟨z1.symm, rfl, z2.symm⟩⟩
 | true =>
  obtain ⟨⟨z, σ₄⟩, e6, e⟩ := obi e
  obtain ⟨k, e7, e⟩ := obi e
  cases e
  obtain ⟨q4, h3⟩ := c.eo _ _ _ e6 q
  obtain ⟨q3, z1, z2⟩ := Ok.dec true (f i j) _ _ _ e5 q4
  obtain ⟨q2, h2⟩ := b.eo _ _ _ e2 q3
  obtain ⟨q1, h1⟩ := a.eo _ _ _ e1 q2
  exact ⟨q1, x, i, _, y, j, _, h1, V.int_of e3, h2, V.int_of e4, .inr ⟨z1.symm, z, k, z2 ▸ h3, V.int_of e7, rfl⟩⟩
abbrev OrdOp (op : CmpOp) (f : Int -> Int -> Bool) : Prop := ∀ (C : Cx) (A : Around) (E : Value -> Shared -> Prop) (s : Shared) (i j : Int) (t u : Tok) (Q : Value -> Shared -> Prop), Q (.bool (f i j)) s -> wpAny C.M A (compareOp op (.int i t) (.int j u)) Q E s
noncomputable def eChn (op op' : CmpOp) (f g : Int -> Int -> Bool) (hf : OrdOp op f) (hg : OrdOp op' g) (a b c : T G d fi) (p : Pos) (hm : lastMarks [op, op'] [b.x, c.x] = false) : T G d fi :=
 have ev : Ok (fun σ => bd (evCh f g a b c σ) fun t σ => pu (O.val (.bool t)) σ) (EvG G d fi (.Compare a.x [op, op'] [b.x, c.x] p)) :=
  (evCh_ok f g a b c).bd (R := fun t ρ o ρ' => o = .val (.bool t) /\ ρ = ρ') (fun t => .pu fun J => ⟨rfl, rfl⟩) fun _ t _ _ _ h q X E W φ s e S F Q k => by
   obtain ⟨rfl, rfl⟩ := q
   obtain ⟨x, i, ρ₁, y, j, ρ₂, h1, e1, h2, e2, h3⟩ := h
   refine PyProof.Rows.Compare_chain (h1.v X E W φ s e S F _ fun x' W₁ φ₁ s₁ p₁ r₁ => PyProof.Rows.chain_link (h2.v X E W₁ φ₁ s₁ e S p₁.f _ fun y' W₂ φ₂ s₂ p₂ r₂ => ?_)) hm
   rw [e1] at r₁; rw [e2] at r₂
   obtain ⟨t1, rfl⟩ := r₁; obtain ⟨t2, rfl⟩ := r₂
   refine hf _ _ _ _ _ _ _ _ _ (wpAny_truthy_bool ?_)
   rcases h3 with ⟨h3, rfl, rfl⟩ | ⟨h3, z, k', h4, e3, rfl⟩
   ·rw [h3]; exact k _ _ _ _ (p₁.trans p₂) (.val rfl)
   ·rw [h3]
    refine PyProof.Rows.chain_last (h4.v X E W₂ φ₂ s₂ e S p₂.f _ fun z' W₃ φ₃ s₃ p₃ r₃ => ?_)
    rw [e3] at r₃
    obtain ⟨t3, rfl⟩ := r₃
    exact hg _ _ _ _ _ _ _ _ _ (k _ _ _ _ ((p₁.trans p₂).trans p₃) (.val rfl))
 ⟨.Compare a.x [op, op'] [b.x, c.x] p, _, _, evCh f g a b c, rfl, ev, ev.mono fun J J J h => h.pk, (evCh_ok f g a b c).mono fun ρ t ρ' h X E W φ s e S F Q k => by
   obtain ⟨x, i, ρ₁, y, j, ρ₂, h1, e1, h2, e2, h3⟩ := h
   refine PyProof.Rows.isTrue_chain (h1.v X E W φ s e S F _ fun x' W₁ φ₁ s₁ p₁ r₁ => PyProof.Rows.test_link (h2.v X E W₁ φ₁ s₁ e S p₁.f _ fun y' W₂ φ₂ s₂ p₂ r₂ => ?_)) hm
   rw [e1] at r₁; rw [e2] at r₂
   obtain ⟨t1, rfl⟩ := r₁; obtain ⟨t2, rfl⟩ := r₂
   refine hf _ _ _ _ _ _ _ _ _ (wpAny_truthy_bool ?_)
   rcases h3 with ⟨h3, rfl, rfl⟩ | ⟨h3, z, k', h4, e3, rfl⟩
   ·rw [h3]; exact k _ _ _ (p₁.trans p₂)
   ·rw [h3]
    refine PyProof.Rows.test_last (h4.v X E W₂ φ₂ s₂ e S p₂.f _ fun z' W₃ φ₃ s₃ p₃ r₃ => ?_)
    rw [e3] at r₃
    obtain ⟨t3, rfl⟩ := r₃
    exact hg _ _ _ _ _ _ _ _ _ (wpAny_truthy_bool (k _ _ _ ((p₁.trans p₂).trans p₃)))⟩
noncomputable def eLtLt (a b c : T G d fi) (p : Pos) (hm : lastMarks [.Lt, .Lt] [b.x, c.x] = false) : T G d fi := eChn .Lt .Lt (fun i j => decide (i < j)) (fun i j => decide (i < j)) (fun J J J J J J J J J k => P.lt_int k) (fun J J J J J J J J J k => P.lt_int k) a b c p hm
noncomputable def eLeLe (a b c : T G d fi) (p : Pos) (hm : lastMarks [.LtE, .LtE] [b.x, c.x] = false) : T G d fi := eChn .LtE .LtE (fun i j => decide (i <= j)) (fun i j => decide (i <= j)) (fun J J J J J J J J J k => P.le_int k) (fun J J J J J J J J J k => P.le_int k) a b c p hm
noncomputable def kNotInS (x : V) (y : O) : Option (Bool × List Prop) := y.val?.bind fun y => x.str?.bind fun c => y.str?.bind fun z => List.casesOn c none fun a r => List.casesOn r (some (!z.contains a, [])) fun J J => none
theorem primNotInS : PrimC G d .NotIn kNotInS := by
 intro x y t ps e q X E W φ s ρ S F x' y' rx ry Q k
 obtain ⟨v, e1, e⟩ := obi e
 obtain ⟨c, e2, e⟩ := obi e
 obtain ⟨z, e3, e⟩ := obi e
 rw [O.val_of e1, V.str_of e3] at ry; rw [V.str_of e2] at rx
 obtain ⟨t1, rfl, _⟩ := rx; obtain ⟨t2, rfl, _⟩ := ry
 cases c with
 | nil => cases e
 | cons a r =>
 cases r with
 | cons _ _ => cases e
 | nil =>
 cases e
 refine P.notIn_str ?_
 have := PySem.StrLaws.found_one ⟨z.toArray⟩ a
 rw [show (⟨[a].toArray⟩ : Str) = ⟨#[a]⟩ from rfl, this]
 have e : (decide (a ∈ (⟨z.toArray⟩ : Str).cps.toList)) = z.contains a := by simp
 rw [e]; exact k s.toks (Nat.le_refl _)
noncomputable def eNotInS : T G d fi -> T G d fi -> Pos -> T G d fi := eCmp .NotIn kNotInS primNotInS
end
end Mine
end
section
namespace Mine
abbrev mroV : List Value := [.type "ValueError", .type "Exception", .type "BaseException", .type "object"]
inductive ExObj (h : Heap) (c : Addr) : Prop where
 | mk (nm q : Str) (N : Addr) (bs bm : List Value) (hdct : Bool) (sn : List Str) (sub : List Value) (ab : Bool) (col : Option Bool) (dd : Option Addr) (k0 k1 k2 k3 k5 : Option Value) (newId Bn inN : String) (bmN : List Value) (mN : Str -> Option Value) (Fn : ExcBaseFacts Bn newId inN bmN) (hBn : mroV.contains (.type Bn) = true) (hC : h.get? c = some (excClassObj nm q c N bs bm hdct sn sub ab col dd k0 k1 k2 k3 k5 newId)) (hN : h.Ns N mN) (hni : mN "__init__" = none) (T : OwnTail h mroV bm)
structure ExOk (C : Cx) (x : Str) (c : Addr) : Prop where
 mg : C.mg x = some (.ref c)
 obj : ExObj C.h c
structure FX (X : FC) (outer : List Env) : Prop where
 fr : X.A.frames = some (X.env :: outer)
 me : X.env.frame = some X.env.locals
 nw : X.C.h.get? X.env.locals = none
 out : ∀ h : Heap, (∀ a o, X.pin a = some o -> h.get? a = some o) -> h.FunFrames X.C.h outer
 op : ∀ L, L ∈ outer.filterMap (·.frame) -> ∃ o, X.pin L = some o /\ ∀ vs, o.data ≠ .fields vs
def PinUp (X : FC) (h : Heap) : Prop := ∀ b o, X.pin b = some o -> (∀ vs, o.data ≠ .fields vs) -> ∃ sl, h.get? b = some { o with slots := sl }
def Mde (X : FC) (outer : List Env) (c e : Addr) (s : Shared) : Prop := (∃ h vs h1, Heap.MadeExcOf h h1 e (.ref c) vs /\ Ctxd X.A e h1 s.heap /\ X.C.h.StaysIn h /\ h.FunFrames X.C.h (X.env :: outer) /\ ∀ b o, X.pin b = some o -> h.get? b = some o) /\ s.gens = #[] /\ s.os = X.C.os
def Hld (X : FC) (outer : List Env) (c e : Addr) (s : Shared) : Prop := (∃ a0, Heap.HeldW X.C.h (X.env :: outer) e (.ref c) a0 X.env.locals s.heap) /\ PinUp X s.heap /\ s.gens = #[] /\ s.os = X.C.os /\ CK X.A s.heap e
def Fly (C : Cx) (outer : List Env) (h : Heap) (c e : Addr) (s : Shared) : Prop := (∃ a0, Heap.FlyingW C.h outer e (.ref c) a0 s.heap) /\ h.UpToSlots s.heap /\ s.gens = #[] /\ s.os = C.os
section
variable {G : Gl} {d : Nat} {fi : FI} {X : FC} {outer : List Env} {c e : Addr} {s : Shared} {E : Value -> Shared -> Prop} {W : WS} {φ : Nat -> List Addr} {ρ : Loc}
theorem FX.frames (S : FS G d X) (Z : FX X outer) (F : At X W φ s ρ) : s.heap.FunFrames X.C.h (X.env :: outer) := by
 obtain ⟨o, es, ep, ho, hd, _⟩ := F.f.ns
 exact ⟨by rw [S.fn]; decide, ⟨_, o, Z.me, Z.nw, ho, fun vs q => by rw [hd] at q; cases q⟩, Z.out _ F.f.pin⟩
theorem note_made {Q : Unit -> Shared -> Prop} (Z : FX X outer) (m : Mde X outer c e s) (k : ∀ s', Hld X outer c e s' -> Q () s') : wpAny X.C.M X.A (noteFrame (.ref e) X.env) Q E s := by
 obtain ⟨⟨h, vs, h1, hx, hc, hkb, hl, hp⟩, hg, ho⟩ := m
 obtain ⟨t, c2, ws, he, z0, z1, z2, z3, hk⟩ := hc.there hx
 have fresh : ∀ b, h.get? b = none -> X.C.h.get? b = none := fun b hb => by
  cases hq : X.C.h.get? b with
  | none => rfl
  | some o' => have := hkb b o' hq; rw [hb] at this; cases this
 unfold noteFrame
 simp only [Z.me]
 refine wpAny_bind (wpAny_field (x := .none) he rfl z1 ?_)
 rw [if_neg (by decide)]
 refine entryC (base := X.C.h) (a0 := .ref t) Z.fr (hl.of_keeps fun b o hb J => ⟨o, hk b o hb, rfl⟩) Z.me he (fun b o hb => hk b o (hkb b o hb)) (fresh e hx.new) rfl (Array.getElem?_eq_some_iff.mp z1).1 z0 ⟨z2, rfl⟩ fun h' hL hC => ?_
 obtain ⟨k1, k2, k3, k4⟩ := hL
 exact k _ ⟨⟨_, k1, fresh e hx.new, k2, k3⟩, fun b o hb hn => k4 b o (hk b o (hp b o hb)) hn, hg, ho, c2, hC, z3⟩
theorem came_held (Z : FX X outer) (m : Hld X outer c e s) (k : ∀ s', Hld X outer c e s' -> E (.ref e) s') : cameBackBy X.C.M X.A X.env E (.ref e) s := by
 obtain ⟨⟨a0, h1, h2, h3, h4⟩, hp, hg, ho, hck⟩ := m
 obtain ⟨oe, vs, T, oT, ts, he, hc, hd, hv, hnT, hTe, hT, hdT, hts⟩ := id h4
 have hsz3 : 3 < ts.size := (Array.getElem?_eq_some_iff.mp hts).1
 unfold cameBackBy
 rw [Z.me]
 refine wpAny_bind (wpAny_field he hd hv ?_)
 rw [if_neg (show ¬ ((Value.ref T == Value.none) = true) from by simp)]
 have fin : wpAny X.C.M X.A (setFlight (.ref e) (some X.env.locals)) (fun J s' => E (.ref e) s') E s := by
  have other : ∀ b, b ≠ T -> (s.heap.update T (Obj.mapFields (·.setIfInBounds 3 ((some X.env.locals).elim Value.none fun f => rawInt f)))).get? b = s.heap.get? b := fun b hb => Heap.get?_update_other _ _ (Ne.symm hb)
  have noRecord : ∀ b o, s.heap.get? b = some o -> (∀ vs, o.data ≠ .fields vs) -> b ≠ T := fun b o hb hnf q => by
   rw [q, hT] at hb; injection hb with hb; subst hb; exact hnf ts hdT
  unfold setFlight
  refine wpAny_bind (wpAny_field he hd hv ?_)
  rw [if_pos (show (Value.ref T != Value.none) = true from by simp)]
  refine wpAny_setField hT hdT hsz3 (k _ ⟨⟨a0, fun b o hb => (other b fun q => by rw [q, hnT] at hb; cases hb).trans (h1 b o hb), h2, h3.of_keeps fun b o hb hnf => ⟨o, (other b (noRecord b o hb hnf)).trans hb, rfl⟩, ?_⟩, fun b o hb hn => ?_, hg, ho, hck.of (other e (Ne.symm hTe))⟩)
  ·exact ⟨oe, vs, T, _, _, (other e (Ne.symm hTe)).trans he, hc, hd, hv, hnT, hTe, Heap.get?_update_self _ hT (Obj.isFreed_of_fields (Obj.data_mapFields hdT _)), Obj.data_mapFields hdT _, by simp [hsz3]⟩
  ·obtain ⟨sl, z⟩ := hp b o hb hn
   exact ⟨sl, (other b (noRecord b _ z hn)).trans z⟩
 first | exact fin | exact wpAny_bind (wpAny_pure fin)
end
section
variable (G : Gl) (d : Nat) (fi : FI) (cN : Addr)
def ErsG (xs : List Stmt) (ρ : Loc) : Prop := ∀ (X : FC) (E : Value -> Shared -> Prop) (W : WS) (φ : Nat -> List Addr) (s : Shared) (outer : List Env), X.fi = fi -> X.cm = true -> FS G d X -> FX X outer -> At X W φ s ρ →
 ∀ Q : Flow -> Shared -> Prop, (∀ e s', Mde X outer cN e s' -> E (.ref e) s') -> wpAny X.C.M X.A (execs xs X.env) Q E s
def WhErr (c : Expr) (b : List Stmt) (ρ : Loc) : Prop := ∀ (X : FC) (W : WS) (φ : Nat -> List Addr) (s : Shared) (outer : List Env), X.fi = fi -> X.cm = true -> FS G d X -> FX X outer -> At X W φ s ρ →
 ∀ R : Result -> Shared -> Prop, (∀ e s', Hld X outer cN e s' -> R (.error (.ref e)) s') -> codeAny X.C.M X.A (.whileLoop c b [] X.env) R s
def RCall (a : Addr) (args : List V) : Prop := ∀ (C : Cx) (A : Around) (W : WS) (s : Shared) (vals : List Value) (R : Result -> Shared -> Prop) (outer : List Env), GOk G C -> HdG G A s.heap.get? -> A.depth + 2 * d + 9 <= recursionLimit -> A.units + 20 * d + deep + 90 < cLine →
 (∀ b o, C.h.get? b = some o -> s.heap.get? b = some o) -> s.gens = #[] -> (∀ f, G.fd.lookup a = some f -> f.fi.pos = true -> 0 < s.toks) -> s.os = C.os -> (∀ a, W a -> ∃ o, s.heap.get? a = some o) -> VRs W s.heap args vals -> A.frames = some outer -> s.heap.FunFrames C.h outer →
 (∀ e s', Fly C outer s.heap cN e s' -> CK A s'.heap e -> R (.error (.ref e)) s') -> codeAny C.M A (.call (.ref a) ⟨vals, []⟩) R s
end
structure SE (G : Gl) (d : Nat) (fi : FI) (cN : Addr) where
 xs : List Stmt
 ex : St -> Option (Unit × St)
 eo : Ok ex fun ρ _ _ => ErsG G d fi cN xs ρ
section
variable {G : Gl} {d : Nat} {fi : FI} {cN : Addr}
noncomputable def nextO (fl : Fl) (x : Option (Unit × St)) : Option (Unit × St) := Fl.casesOn fl x fun J => none
noncomputable def xRaise (x : Str) (m : Str) (k : Nat) (np sp cp p : Pos) (rest : List Stmt) (h : fi.isGlob x = true) (hc : ∀ C, G.mo C -> ExOk C x cN) : SE G d fi cN :=
 ⟨.Raise (some (.Call (.Name x np) [.Constant (.str m) k sp] [] cp)) none p :: rest, pu (), .pu fun ρ X E W φ s outer e cm S Z F Q kk => wpAny_execs_cons (by
  have hm := (hc X.C S.g.mo).mg
  obtain ⟨nm, q, N, bs, bm, hdct, sn, sub, ab, col, dd, k0, k1, k2, k3, k5, newId, Bn, inN, bmN, mN, Fn, hBn, hC, hN, hni, T⟩ := (hc X.C S.g.mo).obj
  have hkp := F.keep S
  have hpl : backTo cp (starEach [.Constant (.str m) k sp] X.env) = plainArgs [.Constant (.str m) k sp] X.env := by
   rw [starEach_plain (xs := [.Constant (.str m) k sp]) (fun y q => by cases List.mem_singleton.mp q; rfl), backTo_plain]
  refine raise_call (C := cN) (nm := nm) (q := q) (N := N) (bs := bs) (bm := bm) (hdct := hdct) (sn := sn) (sub := sub) (ab := ab) (col := col) (dd := dd) (k0 := k0) (k1 := k1) (k2 := k2) (k3 := k3) (k5 := k5) Fn hBn PySem.F.excBase_ValueError (T.hasType (by decide)) (by rw [hpl]; rfl) hni (glob_ok S F (e ▸ h) hm ⟨rfl, ?_⟩)
  rw [hpl]
  refine PySem.Calls.evalArgs_plain (PySem.Calls.spliced_cons (PySem.Calls.Constant_str (PySem.Calls.spliced_nil ⟨rfl, S.hd.1.mono F.f.pin, ?_, hkp _ _ hC, hN.keeps hkp, T.keeps hkp, fun h' ee h2 hx hc => ?_⟩)))
  ·show 1 <= sizeLine; decide
  ·exact kk ee _ ⟨⟨s.heap, _, h', hx, hc, hkp, Z.frames S F, F.f.pin⟩, F.gens, F.os⟩)⟩
theorem turn_er (c : T G d fi) (b : SL G d fi) (f : Bool) : Ok (turn c b f) fun ρ r ρ' => r = some .next -> WhErr G d fi cN c.x b.xs ρ' -> WhErr G d fi cN c.x b.xs ρ :=
 c.to.bd (R := fun t ρ r ρ' => r = some .next -> t = true /\ ExsG G d fi b.xs ρ .next ρ') (fun t => (Ok.dec f t).bd (R := fun t ρ r ρ' => r = some .next -> t = true /\ ExsG G d fi b.xs ρ .next ρ') (fun t => by
  cases t
  ·exact .pu fun J q => nomatch q
  ·exact b.eo.bd (R := fun g ρ r ρ' => r = some g /\ ρ = ρ') (fun g => .pu fun J => ⟨rfl, rfl⟩) fun J g J J J h q => by obtain ⟨rfl, rfl⟩ := q; intro q; cases q; exact ⟨rfl, h⟩) fun J t J J J h q => by obtain ⟨rfl, rfl⟩ := h; exact q)
  fun ρ t ρ₁ r ρ' h q hr k X W φ s outer e cm S Z F R kk => by
   obtain ⟨rfl, hb⟩ := q hr
   exact code_while (h X _ W φ s e S F _ fun W' φ' s' p' => hb X _ W' φ' s' e cm S p'.f _ fun f W2 φ2 s2 A2 B2 C2 => by cases C2; exact k X W2 φ2 s2 outer e cm S Z A2 R kk)
section
variable {c : T G d fi} {b : SL G d fi} {ρ ρ' : Loc} {tp : List Tk} {P : Prop}
theorem whe_go (f : Bool) (e : out (turn c b f ⟨ρ, tp, []⟩) = some (some .next, ρ', [])) (o : All (obs (turn c b f ⟨ρ, tp, []⟩)) = P) (p : P) (h : WhErr G d fi cN c.x b.xs ρ') : WhErr G d fi cN c.x b.xs ρ :=
 (turn_er c b f).run e o p rfl h
end
theorem FX.of {C : Cx} {A : Around} {env : Env} {f : FI} {s : Shared} {W : WS} {outer : List Env} (hkeep : ∀ b o, C.h.get? b = some o -> s.heap.get? b = some o) (h1 : env.frame = some env.locals) (h2 : env.locals = s.heap.objs.size) (hfr : A.frames = some outer) (hl : s.heap.FunFrames C.h outer) :
  FX ⟨C, A.deeper env, env, f, s.heap.get?, W, true, fun J => none⟩ outer :=
 have nw : C.h.get? env.locals = none := by
  cases q : C.h.get? env.locals with
  | none => rfl
  | some o => have := hkeep _ o q; rw [h2, fresh_size] at this; cases this
 ⟨Around.frames_deeper hfr, h1, nw, fun h hp => hl.of_keeps fun b o hb J => ⟨o, hp b o hb, rfl⟩, fun L q => (hl.mem q).2⟩
end
end Mine
end
section
open PySem PySem.W
namespace Mine
section
variable {K : Frag} {prog : Program} {w : World} {A : Around} {E : Value -> Shared -> Prop} {s : Shared} {Q : Value -> Shared -> Prop}
end
section
variable {G : Gl} {d : Nat} {X : FC}
end
end Mine
end
section
open PySem PySem.W
namespace Mine
noncomputable def intAt (K : Frag) (x : Str) (i : Int) : Bool := match nsFind (topOf K) x with
 | some (.int j _) => j == i
 | _ => false
noncomputable def strAt (K : Frag) (x : Str) (z : List Nat) : Bool := match nsFind (topOf K) x with
 | some (.str y _) => y == ⟨z.toArray⟩
 | _ => false
noncomputable def strsM : List Value -> List (List Nat) -> Bool
 | [], [] => true
 | .str x _ :: vs, z :: zs => (x == ⟨z.toArray⟩) && (PyData.strOk ⟨z.toArray⟩ && Nat.ble z.length 1000) && strsM vs zs
 | _, _ => false
noncomputable def tupAt (K : Frag) (a : Addr) (zs : List (List Nat)) : Bool := match K.lookup a with
 | some ⟨c, dd, .seq vs n, sl⟩ => c == .type "tuple" && dd.isNone && sl.size == 0 && strsM vs.toList zs && Nat.ble zs.length 1000
 | _ => false
noncomputable def isStrZ (v : Value) (z : List Nat) : Bool := match v with
 | .str x _ => x == ⟨z.toArray⟩
 | _ => false
noncomputable def isIntI (v : Value) (i : Int) : Bool := match v with
 | .int j _ => j == i
 | _ => false
set_option tactic.hygienic true in
theorem isStrZ_of {v : Value} {z : List Nat} (h : isStrZ v z = true) : ∃ t, v = .str ⟨z.toArray⟩ t := by
 unfold isStrZ at h
 split at h
 ·rename_i x t; exact ⟨t, by rw [beq_iff_eq.mp h]⟩
 ·cases h
set_option tactic.hygienic true in
theorem isIntI_of {v : Value} {i : Int} (h : isIntI v i = true) : ∃ t, v = .int i t := by
 unfold isIntI at h
 split at h
 ·rename_i x t; exact ⟨t, by rw [beq_iff_eq.mp h]⟩
 ·cases h
noncomputable def entM : List DictEntry -> List (List Nat × Int) -> Bool
 | [], [] => true
 | e :: es, kv :: kvs => isStrZ e.key kv.1 && isIntI e.val kv.2 && entM es kvs
 | _, _ => false
noncomputable def dicAt (K : Frag) (a : Addr) (kvs : List (List Nat × Int)) : Bool := match K.lookup a with
 | some ⟨c, dd, .dict es ep, sl⟩ => c == .type "dict" && dd.isNone && sl.size == 0 && entM es.toList kvs
 | _ => false
noncomputable def hashesAt (K : Frag) (a : Addr) : List Int := match K.lookup a with
 | some ⟨_, _, .dict es _, _⟩ => es.toList.map (·.hash)
 | _ => []
noncomputable def nsOk (K : Frag) (a : Addr) : Bool := match K.lookup a with
 | some o => (match o.data with
  | .dict es _ => (es.toList.all fun e => match e.key with
   | .str _ _ => true
   | _ => false) && nsFind es "__init__" == none
  | _ => false)
 | none => false
noncomputable def clsAt (K : Frag) (c : Addr) (bm : List Value) (newId : String) : Bool := match K.lookup c with
 | some ⟨cl, dd, .cls cd, sl⟩ => cl == .type "type" && cd.mro == .ref c :: bm && !cd.hasDel && nsOk K cd.ns && sl.size == 6 && sl[4]? == some (some (.builtin newId))
 | _ => false
section
variable {K : Frag} {C : Cx} (X : K.In C.h) (hm : ∀ x, C.mg x = nsFind (topOf K) x)
include hm
set_option tactic.hygienic true in
theorem gval_int {x : Str} {i : Int} (h : intAt K x i = true) : GVal C x (.int i) := by
 unfold intAt at h
 split at h
 ·rename_i j t e; rw [beq_iff_eq] at h; subst h; exact ⟨_, (hm x).trans e, t, rfl⟩
 ·cases h
set_option tactic.hygienic true in
theorem gval_str {x : Str} {z : List Nat} (h : strAt K x z = true) (hk : (PyData.strOk ⟨z.toArray⟩ && Nat.ble z.length 1000) = true) : GVal C x (.str z) := by
 rw [Bool.and_eq_true] at hk
 have hl := Nat.le_of_ble_eq_true hk.2
 unfold strAt at h
 split at h
 ·rename_i j t e; rw [beq_iff_eq] at h; subst h; exact ⟨_, (hm x).trans e, t, rfl, hk.1, by rw [sizeLine_eq]; lia⟩
 ·cases h
omit hm
set_option tactic.hygienic true in
theorem strsM_ok {W : WS} {h : Heap} : ∀ {vs : List Value} {zs : List (List Nat)}, strsM vs zs = true -> VRs W h (zs.map .str) vs
 | [], [], _ => rfl
 | [], _ :: _, e => nomatch e
 | v :: vs, [], e => by cases v <;> cases e
 | v :: vs, z :: zs, e => by
  unfold strsM at e
  split at e
  ·rename_i h1 h2; cases h1
  ·rename_i x t vs' z' zs' h1 h2
   cases h1; cases h2
   simp only [Bool.and_eq_true, beq_iff_eq] at e
   obtain ⟨⟨rfl, e2, e3⟩, e4⟩ := e
   have hl := Nat.le_of_ble_eq_true e3
   exact .cons ⟨t, rfl, e2, by rw [sizeLine_eq]; lia⟩ (strsM_ok e4)
  ·cases e
include X hm
set_option tactic.hygienic true in
theorem gval_tup {x : Str} {a : Addr} {zs : List (List Nat)} (h1 : nsFind (topOf K) x = some (.ref a)) (h : tupAt K a zs = true) : GVal C x (.tup (zs.map .str)) := by
 unfold tupAt at h
 split at h
 ·rename_i c dd vs n sl e
  simp only [Bool.and_eq_true, beq_iff_eq, Option.isNone_iff_eq_none] at h
  obtain ⟨⟨⟨⟨rfl, rfl⟩, h3⟩, h4⟩, h5⟩ := h
  have hsl : sl = #[] := Array.eq_empty_of_size_eq_zero h3
  subst hsl
  have hl := Nat.le_of_ble_eq_true h5
  exact ⟨_, (hm x).trans h1, a, vs, n, rfl, ⟨_, X _ _ e⟩, X _ _ e, by rw [List.length_map, sizeLine_eq]; lia, strsM_ok h4⟩
 ·cases h
omit X hm
theorem entM_ok (prog : Program) (w : World) : ∀ {es : List DictEntry} {kvs : List (List Nat × Int)}, entM es kvs = true -> es.map (·.hash) = kvs.map (fun kv => PyData.keyHash w.params ⟨kv.1.toArray⟩) →
  ∃ kws : List (Str × Value), Pairs (strKind prog w) es kws /\ kws.map (·.1) = kvs.map (fun kv => (⟨kv.1.toArray⟩ : Str)) /\ (∀ e ∈ es, ∃ k, (strKind prog w).is k e.key = true /\ e.hash = (strKind prog w).hash k) /\ ∀ z i, kvs.lookup z = some i -> ∃ t, valueAt kws ⟨z.toArray⟩ = some (.int i t)
 | [], [], _, _ => ⟨[], .nil, rfl, fun J q => (nomatch q), fun J J q => (nomatch q)⟩
 | [], _ :: _, e, _ => nomatch e
 | _ :: _, [], e, _ => nomatch e
 | ⟨hs, ky, vl⟩ :: es, kv :: kvs, e, hh => by
   have e : (isStrZ ky kv.1 && isIntI vl kv.2 && entM es kvs) = true := e
   rw [Bool.and_eq_true, Bool.and_eq_true] at e
   have e3 := e.2
   obtain ⟨t, rfl⟩ := isStrZ_of e.1.1
   obtain ⟨t', rfl⟩ := isIntI_of e.1.2
   rw [List.map_cons, List.map_cons, List.cons.injEq] at hh
   obtain ⟨kws, p1, p2, p3, p4⟩ := entM_ok prog w e3 hh.2
   have his : (strKind prog w).is ⟨kv.1.toArray⟩ (.str ⟨kv.1.toArray⟩ t) = true := by simp [strKind, Value.isStrOf]
   refine ⟨(⟨kv.1.toArray⟩, .int kv.2 t') :: kws, .cons his rfl p1, by rw [List.map_cons, List.map_cons, p2], fun e' q => ?_, fun z i q => ?_⟩
   ·rcases List.mem_cons.mp q with rfl | q
    ·exact ⟨_, his, hh.1⟩
    ·exact p3 e' q
   ·rw [List.lookup_cons] at q
    by_cases hz : z = kv.1
    ·subst hz
     rw [beq_self_eq_true] at q
     cases q
     exact ⟨t', by simp [valueAt]⟩
    ·have hz' : (z == kv.1) = false := by simpa using hz
     rw [hz'] at q
     obtain ⟨t2, q2⟩ := p4 z i q
     refine ⟨t2, ?_⟩
     rw [<- q2]
     unfold valueAt
     have : ¬ (⟨kv.1.toArray⟩ : Str) = ⟨z.toArray⟩ := fun q => hz (by simpa using q.symm)
     rw [List.find?_cons_of_neg (by simpa using this)]
include X hm
set_option tactic.hygienic true in
theorem gdic_ok {x : Str} {a : Addr} {kvs : List (List Nat × Int)} (h1 : nsFind (topOf K) x = some (.ref a)) (h : dicAt K a kvs = true) (hh : hashesAt K a = kvs.map (fun kv => PyData.keyHash C.w.params ⟨kv.1.toArray⟩)) (hn : (kvs.map (fun kv => (⟨kv.1.toArray⟩ : Str))).Nodup) : GDic C x kvs := by
 unfold dicAt at h
 split at h
 ·rename_i c dd es ep sl e
  simp only [Bool.and_eq_true, beq_iff_eq, Option.isNone_iff_eq_none] at h
  obtain ⟨⟨⟨rfl, rfl⟩, h3⟩, h4⟩ := h
  unfold hashesAt at hh
  rw [e] at hh
  obtain ⟨kws, p1, p2, p3, p4⟩ := entM_ok C.prog C.w h4 hh
  refine ⟨a, kws, (hm x).trans h1, ⟨_, es, ep, X _ _ e, ⟨rfl, rfl, Array.eq_empty_of_size_eq_zero h3⟩, rfl, fun e' q => p3 e' (by simpa using q), p1, by rw [p2]; exact hn⟩, p4⟩
 ·cases h
omit hm
set_option tactic.hygienic true in
theorem ns_ok {a : Addr} (h : nsOk K a = true) : ∃ m, C.h.Ns a m /\ m "__init__" = none := by
 unfold nsOk at h
 split at h
 ·rename_i o e
  split at h
  ·rename_i es ep hd
   rw [Bool.and_eq_true, beq_iff_eq] at h
   refine ⟨fun x => nsFind es x, ⟨o, es, ep, X _ _ e, hd, fun e' q => ?_, fun J => rfl⟩, h.2⟩
   have := List.all_eq_true.mp h.1 e' (by simpa using q)
   split at this
   ·rename_i n t q; exact ⟨n, t, q⟩
   ·cases this
  ·cases h
 ·cases h
include hm
set_option tactic.hygienic true in
theorem ex_ok {x : Str} {c c2 : Addr} (h1 : nsFind (topOf K) x = some (.ref c)) (h : clsAt K c (.ref c2 :: mroV) "ValueError.__new__" = true) (h2 : clsAt K c2 mroV "ValueError.__new__" = true) : ExOk C x c := by
 refine ⟨(hm x).trans h1, ?_⟩
 unfold clsAt at h
 split at h
 ·rename_i cl dd cd sl e
  simp only [Bool.and_eq_true, beq_iff_eq, Bool.not_eq_true'] at h
  obtain ⟨⟨⟨⟨⟨rfl, hmro⟩, hdel⟩, hns⟩, hsz⟩, hnew⟩ := h
  unfold clsAt at h2
  split at h2
  ·rename_i cl2 dd2 cd2 sl2 e2
   simp only [Bool.and_eq_true, beq_iff_eq, Bool.not_eq_true'] at h2
   obtain ⟨⟨⟨⟨⟨rfl, hmro2⟩, hdel2⟩, hns2⟩, hsz2⟩, hnew2⟩ := h2
   obtain ⟨m, n1, n2⟩ := ns_ok X hns
   obtain ⟨m2, n3, n4⟩ := ns_ok X hns2
   obtain ⟨l⟩ := sl
   obtain ⟨k0, k1, k2, k3, k4, k5⟩ := six l hsz
   ·have hk4 : k4 = some (.builtin "ValueError.__new__") := by simpa using hnew
    subst hk4
    obtain ⟨nm, bs, mro, N, q, hdct, sn, sub, ab, col, hdel'⟩ := cd
    dsimp only at hmro hdel n1 hns
    subst hmro hdel
    exact ⟨nm, q, N, bs, _, hdct, sn, sub, ab, col, dd, k0, k1, k2, k3, k5, "ValueError.__new__", "ValueError", _, _, m, PySem.F.excBase_ValueError, by decide, X _ _ e, n1, n2, .own (X _ _ e2) n3 n4 .base⟩
  ·cases h2
 ·cases h
end
end Mine
end
section
namespace Mine
open PySem.W (Looks keepIn)
section
variable {X : FC} {W : WS} {φ : Nat -> List Addr} {s : Shared} {ρ : Loc}
end
section
variable {G : Gl} {d : Nat} {fi : FI}
end
end Mine
end
section
namespace Mine
open Sem (wp)
section
variable {α β : Type}
end
section
variable {G : Gl} {d : Nat} {fi : FI}
end
end Mine
end
section
namespace Mine
section
variable {G : Gl} {d : Nat} {fi : FI}
end
end Mine
end
section
namespace Mine
section
variable {G : Gl} {d : Nat} {fi : FI}
noncomputable def sTry (b : SL G d fi) (h0 : ExceptHandler) (hs : List ExceptHandler) (p : Pos) : SS G d fi := ⟨.Try b.xs (h0 :: hs) [] [] p, b.ex,
 b.eo.mono fun ρ fl ρ' h X E W φ s e c S F Q k => wpAny_Try_except (h X _ W φ s e c S F _ fun f W' φ' s' A B C => by
  cases fl with
  | next => cases C; exact wpAny_execs_nil (k _ _ _ _ A B rfl)
  | ret o => obtain ⟨v', rfl, r⟩ := C; exact k _ _ _ _ A B ⟨v', rfl, r⟩)⟩
end
end Mine
end
section
namespace Mine
section
variable {G : Gl} {d : Nat} {fi : FI}
end
end Mine
end
section
namespace Mine
open PySem.W (Frag kitOne keepIn Looks clsIn findIn typeIn specialIn takesIn mroIn makesIn plainGet hasDictIn plainOver takerIn isFn InstAt kitAny lookIn)
section
variable {G : Gl} {d : Nat} {fi : FI} {X : FC} {W : WS} {φ : Nat -> List Addr} {s : Shared} {ρ : Loc} {E : Value -> Shared -> Prop}
end
end Mine
end
section
namespace Mine
section
variable {X : FC} {W : WS} {φ : Nat -> List Addr} {s : Shared} {ρ : Loc}
end
section
variable {G : Gl} {d : Nat} {fi : FI}
end
end Mine
end
section
namespace Mine
section
variable {W : WS} {h h' : Heap} {oa da : Addr} {as : List Addr} {t : CT} {l : List V} {r : List (List V)}
end
section
variable (G : Gl) (d : Nat) (fi : FI)
end
section
variable {G : Gl} {d : Nat} {fi : FI}
end
end Mine
end
section
namespace Mine
section
variable {G : Gl} {d : Nat} {fi : FI}
end
end Mine
end
section
namespace Mine
section
variable {G : Gl} {d : Nat} {fi : FI}
end
end Mine
end
section
namespace Mine
open PySem.W (Frag kitOne keepIn Looks clsIn findIn typeIn specialIn takesIn mroIn makesIn plainGet hasDictIn plainOver takerIn isFn InstAt kitAny lookIn)
section
variable {X : FC} {W : WS} {φ : Nat -> List Addr} {s : Shared} {ρ : Loc}
end
section
variable {G : Gl} {d : Nat} {fi : FI}
end
end Mine
end
section
namespace Mine
open PySem.W (Frag kitOne keepIn Looks clsIn findIn typeIn specialIn takesIn mroIn makesIn plainGet hasDictIn plainOver takerIn isFn InstAt kitAny lookIn)
section
variable {G : Gl} {d : Nat} {fi : FI}
end
end Mine
end
section
namespace Mine
section
variable {G : Gl} {d : Nat}
end
end Mine
end
section
namespace Mine
section
variable {G : Gl} {d : Nat} {fi : FI}
end
end Mine
end
section
namespace Mine
section
variable {G : Gl} {d : Nat} {fi : FI}
end
end Mine
end
section
namespace Mine
section
variable {G : Gl} {d : Nat} {fi : FI}
end
end Mine
end
section
namespace Mine
section
variable {G : Gl} {d : Nat} {fi : FI}
end
end Mine
end
section
namespace Mine
section
variable {G : Gl} {d : Nat} {X : FC} {W : WS} {φ : Nat -> List Addr} {s : Shared} {ρ : Loc}
end
section
variable {A : Around} {R : Result -> Shared -> Prop} {s : Shared}
end
end Mine
end
section
namespace Mine
section
variable (G : Gl) (d : Nat) (fi : FI)
end
section
variable {G : Gl} {d : Nat} {fi : FI}
end
end Mine
end
section
namespace Mine
section
variable {G : Gl} {d : Nat} {fi : FI}
end
end Mine
end
section
namespace Mine
section
variable {G : Gl} {d : Nat} {fi : FI}
noncomputable def kIsS (x : V) (y : O) : Option (Bool × List Prop) := y.val?.bind fun y => V.casesOn y (some (V.casesOn x false (fun J => true) (fun J => true) (fun J => true) (fun J => true) (fun J => true) (fun J J => true) (fun J J J => true) (fun J => true), [])) (fun J => none) (fun J => none) (fun J => none) (fun J => none) (fun J => none) (fun J J => none) (fun J J J => none) (fun J => none)
theorem primIsS : PrimC G d .IsNot kIsS := by
 intro x y t ps e q X E W φ s ρ S F x' y' rx ry Q k
 obtain ⟨v, e1, e⟩ := obi e
 rw [O.val_of e1] at ry
 cases v <;> cases e
 cases ry
 have k := k s.toks (Nat.le_refl _)
 cases x with
 | none => cases rx; exact wpAny_isNot_self rfl k
 | bool b => cases rx; exact PyProof.Rows.isnot_bool_none k
 | int i => obtain ⟨_, rfl⟩ := rx; exact PyProof.Rows.isnot_int_none k
 | str z => obtain ⟨_, rfl, _⟩ := rx; exact PyProof.Rows.isnot_str_none k
 | tup l => obtain ⟨p, _, _, rfl, _⟩ := VR.tup rx; exact PyProof.Rows.isnot_ref_none k
 | lst l => obtain ⟨p, _, _, rfl, _⟩ := VR.lst rx; exact PyProof.Rows.isnot_ref_none k
 | ins t l => obtain ⟨p, _, _, rfl, _⟩ := VR.ins rx; exact PyProof.Rows.isnot_ref_none k
 | dic w k' l => obtain ⟨p, _, rfl, _⟩ := VR.dic rx; exact PyProof.Rows.isnot_ref_none k
 | exc _ => obtain ⟨p, _, rfl, _⟩ := VR.exc rx; exact PyProof.Rows.isnot_ref_none k
noncomputable def eIsNot : T G d fi -> T G d fi -> Pos -> T G d fi := eCmp .IsNot kIsS primIsS
theorem call_end {a : Addr} {f : FD} {args : List V} {n : Nat} {ρ' : Loc} {tp : List Tk} {P : Prop} (B : SL G d f.fi) (hf : G.fd.lookup a = some f) (hB : B.xs = f.st) (hn : args.length = f.ps.length)
  (e : out (B.ex ⟨loc0 args n, tp, []⟩) = some (.next, ρ', [])) (ob : All (obs (B.ex ⟨loc0 args n, tp, []⟩)) = P) (p : P) : CallOK G (d + 1) a args (.val .none) :=
 call_of hf hn (hB ▸ B.eo.run e ob p) (.inr ⟨rfl, rfl⟩)
theorem whil_ret {c : T G d fi} {b : SL G d fi} {ρ ρ' : Loc} {o : O} {tp : List Tk} {P : Prop} (f : Bool) (e : out (turn c b f ⟨ρ, tp, []⟩) = some (some (.ret o), ρ', [])) (ob : All (obs (turn c b f ⟨ρ, tp, []⟩)) = P) (p : P) : WhilOK G d fi c.x b.xs ρ (.ret o) ρ' :=
 (turn_ok c b f).run e ob p (.ret o) ρ' ⟨rfl, rfl⟩
end
end Mine
end
section
namespace Mine
section
variable {G : Gl} {d : Nat} {fi : FI}
noncomputable def eIte (f : Bool) (c a b : T G d fi) (p : Pos) (hp : plainX (.IfExp c.x a.x b.x p) = true) : T G d fi :=
 have eo : Ok (fun σ => bd (c.tr σ) fun t σ => bd (dec f t σ) fun t σ => Bool.casesOn t (b.ev σ) (a.ev σ)) (EvG G d fi (.IfExp c.x a.x b.x p)) :=
  c.to.bd (R := fun t ρ o ρ' => Bool.casesOn (motive := fun J => Prop) t (EvG G d fi b.x ρ o ρ') (EvG G d fi a.x ρ o ρ')) (fun t => (Ok.dec f t).bd (R := fun t ρ o ρ' => Bool.casesOn (motive := fun J => Prop) t (EvG G d fi b.x ρ o ρ') (EvG G d fi a.x ρ o ρ')) (fun t => by
   cases t
   ·exact b.eo
   ·exact a.eo) fun J t J J J h q => by obtain ⟨rfl, rfl⟩ := h; exact q) fun _ t _ _ _ h q X E W φ s e S F Q k => wpAny_IfExp (h X E W φ s e S F _ fun W' φ' s' p' => by
    cases t
    ·exact q X E W' φ' s' e S p'.f Q fun v' W2 φ2 s2 p2 r2 => k v' W2 φ2 s2 (p'.trans p2) r2
    ·exact q X E W' φ' s' e S p'.f Q fun v' W2 φ2 s2 p2 r2 => k v' W2 φ2 s2 (p'.trans p2) r2)
 ⟨.IfExp c.x a.x b.x p, _, _, fun J => none, hp, eo, eo.mono fun J J J h => h.pk, .none fun J => rfl⟩
end
end Mine
end
section
namespace Mine
section
variable {G : Gl} {d : Nat} {fi : FI}
end
end Mine
end
section
namespace Mine
section
variable {X : FC} {W : WS} {φ : Nat -> List Addr} {s : Shared} {ρ : Loc}
end
section
variable {G : Gl} {d : Nat} {fi : FI}
end
end Mine
end
section
namespace Mine
theorem funs_on {h h' base : Heap} : ∀ {l : List Env}, h.FunFrames base l -> (∀ L, L ∈ l.filterMap (·.frame) -> ∀ o, h.get? L = some o -> ∃ o', h'.get? L = some o' /\ o'.data = o.data) -> h'.FunFrames base l
 | [], _, _ => trivial
 | v :: l, hl, k => by
  obtain ⟨hk, ⟨L, o, hf, hn, ho, hd⟩, hr⟩ := hl
  have hm : ∀ M, M ∈ (v :: l).filterMap (·.frame) ↔ M = L \/ M ∈ l.filterMap (·.frame) := fun M => by rw [List.filterMap_cons, hf]; exact List.mem_cons
  obtain ⟨o', ho', hd'⟩ := k L ((hm L).mpr (.inl rfl)) o ho
  exact ⟨hk, ⟨L, o', hf, hn, ho', fun vs => hd' ▸ hd vs⟩, funs_on hr fun M q => k M ((hm M).mpr (.inr q))⟩
def FlyIn (X : FC) (outer : List Env) (c e : Addr) (s : Shared) : Prop := (∃ a0, Heap.FlyingW X.C.h (X.env :: outer) e (.ref c) a0 s.heap) /\ PinUp X s.heap /\ s.gens = #[] /\ s.os = X.C.os /\ CK X.A s.heap e
def Raz (X : FC) (outer : List Env) (c e : Addr) (s : Shared) : Prop := Mde X outer c e s \/ FlyIn X outer c e s \/ Hld X outer c e s
section
variable {G : Gl} {d : Nat} {fi : FI} {X : FC} {outer : List Env} {c e : Addr} {s : Shared} {E : Value -> Shared -> Prop} {W : WS} {φ : Nat -> List Addr} {ρ : Loc}
theorem PinUp.to {h h' : Heap} (p : PinUp X h) (up : h.UpToSlots h') : PinUp X h' := fun b o hb hn => by
 obtain ⟨sl, z⟩ := p b o hb hn
 exact up b { o with slots := sl } z hn
theorem note_raz {Q : Unit -> Shared -> Prop} (Z : FX X outer) (m : Raz X outer c e s) (k : ∀ s', Hld X outer c e s' -> Q () s') : wpAny X.C.M X.A (noteFrame (.ref e) X.env) Q E s := by
 rcases m with m | m | m
 ·exact note_made Z m k
 ·obtain ⟨⟨a0, fl⟩, hp, hg, ho, c2, hc, hn⟩ := m
  exact looksC Z.fr Z.me fl hc fun h' hh up hc' => k _ ⟨⟨a0, hh⟩, hp.to up, hg, ho, c2, hc', hn⟩
 ·obtain ⟨⟨a0, hh⟩, hp, hg, ho, hc⟩ := m
  exact wpAny_noteFrame_againW Z.me hh.2.2.2 (k _ ⟨⟨a0, hh⟩, hp, hg, ho, hc⟩)
theorem leave_raz {Q : Unit -> Shared -> Prop} (Z : FX X outer) (m : Raz X outer c e s) (k : ∀ s' a0, Heap.FlyingW X.C.h outer e (.ref c) a0 s'.heap -> PinUp X s'.heap -> s'.gens = #[] -> s'.os = X.C.os -> CK X.A s'.heap e -> Q () s') : wpAny X.C.M X.A (leaving X.env (.ref e)) Q E s := by
 unfold leaving
 refine wpAny_bind (note_raz Z m fun s' hh => ?_)
 obtain ⟨⟨a0, hh⟩, hp, hg, ho, c2, hc, hn⟩ := hh
 refine landsC hh hc fun h' hfl up hc' => ?_
 obtain ⟨k1, k2, ⟨_, _, k3⟩, k4⟩ := hfl
 exact k _ a0 ⟨k1, k2, k3, k4⟩ (hp.to up) hg ho ⟨c2, hc', hn⟩
end
section
variable (G : Gl) (d : Nat) (fi : FI) (cN : Addr)
def RzS (xs : List Stmt) (ρ : Loc) : Prop := ∀ (X : FC) (E : Value -> Shared -> Prop) (W : WS) (φ : Nat -> List Addr) (s : Shared) (outer : List Env), X.fi = fi -> X.cm = true -> FS G d X -> FX X outer -> At X W φ s ρ →
 ∀ Q : Flow -> Shared -> Prop, (∀ e s', Raz X outer cN e s' -> E (.ref e) s') -> wpAny X.C.M X.A (execs xs X.env) Q E s
def RzE (x : Expr) (ρ : Loc) : Prop := ∀ (X : FC) (E : Value -> Shared -> Prop) (W : WS) (φ : Nat -> List Addr) (s : Shared) (outer : List Env), X.fi = fi -> X.cm = true -> FS G d X -> FX X outer -> At X W φ s ρ →
 ∀ Q : Value -> Shared -> Prop, (∀ e s', Raz X outer cN e s' -> E (.ref e) s') -> wpAny X.C.M X.A (eval x X.env) Q E s
end
structure SR (G : Gl) (d : Nat) (fi : FI) (cN : Addr) where
 xs : List Stmt
 ex : St -> Option (Unit × St)
 eo : Ok ex fun ρ _ _ => RzS G d fi cN xs ρ
structure TE (G : Gl) (d : Nat) (fi : FI) (cN : Addr) where
 x : Expr
 ex : St -> Option (Unit × St)
 eo : Ok ex fun ρ _ _ => RzE G d fi cN x ρ
section
variable {G : Gl} {d : Nat} {fi : FI} {cN : Addr}
noncomputable def zCons (a : SS G d fi) (b : SR G d fi cN) : SR G d fi cN := ⟨a.x :: b.xs, fun σ => bd (a.ex σ) fun fl σ => nextO fl (b.ex σ),
 a.eo.bd (R := fun f ρ _ _ => f = .next /\ RzS G d fi cN b.xs ρ) (fun f => by
  cases f with
  | next => exact b.eo.mono fun J J J h => ⟨rfl, h⟩
  | ret o => exact .none fun J => rfl) fun ρ f ρ₁ _ _ h q X E W φ s outer e c S Z F Q k => by
  obtain ⟨rfl, q⟩ := q
  exact wpAny_execs_cons (h X E W φ s e c S F _ fun f' W' φ' s' A B C => by cases C; exact q X E W' φ' s' outer e c S Z A Q k)⟩
noncomputable def zIf (f : Bool) (c : T G d fi) (a : SR G d fi cN) (b rest : List Stmt) (p : Pos) : SR G d fi cN := ⟨.If c.x a.xs b p :: rest, fun σ => bd (c.tr σ) fun t σ => bd (dec f t σ) fun t σ => Bool.casesOn t none (a.ex σ),
 c.to.bd (R := fun t ρ _ _ => t = true /\ RzS G d fi cN a.xs ρ) (fun t => (Ok.dec f t).bd (R := fun t ρ _ _ => t = true /\ RzS G d fi cN a.xs ρ) (fun t => by
  cases t
  ·exact .none fun J => rfl
  ·exact a.eo.mono fun J J J h => ⟨rfl, h⟩) fun J t J J J h q => by obtain ⟨rfl, rfl⟩ := h; exact q) fun _ t _ _ _ h q X E W φ s outer e c S Z F Q k => by
  obtain ⟨rfl, q⟩ := q
  exact wpAny_execs_cons (wpAny_If (h X E W φ s e S F _ fun W' φ' s' p' => q X E W' φ' s' outer e c S Z p'.f _ k))⟩
noncomputable def zOf (a : SE G d fi cN) : SR G d fi cN := ⟨a.xs, a.ex, a.eo.mono fun _ _ _ h X E W φ s outer e c S Z F Q k => h X E W φ s outer e c S Z F Q fun ee s' m => k ee s' (.inl m)⟩
noncomputable def zExpr (a : TE G d fi cN) (p : Pos) (rest : List Stmt) (hc : isComp a.x = false) : SR G d fi cN := ⟨.Expr a.x p :: rest, a.ex, a.eo.mono fun _ _ _ h X E W φ s outer e c S Z F Q k =>
 wpAny_execs_cons (wpAny_Expr_any (h X E W φ s outer e c S Z F _ k) (by unfold interactive; rw [S.fn]; rfl) (noSwap hc _ _ _))⟩
noncomputable def zAsg (x : Str) (a : TE G d fi cN) (p' p : Pos) (rest : List Stmt) (hc : isComp a.x = false) : SR G d fi cN := ⟨.Assign [.Name x p'] a.x p :: rest, a.ex, a.eo.mono fun _ _ _ h X E W φ s outer e c S Z F Q k =>
 wpAny_execs_cons (wpAny_Assign_Name (h X E W φ s outer e c S Z F _ k) (noSwap hc _ _ _))⟩
noncomputable def turnR (c : T G d fi) (b : SR G d fi cN) (f : Bool) (σ : St) : Option (Unit × St) := bd (c.tr σ) fun t σ => bd (dec f t σ) fun t σ => Bool.casesOn t none (b.ex σ)
theorem turnR_ok (c : T G d fi) (b : SR G d fi cN) (f : Bool) : Ok (turnR c b f) fun ρ _ _ => WhErr G d fi cN c.x b.xs ρ :=
 c.to.bd (R := fun t ρ _ _ => t = true /\ RzS G d fi cN b.xs ρ) (fun t => (Ok.dec f t).bd (R := fun t ρ _ _ => t = true /\ RzS G d fi cN b.xs ρ) (fun t => by
  cases t
  ·exact .none fun J => rfl
  ·exact b.eo.mono fun J J J h => ⟨rfl, h⟩) fun J t J J J h q => by obtain ⟨rfl, rfl⟩ := h; exact q) fun _ t _ _ _ h q X W φ s outer e cm S Z F R k => by
  obtain ⟨rfl, q⟩ := q
  exact code_while (h X _ W φ s e S F _ fun W' φ' s' p' => q X _ W' φ' s' outer e cm S Z p'.f _ fun ee s2 m => note_raz Z m fun s3 hh => k ee s3 hh)
theorem whz_now {c : T G d fi} {ρ ρ' : Loc} {tp : List Tk} {P : Prop} (b : SR G d fi cN) (f : Bool) (e : out (turnR c b f ⟨ρ, tp, []⟩) = some ((), ρ', [])) (o : All (obs (turnR c b f ⟨ρ, tp, []⟩)) = P) (p : P) : WhErr G d fi cN c.x b.xs ρ :=
 (turnR_ok c b f).run e o p
noncomputable def zWhil (c : T G d fi) (b : List Stmt) (p : Pos) (rest : List Stmt) : SR G d fi cN := ⟨.While c.x b [] p :: rest, fun σ => some ((), ⟨σ.ρ, σ.tp, WhErr G d fi cN c.x b σ.ρ :: σ.ob⟩), by
 intro σ a σ' e q
 cases e
 exact ⟨q.2, fun X E W φ s outer e cm S Z F Q k => wpAny_execs_cons (wpAny_While (q.1 X W φ s outer e cm S Z F _ fun ee s' m => came_held Z m fun s2 m2 => k ee s2 (.inr (.inr m2))))⟩⟩
theorem rcallz_of {a : Addr} {f : FD} {args : List V} {n : Nat} (hf : G.fd.lookup a = some f) (hn : args.length = f.ps.length) (h : RzS G d f.fi cN f.st (loc0 args n)) : RCall G (d + 1) cN a args := by
 intro C A W s vals R outer g hh hdp hun hkeep hgens htk hos wf r hfr hl k
 refine call_gen (n := n) hf hn g hh hdp hun hkeep hgens (htk f hf) hos wf r fun env s₁ e1 e2 S F => ?_
 have Z : FX ⟨C, A.deeper env, env, f.fi, s.heap.get?, W, true, fun J => none⟩ outer := .of hkeep e1 e2 hfr hl
 refine h ⟨C, A.deeper env, env, f.fi, s.heap.get?, W, true, fun J => none⟩ _ W _ s₁ outer rfl rfl S Z F _ fun e s' m => ?_
 exact leave_raz Z m fun s2 a0 x1 x2 x3 x4 x5 => k e s2 ⟨⟨a0, x1⟩, x2, x3, x4⟩ x5
theorem rcallz_go {a : Addr} {f : FD} {args : List V} {n : Nat} {tp : List Tk} {ρ' : Loc} {P : Prop} (B : SR G d f.fi cN) (hf : G.fd.lookup a = some f) (hB : B.xs = f.st) (hn : args.length = f.ps.length)
  (e : out (B.ex ⟨loc0 args n, tp, []⟩) = some ((), ρ', [])) (ob : All (obs (B.ex ⟨loc0 args n, tp, []⟩)) = P) (p : P) : RCall G (d + 1) cN a args :=
 rcallz_of hf hn (hB ▸ B.eo.run e ob p)
end
end Mine
end
section
namespace Mine
open PySem.W (Frag kitOne keepIn Looks lookIn)
section
variable {G : Gl} {d : Nat} {fi : FI} {cN : Addr}
noncomputable def owe {σ₀ : Type} (P : σ₀ -> Prop) (a : σ₀) (σ : St) : Option (Unit × St) := some ((), ⟨σ.ρ, σ.tp, P a :: σ.ob⟩)
noncomputable def tCall (x : Str) (a : Addr) (r : Rw G d fi) (p' p : Pos) (h : (fi.isGlob x && (G.fn.lookup x == some a) && tkOk G fi.pos a) = true) : TE G d fi cN := ⟨.Call (.Name x p') r.xs [] p, fun σ => bd (r.ev σ) (owe (RCall G d cN a)),
 r.eo.bd (R := fun vs ρ _ _ => RCall G d cN a vs) (fun vs σ u σ' e q => by cases e; exact ⟨q.2, q.1⟩) fun _ vs _ _ _ hs q X E W φ s outer e c S Z F Q k => by
  rw [Bool.and_eq_true, Bool.and_eq_true, beq_iff_eq] at h
  obtain ⟨g1, g2⟩ := S.g.fn x a h.1.2
  refine PyProof.Rows.Call_ (glob_ok S F (e ▸ h.1.1) g1 ?_)
  rw [r.back]
  refine callW (K := X.C.K) (fun h hX => PySem.W.keeps_K g2 h hX) (hs.2 X E W φ s e S F _ fun vs' W' φ' s' p' r' => ⟨p'.f.In S, wpAny_call ?_⟩)
  refine q X.C X.A W' s' _ _ _ S.g (S.hd.mono p'.f.f.pin) (by have := S.dp; lia) (by have := S.un; lia) (p'.f.keep S) p'.f.gens (fun f hf hp => p'.f.tk (e ▸ tkOk_of h.2 hf hp)) p'.f.os p'.f.f.wf r' Z.fr (Z.frames S p'.f) fun ee s2 m hck => ?_
  obtain ⟨fl, up, hg, ho⟩ := m
  exact k ee s2 (.inr (.inl ⟨fl, fun b o hb hn => up b o (p'.f.f.pin b o hb) hn, hg, ho, hck⟩))⟩
end
end Mine
end
section
namespace Mine
open PySem.W (Frag kitOne keepIn Looks lookIn)
noncomputable def hcut (h : Heap) (D : List Addr) : Heap := ⟨h.objs.mapIdx fun i o => if i ∈ D then { o with data := .freed } else o, h.life⟩
theorem hcut_in {h : Heap} {D : List Addr} {a : Addr} (q : a ∈ D) : (hcut h D).get? a = none := by
 unfold Heap.get? hcut
 simp only [Array.getElem?_mapIdx]
 cases h.objs[a]? <;> simp [q]
theorem hcut_out {h : Heap} {D : List Addr} {a : Addr} (q : a ∉ D) : (hcut h D).get? a = h.get? a := by
 unfold Heap.get? hcut
 simp only [Array.getElem?_mapIdx]
 cases h.objs[a]? <;> simp [q]
theorem hcut_le {h : Heap} {D : List Addr} {a : Addr} {o : Obj} (e : (hcut h D).get? a = some o) : a ∉ D /\ h.get? a = some o := by
 by_cases q : a ∈ D
 ·rw [hcut_in q] at e; cases e
 ·rw [hcut_out q] at e; exact ⟨q, e⟩
theorem funs_base {h base base' : Heap} : ∀ {l : List Env}, h.FunFrames base l -> (∀ L, L ∈ l.filterMap (·.frame) -> base'.get? L = none) -> h.FunFrames base' l
 | [], _, _ => trivial
 | v :: l, hl, k => by
  obtain ⟨hk, ⟨L, o, hf, hn, ho, hd⟩, hr⟩ := hl
  have hm : ∀ M, M ∈ (v :: l).filterMap (·.frame) ↔ M = L \/ M ∈ l.filterMap (·.frame) := fun M => by rw [List.filterMap_cons, hf]; exact List.mem_cons
  exact ⟨hk, ⟨L, o, hf, k L ((hm L).mpr (.inl rfl)), ho, hd⟩, funs_base hr fun M q => k M ((hm M).mpr (.inr q))⟩
def MoUp (G : Gl) : Prop := ∀ (C : Cx) (B : Heap), G.mo C -> (∀ b o, C.h.get? b = some o -> B.get? b = some o) -> G.mo { C with h := B }
theorem GOk.more {G : Gl} {C : Cx} (g : GOk G C) {B : Heap} (k : ∀ b o, C.h.get? b = some o -> B.get? b = some o) (hm : MoUp G) : GOk G { C with h := B } where
 X := g.X.keeps k
 g := g.g.keeps k
 b := g.b.keeps k
 bi := g.bi
 nolimit := g.nolimit.keeps k
 isi := g.isi
 bn := g.bn
 fn := g.fn
 fd := fun a f q => let ⟨o, fd, x⟩ := g.fd a f q; ⟨o, fd, k _ _ x.at_, x.dat, x.body, x.clo, x.gl, x.bi, x.co, x.gen, x.kind, x.rec_.keeps k, x.bind, x.nodup, x.names, x.own, x.free, x.at0, x.inj⟩
 mo := hm C B g.mo k
 w := g.w
 cl := fun x t a q => let c := g.cl x t a q; ⟨c.g, c.keep, c.chk, c.nd, c.few, c.no, c.yes⟩
 me := fun c x a q => let m := g.me c x a q; ⟨m.find, m.ty, m.keep⟩
theorem ExObj.more {h B : Heap} {c : Addr} (x : ExObj h c) (k : ∀ b o, h.get? b = some o -> B.get? b = some o) : ExObj B c := by
 obtain ⟨nm, q, N, bs, bm, hdct, sn, sub, ab, col, dd, k0, k1, k2, k3, k5, newId, Bn, inN, bmN, mN, f1, f2, f3, f4, f5, f6⟩ := x
 exact ⟨nm, q, N, bs, bm, hdct, sn, sub, ab, col, dd, k0, k1, k2, k3, k5, newId, Bn, inN, bmN, mN, f1, f2, k _ _ f3, f4.keeps k, f5, f6.keeps k⟩
structure FZ (X : FC) (outer : List Env) : Prop extends FX X outer where
 ow : ∀ L, L ∈ outer.filterMap (·.frame) -> ¬ X.W0 L
 wb : ∀ a, X.W0 a -> ∃ o, X.C.h.get? a = some o
structure EndC (X : FC) (outer : List Env) (W' : WS) (s' : Shared) : Prop where
 k : ∀ b o, X.C.h.get? b = some o -> s'.heap.get? b = some o
 up : ∀ L, L ∈ outer.filterMap (·.frame) -> ∀ o, X.pin L = some o -> ∃ sl, s'.heap.get? L = some { o with slots := sl }
 w : ∀ a, X.W0 a -> W' a
 wf : ∀ a, W' a -> ∃ o, s'.heap.get? a = some o
 nw : ∀ a o, X.pin a = some o -> W' a -> X.W0 a
 gens : s'.gens = #[]
 os : s'.os = X.C.os
structure GsC (C : Cx) (outer : List Env) (W : WS) (s : Shared) (W' : WS) (s' : Shared) : Prop where
 k : ∀ b o, C.h.get? b = some o -> s'.heap.get? b = some o
 up : ∀ L, L ∈ outer.filterMap (·.frame) -> ∀ o, s.heap.get? L = some o -> ∃ sl, s'.heap.get? L = some { o with slots := sl }
 w : ∀ a, W a -> W' a
 wf : ∀ a, W' a -> ∃ o, s'.heap.get? a = some o
 nw : ∀ a o, s.heap.get? a = some o -> W' a -> W a
 gens : s'.gens = #[]
 os : s'.os = C.os
 tk : s.toks <= s'.toks
section
variable (G : Gl) (d : Nat) (fi : FI)
def ExsC (xs : List Stmt) (ρ : Loc) (v : V) : Prop := ∀ (X : FC) (E : Value -> Shared -> Prop) (W : WS) (φ : Nat -> List Addr) (s : Shared) (outer : List Env), X.fi = fi -> X.cm = true -> FS G d X -> FZ X outer -> (∀ a, X.W0 a -> W a) -> At X W φ s ρ →
 ∀ Q : Flow -> Shared -> Prop, (∀ v' W' s', EndC X outer W' s' -> VR W' s'.heap v v' -> Q (.ret v') s') -> wpAny X.C.M X.A (execs xs X.env) Q E s
def CCall (a : Addr) (args : List V) (v : V) : Prop := ∀ (C : Cx) (A : Around) (W : WS) (s : Shared) (vals : List Value) (R : Result -> Shared -> Prop) (outer : List Env), GOk G C -> HdG G A C.h.get? -> A.depth + 2 * d + 9 <= recursionLimit -> A.units + 20 * d + deep + 90 < cLine →
 (∀ b o, C.h.get? b = some o -> s.heap.get? b = some o) -> s.gens = #[] -> (∀ f, G.fd.lookup a = some f -> f.fi.pos = true -> 0 < s.toks) -> s.os = C.os -> (∀ a, W a -> ∃ o, C.h.get? a = some o) -> VRs W s.heap args vals -> A.frames = some outer -> s.heap.FunFrames C.h outer -> (∀ L, L ∈ outer.filterMap (·.frame) -> ¬ W L) →
 (∀ v' W' s', GsC C outer W s W' s' -> VR W' s'.heap v v' -> R (.ok (.ret v')) s') -> codeAny C.M A (.call (.ref a) ⟨vals, []⟩) R s
end
section
variable {G : Gl} {d : Nat} {fi : FI}
theorem exc_end {xs : List Stmt} {ρ ρ' : Loc} {v : V} (h : ExsG G d fi xs ρ (.ret (.val v)) ρ') : ExsC G d fi xs ρ v := by
 intro X E W φ s outer e c S Z w0 F Q k
 refine h X E W φ s e c S F Q fun f' W' φ' s' A B C => ?_
 obtain ⟨v', rfl, p, r, _⟩ := C
 exact k v' W' s' ⟨A.keep S, fun L q o ho => ⟨o.slots, A.f.pin L o ho⟩, fun a q => B.w a (w0 a q), A.f.wf, A.f.w0, A.gens, A.os⟩ r.2
theorem exc_go {a : SS G d fi} {ρ ρ1 : Loc} {xs : List Stmt} {v : V} {tp : List Tk} {P : Prop} (e : out (a.ex ⟨ρ, tp, []⟩) = some (.next, ρ1, [])) (o : All (obs (a.ex ⟨ρ, tp, []⟩)) = P) (p : P) (h : ExsC G d fi xs ρ1 v) : ExsC G d fi (a.x :: xs) ρ v :=
 fun X E W φ s outer ef c S Z w0 F Q k => wpAny_execs_cons ((a.eo.run e o p) X E W φ s ef c S F _ fun f' W' φ' s' A B C => by
  cases C; exact h X E W' φ' s' outer ef c S Z (fun b q => B.w b (w0 b q)) A Q k)
theorem ccall_of {a : Addr} {f : FD} {args : List V} {n : Nat} {v : V} (hf : G.fd.lookup a = some f) (hn : args.length = f.ps.length) (h : ExsC G d f.fi f.st (loc0 args n) v) : CCall G (d + 1) a args v := by
 intro C A W s vals R outer g hh hdp hun hkeep hgens htk hos wb r hfr hl hw k
 refine codeAny_with_toks (Nat.le_refl _) ?_
 refine call_gen (n := n) hf hn g (hh.mono hkeep) hdp hun hkeep hgens (htk f hf) hos (fun a q => let ⟨o, z⟩ := wb a q; ⟨o, hkeep _ _ z⟩) r fun env s₁ e1 e2 S F => ?_
 have Z : FX ⟨C, A.deeper env, env, f.fi, s.heap.get?, W, true, fun J => none⟩ outer := .of hkeep e1 e2 hfr hl
 refine h ⟨C, A.deeper env, env, f.fi, s.heap.get?, W, true, fun J => none⟩ _ W _ s₁ outer rfl rfl S ⟨Z, hw, wb⟩ (fun J q => q) F _ fun v' W' s' n r' => ?_
 intro tle
 exact k v' W' s' ⟨n.k, n.up, n.w, n.wf, n.nw, n.gens, n.os, tle⟩ r'
theorem ccall_ok {a : Addr} {args : List V} {v : V} (h : CallOK G d a args (.val v)) : CCall G d a args v := by
 intro C A W s vals R outer g hh hdp hun hkeep hgens htk hos wb r hfr hl hw k
 refine h C A W s vals R g (hh.mono hkeep) hdp hun hkeep hgens htk hos (fun a q => let ⟨o, z⟩ := wb a q; ⟨o, hkeep _ _ z⟩) r fun v' W' s' gs rn => ?_
 exact k v' W' s' ⟨fun b o q => gs.g.k b o (hkeep b o q), fun L q o ho => ⟨o.slots, gs.g.k _ _ ho⟩, gs.g.w, gs.g.wf, gs.g.nw, gs.gens.trans hgens, gs.os.trans hos, gs.tk⟩ rn
open Classical in
noncomputable def FC.repin (X : FC) (outer : List Env) (h : Heap) : FC := { X with pin := fun a => if a ∈ outer.filterMap (·.frame) then h.get? a else X.pin a }
section
variable {X : FC} {W W' : WS} {φ : Nat -> List Addr} {s s' : Shared} {ρ : Loc} {outer : List Env}
theorem repin_in {h : Heap} {a : Addr} (q : a ∈ outer.filterMap (·.frame)) : (X.repin outer h).pin a = h.get? a := if_pos q
theorem repin_out {h : Heap} {a : Addr} (q : a ∉ outer.filterMap (·.frame)) : (X.repin outer h).pin a = X.pin a := if_neg q
theorem FX.mut (Z : FX X outer) (F : F0 X W φ s.heap) {a : Addr} (m : Mut X φ a) : a ∉ outer.filterMap (·.frame) := fun q => by
 obtain ⟨o, z, _⟩ := Z.op a q
 have := (F.mu a m).1
 rw [z] at this; cases this
theorem FZ.nW (Z : FZ X outer) (F : F0 X W φ s.heap) {a : Addr} (q : a ∈ outer.filterMap (·.frame)) : ¬ W a := fun w => by
 obtain ⟨o, z, _⟩ := Z.op a q
 exact Z.ow a q (F.w0 a o z w)
theorem At.slots (S : FS G d X) (Z : FZ X outer) (cm : X.cm = true) (F : At X W φ s ρ) (k : ∀ b o, b ∉ (X.env :: outer).filterMap (·.frame) -> s.heap.get? b = some o -> s'.heap.get? b = some o)
  (up : ∀ L, L ∈ (X.env :: outer).filterMap (·.frame) -> ∀ o, s.heap.get? L = some o -> ∃ sl, s'.heap.get? L = some { o with slots := sl })
  (w : ∀ a, W a -> W' a) (wf : ∀ a, W' a -> ∃ o, s'.heap.get? a = some o) (nw : ∀ a o, s.heap.get? a = some o -> W' a -> W a) (hg : s'.gens = #[]) (ho : s'.os = X.C.os) (ht : s.toks <= s'.toks) :
  At (X.repin outer s'.heap) W' φ s' ρ /\ FS G d (X.repin outer s'.heap) /\ FZ (X.repin outer s'.heap) outer := by
 have mem : ∀ a, a ∈ (X.env :: outer).filterMap (·.frame) ↔ a = X.env.locals \/ a ∈ outer.filterMap (·.frame) := fun a => by rw [List.filterMap_cons, Z.me]; exact List.mem_cons
 have upo : ∀ L, L ∈ outer.filterMap (·.frame) -> ∃ o sl, X.pin L = some o /\ (∀ vs, o.data ≠ .fields vs) /\ s.heap.get? L = some o /\ s'.heap.get? L = some { o with slots := sl } := fun L q => by
  obtain ⟨o, z, nf⟩ := Z.op L q
  obtain ⟨sl, z2⟩ := up L ((mem L).mpr (.inr q)) o (F.f.pin L o z)
  exact ⟨o, sl, z, nf, F.f.pin L o z, z2⟩
 have mloc : X.env.locals ∉ outer.filterMap (·.frame) := Z.mut F.f (.inl rfl)
 have pinned : ∀ a o, X.pin a = some o -> a ≠ X.env.locals := fun a o e z => by have := (F.f.mu _ (.inl rfl)).1; rw [<- z, e] at this; cases this
 have kw : ∀ a, W a -> s'.heap.get? a = s.heap.get? a := fun a q => by
  obtain ⟨o, z⟩ := F.f.wf a q
  rw [z]
  exact k a o (fun m => ((mem a).mp m).elim (fun m => (F.f.mu _ (.inl rfl)).2 (m ▸ q)) fun m => Z.nW F.f m q) z
 have ag : Ag W s.heap W' s'.heap := ⟨w, kw⟩
 have kc : ∀ x c o v, X.env.cells.lookup x = some c -> s.heap.get? c = some o -> o.data = .cell v -> s'.heap.get? c = some o := fun x c o v hc e hd => k c o (fun m => ((mem c).mp m).elim (fun m => by
   obtain ⟨o2, es, ep, e2, hd2, _⟩ := F.f.ns
   rw [<- m, e] at e2; cases e2; rw [hd] at hd2; cases hd2) fun m => Z.mut F.f (.inr (.inl ⟨cm, x, hc⟩)) m) e
 have kl : ∀ m, s.heap.Ns X.env.locals m -> s'.heap.Ns X.env.locals m := fun m ⟨o, es, ep, e, hd, r⟩ => by
  obtain ⟨sl, z⟩ := up _ ((mem _).mpr (.inl rfl)) o e
  exact ⟨_, es, ep, z, hd, r⟩
 have val : ∀ x v, Val X.env s.heap x v -> Val X.env s'.heap x v := fun x v r => by
  obtain ⟨q, m, hn, hm⟩ | ⟨q, c, hc, o, e, z⟩ := r
  ·exact .inl ⟨q, m, kl m hn, hm⟩
  ·exact .inr ⟨q, c, hc, o, kc x c o _ hc e z, z⟩
 have kp : ∀ i a o, a ∈ φ i -> s.heap.get? a = some o -> s'.heap.get? a = some o := fun i a o q e => k a o (fun m => ((mem a).mp m).elim (fun m => by obtain ⟨_, _, _, n⟩ := F.ow i a q; exact n m) fun m => Z.mut F.f (.inr (.inr ⟨i, q⟩)) m) e
 have hb : ∀ a o, X.C.h.get? a = some o -> a ∉ outer.filterMap (·.frame) := fun a o e q => by
  have := ((Z.out s.heap F.f.pin).mem q).1
  rw [e] at this; cases this
 refine ⟨⟨hg, ho, ⟨fun a o e => ?_, fun a m => ?_, wf, fun a o e q => ?_, F.f.dis, ?_, fun x c hc => ?_⟩, fun x i hx o hr hk => ?_, fun i a q => ?_, fun h => Nat.lt_of_lt_of_le (F.tk h) ht, fun x v e => val x v (F.kv x v e)⟩, ?_, ?_⟩
 ·by_cases q : a ∈ outer.filterMap (·.frame)
  ·rw [repin_in q] at e; exact e
  ·rw [repin_out q] at e
   exact k a o (fun m => ((mem a).mp m).elim (pinned a o e) q) (F.f.pin a o e)
 ·have m : Mut X φ a := m
  refine ⟨(repin_out (Z.mut F.f m)).trans (F.f.mu a m).1, fun q => (F.f.mu a m).2 ?_⟩
  rcases m with m | ⟨_, x, m⟩ | ⟨i, m⟩
  ·obtain ⟨o, _, _, e, _⟩ := F.f.ns; exact nw a o (m ▸ e) q
  ·obtain ⟨o, _, e, _⟩ := F.f.cells x a m; exact nw a o e q
  ·obtain ⟨o, e, _⟩ := F.ow i a m; exact nw a o e q
 ·by_cases z : a ∈ outer.filterMap (·.frame)
  ·obtain ⟨o2, sl, z1, _, z2, _⟩ := upo a z
   exact F.f.w0 a o2 z1 (nw a o2 z2 q)
  ·rw [repin_out z] at e
   exact F.f.w0 a o e (nw a o (F.f.pin a o e) q)
 ·obtain ⟨o, es, ep, e, hd, hs⟩ := F.f.ns
  obtain ⟨sl, z⟩ := up _ ((mem _).mpr (.inl rfl)) o e
  exact ⟨_, es, ep, z, hd, hs⟩
 ·obtain ⟨o, v, e, hd⟩ := F.f.cells x c hc
  exact ⟨o, v, kc x c o v hc e hd, hd⟩
 ·obtain ⟨v', a, b⟩ := F.lr x i hx o hr hk
  exact ⟨v', val x v' a, b.ag ag fun a q => by obtain ⟨o2, e, _⟩ := F.ow i a q; exact (kp i a o2 q e).trans e.symm⟩
 ·obtain ⟨o, e, n⟩ := F.ow i a q; exact ⟨o, kp i a o q e, n⟩
 ·exact ⟨S.g, fun a o e => (repin_out (hb a o e)).trans (S.base a o e), S.hd.monoF fun a o vs q hf => (repin_out fun z => by obtain ⟨o2, z2, nf⟩ := Z.op a z; rw [q] at z2; cases z2; exact nf vs hf).trans q, S.dp, S.un, S.fn, S.gl, S.bi, S.nm, S.cel, S.inj, S.ti, S.kv⟩
 ·refine ⟨⟨Z.fr, Z.me, Z.nw, fun h hp => funs_on (Z.out s.heap F.f.pin) fun L q o e => ?_, fun L q => ?_⟩, Z.ow, Z.wb⟩
  ·obtain ⟨o2, sl, z1, _, z2, z3⟩ := upo L q
   rw [e] at z2; cases z2
   exact ⟨_, hp L _ ((repin_in q).trans z3), rfl⟩
  ·obtain ⟨o2, sl, z1, nf, z2, z3⟩ := upo L q
   exact ⟨_, (repin_in q).trans z3, nf⟩
theorem EndC.back {W'' : WS} {s'' : Shared} (Z : FZ X outer) (F : At X W φ s ρ) (up : ∀ L, L ∈ outer.filterMap (·.frame) -> ∀ o, s.heap.get? L = some o -> ∃ sl, s'.heap.get? L = some { o with slots := sl })
  (n : EndC (X.repin outer s'.heap) outer W'' s'') : EndC X outer W'' s'' where
 k := n.k
 up := fun L q o e => by
  obtain ⟨sl, z⟩ := up L q o (F.f.pin L o e)
  obtain ⟨sl2, z2⟩ := n.up L q _ ((repin_in q).trans z)
  exact ⟨sl2, z2⟩
 w := n.w
 wf := n.wf
 nw := fun a o e q => by
  by_cases z : a ∈ outer.filterMap (·.frame)
  ·obtain ⟨sl, z2⟩ := up a z o (F.f.pin a o e)
   exact n.nw a _ ((repin_in z).trans z2) q
  ·exact n.nw a o ((repin_out z).trans e) q
 gens := n.gens
 os := n.os
end
end
end Mine
end
section
namespace Mine
open PySem.W (Frag kitOne keepIn Looks lookIn exmOne exm_one)
section
variable {G : Gl} {d : Nat} {fi : FI}
end
end Mine
end
section
namespace Mine
open PySem.W (Frag kitOne keepIn Looks lookIn exmOne exm_one)
section
variable {G : Gl} {d : Nat} {fi : FI} {X : FC} {outer : List Env} {cN e : Addr} {s : Shared} {E : Value -> Shared -> Prop}
theorem glob_any {x : Str} {p : Pos} {v : Value} {A : Around} {Q : Value -> Shared -> Prop} (S : FS G d X) (hx : X.fi.isGlob x = true) (hv : X.C.mg x = some v) (hk : ∀ b o, X.C.h.get? b = some o -> s.heap.get? b = some o) (h : Q v s) : wpAny X.C.M A (eval (.Name x p) X.env) Q E s := by
 simp only [FI.isGlob, Bool.and_eq_true, beq_iff_eq, bne_iff_ne, ne_eq] at hx
 exact PySem.Calls.Name_function_global S.fn ((S.kind x).trans hx.1) (PySem.Calls.loadGlobal_global (mg := X.C.mg) (by rw [S.gl]; exact S.g.g.keeps hk) hv h) (by simpa using hx.2)
end
end Mine
end
section
open PySem PySem.W
namespace Mine
theorem joinC {l : OpenLaw} {q : Program} {loose : List Str} {XP : (Str -> Option Value) -> Heap -> Prop} {K : Params -> Frag} {as' : List Addr} {e' : ∀ P, as' = (K P).map (·.1)} {d : DefRec} {kwd : List (Str × Expr)} (G : World -> Gl) (a : Addr) (dep : Nat)
  (hm : l.most = some 63) (hb : l.bound = none) (hgw : ∀ w, (G w).w = w) (hname : ∀ w, (G w).fn.lookup d.name = some a) (hdep : dep <= 100) (hpos : ∀ w, tkOk (G w) false a = true := by exact fun J => rfl)
  (chk : ∀ w P, GChk (G w) (K P)) (mo : ∀ (w : World) (P : Params) (C : Cx), C.K = K P -> C.w.params = P -> C.K.In C.h -> (∀ x, C.mg x = nsFind (topOf (K P)) x) -> (G w).mo C)
  (law : ∀ (w : World) (ns : List Int), ns.length <= 63 -> CCall (G w) dep a [.lst (ns.map .int)] (.bool true)) :
  WalkO q loose XP (kHook K as' e').says l.row.toRowW d kwd fun f vs => PySem.call f vs := by
 intro w s₀ s₁ mg mb G' Y fa o pm cd doc dV kV ho hd hcd hD hmg hg args vals as hpre hlay hrd hwl hlo
 have KX := kIn_of Y
 obtain ⟨ns, rfl, hlen⟩ := law_args hm hb hpre
 cases hwl with | cons hw1 hw2 =>
 cases hw2
 cases hw1 with | @list b vs xs hob hitems =>
 let C : Cx := ⟨K w.params, s₁.heap, s₁.os, l.row.toRowW.prog, w, mg, mb⟩
 have g : GOk (G w) C := GChk.ok (C := C) (chk w w.params) KX G'.T.g G'.T.b G'.T.builtins G'.T.nolimit (mo w w.params C rfl rfl KX (top_of (K := K w.params) KX G'.T.g (chk w w.params).top)) (hgw w).symm
 have hfa : fa = a := by
  have z : some (Value.ref fa) = some (Value.ref a) := hmg.symm.trans (g.fn _ _ (hname w)).1
  cases z; rfl
 subst hfa
 have hz : (ns.map V.int).length <= sizeLine := by rw [List.length_map, sizeLine_eq]; lia
 have rv : VRs (fun x => x = b) s₁.heap [.lst (ns.map .int)] [.ref b] := .cons ⟨b, vs.toArray, 0, rfl, rfl, hob, hz, (List.toList_toArray (as := vs)).symm ▸ reads_ints hitems⟩ rfl
 refine wpAny_call (law w ns hlen C callerA _ s₁ [.ref b] _ [] g (.none rfl) (by show 1 + 300 + 2 * dep + 9 <= 1000; lia) (by show 4 + 20 * dep + 2000 + 90 < 9900; lia) (fun J J e => e) hg (fun f hf hp => nomatch tkOk_of (hpos w) hf hp) rfl (fun x q => ⟨_, q ▸ hob⟩) rv rfl trivial (fun L q => nomatch q) fun v' W' s' gc rv' => ?_)
 cases (show v' = .bool true from rv')
 refine GoodW.toG ⟨.inl ⟨.bool true, .bool true, [], rfl, ?_, .bool true, ?_, ?_⟩, gc.k, gc.os, gc.gens⟩
 ·intro cls; rfl
 ·show (WShape.has [] (.bool true) .bool && WTm.holds [] (.eq .res (.lit (.bool true))) { args := _, res := some (.bool true), after := _ }) = true
  kernel_rfl
 ·intro _; exact ⟨List.nodup_nil, fun a ha => by cases ha⟩
end Mine
end
section
namespace Mine
section
variable {G : Gl} {d : Nat} {fi : FI} {cN : Addr}
end
end Mine
end
section
namespace Mine
section
variable {G : Gl} {d : Nat} {fi : FI}
noncomputable def sExtT (x : Str) (i : Nat) (a : T G d fi) (xp ap cp p : Pos) (h : (fi.isVar x i && (ap.endLine == cp.line)) = true) : SS G d fi :=
 ⟨.Expr (.Call (.Attribute (.Name x xp) "extend" ap) [a.x] [] cp) p, fun σ => (ownAt σ.ρ i).bind fun J => bd (a.ev σ) fun y σ => y.frz.tup?.bind fun l => (ownAt σ.ρ i).bind fun r => some (.next, ⟨σ.ρ.set i (some (.own (l.reverse ++ r))), σ.tp, (l.length + r.length < room) :: σ.ob⟩), by
  intro σ f σ' e q
  obtain ⟨o0, e0, e⟩ := obi e
  obtain ⟨⟨y, σ₁⟩, e1, e⟩ := obi e
  obtain ⟨l, e3, e⟩ := obi e
  obtain ⟨r, e2, e⟩ := obi e
  rw [Bool.and_eq_true] at h
  cases e
  obtain ⟨q2, hk⟩ := a.eo σ y σ₁ e1 q.2
  refine ⟨q2, fun X E W φ s ef c S F Q k => wpAny_Expr_any (method_call rfl (fun z q => by cases List.mem_singleton.mp q; exact a.pl) h.2 rfl fun pl => load_ok S F (ef ▸ h.1) (ownAt_some e0) fun x' hx hn hv rr => ?_) (by unfold interactive; rw [S.fn]; rfl) rfl⟩
  obtain ⟨a0, _, rfl, vs0, n0, z0, _⟩ := rr
  refine getMethod_builtin (T := "list") ⟨_, z0, rfl⟩ PySem.F.plainAttrs_list PySem.F.slot_list_extend PySem.F.type_list_extend (fun a q => by cases q; exact ⟨_, z0, rfl⟩) ?_
  refine callW (K := X.C.K) (fun h J => keeper_builtin _ h _) (PySem.Calls.spliced_cons (hk.v X E W φ s ef S F _ fun y' W' φ' s' p' r' => PySem.Calls.spliced_nil ⟨p'.f.In S, ?_⟩))
  obtain ⟨ad, hp, ea, vs, n, h1, h2, h3⟩ := still p'.f hx hn (p'.vl _ _ hv) (ownAt_some e2)
  cases ea
  have hs := h2.size
  rw [List.length_reverse] at hs
  rw [V.tup_of e3] at r'
  obtain ⟨b, ws, m, rfl, _, g1, g2, g3⟩ := VR.tup r'
  have hs2 := g3.size
  have q1 : l.length + r.length < room := q.1
  have := room_le
  have hz : vs.size + ws.size <= sizeLine := by lia
  refine call_meets PySem.F.slot_list_extend ⟨_, h1, rfl⟩ PySem.F.entry_list_extend (PySem.F.args_list_extend_2 _ _) (AutoSeq1.list_extend_list_tuple_0 a0 vs n b ws m (PyProof.Rows.extend_door hz) (by lia)) ⟨h1, g1, ?_⟩
  obtain ⟨A, B⟩ := p'.f.turn (x := x) (i := i) (t := s'.toks) (r := l.reverse ++ r) (h' := s'.heap.update a0 (Obj.mapSeq (· ++ ws))) (fun z hz => S.ti z x i hz hx) hp (Heap.SameBut.update ..) (p'.vl _ _ hv) (Heap.get?_update_self _ h1 rfl)
   (by rw [Array.toList_append, List.reverse_append, List.reverse_reverse]; exact h2.append g3) (by rw [List.length_append, List.length_reverse]; lia)
  exact k _ _ _ _ A (p'.ag.trans B) rfl⟩
end
end Mine
end
section
namespace Mine
section
variable {G : Gl} {d : Nat} {fi : FI}
end
end Mine
end
section
namespace Mine
section
variable {G : Gl} {d : Nat} {fi : FI}
end
end Mine
end
section
namespace Mine
open PySem.W (Frag kitOne keepIn Looks lookIn exmOne exm_one)
noncomputable abbrev Gl.nh (G : Gl) : Gl := { G with hn := true }
def Wk (G G' : Gl) : Prop := ∀ d X, FS G' d X -> FS G d X
theorem GOk.off {G : Gl} {C : Cx} (g : GOk G.nh C) : GOk G C := ⟨g.X, g.g, g.b, g.bi, g.nolimit, g.isi, g.bn, g.fn, g.fd, g.mo, g.w, g.cl, g.me⟩
theorem wk_nh {G : Gl} (h : G.hn = false) : Wk G G.nh := fun d X S => ⟨S.g.off, S.base, ⟨S.hd.1, fun q => (by rw [h] at q; cases q)⟩, S.dp, S.un, S.fn, S.gl, S.bi, S.nm, S.cel, S.inj, S.ti, S.kv⟩
theorem wk_refl (G : Gl) : Wk G G := fun J J S => S
def EvC (G : Gl) (d : Nat) (fi : FI) (x : Expr) (ρ : Loc) (u : V) (ρ1 : Loc) : Prop := ∀ (X : FC) (E : Value -> Shared -> Prop) (W : WS) (φ : Nat -> List Addr) (s : Shared) (outer : List Env), X.fi = fi -> X.cm = true -> FS G d X -> FZ X outer -> (∀ a, X.W0 a -> W a) -> At X W φ s ρ →
 ∀ Q : Value -> Shared -> Prop, (∀ v' W2 φ2 s2 Y, Y.fi = fi -> Y.cm = true -> Y.env = X.env -> Y.A = X.A -> Y.C = X.C -> FS G d Y -> FZ Y outer -> (∀ a, Y.W0 a -> W2 a) -> At Y W2 φ2 s2 ρ1 -> (∀ W3 s4, EndC Y outer W3 s4 -> EndC X outer W3 s4) -> VR W2 s2.heap u v' -> Q v' s2) -> wpAny X.C.M X.A (eval x X.env) Q E s
section
variable {G G' : Gl} {d : Nat} {fi : FI} {ρ ρ1 : Loc} {u v : V}
theorem ev_cc (wk : Wk G G') {y : Str} {a : Addr} {r : Rw G d fi} {p2 p3 : Pos} {vs : List V} {tp : List Tk} {P : Prop} (mu : MoUp G') (h : (fi.isGlob y && (G'.fn.lookup y == some a) && tkOk G' fi.pos a) = true)
  (e : out (r.ev ⟨ρ, tp, []⟩) = some (vs, ρ1, [])) (o : All (obs (r.ev ⟨ρ, tp, []⟩)) = P) (p : P) (hc : CCall G' d a vs u) : EvC G' d fi (.Call (.Name y p2) r.xs [] p3) ρ u ρ1 := by
 intro X E W φ s outer ef c S Z w0 F Q k
 have hs := r.eo.run e o p
 rw [Bool.and_eq_true, Bool.and_eq_true, beq_iff_eq] at h
 obtain ⟨g1, g2⟩ := S.g.fn y a h.1.2
 refine PyProof.Rows.Call_ (glob_ok S F (ef ▸ h.1.1) g1 ?_)
 rw [r.back]
 refine callW (K := X.C.K) (fun h hX => PySem.W.keeps_K g2 h hX) (hs.2 X E W φ s ef (wk d X S) F _ fun vs' W' φ' s' p' r' => ⟨p'.f.In S, wpAny_call ?_⟩)
 have mem : ∀ b, b ∈ (X.env :: outer).filterMap (·.frame) ↔ b = X.env.locals \/ b ∈ outer.filterMap (·.frame) := fun b => by rw [List.filterMap_cons, Z.me]; exact List.mem_cons
 have fr := Z.toFX.frames S p'.f
 have nW : ∀ L, L ∈ (X.env :: outer).filterMap (·.frame) -> ¬ W' L := fun L q w => ((mem L).mp q).elim (fun z => (p'.f.f.mu _ (.inl rfl)).2 (z ▸ w)) fun z => Z.nW p'.f.f z w
 have kB : ∀ b o, X.C.h.get? b = some o -> (hcut s'.heap ((X.env :: outer).filterMap (·.frame))).get? b = some o := fun b o q => (hcut_out fun m => by have := (fr.mem m).1; rw [q] at this; cases this).trans (p'.f.keep S b o q)
 refine hc { X.C with h := hcut s'.heap ((X.env :: outer).filterMap (·.frame)) } X.A W' s' vs' _ (X.env :: outer) (S.g.more kB mu) (S.hd.monoF fun a o vs q hf => (hcut_out fun m => ((mem a).mp m).elim (fun z => by have := (p'.f.f.mu _ (.inl rfl)).1; rw [<- z, q] at this; cases this) fun z => by obtain ⟨o2, z2, nf⟩ := Z.op a z; rw [q] at z2; cases z2; exact nf vs hf).trans (p'.f.f.pin a o q)) (by have := S.dp; omega) (by have := S.un; omega) (fun b o q => (hcut_le q).2) p'.f.gens (fun f hf hp => p'.f.tk (ef ▸ tkOk_of h.2 hf hp)) p'.f.os
  (fun b q => let ⟨o, z⟩ := p'.f.f.wf b q; ⟨o, (hcut_out fun m => nW b m q).trans z⟩) r' Z.fr (funs_base fr fun L q => hcut_in q) nW fun v' W2 s2 gc rv => ?_
 obtain ⟨A2, S2, Z2⟩ := At.slots (s' := s2) (W' := W2) S Z c p'.f (fun b o q z => gc.k b o ((hcut_out q).trans z)) gc.up gc.w gc.wf gc.nw gc.gens gc.os gc.tk
 exact k v' W2 _ s2 (X.repin outer s2.heap) ef c rfl rfl rfl S2 Z2 (fun b q => gc.w b (p'.ag.w b (w0 b q))) A2 (fun W3 s4 n => n.back Z p'.f fun L q o z => gc.up L ((mem L).mpr (.inr q)) o z) rv
theorem exc_retC {x : Expr} {p : Pos} {xs : List Stmt} (h : EvC G d fi x ρ u ρ1) : ExsC G d fi (.Return (some x) p :: xs) ρ u :=
 fun X E W φ s outer ef c S Z w0 F Q k => wpAny_execs_cons (wpAny_Return_some (h X E W φ s outer ef c S Z w0 F _ fun v' W2 φ2 s2 Y _ _ _ _ _ SY ZY wY AY back rv =>
  k v' W2 s2 (back W2 s2 ⟨AY.keep SY, fun L q o ho => ⟨o.slots, AY.f.pin L o ho⟩, wY, AY.f.wf, AY.f.w0, AY.gens, AY.os⟩) rv))
theorem ev_bop (wk : Wk G G') {op : BoolOp} {b : T G d fi} {x : Expr} {p : Pos} {ρ2 : Loc} {o : O} {tp : List Tk} {P : Prop} (e : out (b.ev ⟨ρ, tp, []⟩) = some (o, ρ1, [])) (ob : All (obs (b.ev ⟨ρ, tp, []⟩)) = P) (q : P) (ht : truthB o = some (BoolOp.casesOn op true false)) (h : EvC G' d fi x ρ1 u ρ2) : EvC G' d fi (.BoolOp op [b.x, x] p) ρ u ρ2 := by
 intro X E W φ s outer ef c S Z w0 F Q k
 show wpAny _ _ (eval b.x X.env >>= fun v => standAt p >>= fun J => holding [v] (truthy v) >>= fun t => _) Q E s
 refine wpAny_bind ((b.eo.run e ob q) X E W φ s ef (wk d X S) F _ fun v' W' φ' s' p' r' => wpAny_bind (wpAny_standAt (wpAny_bind (wpAny_holding (truth_ok r'.br ht fun tk htk => ?_)))))
 have p1 : Pst X W s W' φ' { s' with toks := tk } _ := ⟨p'.f.toks tk htk, p'.ag, p'.vl⟩
 cases op
 ·exact h X E W' φ' _ outer ef c S Z (fun a q => p1.ag.w a (w0 a q)) p1.f Q k
 ·exact h X E W' φ' _ outer ef c S Z (fun a q => p1.ag.w a (w0 a q)) p1.f Q k
end
section
variable {G : Gl} {d : Nat} {fi : FI} {ρ ρ1 : Loc} {v : V}
end
end Mine
end
section
namespace Mine
open PySem.W (Frag kitOne keepIn Looks lookIn exmOne exm_one)
section
variable {G : Gl} {d : Nat} {fi : FI} {cN : Addr}
end
end Mine
end
section
open PySem PySem.W
namespace Mine
section
variable {prog : Program} {w : World} {A : Around} {E : Value -> Shared -> Prop} {s : Shared} {K : Frag} {x D : Addr} {ox : Obj}
theorem bexc_check {M : Model} {nameV : Value} {Q : Unit -> Shared -> Prop} (X : K.In s.heap) (I : InstAt s.heap x ox D none) (hb : subIn K (.ref D) (.type "BaseException") = some true) (hq : Q () s) : wpAny M A (checkBuiltinCall "BaseException.__getattribute__" ⟨[.ref x, nameV], []⟩) Q E s := by
 obtain ⟨hh, g, d, t, os⟩ := s
 have L0 := I.type (M := M)
 have L4 := looks_subIn (M := M) X hb
 have hk : builtinKind "BaseException.__getattribute__" = some .slot := by decide +kernel
 have hsplit : splitId "BaseException.__getattribute__" = some ("BaseException", "__getattribute__") := by decide +kernel
 have ha := F.args_bexc_ga (.ref x) nameV
 simp only [checkBuiltinCall, hk, hsplit]
 refine wpAny_bind ?_
 unfold isInstance
 refine wpAny_bind (L0.at (L4.at ?_))
 repeat (first | wp_step)
 exact hq
theorem exc_class {Q : Option Value -> Shared -> Prop} (X : K.In s.heap) (I : InstAt s.heap x ox D none) (hga : findIn K (.ref D) "__getattribute__" = some (some (.builtin "BaseException.__getattribute__"))) (hk : findIn K (.ref D) "__getattr__" = some none)
  (hm : mroIn K D (.type "object") = some true) (hb : subIn K (.ref D) (.type "BaseException") = some true) (hf : findObj K D none "__class__" = some (.bind (.builtin "getset_descriptor.__get__") (.builtin "object.__class__")))
  (h : Q (some (.ref D)) { s with toks := s.toks + 1 }) : wpAny (model prog w) A (getAttr? (.ref x) "__class__") Q E s := by
 obtain ⟨hh, g, d, t, os⟩ := s
 have L0 := I.type (M := model prog w)
 have L1 := looks_findIn (M := model prog w) X hga
 have L2 := looks_findIn (M := model prog w) X hk
 have L3 := looks_find (M := model prog w) X I hf
 have f3 := F.excAttr_ValueError.ga.bind (.ref x)
 have hx2 : (Value.builtin "BaseException.__getattribute__" == Value.builtin "object.__getattribute__") = false := by decide +kernel
 have hx1 : (onTheHeap (Value.ref D) && Value.builtin "BaseException.__getattribute__" == Value.builtin "object.__getattribute__") = false := by rw [hx2]; rfl
 unfold getAttr? getAttrBy? getAttrBy
 refine wpAny_bind (wpAny_mkText (wpAny_bind (wpAny_attempt (wpAny_holding (wpAny_bind (L0.at (wpAny_bind (L1.at ?_))))))))
 dsimp only
 rw [hx1, if_neg Bool.false_ne_true]
 unfold getAttrByItsOwn hookBefore
 rw [show onTheHeap (Value.ref D) = true from rfl, if_pos rfl]
 refine wpAny_bind (L2.at (wpAny_bind (wpAny_attempt (wpAny_holding ?_))))
 unfold callGetattribute
 rw [Bool.false_and, if_neg Bool.false_ne_true]
 unfold boundAndCalled
 rw [f3]
 refine wpAny_bind (wpAny_pure ?_)
 refine wpAny_call (codeAny_call_builtin F.excAttr_ValueError.ga.plain F.entry_bexc_ga (bexc_check X I hb ?_))
 refine wpAny_bind (m := slotArgs "__getattribute__" 1 ⟨[.ref x] ++ [.str "__class__" t], []⟩) (wpAny_pure (a := (Value.ref x, [Value.str "__class__" t])) ?_)
 refine wpAny_bind (m := Builtin.ObjectAttr.attrName (.str "__class__" t)) (wpAny_pure ?_)
 refine wpAny_bind (L0.at (wpAny_bind (L3.at ?_)))
 show wpAny _ _ (holding [.builtin "object.__class__"] (call (.builtin "getset_descriptor.__get__") [.builtin "object.__class__", .ref x, .ref D]) >>= ret) _ _ _
 refine wpAny_bind (wpAny_holding (wpAny_call (class_get (s := ⟨hh, g, d, t + 1, os⟩) (ox := ox) (od := none) X I hm (wpAny_pure ?_))))
 exact wpAny_pure (wpAny_pure h)
end
set_option tactic.hygienic true in
theorem kitx_exc {K : Frag} {x D : Addr} {ox : Obj} (hga : findIn K (.ref D) "__getattribute__" = some (some (.builtin "BaseException.__getattribute__"))) (hk : findIn K (.ref D) "__getattr__" = some none) (hc : isClsIn K D = true) (hm : mroIn K D (.type "object") = some true) (hb : subIn K (.ref D) (.type "BaseException") = some true)
  (hf : findObj K D none "__class__" = some (.bind (.builtin "getset_descriptor.__get__") (.builtin "object.__class__"))) : KitX K (.ref x) (.ref D) (fun h => InstAt h x ox D none) where
 ty := fun J J J I => I.type
 it := fun M h X J => by
  unfold isClsIn at hc
  obtain ⟨cdD, hcD⟩ := Option.isSome_iff_exists.mp hc
  unfold clsIn at hcD
  split at hcD
  ·rename_i c' d' cd' sl' ho
   intro A' Q' E' s' k q
   unfold isType loadHead
   exact wpAny_bind (wpAny_loadPart (k _ _ (X _ _ ho)) (wpAny_pure q))
  ·cases hcD
 ne := fun h tp dd its n sl X htp => by
  unfold isClsIn at hc
  obtain ⟨cdD, hcD⟩ := Option.isSome_iff_exists.mp hc
  refine Bool.eq_false_iff.mpr fun q => ?_
  have e : D = tp := Value.ref.inj (beq_iff_eq.mp q)
  subst e
  unfold clsIn at hcD
  split at hcD
  ·rename_i c' d' cd' sl' ho
   have z := (X _ _ ho).symm.trans htp
   cases z
  ·cases hcD
 ca := fun X I k => exc_class X I hga hk hm hb hf k
end Mine
end
section
open PySem PySem.W
namespace Mine
structure ExK (K : Frag) (D : Addr) : Prop where
 ga : findIn K (.ref D) "__getattribute__" = some (some (.builtin "BaseException.__getattribute__"))
 hk : findIn K (.ref D) "__getattr__" = some none
 hc : isClsIn K D = true
 hm : mroIn K D (.type "object") = some true
 hb : subIn K (.ref D) (.type "BaseException") = some true
 hf : findObj K D none "__class__" = some (.bind (.builtin "getset_descriptor.__get__") (.builtin "object.__class__"))
theorem ExcI.at {W : WS} {h : Heap} {c : Addr} {v' : Value} (r : ExcI W h c v') : ∃ a o, v' = .ref a /\ InstAt h a o c none := by
 obtain ⟨a, o, e, w, g, k, n, fs, f⟩ := r
 exact ⟨a, o, e, g, k, by unfold notCls; rw [f], by rw [n]; trivial⟩
abbrev nmE (ns : List (Str × Addr × Pos)) : List Expr := ns.map fun q => .Name q.1 q.2.2
abbrev nmV (ns : List (Str × Addr × Pos)) : List Value := ns.map fun q => .ref q.2.1
def NmG (G : Gl) (fi : FI) (ns : List (Str × Addr × Pos)) : Prop := ∀ q, q ∈ ns -> fi.isGlob q.1 = true /\ ∀ C, G.mo C -> C.mg q.1 = some (.ref q.2.1)
noncomputable def excB (tab : List (Addr × Bool)) (o : O) : Option Bool := O.casesOn o (fun v => V.casesOn v none (fun J => none) (fun J => none) (fun J => none) (fun J => none) (fun J => none) (fun J J => none) (fun J J J => none) (fun c => tab.lookup c)) (fun J => none) (fun J => none) (fun J J J => none) (fun J J J => none)
theorem excB_of {tab : List (Addr × Bool)} {o : O} {b : Bool} (e : excB tab o = some b) : ∃ c, o = .val (.exc c) /\ tab.lookup c = some b := by
 cases o with
 | val v =>
  cases v with
  | exc c => exact ⟨c, rfl, e⟩
  | _ => cases e
 | _ => cases e
section
variable {G : Gl} {d : Nat} {fi : FI} {X : FC} {W : WS} {φ : Nat -> List Addr} {s : Shared} {ρ : Loc} {E : Value -> Shared -> Prop}
theorem names_any {A : Around} {pos : Pos} (S : FS G d X) (hk : ∀ b o, X.C.h.get? b = some o -> s.heap.get? b = some o) : ∀ {ns : List (Str × Addr × Pos)} {Q : List Value -> Shared -> Prop}, NmG G X.fi ns -> Q (nmV ns) s -> wpAny X.C.M A (spliced (backTo pos (starEach (nmE ns) X.env))) Q E s
 | [], _, _, q => wpAny_items_nil q
 | (n, c, p) :: ns, _, h, q => wpAny_items_cons (e := .Name n p) (rest := nmE ns) (glob_any S (h _ List.mem_cons_self).1 ((h _ List.mem_cons_self).2 X.C S.g.mo) hk (names_any S hk (fun z hz => h z (List.mem_cons_of_mem _ hz)) q))
noncomputable def eIsE (nm : Str) (cv : Value) (tab : List (Addr × Bool)) (a : T G d fi) (p' p'' p : Pos) (h : isBi G fi "isinstance" = true) (hn : (fi.isGlob nm = true /\ ∀ C, G.mo C -> C.mg nm = some cv) \/ (isBi G fi nm = true /\ bootBuiltins nm = some cv)) (hx : ∀ C, G.mo C -> ∀ c b, tab.lookup c = some b -> ExK C.K c /\ kitOne C.K (.ref c) cv = some b) : T G d fi :=
 .mk' (.Call (.Name "isinstance" p') [a.x, .Name nm p''] [] p) (fun σ => bd (a.pk σ) fun x σ => rt ((excB tab x).bind fun b => some (.val (.bool b), [])) σ) rfl
  (a.po.bd (R := fun x ρ o ρ' => ∃ b, excB tab x = some b /\ o = .val (.bool b) /\ ρ = ρ') (fun x => .rt fun o ps ρ e q => by obtain ⟨k, e1, e⟩ := obi e; cases e; exact ⟨k, e1, rfl, rfl⟩) fun J x J J J hx' q => by
   obtain ⟨b, e1, rfl, rfl⟩ := q
   obtain ⟨c, rfl, e2⟩ := excB_of e1
   intro X E W φ s e S F Q kk
   refine PyProof.Rows.Call_ (bi_ok S F (e ▸ h) boot_isinstance ?_)
   rw [starEach_plain (xs := [a.x, .Name nm p'']) (fun y q => by
    rcases List.mem_cons.mp q with rfl | q
    ·exact a.pl
    ·cases List.mem_singleton.mp q; rfl), backTo_plain]
   obtain ⟨k1, k2⟩ := hx X.C S.g.mo c b e2
   refine callW (K := X.C.K) (fun h J => keeper_builtin _ h _) (PySem.Calls.spliced_cons (hx' X E W φ s e S F _ fun x' W' φ' s' p' r' => PySem.Calls.spliced_cons ?_))
   have fin : wpAny X.C.M X.A (call (.builtin "isinstance") [x', cv]) (fun v s2 => Q v s2) E s' := by
    obtain ⟨a, o, rfl, I⟩ := (VR.exc r').at
    refine wpAny_with_toks (Nat.le_refl _) ?_
    exact kia_one (kitx_exc k1.ga k1.hk k1.hc k1.hm k1.hb k1.hf) (p'.f.In S) I k2 (by simp) fun tk ht => kk _ _ _ _ ⟨p'.f.toks tk ht, p'.ag, p'.vl⟩ (.val rfl)
   rcases hn with ⟨n1, n2⟩ | ⟨n1, n2⟩
   ·exact glob_ok S p'.f (e ▸ n1) (n2 X.C S.g.mo) (PySem.Calls.spliced_nil ⟨p'.f.In S, fin⟩)
   ·exact bi_ok S p'.f (e ▸ n1) n2 (PySem.Calls.spliced_nil ⟨p'.f.In S, fin⟩)) fun J => rfl
noncomputable def eIsEt (ns : List (Str × Addr × Pos)) (tab : List (Addr × Bool)) (a : T G d fi) (p' p'' p : Pos) (tk : Nat) (h : (isBi G fi "isinstance" && Nat.ble ns.length 1000) = true) (hn : NmG G fi ns) (hx : ∀ C, G.mo C -> ∀ c b, tab.lookup c = some b -> ExK C.K c /\ kitAny C.K (.ref c) (nmV ns) = some b) : T G d fi :=
 .mk' (.Call (.Name "isinstance" p') [a.x, .Tuple (nmE ns) tk p''] [] p) (fun σ => bd (a.pk σ) fun x σ => rt ((excB tab x).bind fun b => some (.val (.bool b), [])) σ) rfl
  (a.po.bd (R := fun x ρ o ρ' => ∃ b, excB tab x = some b /\ o = .val (.bool b) /\ ρ = ρ') (fun x => .rt fun o ps ρ e q => by obtain ⟨k, e1, e⟩ := obi e; cases e; exact ⟨k, e1, rfl, rfl⟩) fun J x J J J hx' q => by
   obtain ⟨b, e1, rfl, rfl⟩ := q
   obtain ⟨c, rfl, e2⟩ := excB_of e1
   intro X E W φ s e S F Q kk
   rw [Bool.and_eq_true] at h
   refine PyProof.Rows.Call_ (bi_ok S F (e ▸ h.1) boot_isinstance ?_)
   rw [starEach_plain (xs := [a.x, .Tuple (nmE ns) tk p'']) (fun y q => by
    rcases List.mem_cons.mp q with rfl | q
    ·exact a.pl
    ·cases List.mem_singleton.mp q; rfl), backTo_plain]
   obtain ⟨k1, k2⟩ := hx X.C S.g.mo c b e2
   refine callW (K := X.C.K) (fun h J => keeper_builtin _ h _) (PySem.Calls.spliced_cons (hx' X E W φ s e S F _ fun x' W' φ' s' p' r' => PySem.Calls.spliced_cons (wpAny_Tuple (names_any S (p'.f.keep S) (e ▸ hn) ⟨by rw [List.length_map]; exact Nat.le_trans (Nat.le_of_ble_eq_true h.2) (by decide), PySem.Calls.spliced_nil ?_⟩))))
   have g : Gs W' s' W' { s' with heap := s'.heap.push (tupO (nmV ns).toArray 0) } := Gs.of p'.f.f.wf fun J J q => Heap.get?_push_of_some _ q
   have p1 := p'.trans (.gs p'.f g)
   refine ⟨p1.f.In S, ?_⟩
   obtain ⟨a, o, rfl, I⟩ := (VR.exc r').at
   have I' : InstAt (s'.heap.push (tupO (nmV ns).toArray 0)) a o c none := ⟨Heap.get?_push_of_some _ I.at_, I.cls, I.no, by have := I.dict; revert this; cases o.dict <;> exact fun x => x⟩
   refine wpAny_with_toks (Nat.le_refl _) ?_
   exact kia_tup (kitx_exc k1.ga k1.hk k1.hc k1.hm k1.hb k1.hf) (p1.f.In S) I' (Heap.get?_push_size s'.heap rfl) k2 (by simp) fun tk ht => kk _ _ _ _ ⟨p1.f.toks tk ht, p1.ag, p1.vl⟩ (.val rfl)) fun J => rfl
end
section
variable {M : Model} {A : Around} {E : Value -> Shared -> Prop} {α β : Type}
end
end Mine
end
section
open PySem PySem.W
namespace Mine
def OneX (b : Stmt) (x : Expr) : Prop := ∀ (prog : Program) (w : World) (A : Around) (E : Value -> Shared -> Prop) (Q : Flow -> Shared -> Prop) (s : Shared) (env : Env), env.scope.kind = .function -> wpAny (model prog w) A (eval x env) (fun J J => False) E s -> wpAny (model prog w) A (exec b env) Q E s
theorem one_ret {x : Expr} {p : Pos} : OneX (.Return (some x) p) x := fun prog w A E Q s env hf hw => wpAny_Return_some (wpAny_mono hw (fun J J q => q.elim) fun J J q => q)
def Asks (G : Gl) (fi : FI) (cN : Addr) (t : Expr) : Prop := ∀ (d : Nat) (X : FC) (A : Around) (E : Value -> Shared -> Prop) (Q : Bool -> Shared -> Prop) (s : Shared) (e : Addr), X.fi = fi -> FS G d X -> (∀ b o, X.C.h.get? b = some o -> s.heap.get? b = some o) -> Looks X.C.M s.heap (typeOf (.ref e)) (.ref cN) →
 (∀ h', (∀ b o, s.heap.get? b = some o -> h'.get? b = some o) -> Q true { s with heap := h' }) -> wpAny X.C.M A (eval t X.env) (fun c s₁ => wpAny X.C.M A (excMatches (.ref e) c) Q E s₁) E s
section
variable {G : Gl} {d : Nat} {fi : FI}
theorem asks_name {cN c' : Addr} {n : Str} {np : Pos} (hn : fi.isGlob n = true) (hm : ∀ C, G.mo C -> C.mg n = some (.ref c') /\ exmOne C.K (.ref cN) (.ref c') = some true) : Asks G fi cN (.Name n np) := fun d X A E Q s e ef S hk LT k => by
 obtain ⟨m1, m2⟩ := hm X.C S.g.mo
 exact glob_any S (ef ▸ hn) m1 hk ((exm_one (S.g.X.keeps hk) LT m2).here (k s.heap fun J J q => q))
theorem C2.grow {h h' : Heap} {e : Addr} {c : Value} (x : C2 h e c) (k : ∀ b o, h.get? b = some o -> h'.get? b = some o) : C2 h' e c := let ⟨x1, x2, x3, x4⟩ := x; ⟨x1, x2, k _ _ x3, x4⟩
theorem flying_grow {base h h' : Heap} {l : List Env} {e : Addr} {cls a0 : Value} (x : Heap.FlyingW base l e cls a0 h) (k : ∀ b o, h.get? b = some o -> h'.get? b = some o) : Heap.FlyingW base l e cls a0 h' := by
 obtain ⟨x1, x2, x3, oe, vs, T, oT, ts, y1, y2, y3, y4, y5, y6, y7, y8⟩ := x
 exact ⟨fun b o q => k b o (x1 b o q), x2, x3.of_keeps fun b o q J => ⟨o, k b o q, rfl⟩, oe, vs, T, oT, ts, k _ _ y1, y2, y3, y4, y5, y6, k _ _ y7, y8⟩
open Classical in
noncomputable def FC.caught (X : FC) (e : Addr) (o : Obj) : FC := { X with A := X.A.mark (some (.ref e)), pin := fun b => if b = e then some o else X.pin b, W0 := fun b => X.W0 b \/ b = e }
theorem At.caught {X : FC} {W : WS} {φ : Nat -> List Addr} {s : Shared} {ρ : Loc} {e : Addr} {o : Obj} (F : At X W φ s ρ) (f : Fre X W φ e) (he : s.heap.get? e = some o) : At (X.caught e o) (fun b => W b \/ b = e) φ s ρ := by
 have ne : ∀ a, Mut X φ a -> a ≠ e := fun a m z => f.mu (z ▸ m)
 refine ⟨F.gens, F.os, ⟨fun b o' q => ?_, fun a m => ⟨(if_neg (ne a m)).trans (F.f.mu a m).1, fun w => w.elim (F.f.mu a m).2 (ne a m)⟩, fun a w => w.elim (F.f.wf a) fun z => ⟨o, z ▸ he⟩, fun a o' q w => ?_, F.f.dis, F.f.ns, F.f.cells⟩, fun x i hx o' ho hk => ?_, F.ow, F.tk, F.kv⟩
 ·by_cases z : b = e
  ·have q : (if b = e then some o else X.pin b) = some o' := q
   rw [if_pos z] at q; cases q; exact z ▸ he
  ·have q : (if b = e then some o else X.pin b) = some o' := q
   rw [if_neg z] at q; exact F.f.pin b o' q
 ·by_cases z : a = e
  ·exact .inr z
  ·have q : (if a = e then some o else X.pin a) = some o' := q
   rw [if_neg z] at q; exact .inl (F.f.w0 a o' q (w.resolve_right z))
 ·obtain ⟨v', a, b⟩ := F.lr x i hx o' ho hk
  exact ⟨v', a, b.ag (.more W s.heap e) fun J J => rfl⟩
variable {ρ ρ1 ρ2 : Loc} {v : V}
theorem exc_tryAs {b : Stmt} {y n : Str} {i : Nat} {a cN : Addr} {r : Rw G.nh d fi} {t : Expr} {p2 p3 p5 hp : Pos} {vs : List V} {b0 : Stmt} {suite rest : List Stmt} {tp : List Tk} {P : Prop} (hgn : G.hn = false) (mu : MoUp G) (one : OneX b (.Call (.Name y p2) r.xs [] p3)) (h : (fi.isGlob y && (G.fn.lookup y == some a) && tkOk G fi.pos a) = true)
  (e : out (r.ev ⟨ρ, tp, []⟩) = some (vs, ρ1, [])) (o : All (obs (r.ev ⟨ρ, tp, []⟩)) = P) (p : P) (hc : RCall G.nh d cN a vs) (ask : Asks G fi cN t) (hx : (fi.isOwn n i && fi.names.lookup n == some .local) = true) (hr : ExsG G d fi (b0 :: suite) (ρ1.set i (some (.val (.exc cN)))) (.ret (.val v)) ρ2) :
  ExsC G.nh d fi (.Try [b] [.ExceptHandler (some t) (some n) (b0 :: suite) hp] [] [] p5 :: rest) ρ v := by
 intro X E W φ s outer ef c S1 Z w0 F Q k
 have S := wk_nh hgn d X S1
 have hs := r.eo.run e o p
 rw [Bool.and_eq_true, Bool.and_eq_true, beq_iff_eq] at h
 rw [Bool.and_eq_true, beq_iff_eq] at hx
 obtain ⟨g1, g2⟩ := S.g.fn y a h.1.2
 refine wpAny_execs_cons (wpAny_Try_except (wpAny_execs_cons (one _ _ _ _ _ _ _ S.fn (PyProof.Rows.Call_ (glob_ok S F (ef ▸ h.1.1) g1 ?_)))))
 rw [r.back]
 refine callW (K := X.C.K) (fun h hX => PySem.W.keeps_K g2 h hX) (hs.2 X _ W φ s ef S1 F _ fun vs' W' φ' s' p' r' => ⟨p'.f.In S, wpAny_call ?_⟩)
 have mem : ∀ b, b ∈ (X.env :: outer).filterMap (·.frame) ↔ b = X.env.locals \/ b ∈ outer.filterMap (·.frame) := fun b => by rw [List.filterMap_cons, Z.me]; exact List.mem_cons
 have fr := Z.toFX.frames S p'.f
 have nW : ∀ L, L ∈ (X.env :: outer).filterMap (·.frame) -> ¬ W' L := fun L q w => ((mem L).mp q).elim (fun z => (p'.f.f.mu _ (.inl rfl)).2 (z ▸ w)) fun z => Z.nW p'.f.f z w
 have kB : ∀ b o, X.C.h.get? b = some o -> (hcut s'.heap ((X.env :: outer).filterMap (·.frame))).get? b = some o := fun b o q => (hcut_out fun m => by have := (fr.mem m).1; rw [q] at this; cases this).trans (p'.f.keep S b o q)
 refine codeAny_with_toks (Nat.le_refl _) ?_
 refine hc { X.C with h := hcut s'.heap ((X.env :: outer).filterMap (·.frame)) } X.A W' s' vs' _ (X.env :: outer) (S1.g.more kB (show MoUp G.nh from mu)) (S1.hd.mono p'.f.f.pin) (by have := S.dp; omega) (by have := S.un; omega) (fun b o q => (hcut_le q).2) p'.f.gens (fun f hf hp => p'.f.tk (ef ▸ tkOk_of h.2 hf hp)) p'.f.os p'.f.f.wf r' Z.fr (funs_base fr fun L q => hcut_in q) fun ee s2 m hck => ?_
 intro tle
 obtain ⟨⟨a0, fl⟩, up, hg, ho⟩ := m
 obtain ⟨c2, hc2, hcn⟩ := hck
 have hz := hcn (S1.hd.2 rfl)
 subst hz
 refine looksC Z.fr Z.me fl hc2 fun h4 held4 up4 c4 => landsC held4 c4 fun h5 fl5 up5 c5 => ?_
 have hk5 : ∀ b o, X.C.h.get? b = some o -> h5.get? b = some o := fun b o q => fl5.1 b o (kB b o q)
 have LT : Looks X.C.M h5 (typeOf (.ref ee)) (.ref cN) := by
  obtain ⟨oe, he, hcls⟩ := fl5.there
  exact hcls ▸ (Looks.ld he).andThen .now
 refine wpAny_handleBy_cons (codeAny_handlers_test (ask d X _ _ _ _ ee ef S hk5 LT fun h5' kk5 => ?_)) (by intro q; cases q)
 have fl5' := flying_grow fl5 kk5
 have c5' := c5.grow kk5
 refine codeAny_handlers_suite_as (landsA fl5' c5' fun h6 fl6 up6 c6 => ?_)
 have up0 := (((up.trans up4).trans up5).trans (Heap.UpToSlots.of_keeps kk5)).trans up6
 have kk : ∀ b o, b ∉ (X.env :: outer).filterMap (·.frame) -> s'.heap.get? b = some o -> h6.get? b = some o := fun b o q z => fl6.1 b o ((hcut_out q).trans z)
 have hcls6 := fl6.there
 obtain ⟨oe6, vs6, he6, hd6, hv6, hn6⟩ := c6
 have hcls6 : oe6.cls = .ref cN := by obtain ⟨ob, z1, z2⟩ := hcls6; rw [he6] at z1; cases z1; exact z2
 have nf : ee ∉ (X.env :: outer).filterMap (·.frame) := fun q => by
  obtain ⟨_, o, z, nf⟩ := fl6.2.2.1.mem q
  rw [he6] at z; cases z; exact nf vs6 hd6
 have new : s'.heap.get? ee = none := by
  cases q : s'.heap.get? ee with
  | none => rfl
  | some o => have z := fl.2.1; rw [show ({ X.C with h := hcut s'.heap ((X.env :: outer).filterMap (·.frame)) } : Cx).h.get? ee = _ from hcut_out nf, q] at z; cases z
 obtain ⟨A6, S6, Z6⟩ := At.slots (s' := { s2 with heap := h6 }) (W' := W') S Z c p'.f kk (fun L q o z => up0 L o z (by obtain ⟨_, o2, z2, nf⟩ := fr.mem q; rw [z] at z2; cases z2; exact nf)) (fun J q => q) (fun b q => let ⟨o, z⟩ := p'.f.f.wf b q; ⟨o, kk b o (fun m => nW b m q) z⟩) (fun J J J q => q) hg ho tle
 have nfo : ee ∉ outer.filterMap (·.frame) := fun q => nf ((mem ee).mpr (.inr q))
 have f0 := Fre.of p'.f new
 have pn : (X.repin outer h6).pin ee = none := (repin_out nfo).trans f0.pin
 have f6 : Fre (X.repin outer h6) W' φ' ee := ⟨pn, f0.w, f0.mu, f0.nc⟩
 have A7 := A6.caught f6 he6
 have ne : ∀ b o, (X.repin outer h6).pin b = some o -> b ≠ ee := fun b o q z => by rw [z, pn] at q; cases q
 have up7 : ∀ b o, (X.repin outer h6).pin b = some o -> ((X.repin outer h6).caught ee oe6).pin b = some o := fun b o q => (if_neg (ne b o q)).trans q
 have SY : FS G d ((X.repin outer h6).caught ee oe6) := ⟨S6.g, fun b o q => up7 b o (S6.base b o q), ⟨.inr ⟨ee, oe6, vs6, rfl, if_pos rfl, hd6, hv6⟩, fun q => (by rw [hgn] at q; cases q)⟩, S6.dp, S6.un, S6.fn, S6.gl, S6.bi, S6.nm, S6.cel, S6.inj, S6.ti, S6.kv⟩
 have rv : VR (fun b => W' b \/ b = ee) h6 (.exc cN) (.ref ee) := ⟨ee, oe6, vs6, rfl, .inr rfl, he6, hcls6, hn6, hd6⟩
 refine store_ok (X := (X.repin outer h6).caught ee oe6) SY (.inl (show X.fi.names.lookup n = some .local from ef ▸ hx.2)) A7 (.val rv) (show X.fi.isOwn n i = true from ef ▸ hx.1) fun φ8 s8 A8 B8 => ?_
 refine hr ((X.repin outer h6).caught ee oe6) _ _ φ8 s8 ef c SY A8 _ fun f' W3 φ3 s3 A3 B3 C3 => ?_
 obtain ⟨v', rfl, p9, r9, _⟩ := C3
 obtain ⟨oL, es, ep, n1, n2, n3⟩ := A3.f.ns
 refine wpAny_nameGoes (m := fun y => nsFind es y) ((S.kind n).trans (ef ▸ hx.2)) ⟨oL, es, ep, n1, n2, n3, fun J => rfl⟩ (by rw [S.fn]; rfl) fun h' m' hn' hsb => ?_
 have nl : ((X.repin outer h6).caught ee oe6).pin X.env.locals = none /\ ¬ W3 X.env.locals := A3.f.mu X.env.locals (.inl rfl)
 have ag : Ag W3 s3.heap W3 h' := ⟨fun J q => q, fun b q => hsb.2 b fun z => nl.2 (z ▸ q)⟩
 have kp : ∀ b o, ((X.repin outer h6).caught ee oe6).pin b = some o -> h'.get? b = some o := fun b o q => (hsb.2 b fun z => by have := nl.1; rw [<- z, q] at this; cases this).trans (A3.f.pin b o q)
 have n6 : EndC (X.repin outer h6) outer W3 { s3 with heap := h', toks := s3.toks + 1 } := ⟨fun b o q => kp b o (SY.base b o q), fun L q o z => ⟨o.slots, kp L o (up7 L o z)⟩, fun b w => B3.w b (B8.w b (.inl (p'.ag.w b (w0 b w)))), fun b w => by
   obtain ⟨o, z⟩ := A3.f.wf b w
   exact ⟨o, (ag.k b w).trans z⟩, fun b o z w => (A3.f.w0 b o (up7 b o z) w).resolve_right (ne b o z), A3.gens, A3.os⟩
 exact k v' W3 _ (n6.back (s' := { s2 with heap := h6 }) Z p'.f fun L q o z => up0 L o z (by obtain ⟨_, o2, z2, nf⟩ := fr.mem ((mem L).mpr (.inr q)); rw [z] at z2; cases z2; exact nf)) (VR.ag ag r9.2)
end
end Mine
end
section
namespace Mine
structure Nx (G : Gl) (d : Nat) (fi : FI) (X : FC) (outer : List Env) (ρ1 : Loc) (Y : FC) (W2 : WS) (φ2 : Nat -> List Addr) (s2 : Shared) : Prop where
 fi : Y.fi = fi
 cm : Y.cm = true
 env : Y.env = X.env
 A : Y.A = X.A
 C : Y.C = X.C
 S : FS G d Y
 Z : FZ Y outer
 w0 : ∀ a, Y.W0 a -> W2 a
 f : At Y W2 φ2 s2 ρ1
 back : ∀ W3 s4, EndC Y outer W3 s4 -> EndC X outer W3 s4
section
variable {G G' : Gl} {d : Nat} {fi : FI} {X Y Y' : FC} {outer : List Env} {ρ ρ1 ρ2 : Loc} {W2 W3 : WS} {φ2 φ3 : Nat -> List Addr} {s2 s3 : Shared} {u v : V} {x y : Expr}
theorem Nx.trans (a : Nx G d fi X outer ρ1 Y W2 φ2 s2) (b : Nx G d fi Y outer ρ2 Y' W3 φ3 s3) : Nx G d fi X outer ρ2 Y' W3 φ3 s3 :=
 ⟨b.fi, b.cm, b.env.trans a.env, b.A.trans a.A, b.C.trans a.C, b.S, b.Z, b.w0, b.f, fun W s n => a.back W s (b.back W s n)⟩
theorem Nx.toks (a : Nx G d fi X outer ρ1 Y W2 φ2 s2) (t : Nat) (h : s2.toks <= t) : Nx G d fi X outer ρ1 Y W2 φ2 { s2 with toks := t } := ⟨a.fi, a.cm, a.env, a.A, a.C, a.S, a.Z, a.w0, a.f.toks t h, a.back⟩
def RunC {α : Type} (G : Gl) (d : Nat) (fi : FI) (m : Env -> Sem α) (ρ : Loc) (ρ1 : Loc) (P : WS -> Shared -> α -> Prop) : Prop := ∀ (X : FC) (E : Value -> Shared -> Prop) (W : WS) (φ : Nat -> List Addr) (s : Shared) (outer : List Env), X.fi = fi -> X.cm = true -> FS G d X -> FZ X outer -> (∀ a, X.W0 a -> W a) -> At X W φ s ρ →
 ∀ Q : α -> Shared -> Prop, (∀ a W2 φ2 s2 Y, Nx G d fi X outer ρ1 Y W2 φ2 s2 -> P W2 s2 a -> Q a s2) -> wpAny X.C.M X.A (m X.env) Q E s
theorem EvC.run (h : EvC G d fi x ρ u ρ1) : RunC G d fi (eval x) ρ ρ1 fun W s v' => VR W s.heap u v' := fun X E W φ s outer ef c S Z w0 F Q k =>
 h X E W φ s outer ef c S Z w0 F Q fun v' W2 φ2 s2 Y e1 e2 e3 e4 e5 S2 Z2 w2 A2 b r => k v' W2 φ2 s2 Y ⟨e1, e2, e3, e4, e5, S2, Z2, w2, A2, b⟩ r
theorem RunC.ev (h : RunC G d fi (eval x) ρ ρ1 fun W s v' => VR W s.heap u v') : EvC G d fi x ρ u ρ1 := fun X E W φ s outer ef c S Z w0 F Q k =>
 h X E W φ s outer ef c S Z w0 F Q fun v' W2 φ2 s2 Y n r => k v' W2 φ2 s2 Y n.fi n.cm n.env n.A n.C n.S n.Z n.w0 n.f n.back r
theorem ExsC.then_ {xs : List Stmt} (h : ExsC G d fi xs ρ1 v) {E : Value -> Shared -> Prop} {Q : Flow -> Shared -> Prop} (n : Nx G d fi X outer ρ1 Y W2 φ2 s2) (k : ∀ v' W' s', EndC X outer W' s' -> VR W' s'.heap v v' -> Q (.ret v') s') : wpAny X.C.M X.A (execs xs X.env) Q E s2 := by
 have := h Y E W2 φ2 s2 outer n.fi n.cm n.S n.Z n.w0 n.f Q fun v' W' s' e r => k v' W' s' (n.back W' s' e) r
 rwa [n.env, n.A, n.C] at this
theorem cmp_c {z m : List Nat} {ms : Str} {k : Nat} {p : Pos} {ne : Bool} (h : EvC G d fi x ρ (.str z) ρ1) (hm : (ms == ⟨m.toArray⟩) = true) (hk : (PyData.strOk ⟨m.toArray⟩ && Nat.ble m.length 1000) = true) {E : Value -> Shared -> Prop} {W : WS} {φ : Nat -> List Addr} {s : Shared} (ef : X.fi = fi) (c : X.cm = true) (S : FS G d X) (Z : FZ X outer) (w0 : ∀ a, X.W0 a -> W a) (F : At X W φ s ρ) {Q : Value -> Shared -> Prop}
  (kk : ∀ W2 φ2 s2 Y, Nx G d fi X outer ρ1 Y W2 φ2 s2 -> Q (.bool (ne != (z == m))) s2) : wpAny X.C.M X.A (eval x X.env) (fun a' s₁ => wpAny X.C.M X.A (eval (.Constant (.str ms) k p) X.env) (fun b' s₂ => wpAny X.C.M X.A (compareOp (bif ne then .NotEq else .Eq) a' b') Q E s₂) E s₁) E s := by
 refine h.run X E W φ s outer ef c S Z w0 F _ fun v' W2 φ2 s2 Y n r => wpAny_Constant_str ?_
 have r2 : ∀ t, VR W2 s2.heap (.str m) (.str ms t) := fun t => by
  rw [Bool.and_eq_true] at hk
  exact ⟨t, by rw [beq_iff_eq.mp hm], hk.1, Nat.le_trans (Nat.le_of_ble_eq_true hk.2) (by decide)⟩
 have q := kk W2 φ2 _ Y (n.toks (s2.toks + 1) (Nat.le_succ _))
 have e := fun tt => eqV_ok (x := .str z) (y := .str m) (t := z == m) rfl (C := X.C) (A := X.A) (E := E) (W := W2) (s := { s2 with toks := s2.toks + 1 }) r (r2 tt) (by have := S.u; lia) Q
 cases ne
 ·exact (e _).1 (by simpa using q)
 ·exact (e _).2 (by simpa using q)
theorem ev_cmp {z m : List Nat} {ms : Str} {k : Nat} {p p' : Pos} (ne : Bool) (h : EvC G d fi x ρ (.str z) ρ1) (hm : (ms == ⟨m.toArray⟩) = true) (hk : (PyData.strOk ⟨m.toArray⟩ && Nat.ble m.length 1000) = true) : EvC G d fi (.Compare x [bif ne then .NotEq else .Eq] [.Constant (.str ms) k p] p') ρ (.bool (ne != (z == m))) ρ1 := RunC.ev fun X E W φ s outer ef c S Z w0 F Q kk =>
 wpAny_Compare1 (cmp_c h hm hk ef c S Z w0 F fun W2 φ2 s2 Y n => kk _ W2 φ2 s2 Y n rfl) (noMark rfl _)
theorem exc_if {c : T G d fi} {f b : Bool} {body orelse xs : List Stmt} {p : Pos} {tp : List Tk} {P : Prop} (wk : Wk G G') (e : out (bd (c.tr ⟨ρ, tp, []⟩) fun t σ => dec f t σ) = some (b, ρ1, [])) (o : All (obs (bd (c.tr ⟨ρ, tp, []⟩) fun t σ => dec f t σ)) = P) (q : P) (h1 : b = true -> ExsC G' d fi body ρ1 v) (h0 : b = false -> orelse = [] /\ ExsC G' d fi xs ρ1 v) : ExsC G' d fi (.If c.x body orelse p :: xs) ρ v := by
 have hc : TrG G d fi c.x ρ b ρ1 := (c.to.bd (S' := TrG G d fi c.x) (fun t => Ok.dec f t) fun J t J b J h z => by obtain ⟨rfl, rfl⟩ := z; exact h).run e o q
 intro X E W φ s outer ef cm S Z w0 F Q k
 refine wpAny_execs_cons (wpAny_If (hc X E W φ s ef (wk d X S) F _ fun W' φ' s' p' => ?_))
 cases b with
 | true => exact h1 rfl X E W' φ' s' outer ef cm S Z (fun b q => p'.ag.w b (w0 b q)) p'.f _ fun v' W2 s2 n r => k v' W2 s2 n r
 | false =>
  obtain ⟨rfl, h2⟩ := h0 rfl
  exact wpAny_execs_nil (h2 X E W' φ' s' outer ef cm S Z (fun b q => p'.ag.w b (w0 b q)) p'.f _ k)
theorem exc_asgC {n : Str} {i : Nat} {xs : List Stmt} {p1 p : Pos} (hx : fi.isOwn n i = true) (hc : isComp x = false) (h : EvC G d fi x ρ u ρ1) (hr : ExsC G d fi xs (ρ1.set i (some (.val u))) v) : ExsC G d fi (.Assign [.Name n p1] x p :: xs) ρ v := by
 intro X E W φ s outer ef cm S Z w0 F Q k
 refine wpAny_execs_cons (wpAny_Assign_Name (h.run X E W φ s outer ef cm S Z w0 F _ fun v' W2 φ2 s2 Y n2 r => ?_) (noSwap hc _ _ _))
 have := store_ok (E := E) (Q := fun J s3 => wpAny Y.C.M Y.A (execs xs Y.env) Q E s3) n2.S (.inr n2.cm) n2.f (.val r) (show Y.fi.isOwn n i = true from n2.fi ▸ hx) fun φ3 s3 A3 B3 => by
  exact hr Y E W2 φ3 s3 outer n2.fi n2.cm n2.S n2.Z n2.w0 A3 Q fun v' W' s' e r => k v' W' s' (n2.back W' s' e) r
 rwa [n2.env, n2.A, n2.C] at this
end
end Mine
end
section
namespace Mine
def RowC (G : Gl) (d : Nat) (fi : FI) (xs : List Stmt) (ρ : Loc) (fl : Flow) (ρ1 : Loc) : Prop := RunC G d fi (execs xs) ρ ρ1 fun J J f => f = fl
def WhC (G : Gl) (d : Nat) (fi : FI) (c : Expr) (b : List Stmt) (ρ ρ1 : Loc) : Prop := ∀ (X : FC) (W : WS) (φ : Nat -> List Addr) (s : Shared) (outer : List Env), X.fi = fi -> X.cm = true -> FS G d X -> FZ X outer -> (∀ a, X.W0 a -> W a) -> At X W φ s ρ →
 ∀ R : Result -> Shared -> Prop, (∀ W2 φ2 s2 Y, Nx G d fi X outer ρ1 Y W2 φ2 s2 -> R (.ok .next) s2) -> codeAny X.C.M X.A (.whileLoop c b [] X.env) R s
section
variable {G G' : Gl} {d : Nat} {fi : FI} {ρ ρ1 ρ2 : Loc} {v u : V} {fl : Flow} {xs : List Stmt}
theorem Nx.refl {X : FC} {outer : List Env} {W W' : WS} {φ φ' : Nat -> List Addr} {s s' : Shared} (ef : X.fi = fi) (c : X.cm = true) (S : FS G d X) (Z : FZ X outer) (w0 : ∀ a, X.W0 a -> W a) (A : At X W φ s ρ) : Nx G d fi X outer ρ X W φ s := ⟨ef, c, rfl, rfl, rfl, S, Z, w0, A, fun J J n => n⟩
theorem row_nil : RowC G d fi [] ρ .next ρ := fun X E W φ s outer ef c S Z w0 F Q k => wpAny_execs_nil (k _ W φ s X (Nx.refl (W' := W) (φ' := φ) (s' := s) ef c S Z w0 F) rfl)
theorem row_brk {p : Pos} : RowC G d fi (.Break p :: xs) ρ .brk ρ := fun X E W φ s outer ef c S Z w0 F Q k => wpAny_execs_cons (wpAny_Break (k _ W φ s X (Nx.refl (W' := W) (φ' := φ) (s' := s) ef c S Z w0 F) rfl))
theorem row_go (a : SS G d fi) {tp : List Tk} {P : Prop} (e : out (a.ex ⟨ρ, tp, []⟩) = some (.next, ρ1, [])) (o : All (obs (a.ex ⟨ρ, tp, []⟩)) = P) (p : P) (h : RowC G d fi xs ρ1 fl ρ2) : RowC G d fi (a.x :: xs) ρ fl ρ2 :=
 fun X E W φ s outer ef c S Z w0 F Q k => wpAny_execs_cons ((a.eo.run e o p) X E W φ s ef c S F _ fun f' W' φ' s' A B C => by
  cases C; exact h X E W' φ' s' outer ef c S Z (fun b q => B.w b (w0 b q)) A Q k)
theorem row_asgC {n : Str} {i : Nat} {x : Expr} {p1 p : Pos} (hx : fi.isOwn n i = true) (hc : isComp x = false) (h : EvC G d fi x ρ u ρ1) (hr : RowC G d fi xs (ρ1.set i (some (.val u))) fl ρ2) : RowC G d fi (.Assign [.Name n p1] x p :: xs) ρ fl ρ2 := by
 intro X E W φ s outer ef cm S Z w0 F Q k
 refine wpAny_execs_cons (wpAny_Assign_Name (h.run X E W φ s outer ef cm S Z w0 F _ fun v' W2 φ2 s2 Y n2 r => ?_) (noSwap hc _ _ _))
 have := store_ok (E := E) (Q := fun J s3 => wpAny Y.C.M Y.A (execs xs Y.env) Q E s3) n2.S (.inr n2.cm) n2.f (.val r) (show Y.fi.isOwn n i = true from n2.fi ▸ hx) fun φ3 s3 A3 B3 => by
  exact hr Y E W2 φ3 s3 outer n2.fi n2.cm n2.S n2.Z n2.w0 A3 Q fun f W3 φ3 s3 Y' n3 p => k f W3 φ3 s3 Y' (n2.trans n3) p
 rwa [n2.env, n2.A, n2.C] at this
theorem row_if (c : T G d fi) (f b : Bool) {body orelse : List Stmt} {p : Pos} {tp : List Tk} {P : Prop} (e : out (bd (c.tr ⟨ρ, tp, []⟩) fun t σ => dec f t σ) = some (b, ρ1, [])) (o : All (obs (bd (c.tr ⟨ρ, tp, []⟩) fun t σ => dec f t σ)) = P) (q : P) (h1 : b = true -> fl = .brk /\ RowC G d fi body ρ1 .brk ρ2) (h0 : b = false -> orelse = [] /\ RowC G d fi xs ρ1 fl ρ2) : RowC G d fi (.If c.x body orelse p :: xs) ρ fl ρ2 := by
 have hc : TrG G d fi c.x ρ b ρ1 := (c.to.bd (S' := TrG G d fi c.x) (fun t => Ok.dec f t) fun J t J b J h z => by obtain ⟨rfl, rfl⟩ := z; exact h).run e o q
 intro X E W φ s outer ef cm S Z w0 F Q k
 refine wpAny_execs_cons (wpAny_If (hc X E W φ s ef S F _ fun W' φ' s' p' => ?_))
 cases b with
 | true =>
  obtain ⟨rfl, h2⟩ := h1 rfl
  exact h2 X E W' φ' s' outer ef cm S Z (fun b q => p'.ag.w b (w0 b q)) p'.f _ fun f W2 φ2 s2 Y n r => by subst r; exact k _ W2 φ2 s2 Y n rfl
 | false =>
  obtain ⟨rfl, h2⟩ := h0 rfl
  exact wpAny_execs_nil (h2 X E W' φ' s' outer ef cm S Z (fun b q => p'.ag.w b (w0 b q)) p'.f _ k)
theorem whc_go (c : T G d fi) (f : Bool) {b : List Stmt} {ρ3 : Loc} {tp : List Tk} {P : Prop} (e : out (bd (c.tr ⟨ρ, tp, []⟩) fun t σ => dec f t σ) = some (true, ρ1, [])) (o : All (obs (bd (c.tr ⟨ρ, tp, []⟩) fun t σ => dec f t σ)) = P) (q : P) (hb : RowC G d fi b ρ1 .next ρ2) (hr : WhC G d fi c.x b ρ2 ρ3) : WhC G d fi c.x b ρ ρ3 := by
 have hc : TrG G d fi c.x ρ true ρ1 := (c.to.bd (S' := TrG G d fi c.x) (fun t => Ok.dec f t) fun J t J b J h z => by obtain ⟨rfl, rfl⟩ := z; exact h).run e o q
 intro X W φ s outer ef cm S Z w0 F R k
 refine code_while (hc X _ W φ s ef S F _ fun W' φ' s' p' => ?_)
 refine hb X _ W' φ' s' outer ef cm S Z (fun b q => p'.ag.w b (w0 b q)) p'.f _ fun f W2 φ2 s2 Y n r => ?_
 subst r
 have := hr Y W2 φ2 s2 outer n.fi n.cm n.S n.Z n.w0 n.f R fun W3 φ3 s3 Y' n' => k W3 φ3 s3 Y' (n.trans n')
 rwa [n.env, n.A, n.C] at this
theorem whc_brk (c : T G d fi) (f : Bool) {b : List Stmt} {tp : List Tk} {P : Prop} (e : out (bd (c.tr ⟨ρ, tp, []⟩) fun t σ => dec f t σ) = some (true, ρ1, [])) (o : All (obs (bd (c.tr ⟨ρ, tp, []⟩) fun t σ => dec f t σ)) = P) (q : P) (hb : RowC G d fi b ρ1 .brk ρ2) : WhC G d fi c.x b ρ ρ2 := by
 have hc : TrG G d fi c.x ρ true ρ1 := (c.to.bd (S' := TrG G d fi c.x) (fun t => Ok.dec f t) fun J t J b J h z => by obtain ⟨rfl, rfl⟩ := z; exact h).run e o q
 intro X W φ s outer ef cm S Z w0 F R k
 refine code_while (hc X _ W φ s ef S F _ fun W' φ' s' p' => ?_)
 refine hb X _ W' φ' s' outer ef cm S Z (fun b q => p'.ag.w b (w0 b q)) p'.f _ fun f W2 φ2 s2 Y n r => ?_
 subst r
 exact k W2 φ2 s2 Y n
theorem exc_whl {c : Expr} {b : List Stmt} {p : Pos} (h : WhC G d fi c b ρ ρ1) (hr : ExsC G d fi xs ρ1 v) : ExsC G d fi (.While c b [] p :: xs) ρ v := fun X E W φ s outer ef cm S Z w0 F Q k =>
 wpAny_execs_cons (wpAny_While (h X W φ s outer ef cm S Z w0 F _ fun W2 φ2 s2 Y n => hr.then_ n k))
noncomputable def tApp {cN : Addr} (x : Str) (i : Nat) (a : TE G d fi cN) (hpl : plainX a.x = true) (xp ap cp : Pos) (h : (fi.isVar x i && (ap.endLine == cp.line)) = true) : TE G d fi cN :=
 ⟨.Call (.Attribute (.Name x xp) "append" ap) [a.x] [] cp, fun σ => (ownAt σ.ρ i).bind fun J => a.ex σ, by
  intro σ u σ' e q
  obtain ⟨o0, e0, e⟩ := obi e
  rw [Bool.and_eq_true] at h
  obtain ⟨q2, hk⟩ := a.eo σ u σ' e q
  refine ⟨q2, fun X E W φ s outer ef c S Z F Q k => method_call rfl (fun z q => by cases List.mem_singleton.mp q; exact hpl) h.2 rfl fun pl => load_ok S F (ef ▸ h.1) (ownAt_some e0) fun x' hx hn hv rr => ?_⟩
  obtain ⟨a0, _, rfl, vs0, n0, z0, _⟩ := rr
  refine getMethod_builtin (T := "list") ⟨_, z0, rfl⟩ PySem.F.plainAttrs_list PySem.F.slot_list_append PySem.F.type_list_append (fun a q => by cases q; exact ⟨_, z0, rfl⟩) ?_
  exact callW (K := X.C.K) (fun h J => keeper_builtin _ h _) (PySem.Calls.spliced_cons (hk X E W φ s outer ef c S Z F _ k))⟩
end
end Mine
end
noncomputable section
namespace Mine.L09
def z_num : List Nat := [110, 117, 109]
theorem z_num_e : ("num" : Str) = ⟨z_num.toArray⟩ := by left
theorem z_num_k : (PyData.strOk ⟨z_num.toArray⟩ && Nat.ble z_num.length 1000) = true := by left
def z_name : List Nat := [110, 97, 109, 101]
theorem z_name_e : ("name" : Str) = ⟨z_name.toArray⟩ := by left
theorem z_name_k : (PyData.strOk ⟨z_name.toArray⟩ && Nat.ble z_name.length 1000) = true := by left
def z_fun : List Nat := [102, 117, 110]
theorem z_fun_e : ("fun" : Str) = ⟨z_fun.toArray⟩ := by left
theorem z_fun_k : (PyData.strOk ⟨z_fun.toArray⟩ && Nat.ble z_fun.length 1000) = true := by left
def z_let : List Nat := [108, 101, 116]
theorem z_let_e : ("let" : Str) = ⟨z_let.toArray⟩ := by left
theorem z_let_k : (PyData.strOk ⟨z_let.toArray⟩ && Nat.ble z_let.length 1000) = true := by left
def z_if : List Nat := [105, 102]
theorem z_if_e : ("if" : Str) = ⟨z_if.toArray⟩ := by left
theorem z_if_k : (PyData.strOk ⟨z_if.toArray⟩ && Nat.ble z_if.length 1000) = true := by left
def z_call : List Nat := [99, 97, 108, 108]
theorem z_call_e : ("call" : Str) = ⟨z_call.toArray⟩ := by left
theorem z_call_k : (PyData.strOk ⟨z_call.toArray⟩ && Nat.ble z_call.length 1000) = true := by left
def z_plus : List Nat := [112, 108, 117, 115]
theorem z_plus_e : ("plus" : Str) = ⟨z_plus.toArray⟩ := by left
theorem z_plus_k : (PyData.strOk ⟨z_plus.toArray⟩ && Nat.ble z_plus.length 1000) = true := by left
def z_az : List Nat := [97, 98, 99, 100, 101, 102, 103, 104, 105, 106, 107, 108, 109, 110, 111, 112, 113, 114, 115, 116, 117, 118, 119, 120, 121, 122]
theorem z_az_e : ("abcdefghijklmnopqrstuvwxyz" : Str) = ⟨z_az.toArray⟩ := by left
theorem z_az_k : (PyData.strOk ⟨z_az.toArray⟩ && Nat.ble z_az.length 1000) = true := by left
def z_ : List Nat := []
theorem z__e : ("" : Str) = ⟨z_.toArray⟩ := by left
theorem z__k : (PyData.strOk ⟨z_.toArray⟩ && Nat.ble z_.length 1000) = true := by left
def z_less : List Nat := [108, 101, 115, 115]
theorem z_less_e : ("less" : Str) = ⟨z_less.toArray⟩ := by left
theorem z_less_k : (PyData.strOk ⟨z_less.toArray⟩ && Nat.ble z_less.length 1000) = true := by left
def z_y : List Nat := [121]
theorem z_y_e : ("y" : Str) = ⟨z_y.toArray⟩ := by left
theorem z_y_k : (PyData.strOk ⟨z_y.toArray⟩ && Nat.ble z_y.length 1000) = true := by left
def z_function : List Nat := [102, 117, 110, 99, 116, 105, 111, 110]
theorem z_function_e : ("function" : Str) = ⟨z_function.toArray⟩ := by left
theorem z_function_k : (PyData.strOk ⟨z_function.toArray⟩ && Nat.ble z_function.length 1000) = true := by left
def z_number : List Nat := [110, 117, 109, 98, 101, 114]
theorem z_number_e : ("number" : Str) = ⟨z_number.toArray⟩ := by left
theorem z_number_k : (PyData.strOk ⟨z_number.toArray⟩ && Nat.ble z_number.length 1000) = true := by left
def z_dry : List Nat := [100, 114, 121]
theorem z_dry_e : ("dry" : Str) = ⟨z_dry.toArray⟩ := by left
theorem z_dry_k : (PyData.strOk ⟨z_dry.toArray⟩ && Nat.ble z_dry.length 1000) = true := by left
def z_other : List Nat := [111, 116, 104, 101, 114]
theorem z_other_e : ("other" : Str) = ⟨z_other.toArray⟩ := by left
theorem z_other_k : (PyData.strOk ⟨z_other.toArray⟩ && Nat.ble z_other.length 1000) = true := by left
def fi_is_name : FI := ⟨(namesAt PySem.Challenge.pw_uf010023_09 15), [("word", 0), ("sign", 1)], false, []⟩
def fd_is_name : FD := ⟨["word"], fi_is_name, (bodyAt PySem.Challenge.pw_uf010023_09 15)⟩
def fi_is_whole : FI := ⟨(namesAt PySem.Challenge.pw_uf010023_09 16), [("number", 0)], false, []⟩
def fd_is_whole : FD := ⟨["number"], fi_is_whole, (bodyAt PySem.Challenge.pw_uf010023_09 16)⟩
def fi_is_node : FI := ⟨(namesAt PySem.Challenge.pw_uf010023_09 17), [("node", 0)], false, []⟩
def fd_is_node : FD := ⟨["node"], fi_is_node, (bodyAt PySem.Challenge.pw_uf010023_09 17)⟩
def fi_parts : FI := ⟨(namesAt PySem.Challenge.pw_uf010023_09 18), [("tree", 0)], false, []⟩
def fd_parts : FD := ⟨["tree"], fi_parts, (bodyAt PySem.Challenge.pw_uf010023_09 18)⟩
def fi_need_tree : FI := ⟨(namesAt PySem.Challenge.pw_uf010023_09 19), [("tree", 0), ("waiting", 1), ("many", 2), ("node", 3)], false, []⟩
def fd_need_tree : FD := ⟨["tree"], fi_need_tree, (bodyAt PySem.Challenge.pw_uf010023_09 19)⟩
def fi_free : FI := ⟨(namesAt PySem.Challenge.pw_uf010023_09 20), [("tree", 0), ("found", 1), ("waiting", 2), ("node", 3), ("bound", 4), ("part", 5)], false, []⟩
def fd_free : FD := ⟨["tree"], fi_free, (bodyAt PySem.Challenge.pw_uf010023_09 20)⟩
def fi_need : FI := ⟨(namesAt PySem.Challenge.pw_uf010023_09 23), [("tree", 0), ("most", 1)], false, []⟩
def fd_need : FD := ⟨["tree", "most"], fi_need, (bodyAt PySem.Challenge.pw_uf010023_09 23)⟩
def fi_open_places : FI := ⟨(namesAt PySem.Challenge.pw_uf010023_09 25), [("node", 0), ("name", 1)], false, []⟩
def fd_open_places : FD := ⟨["node", "name"], fi_open_places, (bodyAt PySem.Challenge.pw_uf010023_09 25)⟩
def fi_put : FI := ⟨(namesAt PySem.Challenge.pw_uf010023_09 26), [("tree", 0), ("name", 1), ("value", 2), ("tasks", 3), ("made", 4), ("node", 5), ("ready", 6), ("places", 7), ("row", 8), ("place", 9)], false, []⟩
def fd_put : FD := ⟨["tree", "name", "value"], fi_put, (bodyAt PySem.Challenge.pw_uf010023_09 26)⟩
def fi_is_value : FI := ⟨(namesAt PySem.Challenge.pw_uf010023_09 27), [("node", 0)], false, []⟩
def fd_is_value : FD := ⟨["node"], fi_is_value, (bodyAt PySem.Challenge.pw_uf010023_09 27)⟩
def fi_needed : FI := ⟨(namesAt PySem.Challenge.pw_uf010023_09 28), [("node", 0)], false, []⟩
def fd_needed : FD := ⟨["node"], fi_needed, (bodyAt PySem.Challenge.pw_uf010023_09 28)⟩
def fi_next_place : FI := ⟨(namesAt PySem.Challenge.pw_uf010023_09 29), [("node", 0), ("place", 1)], false, []⟩
def fd_next_place : FD := ⟨["node"], fi_next_place, (bodyAt PySem.Challenge.pw_uf010023_09 29)⟩
def fi_deed : FI := ⟨(namesAt PySem.Challenge.pw_uf010023_09 30), [("node", 0)], false, []⟩
def fd_deed : FD := ⟨["node"], fi_deed, (bodyAt PySem.Challenge.pw_uf010023_09 30)⟩
def fi_step : FI := ⟨(namesAt PySem.Challenge.pw_uf010023_09 31), [("tree", 0), ("above", 1), ("node", 2), ("place", 3), ("found", 4), ("pair", 5)], false, []⟩
def fd_step : FD := ⟨["tree"], fi_step, (bodyAt PySem.Challenge.pw_uf010023_09 31)⟩
def fi_steps : FI := ⟨(namesAt PySem.Challenge.pw_uf010023_09 32), [("tree", 0), ("most", 1), ("found", 2)], false, []⟩
def fd_steps : FD := ⟨["tree", "most"], fi_steps, (bodyAt PySem.Challenge.pw_uf010023_09 32)⟩
def fi__law_cell_at : FI := ⟨(namesAt PySem.Challenge.pw_uf010023_09 34), [("_law_script", 0), ("_law_k", 1)], false, []⟩
def fd__law_cell_at : FD := ⟨["_law_script", "_law_k"], fi__law_cell_at, (bodyAt PySem.Challenge.pw_uf010023_09 34)⟩
def fi__law_name_by : FI := ⟨(namesAt PySem.Challenge.pw_uf010023_09 35), [("_law_cell", 0), ("_law_letters", 1), ("_law_frame", 2), ("_law_turn", 3), ("_law_at", 4), ("_law_word", 5)], false, []⟩
def fd__law_name_by : FD := ⟨["_law_cell"], fi__law_name_by, (bodyAt PySem.Challenge.pw_uf010023_09 35)⟩
def fi__law_joined : FI := ⟨(namesAt PySem.Challenge.pw_uf010023_09 36), [("_law_kind", 0), ("_law_name", 1), ("_law_one", 2), ("_law_other", 3)], false, []⟩
def fd__law_joined : FD := ⟨["_law_kind", "_law_name", "_law_one", "_law_other"], fi__law_joined, (bodyAt PySem.Challenge.pw_uf010023_09 36)⟩
def fi__law_tree_by : FI := ⟨(namesAt PySem.Challenge.pw_uf010023_09 37), [("_law_cells", 0), ("_law_names", 1), ("_law_stack", 2), ("_law_cell", 3), ("_law_kind", 4), ("_law_more", 5), ("_law_name", 6), ("_law_small", 7), ("_law_other", 8)], false, []⟩
def fd__law_tree_by : FD := ⟨["_law_cells", "_law_names"], fi__law_tree_by, (bodyAt PySem.Challenge.pw_uf010023_09 37)⟩
def fi__law_has : FI := ⟨(namesAt PySem.Challenge.pw_uf010023_09 38), [("_law_tree", 0), ("_law_name", 1), ("_law_todo", 2), ("_law_node", 3)], false, []⟩
def fd__law_has : FD := ⟨["_law_tree", "_law_name"], fi__law_has, (bodyAt PySem.Challenge.pw_uf010023_09 38)⟩
def fi__law_closed_by : FI := ⟨(namesAt PySem.Challenge.pw_uf010023_09 39), [("_law_script", 0), ("_law_first", 1), ("_law_second", 2), ("_law_k", 3), ("_law_names", 4), ("_law_tree", 5), ("_law_way", 6), ("_law_worth", 7)], false, []⟩
def fd__law_closed_by : FD := ⟨["_law_script"], fi__law_closed_by, (bodyAt PySem.Challenge.pw_uf010023_09 39)⟩
def fi__law_leaf : FI := ⟨(namesAt PySem.Challenge.pw_uf010023_09 40), [("_law_one", 0), ("_law_other", 1)], false, []⟩
def fd__law_leaf : FD := ⟨["_law_one", "_law_other"], fi__law_leaf, (bodyAt PySem.Challenge.pw_uf010023_09 40)⟩
def fi__law_led : FI := ⟨(namesAt PySem.Challenge.pw_uf010023_09 41), [("_law_tree", 0), ("_law_found", 1), ("_law_name", 2), ("_law_value", 3), ("_law_todo", 4), ("_law_row", 5), ("_law_one", 6), ("_law_other", 7), ("_law_k", 8), ("_law_inner", 9)], false, []⟩
def fd__law_led : FD := ⟨["_law_tree", "_law_found", "_law_name", "_law_value"], fi__law_led, (bodyAt PySem.Challenge.pw_uf010023_09 41)⟩
def fi__law_where : FI := ⟨(namesAt PySem.Challenge.pw_uf010023_09 42), [("_law_node", 0)], false, []⟩
def fd__law_where : FD := ⟨["_law_node"], fi__law_where, (bodyAt PySem.Challenge.pw_uf010023_09 42)⟩
def fi__law_wrong : FI := ⟨(namesAt PySem.Challenge.pw_uf010023_09 43), [("_law_node", 0)], false, []⟩
def fd__law_wrong : FD := ⟨["_law_node"], fi__law_wrong, (bodyAt PySem.Challenge.pw_uf010023_09 43)⟩
def fi__law_redex : FI := ⟨(namesAt PySem.Challenge.pw_uf010023_09 44), [("_law_tree", 0), ("_law_node", 1), ("_law_at", 2)], false, []⟩
def fd__law_redex : FD := ⟨["_law_tree"], fi__law_redex, (bodyAt PySem.Challenge.pw_uf010023_09 44)⟩
def fi__law_done_right : FI := ⟨(namesAt PySem.Challenge.pw_uf010023_09 45), [("_law_node", 0), ("_law_found", 1), ("_law_due", 2)], false, []⟩
def fd__law_done_right : FD := ⟨["_law_node", "_law_found"], fi__law_done_right, (bodyAt PySem.Challenge.pw_uf010023_09 45)⟩
def fi__law_apart : FI := ⟨(namesAt PySem.Challenge.pw_uf010023_09 46), [("_law_tree", 0), ("_law_found", 1), ("_law_node", 2), ("_law_at", 3), ("_law_k", 4)], false, []⟩
def fd__law_apart : FD := ⟨["_law_tree", "_law_found"], fi__law_apart, (bodyAt PySem.Challenge.pw_uf010023_09 46)⟩
def fi__law_words : FI := ⟨(namesAt PySem.Challenge.pw_uf010023_09 47), [("_law_e", 0), ("_law_words_here", 1)], false, []⟩
def fd__law_words : FD := ⟨["_law_e"], fi__law_words, (bodyAt PySem.Challenge.pw_uf010023_09 47)⟩
def fi__law_stepped : FI := ⟨(namesAt PySem.Challenge.pw_uf010023_09 48), [("_law_tree", 0), ("_law_e", 1)], false, []⟩
def fd__law_stepped : FD := ⟨["_law_tree"], fi__law_stepped, (bodyAt PySem.Challenge.pw_uf010023_09 48)⟩
def fi__law_all : FI := ⟨(namesAt PySem.Challenge.pw_uf010023_09 49), [("_law_tree", 0), ("_law_most", 1), ("_law_e", 2)], false, []⟩
def fd__law_all : FD := ⟨["_law_tree", "_law_most"], fi__law_all, (bodyAt PySem.Challenge.pw_uf010023_09 49)⟩
def fi_law : FI := ⟨(namesAt PySem.Challenge.pw_uf010023_09 50), [("_law_script", 0), ("_law_tree", 1), ("_law_most", 2), ("_law_trees", 3), ("_law_ending", 4), ("_law_found", 5), ("_law_wrong_here", 6), ("_law_whole", 7), ("_law_k", 8)], false, []⟩
def fd_law : FD := ⟨["_law_script"], fi_law, (bodyAt PySem.Challenge.pw_uf010023_09 50)⟩
def words : List (List Nat) := [z_num, z_name, z_fun, z_call, z_plus, z_less, z_if, z_let]
def wordsV : List V := [.str z_num, .str z_name, .str z_fun, .str z_call, .str z_plus, .str z_less, .str z_if, .str z_let]
def letters : List Nat := z_az
def lens : List (List Nat × Int) := [(z_num, 2), (z_name, 2), (z_fun, 3), (z_call, 3), (z_plus, 3), (z_less, 3), (z_if, 4), (z_let, 4)]
def great : Int := 1000000000000000000000000000000000000000000000000000000000000
def clsT : List (Str × Addr) := [("MillError", 24), ("NoTree", 37), ("NotClosed", 49), ("BadMost", 61), ("NoNumber", 73), ("NoFunction", 85), ("Dry", 97), ("NoText", 109)]
def four : List Addr := [73, 85, 97]
def xSub (c t : Addr) : Bool := Nat.beq t 24 || Nat.beq c t
structure More (C : Cx) : Prop where
 words : GVal C "WORDS" (.tup wordsV)
 letters : GVal C "LETTERS" (.str letters)
 deeds : GVal C "MOST_DEEDS" (.int 1000)
 lens : GDic C "LENGTHS" lens
 most : GVal C "MOST_NODES" (.int 400)
 great : GVal C "GREAT" (.int great)
 xNum : ExOk C "NoNumber" 73
 xFun : ExOk C "NoFunction" 85
 xDry : ExOk C "Dry" 97
 cls : ∀ n c, clsT.lookup n = some c -> C.mg n = some (.ref c)
 ek : ∀ c, c ∈ four -> ExK C.K c
 kit : ∀ c, c ∈ four -> ∀ n t, (n, t) ∈ clsT -> PySem.W.kitOne C.K (.ref c) (.ref t) = some (xSub c t)
 kitV : ∀ c, c ∈ four -> PySem.W.kitOne C.K (.ref c) (.type "ValueError") = some true
 exm : ∀ c, c ∈ four -> ∀ n t, (n, t) ∈ clsT -> PySem.W.exmOne C.K (.ref c) (.ref t) = some (xSub c t)
def G (w : World) : Gl := ⟨[("is_name", 120), ("is_whole", 127), ("is_node", 134), ("parts", 141), ("need_tree", 148), ("free", 155), ("need", 162), ("open_places", 169), ("put", 176), ("is_value", 183), ("needed", 190), ("next_place", 197), ("deed", 204), ("step", 211), ("steps", 218), ("_law_cell_at", 225), ("_law_name_by", 232), ("_law_joined", 239), ("_law_tree_by", 246), ("_law_has", 253), ("_law_closed_by", 258), ("_law_leaf", 265), ("_law_led", 272), ("_law_where", 279), ("_law_wrong", 286), ("_law_redex", 293), ("_law_done_right", 300), ("_law_apart", 307), ("_law_words", 314), ("_law_stepped", 321), ("_law_all", 328), ("law", 335)], [(120, fd_is_name), (127, fd_is_whole), (134, fd_is_node), (141, fd_parts), (148, fd_need_tree), (155, fd_free), (162, fd_need), (169, fd_open_places), (176, fd_put), (183, fd_is_value), (190, fd_needed), (197, fd_next_place), (204, fd_deed), (211, fd_step), (218, fd_steps), (225, fd__law_cell_at), (232, fd__law_name_by), (239, fd__law_joined), (246, fd__law_tree_by), (253, fd__law_has), (258, fd__law_closed_by), (265, fd__law_leaf), (272, fd__law_led), (279, fd__law_where), (286, fd__law_wrong), (293, fd__law_redex), (300, fd__law_done_right), (307, fd__law_apart), (314, fd__law_words), (321, fd__law_stepped), (328, fd__law_all), (335, fd_law)], ["len", "isinstance", "list", "tuple", "range", "reversed", "str", "int", "bool", "zip", "dict", "sorted", "ValueError"], [.tuple, .str, .int, .bool, .list], More, w, [], [], true⟩
def G0 (w : World) : Gl := { G w with hn := false }
theorem nmG_of {w : World} {fi : FI} {ns : List (Str × Addr × Pos)} (h : (ns.all fun q => fi.isGlob q.1 && clsT.lookup q.1 == some q.2.1) = true) : NmG (G0 w) fi ns := fun q hq => by
 have := List.all_eq_true.mp h q hq
 rw [Bool.and_eq_true, beq_iff_eq] at this
 exact ⟨this.1, fun C m => (show More C from m).cls _ _ this.2⟩
theorem look_map {f : Addr -> Bool} {c : Addr} {b : Bool} : ∀ {l : List Addr}, (l.map fun a => (a, f a)).lookup c = some b -> c ∈ l /\ b = f c
 | [], h => nomatch h
 | a :: l, h => by
  rw [List.map_cons, List.lookup_cons] at h
  cases q : c == a with
  | true => rw [q] at h; cases h; rw [beq_iff_eq.mp q]; exact ⟨List.mem_cons_self, rfl⟩
  | false => rw [q] at h; exact ⟨List.mem_cons_of_mem _ (look_map h).1, (look_map h).2⟩
def xTab (t : Addr) : List (Addr × Bool) := four.map fun c => (c, xSub c t)
def xTabV : List (Addr × Bool) := four.map fun c => (c, true)
def xTabT (ts : List Addr) : List (Addr × Bool) := four.map fun c => (c, ts.any (xSub c))
theorem look_mem {n : Str} {t : Addr} : ∀ {l : List (Str × Addr)}, (l.any fun q => q.2 == t) = true -> ∃ n, (n, t) ∈ l
 | [], h => nomatch h
 | (n, a) :: l, h => by
  rw [List.any_cons, Bool.or_eq_true, beq_iff_eq] at h
  rcases h with h | h
  ·exact ⟨n, h ▸ List.mem_cons_self⟩
  ·obtain ⟨m, hm⟩ := look_mem (n := n) h; exact ⟨m, List.mem_cons_of_mem _ hm⟩
theorem xTab_ok {w : World} {t : Addr} (ht : (clsT.any fun q => q.2 == t) = true) : ∀ C, (G0 w).mo C -> ∀ c b, (xTab t).lookup c = some b -> ExK C.K c /\ PySem.W.kitOne C.K (.ref c) (.ref t) = some b := fun C m c b h => by
 obtain ⟨h1, rfl⟩ := look_map h
 obtain ⟨n, hn⟩ := look_mem (n := "") ht
 exact ⟨(show More C from m).ek c h1, (show More C from m).kit c h1 n t hn⟩
theorem xTabV_ok {w : World} : ∀ C, (G0 w).mo C -> ∀ c b, xTabV.lookup c = some b -> ExK C.K c /\ PySem.W.kitOne C.K (.ref c) (.type "ValueError") = some b := fun C m c b h => by
 obtain ⟨h1, rfl⟩ := look_map h
 exact ⟨(show More C from m).ek c h1, (show More C from m).kitV c h1⟩
theorem kitAny_of {K : PySem.W.Frag} {c : Addr} {f : Addr -> Bool} : ∀ {ts : List Addr}, (∀ t, t ∈ ts -> PySem.W.kitOne K (.ref c) (.ref t) = some (f t)) -> PySem.W.kitAny K (.ref c) (ts.map .ref) = some (ts.any f)
 | [], _ => rfl
 | t :: ts, h => by
  rw [List.map_cons, List.any_cons]
  unfold PySem.W.kitAny
  rw [h t List.mem_cons_self]
  cases f t
  ·exact kitAny_of fun z hz => h z (List.mem_cons_of_mem _ hz)
  ·rfl
theorem ts_mem {ts : List Addr} (ht : (ts.all fun t => clsT.any fun q => q.2 == t) = true) {t : Addr} (h : t ∈ ts) : ∃ n, (n, t) ∈ clsT := look_mem (n := "") (List.all_eq_true.mp ht t h)
theorem xTabT_ok {w : World} {ns : List (Str × Addr × Pos)} (ht : ((ns.map (·.2.1)).all fun t => clsT.any fun q => q.2 == t) = true) : ∀ C, (G0 w).mo C -> ∀ c b, (xTabT (ns.map (·.2.1))).lookup c = some b -> ExK C.K c /\ PySem.W.kitAny C.K (.ref c) (nmV ns) = some b := fun C m c b h => by
 obtain ⟨h1, rfl⟩ := look_map h
 refine ⟨(show More C from m).ek c h1, ?_⟩
 have := kitAny_of (K := C.K) (c := c) (f := xSub c) (ts := ns.map (·.2.1)) fun t hz => let ⟨n, hn⟩ := ts_mem ht hz; (show More C from m).kit c h1 n t hn
 rwa [List.map_map] at this
def l_is_name_27 (w : World) (d : Nat) : SL (G w) d fi_is_name :=
(lCons (sIte true (eNotInS (eVar "sign" 1 (qp 28 11 15) (by left)) (eGlobS "LETTERS" letters (qp 28 23 30) (by left) fun J m => m.letters) (qp 28 11 30))
(lCons (sRet (eBool false 0 (qp 29 19 24)) (qp 29 12 24)) lNil)
lNil ⟨28,8,29,24⟩) lNil)
def b_is_name (w : World) (d : Nat) : SL (G w) d fi_is_name :=
(lCons (sIte false (eBop (bCons false (eNot (eIsi (eVar "word" 0 (qp 25 22 26) (by left)) .str (qp 25 11 21) (qp 25 28 31) (qp 25 11 32) (by left)) (qp 25 7 32)) (bCons true (eNot (eLeLe (eInt 1 0 (qp 25 40 41)) (eLen (eVar "word" 0 (qp 25 49 53) (by left)) (qp 25 45 48) (qp 25 45 54) (by left)) (eInt 8 0 (qp 25 58 59)) (qp 25 40 59) rfl) (qp 25 36 59)) (bLast .Or (eInG false (eVar "word" 0 (qp 25 63 67) (by left)) "WORDS" wordsV words (qp 25 71 76) (qp 25 63 76) (by left) rfl fun J m => m.words)))) (qp 25 7 76))
(lCons (sRet (eBool false 0 (qp 26 15 20)) (qp 26 8 20)) lNil)
lNil ⟨25,4,26,20⟩) (lCons (sFor "sign" (iStr (eVar "word" 0 (qp 27 16 20) (by left))) (l_is_name_27 w d) (qp 27 8 12) ⟨27,4,29,24⟩) (lCons (sRet (eBool true 0 (qp 30 11 15)) (qp 30 4 15)) lNil)))
theorem b_is_name_x (w : World) (d : Nat) : (b_is_name w d).xs = fd_is_name.st := by left
def b_is_whole (w : World) (d : Nat) : SL (G w) d fi_is_whole :=
(lCons (sRet (eBop (bCons false (eIsi (eVar "number" 0 (qp 32 22 28) (by left)) .int (qp 32 11 21) (qp 32 30 33) (qp 32 11 34) (by left)) (bLast .And (eNot (eIsi (eVar "number" 0 (qp 32 55 61) (by left)) .bool (qp 32 44 54) (qp 32 63 67) (qp 32 44 68) (by left)) (qp 32 40 68)))) (qp 32 11 69)) (qp 32 4 69)) lNil)
theorem b_is_whole_x (w : World) (d : Nat) : (b_is_whole w d).xs = fd_is_whole.st := by left
def b_is_node (w : World) (d : Nat) : SL (G w) d fi_is_node :=
(lCons (sIte false (eBop (bCons false (eNot (eIsi (eVar "node" 0 (qp 34 22 26) (by left)) .tuple (qp 34 11 21) (qp 34 28 33) (qp 34 11 34) (by left)) (qp 34 7 34)) (bCons true (eEq (eLen (eVar "node" 0 (qp 34 42 46) (by left)) (qp 34 38 41) (qp 34 38 47) (by left)) (eInt 0 0 (qp 34 51 52)) (qp 34 38 52)) (bLast .Or (eNot (eIsi (eIdxV false "node" 0 (qp 34 72 76) (eInt 0 0 (qp 34 77 78)) (qp 34 72 79) (by left)) .str (qp 34 61 71) (qp 34 81 84) (qp 34 61 85) (by left)) (qp 34 57 85))))) (qp 34 7 86))
(lCons (sRet (eBool false 0 (qp 35 15 20)) (qp 35 8 20)) lNil)
lNil ⟨34,4,35,20⟩) (lCons (sIte true (eBop (bCons false (eInG true (eIdxV false "node" 0 (qp 36 7 11) (eInt 0 0 (qp 36 12 13)) (qp 36 7 14) (by left)) "WORDS" wordsV words (qp 36 22 27) (qp 36 7 27) (by left) rfl fun J m => m.words) (bLast .Or (eNe (eLen (eVar "node" 0 (qp 36 35 39) (by left)) (qp 36 31 34) (qp 36 31 40) (by left)) (eDicG "LENGTHS" lens (eIdxV false "node" 0 (qp 36 52 56) (eInt 0 0 (qp 36 57 58)) (qp 36 52 59) (by left)) (qp 36 44 51) (qp 36 44 60) (by left) fun J m => m.lens) (qp 36 31 60)))) (qp 36 7 60))
(lCons (sRet (eBool false 0 (qp 37 15 20)) (qp 37 8 20)) lNil)
lNil ⟨36,4,37,20⟩) (lCons (sIte false (eEq (eIdxV false "node" 0 (qp 38 7 11) (eInt 0 0 (qp 38 12 13)) (qp 38 7 14) (by left)) (eStr "num" z_num 0 (qp 38 18 23) z_num_e z_num_k) (qp 38 7 23))
(lCons (sRet (eBop (bCons false (eCall "is_whole" 127 (rCons (eIdxV false "node" 0 (qp 39 24 28) (eInt 1 0 (qp 39 29 30)) (qp 39 24 31) (by left)) rNil) (qp 39 15 23) (qp 39 15 32) (by left)) (bLast .And (eLtLt (eNeg (eGlobI "GREAT" great (qp 39 38 43) (by left) fun J m => m.great) (qp 39 37 43)) (eIdxV false "node" 0 (qp 39 46 50) (eInt 1 0 (qp 39 51 52)) (qp 39 46 53) (by left)) (eGlobI "GREAT" great (qp 39 56 61) (by left) fun J m => m.great) (qp 39 37 61) rfl))) (qp 39 15 61)) (qp 39 8 61)) lNil)
lNil ⟨38,4,39,61⟩) (lCons (sIte false (eBop (bCons false (eEq (eIdxV false "node" 0 (qp 40 7 11) (eInt 0 0 (qp 40 12 13)) (qp 40 7 14) (by left)) (eStr "name" z_name 0 (qp 40 18 24) z_name_e z_name_k) (qp 40 7 24)) (bCons false (eEq (eIdxV false "node" 0 (qp 40 28 32) (eInt 0 0 (qp 40 33 34)) (qp 40 28 35) (by left)) (eStr "fun" z_fun 0 (qp 40 39 44) z_fun_e z_fun_k) (qp 40 28 44)) (bLast .Or (eEq (eIdxV false "node" 0 (qp 40 48 52) (eInt 0 0 (qp 40 53 54)) (qp 40 48 55) (by left)) (eStr "let" z_let 0 (qp 40 59 64) z_let_e z_let_k) (qp 40 48 64))))) (qp 40 7 64))
(lCons (sRet (eCall "is_name" 120 (rCons (eIdxV false "node" 0 (qp 41 23 27) (eInt 1 0 (qp 41 28 29)) (qp 41 23 30) (by left)) rNil) (qp 41 15 22) (qp 41 15 31) (by left)) (qp 41 8 31)) lNil)
lNil ⟨40,4,41,31⟩) (lCons (sRet (eBool true 0 (qp 42 11 15)) (qp 42 4 15)) lNil)))))
theorem b_is_node_x (w : World) (d : Nat) : (b_is_node w d).xs = fd_is_node.st := by left
def b_parts (w : World) (d : Nat) : SL (G w) d fi_parts :=
(lCons (sIte false (eBop (bCons false (eEq (eIdxV false "tree" 0 (qp 44 7 11) (eInt 0 0 (qp 44 12 13)) (qp 44 7 14) (by left)) (eStr "num" z_num 0 (qp 44 18 23) z_num_e z_num_k) (qp 44 7 23)) (bLast .Or (eEq (eIdxV false "tree" 0 (qp 44 27 31) (eInt 0 0 (qp 44 32 33)) (qp 44 27 34) (by left)) (eStr "name" z_name 0 (qp 44 38 44) z_name_e z_name_k) (qp 44 27 44)))) (qp 44 7 44))
(lCons (sRet (eLst rNil (qp 45 15 17) rfl) (qp 45 8 17)) lNil)
lNil ⟨44,4,45,17⟩) (lCons (sIte false (eBop (bCons false (eEq (eIdxV false "tree" 0 (qp 46 7 11) (eInt 0 0 (qp 46 12 13)) (qp 46 7 14) (by left)) (eStr "fun" z_fun 0 (qp 46 18 23) z_fun_e z_fun_k) (qp 46 7 23)) (bLast .Or (eEq (eIdxV false "tree" 0 (qp 46 27 31) (eInt 0 0 (qp 46 32 33)) (qp 46 27 34) (by left)) (eStr "let" z_let 0 (qp 46 38 43) z_let_e z_let_k) (qp 46 27 43)))) (qp 46 7 43))
(lCons (sRet (eListT (eSlc (eVar "tree" 0 (qp 47 20 24) (by left)) (dSome (eInt 2 0 (qp 47 25 26))) dNone (qp 47 25 27) (qp 47 20 28)) (qp 47 15 19) (qp 47 15 29) (by left)) (qp 47 8 29)) lNil)
lNil ⟨46,4,47,29⟩) (lCons (sRet (eListT (eSlc (eVar "tree" 0 (qp 48 16 20) (by left)) (dSome (eInt 1 0 (qp 48 21 22))) dNone (qp 48 21 23) (qp 48 16 24)) (qp 48 11 15) (qp 48 11 25) (by left)) (qp 48 4 25)) lNil)))
theorem b_parts_x (w : World) (d : Nat) : (b_parts w d).xs = fd_parts.st := by left
def c_need_tree_52 (w : World) (d : Nat) : T (G w) d fi_need_tree := (eNil true (eVar "waiting" 1 (qp 52 10 17) (by left)) (qp 52 21 23) (qp 52 10 23))
def l_need_tree_52 (w : World) (d : Nat) : SL (G w) d fi_need_tree :=
(lCons (sAsg "node" 3 (ePop "waiting" 1 (qp 53 15 22) (qp 53 15 26) (qp 53 15 28) (by left)) (qp 53 8 12) (qp 53 8 28) (by left)) (lCons (sAsg "many" 2 (eAdd (eVar "many" 2 (qp 54 15 19) (by left)) (eInt 1 0 (qp 54 22 23)) (qp 54 15 23)) (qp 54 8 12) (qp 54 8 23) (by left)) (lCons (sIte false (eBop (bCons true (eGt (eVar "many" 2 (qp 55 11 15) (by left)) (eGlobI "MOST_NODES" 400 (qp 55 18 28) (by left) fun J m => m.most) (qp 55 11 28)) (bLast .Or (eNot (eCall "is_node" 134 (rCons (eVar "node" 3 (qp 55 44 48) (by left)) rNil) (qp 55 36 43) (qp 55 36 49) (by left)) (qp 55 32 49)))) (qp 55 11 49))
(lStuck [(.Raise (some (.Call (.Name "NoTree" (qp 56 18 24)) [.Constant (.str "no tree") 0 (qp 56 25 34)] [] (qp 56 18 35))) none (qp 56 12 35))])
lNil ⟨55,8,56,35⟩) (lCons (sExt "waiting" 1 (eCall "parts" 141 (rCons (eVar "node" 3 (qp 57 29 33) (by left)) rNil) (qp 57 23 28) (qp 57 23 34) (by left)) (qp 57 8 15) (qp 57 8 22) (qp 57 8 35) (qp 57 8 35) (by left)) lNil))))
def b_need_tree (w : World) (d : Nat) : SL (G w) d fi_need_tree :=
(lCons (sAsg "waiting" 1 (eLst (rCons (eVar "tree" 0 (qp 50 15 19) (by left)) rNil) (qp 50 14 20) rfl) (qp 50 4 11) (qp 50 4 20) (by left)) (lCons (sAsg "many" 2 (eInt 0 0 (qp 51 11 12)) (qp 51 4 8) (qp 51 4 12) (by left)) (lCons (sWhil (c_need_tree_52 w d) (l_need_tree_52 w d) ⟨52,4,57,35⟩) (lCons (sRetV "tree" 0 (qp 58 11 15) (qp 58 4 15) (by left)) lNil))))
theorem b_need_tree_x (w : World) (d : Nat) : (b_need_tree w d).xs = fd_need_tree.st := by left
def l_free_73 (w : World) (d : Nat) : SL (G w) d fi_free :=
(lCons (sApp "waiting" 2 (eTup (rCons (eVar "part" 5 (qp 74 32 36) (by left)) (rCons (eVar "bound" 4 (qp 74 38 43) (by left)) rNil)) 0 (qp 74 31 44) rfl) (qp 74 16 23) (qp 74 16 30) (qp 74 16 45) (qp 74 16 45) (by left)) lNil)
def c_free_62 (w : World) (d : Nat) : T (G w) d fi_free := (eNil true (eVar "waiting" 2 (qp 62 10 17) (by left)) (qp 62 21 23) (qp 62 10 23))
def l_free_62 (w : World) (d : Nat) : SL (G w) d fi_free :=
(lCons (sUnp [("node", 3, (qp 63 8 12)), ("bound", 4, (qp 63 14 19))] (ePop "waiting" 2 (qp 63 22 29) (qp 63 22 33) (qp 63 22 35) (by left)) 0 (qp 63 8 19) (qp 63 8 35) (by left) fun J => rfl) (lCons (sIte false (eEq (eIdxV false "node" 3 (qp 64 11 15) (eInt 0 0 (qp 64 16 17)) (qp 64 11 18) (by left)) (eStr "name" z_name 0 (qp 64 22 28) z_name_e z_name_k) (qp 64 11 28))
(lCons (sIte false (eBop (bCons false (eNotInP (eIdxV false "node" 3 (qp 65 15 19) (eInt 1 0 (qp 65 20 21)) (qp 65 15 22) (by left)) (eVar "bound" 4 (qp 65 30 35) (by left)) (qp 65 15 35)) (bLast .And (eNotInP (eIdxV false "node" 3 (qp 65 40 44) (eInt 1 0 (qp 65 45 46)) (qp 65 40 47) (by left)) (eVar "found" 1 (qp 65 55 60) (by left)) (qp 65 40 60)))) (qp 65 15 60))
(lCons (sApp "found" 1 (eIdxV false "node" 3 (qp 66 29 33) (eInt 1 0 (qp 66 34 35)) (qp 66 29 36) (by left)) (qp 66 16 21) (qp 66 16 28) (qp 66 16 37) (qp 66 16 37) (by left)) lNil)
lNil ⟨65,12,66,37⟩) lNil)
(lCons (sIte false (eEq (eIdxV false "node" 3 (qp 67 13 17) (eInt 0 0 (qp 67 18 19)) (qp 67 13 20) (by left)) (eStr "fun" z_fun 0 (qp 67 24 29) z_fun_e z_fun_k) (qp 67 13 29))
(lCons (sApp "waiting" 2 (eTup (rCons (eIdxV false "node" 3 (qp 68 28 32) (eInt 2 0 (qp 68 33 34)) (qp 68 28 35) (by left)) (rCons (eAddT (eVar "bound" 4 (qp 68 37 42) (by left)) (eTup (rCons (eIdxV false "node" 3 (qp 68 46 50) (eInt 1 0 (qp 68 51 52)) (qp 68 46 53) (by left)) rNil) 0 (qp 68 45 55) rfl) (qp 68 37 55)) rNil)) 0 (qp 68 27 56) rfl) (qp 68 12 19) (qp 68 12 26) (qp 68 12 57) (qp 68 12 57) (by left)) lNil)
(lCons (sIte false (eEq (eIdxV false "node" 3 (qp 69 13 17) (eInt 0 0 (qp 69 18 19)) (qp 69 13 20) (by left)) (eStr "let" z_let 0 (qp 69 24 29) z_let_e z_let_k) (qp 69 13 29))
(lCons (sApp "waiting" 2 (eTup (rCons (eIdxV false "node" 3 (qp 70 28 32) (eInt 3 0 (qp 70 33 34)) (qp 70 28 35) (by left)) (rCons (eAddT (eVar "bound" 4 (qp 70 37 42) (by left)) (eTup (rCons (eIdxV false "node" 3 (qp 70 46 50) (eInt 1 0 (qp 70 51 52)) (qp 70 46 53) (by left)) rNil) 0 (qp 70 45 55) rfl) (qp 70 37 55)) rNil)) 0 (qp 70 27 56) rfl) (qp 70 12 19) (qp 70 12 26) (qp 70 12 57) (qp 70 12 57) (by left)) (lCons (sApp "waiting" 2 (eTup (rCons (eIdxV false "node" 3 (qp 71 28 32) (eInt 2 0 (qp 71 33 34)) (qp 71 28 35) (by left)) (rCons (eVar "bound" 4 (qp 71 37 42) (by left)) rNil)) 0 (qp 71 27 43) rfl) (qp 71 12 19) (qp 71 12 26) (qp 71 12 44) (qp 71 12 44) (by left)) lNil))
(lCons (sFor "part" (iRev (eCall "parts" 141 (rCons (eVar "node" 3 (qp 73 39 43) (by left)) rNil) (qp 73 33 38) (qp 73 33 44) (by left)) (qp 73 24 32) (qp 73 24 45) (by left)) (l_free_73 w d) (qp 73 16 20) ⟨73,12,74,45⟩) lNil) ⟨69,8,74,45⟩) lNil) ⟨67,8,74,45⟩) lNil) ⟨64,8,74,45⟩) lNil))
def b_free (w : World) (d : Nat) : SL (G w) d fi_free :=
(lCons (sAsg "found" 1 (eLst rNil (qp 60 12 14) rfl) (qp 60 4 9) (qp 60 4 14) (by left)) (lCons (sAsg "waiting" 2 (eLst (rCons (eTup (rCons (eVar "tree" 0 (qp 61 16 20) (by left)) (rCons (eTup rNil 0 (qp 61 22 24) rfl) rNil)) 0 (qp 61 15 25) rfl) rNil) (qp 61 14 26) rfl) (qp 61 4 11) (qp 61 4 26) (by left)) (lCons (sWhil (c_free_62 w d) (l_free_62 w d) ⟨62,4,74,45⟩) (lCons (sRetV "found" 1 (qp 75 11 16) (qp 75 4 16) (by left)) lNil))))
theorem b_free_x (w : World) (d : Nat) : (b_free w d).xs = fd_free.st := by left
def b_need (w : World) (d : Nat) : SL (G w) d fi_need :=
(lCons (sExpr (eCall "need_tree" 148 (rCons (eVar "tree" 0 (qp 79 14 18) (by left)) rNil) (qp 79 4 13) (qp 79 4 19) (by left)) (qp 79 4 19) rfl) (lCons (sIte false (eNil true (eCall "free" 155 (rCons (eVar "tree" 0 (qp 80 12 16) (by left)) rNil) (qp 80 7 11) (qp 80 7 17) (by left)) (qp 80 21 23) (qp 80 7 23))
(lStuck [(.Raise (some (.Call (.Name "NotClosed" (qp 81 14 23)) [.Constant (.str "a name is free") 0 (qp 81 24 40)] [] (qp 81 14 41))) none (qp 81 8 41))])
lNil ⟨80,4,81,41⟩) (lCons (sIte true (eBop (bCons false (eNot (eCall "is_whole" 127 (rCons (eVar "most" 1 (qp 82 20 24) (by left)) rNil) (qp 82 11 19) (qp 82 11 25) (by left)) (qp 82 7 25)) (bLast .Or (eNot (eLeLe (eInt 0 0 (qp 82 33 34)) (eVar "most" 1 (qp 82 38 42) (by left)) (eGlobI "MOST_DEEDS" 1000 (qp 82 46 56) (by left) fun J m => m.deeds) (qp 82 33 56) rfl) (qp 82 29 56)))) (qp 82 7 56))
(lStuck [(.Raise (some (.Call (.Name "BadMost" (qp 83 14 21)) [.Constant (.str "no such count") 0 (qp 83 22 37)] [] (qp 83 14 38))) none (qp 83 8 38))])
lNil ⟨82,4,83,38⟩) lNil)))
theorem b_need_x (w : World) (d : Nat) : (b_need w d).xs = fd_need.st := by left
def b_open_places (w : World) (d : Nat) : SL (G w) d fi_open_places :=
(lCons (sIte false (eBop (bCons false (eEq (eIdxV false "node" 0 (qp 86 7 11) (eInt 0 0 (qp 86 12 13)) (qp 86 7 14) (by left)) (eStr "num" z_num 0 (qp 86 18 23) z_num_e z_num_k) (qp 86 7 23)) (bLast .Or (eEq (eIdxV false "node" 0 (qp 86 27 31) (eInt 0 0 (qp 86 32 33)) (qp 86 27 34) (by left)) (eStr "name" z_name 0 (qp 86 38 44) z_name_e z_name_k) (qp 86 27 44)))) (qp 86 7 44))
(lCons (sRet (eLst rNil (qp 87 15 17) rfl) (qp 87 8 17)) lNil)
lNil ⟨86,4,87,17⟩) (lCons (sIte false (eEq (eIdxV false "node" 0 (qp 88 7 11) (eInt 0 0 (qp 88 12 13)) (qp 88 7 14) (by left)) (eStr "fun" z_fun 0 (qp 88 18 23) z_fun_e z_fun_k) (qp 88 7 23))
(lCons (sIte true (eEq (eIdxV false "node" 0 (qp 89 11 15) (eInt 1 0 (qp 89 16 17)) (qp 89 11 18) (by left)) (eVar "name" 1 (qp 89 22 26) (by left)) (qp 89 11 26))
(lCons (sRet (eLst rNil (qp 90 19 21) rfl) (qp 90 12 21)) lNil)
lNil ⟨89,8,90,21⟩) (lCons (sRet (eLst (rCons (eInt 2 0 (qp 91 16 17)) rNil) (qp 91 15 18) rfl) (qp 91 8 18)) lNil))
lNil ⟨88,4,91,18⟩) (lCons (sIte false (eEq (eIdxV false "node" 0 (qp 92 7 11) (eInt 0 0 (qp 92 12 13)) (qp 92 7 14) (by left)) (eStr "let" z_let 0 (qp 92 18 23) z_let_e z_let_k) (qp 92 7 23))
(lCons (sIte true (eEq (eIdxV false "node" 0 (qp 93 11 15) (eInt 1 0 (qp 93 16 17)) (qp 93 11 18) (by left)) (eVar "name" 1 (qp 93 22 26) (by left)) (qp 93 11 26))
(lCons (sRet (eLst (rCons (eInt 2 0 (qp 94 20 21)) rNil) (qp 94 19 22) rfl) (qp 94 12 22)) lNil)
lNil ⟨93,8,94,22⟩) (lCons (sRet (eLst (rCons (eInt 2 0 (qp 95 16 17)) (rCons (eInt 3 0 (qp 95 19 20)) rNil)) (qp 95 15 21) rfl) (qp 95 8 21)) lNil))
lNil ⟨92,4,95,21⟩) (lCons (sRet (eListR (rCons (eInt 1 0 (qp 96 22 23)) (rCons (eLen (eVar "node" 0 (qp 96 29 33) (by left)) (qp 96 25 28) (qp 96 25 34) (by left)) rNil)) (qp 96 11 15) (qp 96 16 21) (qp 96 16 35) (qp 96 11 36) (by left)) (qp 96 4 36)) lNil))))
theorem b_open_places_x (w : World) (d : Nat) : (b_open_places w d).xs = fd_open_places.st := by left
def l_put_105 (w : World) (d : Nat) : SL (G w) d fi_put :=
(lCons (sSet "row" 8 (eVar "place" 9 (qp 106 20 25) (by left)) (ePop "made" 4 (qp 106 29 33) (qp 106 29 37) (qp 106 29 39) (by left)) (qp 106 16 19) (qp 106 16 26) (qp 106 16 39) (by left)) lNil)
def l_put_114 (w : World) (d : Nat) : SL (G w) d fi_put :=
(lCons (sApp "tasks" 3 (eTup (rCons (eIdxV false "node" 5 (qp 115 30 34) (eVar "place" 9 (qp 115 35 40) (by left)) (qp 115 30 41) (by left)) (rCons (eBool false 0 (qp 115 43 48)) rNil)) 0 (qp 115 29 49) rfl) (qp 115 16 21) (qp 115 16 28) (qp 115 16 50) (qp 115 16 50) (by left)) lNil)
def c_put_100 (w : World) (d : Nat) : T (G w) d fi_put := (eNil true (eVar "tasks" 3 (qp 100 10 15) (by left)) (qp 100 19 21) (qp 100 10 21))
def l_put_100 (w : World) (d : Nat) : SL (G w) d fi_put :=
(lCons (sUnp [("node", 5, (qp 101 8 12)), ("ready", 6, (qp 101 14 19))] (ePop "tasks" 3 (qp 101 22 27) (qp 101 22 31) (qp 101 22 33) (by left)) 0 (qp 101 8 19) (qp 101 8 33) (by left) fun J => rfl) (lCons (sAsg "places" 7 (eCall "open_places" 169 (rCons (eVar "node" 5 (qp 102 29 33) (by left)) (rCons (eVar "name" 1 (qp 102 35 39) (by left)) rNil)) (qp 102 17 28) (qp 102 17 40) (by left)) (qp 102 8 14) (qp 102 8 40) (by left)) (lCons (sIte false (eVar "ready" 6 (qp 103 11 16) (by left))
(lCons (sAsg "row" 8 (eListT (eVar "node" 5 (qp 104 23 27) (by left)) (qp 104 18 22) (qp 104 18 28) (by left)) (qp 104 12 15) (qp 104 12 28) (by left)) (lCons (sFor "place" (iRev (eVar "places" 7 (qp 105 34 40) (by left)) (qp 105 25 33) (qp 105 25 41) (by left)) (l_put_105 w d) (qp 105 16 21) ⟨105,12,106,39⟩) (lCons (sApp "made" 4 (eTupL (eVar "row" 8 (qp 107 30 33) (by left)) (qp 107 24 29) (qp 107 24 34) (by left)) (qp 107 12 16) (qp 107 12 23) (qp 107 12 35) (qp 107 12 35) (by left)) lNil)))
(lCons (sIte true (eBop (bCons false (eEq (eIdxV false "node" 5 (qp 108 13 17) (eInt 0 0 (qp 108 18 19)) (qp 108 13 20) (by left)) (eStr "name" z_name 0 (qp 108 24 30) z_name_e z_name_k) (qp 108 13 30)) (bLast .And (eEq (eIdxV false "node" 5 (qp 108 35 39) (eInt 1 0 (qp 108 40 41)) (qp 108 35 42) (by left)) (eVar "name" 1 (qp 108 46 50) (by left)) (qp 108 35 50)))) (qp 108 13 50))
(lCons (sApp "made" 4 (eVar "value" 2 (qp 109 24 29) (by left)) (qp 109 12 16) (qp 109 12 23) (qp 109 12 30) (qp 109 12 30) (by left)) lNil)
(lCons (sIte false (eNil false (eVar "places" 7 (qp 110 13 19) (by left)) (qp 110 23 25) (qp 110 13 25))
(lCons (sApp "made" 4 (eVar "node" 5 (qp 111 24 28) (by left)) (qp 111 12 16) (qp 111 12 23) (qp 111 12 29) (qp 111 12 29) (by left)) lNil)
(lCons (sApp "tasks" 3 (eTup (rCons (eVar "node" 5 (qp 113 26 30) (by left)) (rCons (eBool true 0 (qp 113 32 36)) rNil)) 0 (qp 113 25 37) rfl) (qp 113 12 17) (qp 113 12 24) (qp 113 12 38) (qp 113 12 38) (by left)) (lCons (sFor "place" (iRev (eVar "places" 7 (qp 114 34 40) (by left)) (qp 114 25 33) (qp 114 25 41) (by left)) (l_put_114 w d) (qp 114 16 21) ⟨114,12,115,50⟩) lNil)) ⟨110,8,115,50⟩) lNil) ⟨108,8,115,50⟩) lNil) ⟨103,8,115,50⟩) lNil)))
def b_put (w : World) (d : Nat) : SL (G w) d fi_put :=
(lCons (sAsg "tasks" 3 (eLst (rCons (eTup (rCons (eVar "tree" 0 (qp 98 14 18) (by left)) (rCons (eBool false 0 (qp 98 20 25)) rNil)) 0 (qp 98 13 26) rfl) rNil) (qp 98 12 27) rfl) (qp 98 4 9) (qp 98 4 27) (by left)) (lCons (sAsg "made" 4 (eLst rNil (qp 99 11 13) rfl) (qp 99 4 8) (qp 99 4 13) (by left)) (lCons (sWhil (c_put_100 w d) (l_put_100 w d) ⟨100,4,115,50⟩) (lCons (sRet (eIdxV false "made" 4 (qp 116 11 15) (eInt 0 0 (qp 116 16 17)) (qp 116 11 18) (by left)) (qp 116 4 18)) lNil))))
theorem b_put_x (w : World) (d : Nat) : (b_put w d).xs = fd_put.st := by left
def b_is_value (w : World) (d : Nat) : SL (G w) d fi_is_value :=
(lCons (sRet (eBop (bCons false (eEq (eIdxV false "node" 0 (qp 118 11 15) (eInt 0 0 (qp 118 16 17)) (qp 118 11 18) (by left)) (eStr "num" z_num 0 (qp 118 22 27) z_num_e z_num_k) (qp 118 11 27)) (bLast .Or (eEq (eIdxV false "node" 0 (qp 118 31 35) (eInt 0 0 (qp 118 36 37)) (qp 118 31 38) (by left)) (eStr "fun" z_fun 0 (qp 118 42 47) z_fun_e z_fun_k) (qp 118 31 47)))) (qp 118 11 47)) (qp 118 4 47)) lNil)
theorem b_is_value_x (w : World) (d : Nat) : (b_is_value w d).xs = fd_is_value.st := by left
def b_needed (w : World) (d : Nat) : SL (G w) d fi_needed :=
(lCons (sIte false (eEq (eIdxV false "node" 0 (qp 120 7 11) (eInt 0 0 (qp 120 12 13)) (qp 120 7 14) (by left)) (eStr "if" z_if 0 (qp 120 18 22) z_if_e z_if_k) (qp 120 7 22))
(lCons (sRet (eLst (rCons (eInt 1 0 (qp 121 16 17)) rNil) (qp 121 15 18) rfl) (qp 121 8 18)) lNil)
lNil ⟨120,4,121,18⟩) (lCons (sIte false (eEq (eIdxV false "node" 0 (qp 122 7 11) (eInt 0 0 (qp 122 12 13)) (qp 122 7 14) (by left)) (eStr "let" z_let 0 (qp 122 18 23) z_let_e z_let_k) (qp 122 7 23))
(lCons (sRet (eLst (rCons (eInt 2 0 (qp 123 16 17)) rNil) (qp 123 15 18) rfl) (qp 123 8 18)) lNil)
lNil ⟨122,4,123,18⟩) (lCons (sRet (eLst (rCons (eInt 1 0 (qp 124 12 13)) (rCons (eInt 2 0 (qp 124 15 16)) rNil)) (qp 124 11 17) rfl) (qp 124 4 17)) lNil)))
theorem b_needed_x (w : World) (d : Nat) : (b_needed w d).xs = fd_needed.st := by left
def l_next_place_126 (w : World) (d : Nat) : SL (G w) d fi_next_place :=
(lCons (sIte false (eNot (eCall "is_value" 183 (rCons (eIdxV false "node" 0 (qp 127 24 28) (eVar "place" 1 (qp 127 29 34) (by left)) (qp 127 24 35) (by left)) rNil) (qp 127 15 23) (qp 127 15 36) (by left)) (qp 127 11 36))
(lCons (sRetV "place" 1 (qp 128 19 24) (qp 128 12 24) (by left)) lNil)
lNil ⟨127,8,128,24⟩) lNil)
def b_next_place (w : World) (d : Nat) : SL (G w) d fi_next_place :=
(lCons (sFor "place" (iList (eCall "needed" 190 (rCons (eVar "node" 0 (qp 126 24 28) (by left)) rNil) (qp 126 17 23) (qp 126 17 29) (by left))) (l_next_place_126 w d) (qp 126 8 13) ⟨126,4,128,24⟩) (lCons (sRet (eNone 0 (qp 129 11 15)) (qp 129 4 15)) lNil))
theorem b_next_place_x (w : World) (d : Nat) : (b_next_place w d).xs = fd_next_place.st := by left
def k5 (w : World) (d : Nat) : SL (G w) d fi_deed :=
(lCons (sIte false (eEq (eIdxV false "node" 0 (qp 145 7 11) (eInt 0 0 (qp 145 12 13)) (qp 145 7 14) (by left)) (eStr "plus" z_plus 0 (qp 145 18 24) z_plus_e z_plus_k) (qp 145 7 24))
(lCons (sRet (eTup (rCons (eStr "num" z_num 0 (qp 146 16 21) z_num_e z_num_k) (rCons (eAdd (eIdx false (eIdxV false "node" 0 (qp 146 23 27) (eInt 1 0 (qp 146 28 29)) (qp 146 23 30) (by left)) (eInt 1 0 (qp 146 31 32)) (qp 146 23 33)) (eIdx false (eIdxV false "node" 0 (qp 146 36 40) (eInt 2 0 (qp 146 41 42)) (qp 146 36 43) (by left)) (eInt 1 0 (qp 146 44 45)) (qp 146 36 46)) (qp 146 23 46)) rNil)) 0 (qp 146 15 47) rfl) (qp 146 8 47)) lNil)
lNil ⟨145,4,146,47⟩) (lCons (sRet (eTup (rCons (eStr "num" z_num 0 (qp 147 12 17) z_num_e z_num_k) (rCons (eSub (eIdx false (eIdxV false "node" 0 (qp 147 19 23) (eInt 1 0 (qp 147 24 25)) (qp 147 19 26) (by left)) (eInt 1 0 (qp 147 27 28)) (qp 147 19 29)) (eIdx false (eIdxV false "node" 0 (qp 147 32 36) (eInt 2 0 (qp 147 37 38)) (qp 147 32 39) (by left)) (eInt 1 0 (qp 147 40 41)) (qp 147 32 42)) (qp 147 19 42)) rNil)) 0 (qp 147 11 43) rfl) (qp 147 4 43)) lNil))
def k9 (w : World) (d : Nat) : T (G w) d fi_deed :=
(eBop (bCons false (eEq (eIdx false (eIdxV false "node" 0 (qp 143 7 11) (eInt 1 0 (qp 143 12 13)) (qp 143 7 14) (by left)) (eInt 0 0 (qp 143 15 16)) (qp 143 7 17)) (eStr "fun" z_fun 0 (qp 143 21 26) z_fun_e z_fun_k) (qp 143 7 26)) (bLast .Or (eEq (eIdx false (eIdxV false "node" 0 (qp 143 30 34) (eInt 2 0 (qp 143 35 36)) (qp 143 30 37) (by left)) (eInt 0 0 (qp 143 38 39)) (qp 143 30 40)) (eStr "fun" z_fun 0 (qp 143 44 49) z_fun_e z_fun_k) (qp 143 30 49)))) (qp 143 7 49))
def k2 (w : World) (d : Nat) : SL (G w) d fi_deed :=
(lCons (sIte false (k9 w d)
(lStuck [(.Raise (some (.Call (.Name "NoNumber" (qp 144 14 22)) [.Constant (.str "a function is reckoned with") 0 (qp 144 23 52)] [] (qp 144 14 53))) none (qp 144 8 53))])
lNil ⟨143,4,144,53⟩) (k5 w d))
def k8 (w : World) (d : Nat) : SL (G w) d fi_deed :=
(lCons (sIte true (eEq (eIdx false (eIdxV false "node" 0 (qp 140 11 15) (eInt 1 0 (qp 140 16 17)) (qp 140 11 18) (by left)) (eInt 1 0 (qp 140 19 20)) (qp 140 11 21)) (eInt 0 0 (qp 140 25 26)) (qp 140 11 26))
(lCons (sRet (eIdxV false "node" 0 (qp 141 19 23) (eInt 3 0 (qp 141 24 25)) (qp 141 19 26) (by left)) (qp 141 12 26)) lNil)
lNil ⟨140,8,141,26⟩) (lCons (sRet (eIdxV false "node" 0 (qp 142 15 19) (eInt 2 0 (qp 142 20 21)) (qp 142 15 22) (by left)) (qp 142 8 22)) lNil))
def k13 (w : World) (d : Nat) : T (G w) d fi_deed :=
(eEq (eIdx false (eIdxV false "node" 0 (qp 138 11 15) (eInt 1 0 (qp 138 16 17)) (qp 138 11 18) (by left)) (eInt 0 0 (qp 138 19 20)) (qp 138 11 21)) (eStr "fun" z_fun 0 (qp 138 25 30) z_fun_e z_fun_k) (qp 138 11 30))
def k19 (w : World) (d : Nat) : T (G w) d fi_deed :=
(eEq (eIdxV false "node" 0 (qp 137 7 11) (eInt 0 0 (qp 137 12 13)) (qp 137 7 14) (by left)) (eStr "if" z_if 0 (qp 137 18 22) z_if_e z_if_k) (qp 137 7 22))
def k4 (w : World) (d : Nat) : SS (G w) d fi_deed :=
(sIte false (k19 w d)
(lCons (sIte false (k13 w d)
(lStuck [(.Raise (some (.Call (.Name "NoNumber" (qp 139 18 26)) [.Constant (.str "a function is chosen by") 0 (qp 139 27 52)] [] (qp 139 18 53))) none (qp 139 12 53))])
lNil ⟨138,8,139,53⟩) (k8 w d))
lNil ⟨137,4,142,22⟩)
def k1 (w : World) (d : Nat) : SL (G w) d fi_deed :=
(lCons (k4 w d) (k2 w d))
def k7 (w : World) (d : Nat) : SL (G w) d fi_deed :=
(lCons (sRet (eCall "put" 176 (rCons (eIdx false (eIdxV false "node" 0 (qp 136 19 23) (eInt 1 0 (qp 136 24 25)) (qp 136 19 26) (by left)) (eInt 2 0 (qp 136 27 28)) (qp 136 19 29)) (rCons (eIdx false (eIdxV false "node" 0 (qp 136 31 35) (eInt 1 0 (qp 136 36 37)) (qp 136 31 38) (by left)) (eInt 1 0 (qp 136 39 40)) (qp 136 31 41)) (rCons (eIdxV false "node" 0 (qp 136 43 47) (eInt 2 0 (qp 136 48 49)) (qp 136 43 50) (by left)) rNil))) (qp 136 15 18) (qp 136 15 51) (by left)) (qp 136 8 51)) lNil)
def k14 (w : World) (d : Nat) : T (G w) d fi_deed :=
(eEq (eIdx false (eIdxV false "node" 0 (qp 134 11 15) (eInt 1 0 (qp 134 16 17)) (qp 134 11 18) (by left)) (eInt 0 0 (qp 134 19 20)) (qp 134 11 21)) (eStr "num" z_num 0 (qp 134 25 30) z_num_e z_num_k) (qp 134 11 30))
def k17 (w : World) (d : Nat) : T (G w) d fi_deed :=
(eEq (eIdxV false "node" 0 (qp 133 7 11) (eInt 0 0 (qp 133 12 13)) (qp 133 7 14) (by left)) (eStr "call" z_call 0 (qp 133 18 24) z_call_e z_call_k) (qp 133 7 24))
def k3 (w : World) (d : Nat) : SS (G w) d fi_deed :=
(sIte false (k17 w d)
(lCons (sIte false (k14 w d)
(lStuck [(.Raise (some (.Call (.Name "NoFunction" (qp 135 18 28)) [.Constant (.str "a number is called") 0 (qp 135 29 49)] [] (qp 135 18 50))) none (qp 135 12 50))])
lNil ⟨134,8,135,50⟩) (k7 w d))
lNil ⟨133,4,136,51⟩)
def k6 (w : World) (d : Nat) : SS (G w) d fi_deed :=
(sIte false (eEq (eIdxV false "node" 0 (qp 131 7 11) (eInt 0 0 (qp 131 12 13)) (qp 131 7 14) (by left)) (eStr "let" z_let 0 (qp 131 18 23) z_let_e z_let_k) (qp 131 7 23))
(lCons (sRet (eCall "put" 176 (rCons (eIdxV false "node" 0 (qp 132 19 23) (eInt 3 0 (qp 132 24 25)) (qp 132 19 26) (by left)) (rCons (eIdxV false "node" 0 (qp 132 28 32) (eInt 1 0 (qp 132 33 34)) (qp 132 28 35) (by left)) (rCons (eIdxV false "node" 0 (qp 132 37 41) (eInt 2 0 (qp 132 42 43)) (qp 132 37 44) (by left)) rNil))) (qp 132 15 18) (qp 132 15 45) (by left)) (qp 132 8 45)) lNil)
lNil ⟨131,4,132,45⟩)
def b_deed (w : World) (d : Nat) : SL (G w) d fi_deed :=
(lCons (k6 w d) (lCons (k3 w d) (k1 w d)))
theorem b_deed_x (w : World) (d : Nat) : (b_deed w d).xs = fd_deed.st := by left
def c_step_154 (w : World) (d : Nat) : T (G w) d fi_step := (eIsNot (eVar "place" 3 (qp 154 10 15) (by left)) (eNone 0 (qp 154 23 27)) (qp 154 10 27))
def l_step_154 (w : World) (d : Nat) : SL (G w) d fi_step :=
(lCons (sIte false (eEq (eIdxV false "node" 2 (qp 155 11 15) (eInt 0 0 (qp 155 16 17)) (qp 155 11 18) (by left)) (eStr "name" z_name 0 (qp 155 22 28) z_name_e z_name_k) (qp 155 11 28))
(lStuck [(.Raise (some (.Call (.Name "NotClosed" (qp 156 18 27)) [.Constant (.str "a name stands for nothing") 0 (qp 156 28 55)] [] (qp 156 18 56))) none (qp 156 12 56))])
lNil ⟨155,8,156,56⟩) (lCons (sAsg "place" 3 (eCall "next_place" 197 (rCons (eVar "node" 2 (qp 157 27 31) (by left)) rNil) (qp 157 16 26) (qp 157 16 32) (by left)) (qp 157 8 13) (qp 157 8 32) (by left)) (lCons (sIte false (eIsNot (eVar "place" 3 (qp 158 11 16) (by left)) (eNone 0 (qp 158 24 28)) (qp 158 11 28))
(lCons (sApp "above" 1 (eTup (rCons (eVar "node" 2 (qp 159 26 30) (by left)) (rCons (eVar "place" 3 (qp 159 32 37) (by left)) rNil)) 0 (qp 159 25 38) rfl) (qp 159 12 17) (qp 159 12 24) (qp 159 12 39) (qp 159 12 39) (by left)) (lCons (sAsg "node" 2 (eIdxV false "node" 2 (qp 160 19 23) (eVar "place" 3 (qp 160 24 29) (by left)) (qp 160 19 30) (by left)) (qp 160 12 16) (qp 160 12 30) (by left)) lNil))
lNil ⟨158,8,160,30⟩) lNil)))
def l_step_162 (w : World) (d : Nat) : SL (G w) d fi_step :=
(lCons (sAsg "found" 4 (eAddT (eAddT (eSlc (eIdxV false "pair" 5 (qp 163 16 20) (eInt 0 0 (qp 163 21 22)) (qp 163 16 23) (by left)) dNone (dSome (eIdxV false "pair" 5 (qp 163 25 29) (eInt 1 0 (qp 163 30 31)) (qp 163 25 32) (by left))) (qp 163 24 32) (qp 163 16 33)) (eTup (rCons (eVar "found" 4 (qp 163 37 42) (by left)) rNil) 0 (qp 163 36 44) rfl) (qp 163 16 44)) (eSlc (eIdxV false "pair" 5 (qp 163 47 51) (eInt 0 0 (qp 163 52 53)) (qp 163 47 54) (by left)) (dSome (eAdd (eIdxV false "pair" 5 (qp 163 55 59) (eInt 1 0 (qp 163 60 61)) (qp 163 55 62) (by left)) (eInt 1 0 (qp 163 65 66)) (qp 163 55 66))) dNone (qp 163 55 67) (qp 163 47 68)) (qp 163 16 68)) (qp 163 8 13) (qp 163 8 68) (by left)) lNil)
def k12 (w : World) (d : Nat) : SL (G w) d fi_step :=
(lCons (sFor "pair" (iRev (eVar "above" 1 (qp 162 25 30) (by left)) (qp 162 16 24) (qp 162 16 31) (by left)) (l_step_162 w d) (qp 162 8 12) ⟨162,4,163,68⟩) (lCons (sRetV "found" 4 (qp 164 11 16) (qp 164 4 16) (by left)) lNil))
def k15 (w : World) (d : Nat) : SS (G w) d fi_step :=
(sIte false (eCall "is_value" 183 (rCons (eVar "tree" 0 (qp 149 16 20) (by left)) rNil) (qp 149 7 15) (qp 149 7 21) (by left))
(lCons (sRet (eNone 0 (qp 150 15 19)) (qp 150 8 19)) lNil)
lNil ⟨149,4,150,19⟩)
def k22 (w : World) (d : Nat) : SS (G w) d fi_step :=
(sAsg "node" 2 (eVar "tree" 0 (qp 152 11 15) (by left)) (qp 152 4 8) (qp 152 4 15) (by left))
def k23 (w : World) (d : Nat) : SS (G w) d fi_step :=
(sAsg "above" 1 (eLst rNil (qp 151 12 14) rfl) (qp 151 4 9) (qp 151 4 14) (by left))
def b_step (w : World) (d : Nat) : SL (G w) d fi_step :=
(lCons (k15 w d) (lCons (k23 w d) (lCons (k22 w d) (lCons (sAsg "place" 3 (eInt 0 0 (qp 153 12 13)) (qp 153 4 9) (qp 153 4 13) (by left)) (lCons (sWhil (c_step_154 w d) (l_step_154 w d) ⟨154,4,160,30⟩) (lCons (sAsg "found" 4 (eCall "deed" 204 (rCons (eVar "node" 2 (qp 161 17 21) (by left)) rNil) (qp 161 12 16) (qp 161 12 22) (by left)) (qp 161 4 9) (qp 161 4 22) (by left)) (k12 w d)))))))
theorem b_step_x (w : World) (d : Nat) : (b_step w d).xs = fd_step.st := by left
def c_steps_168 (w : World) (d : Nat) : T (G w) d fi_steps := (eNot (eCall "is_value" 183 (rCons (eIdxV false "found" 2 (qp 168 23 28) (eNeg (eInt 1 0 (qp 168 30 31)) (qp 168 29 31)) (qp 168 23 32) (by left)) rNil) (qp 168 14 22) (qp 168 14 33) (by left)) (qp 168 10 33))
def k18 (w : World) (d : Nat) : T (G w) d fi_steps :=
(eGt (eLen (eVar "found" 2 (qp 169 15 20) (by left)) (qp 169 11 14) (qp 169 11 21) (by left)) (eVar "most" 1 (qp 169 24 28) (by left)) (qp 169 11 28))
def k10 (w : World) (d : Nat) : SS (G w) d fi_steps :=
(sIte true (k18 w d)
(lStuck [(.Raise (some (.Call (.Name "Dry" (qp 170 18 21)) [.Constant (.str "no value behind so many deeds") 0 (qp 170 22 53)] [] (qp 170 18 54))) none (qp 170 12 54))])
lNil ⟨169,8,170,54⟩)
def k21 (w : World) (d : Nat) : T (G w) d fi_steps :=
(eIdxV false "found" 2 (qp 171 26 31) (eNeg (eInt 1 0 (qp 171 33 34)) (qp 171 32 34)) (qp 171 26 35) (by left))
def k11 (w : World) (d : Nat) : SL (G w) d fi_steps :=
(lCons (sApp "found" 2 (eCall "step" 211 (rCons (k21 w d) rNil) (qp 171 21 25) (qp 171 21 36) (by left)) (qp 171 8 13) (qp 171 8 20) (qp 171 8 37) (qp 171 8 37) (by left)) lNil)
def l_steps_168 (w : World) (d : Nat) : SL (G w) d fi_steps :=
(lCons (k10 w d) (k11 w d))
def k16 (w : World) (d : Nat) : SS (G w) d fi_steps :=
(sExpr (eCall "need" 162 (rCons (eVar "tree" 0 (qp 166 9 13) (by left)) (rCons (eVar "most" 1 (qp 166 15 19) (by left)) rNil)) (qp 166 4 8) (qp 166 4 20) (by left)) (qp 166 4 20) rfl)
def k20 (w : World) (d : Nat) : SS (G w) d fi_steps :=
(sAsg "found" 2 (eLst (rCons (eVar "tree" 0 (qp 167 13 17) (by left)) rNil) (qp 167 12 18) rfl) (qp 167 4 9) (qp 167 4 18) (by left))
def b_steps (w : World) (d : Nat) : SL (G w) d fi_steps :=
(lCons (k16 w d) (lCons (k20 w d) (lCons (sWhil (c_steps_168 w d) (l_steps_168 w d) ⟨168,4,171,37⟩) (lCons (sRetV "found" 2 (qp 172 11 16) (qp 172 4 16) (by left)) lNil))))
theorem b_steps_x (w : World) (d : Nat) : (b_steps w d).xs = fd_steps.st := by left
def b__law_cell_at (w : World) (d : Nat) : SL (G w) d fi__law_cell_at :=
(lCons (sIte true (eLt (eVar "_law_k" 1 (qp 175 7 13) (by left)) (eLen (eVar "_law_script" 0 (qp 175 20 31) (by left)) (qp 175 16 19) (qp 175 16 32) (by left)) (qp 175 7 32))
(lCons (sRet (eIdxV true "_law_script" 0 (qp 176 15 26) (eVar "_law_k" 1 (qp 176 27 33) (by left)) (qp 176 15 34) (by left)) (qp 176 8 34)) lNil)
lNil ⟨175,4,176,34⟩) (lCons (sRet (eInt 0 0 (qp 177 11 12)) (qp 177 4 12)) lNil))
theorem b__law_cell_at_x (w : World) (d : Nat) : (b__law_cell_at w d).xs = fd__law_cell_at.st := by left
def l__law_name_by_181 (w : World) (d : Nat) : SL (G w) d fi__law_name_by :=
(lCons (sAsg "_law_frame" 2 (eCat (eVar "_law_frame" 2 (qp 182 21 31) (by left)) (eIdxV true "_law_letters" 1 (qp 182 34 46) (eMod (eAdd (eDiv (eVar "_law_cell" 0 (qp 182 48 57) (by left)) (eInt 208 0 (qp 182 61 64)) (qp 182 48 64)) (eMul (eInt 11 0 (qp 182 67 69)) (eVar "_law_turn" 3 (qp 182 72 81) (by left)) (qp 182 67 81)) (qp 182 48 81)) (eInt 26 0 (qp 182 85 87)) (qp 182 47 87)) (qp 182 34 88) (by left)) (qp 182 21 88)) (qp 182 8 18) (qp 182 8 88) (by left)) lNil)
def b__law_name_by (w : World) (d : Nat) : SL (G w) d fi__law_name_by :=
(lCons (sAsg "_law_letters" 1 (eStr "abcdefghijklmnopqrstuvwxyz" z_az 0 (qp 179 19 47) z_az_e z_az_k) (qp 179 4 16) (qp 179 4 47) (by left)) (lCons (sAsg "_law_frame" 2 (eStr "" z_ 0 (qp 180 17 19) z__e z__k) (qp 180 4 14) (qp 180 4 19) (by left)) (lCons (sFor "_law_turn" (iRange (rCons (eMod (eDiv (eVar "_law_cell" 0 (qp 181 27 36) (by left)) (eInt 26 0 (qp 181 40 42)) (qp 181 27 42)) (eInt 8 0 (qp 181 45 46)) (qp 181 27 46)) rNil) (qp 181 21 26) (qp 181 21 47) (by left)) (l__law_name_by_181 w d) (qp 181 8 17) ⟨181,4,182,88⟩) (lCons (sAsg "_law_at" 4 (eMod (eDiv (eVar "_law_cell" 0 (qp 183 14 23) (by left)) (eInt 208 0 (qp 183 27 30)) (qp 183 14 30)) (eAdd (eLen (eVar "_law_frame" 2 (qp 183 38 48) (by left)) (qp 183 34 37) (qp 183 34 49) (by left)) (eInt 1 0 (qp 183 52 53)) (qp 183 34 53)) (qp 183 14 54)) (qp 183 4 11) (qp 183 4 54) (by left)) (lCons (sAsg "_law_word" 5 (eCat (eCat (eSlc (eVar "_law_frame" 2 (qp 184 16 26) (by left)) dNone (dSome (eVar "_law_at" 4 (qp 184 28 35) (by left))) (qp 184 27 35) (qp 184 16 36)) (eIdxV true "_law_letters" 1 (qp 184 39 51) (eMod (eVar "_law_cell" 0 (qp 184 52 61) (by left)) (eInt 26 0 (qp 184 64 66)) (qp 184 52 66)) (qp 184 39 67) (by left)) (qp 184 16 67)) (eSlc (eVar "_law_frame" 2 (qp 184 70 80) (by left)) (dSome (eVar "_law_at" 4 (qp 184 81 88) (by left))) dNone (qp 184 81 89) (qp 184 70 90)) (qp 184 16 90)) (qp 184 4 13) (qp 184 4 90) (by left)) (lCons (sIte true (eIn (eVar "_law_word" 5 (qp 185 7 16) (by left)) (eTup (rCons (eStr "num" z_num 0 (qp 185 21 26) z_num_e z_num_k) (rCons (eStr "name" z_name 0 (qp 185 28 34) z_name_e z_name_k) (rCons (eStr "fun" z_fun 0 (qp 185 36 41) z_fun_e z_fun_k) (rCons (eStr "call" z_call 0 (qp 185 43 49) z_call_e z_call_k) (rCons (eStr "plus" z_plus 0 (qp 185 51 57) z_plus_e z_plus_k) (rCons (eStr "less" z_less 0 (qp 185 59 65) z_less_e z_less_k) (rCons (eStr "if" z_if 0 (qp 185 67 71) z_if_e z_if_k) (rCons (eStr "let" z_let 0 (qp 185 73 78) z_let_e z_let_k) rNil)))))))) 0 (qp 185 20 79) rfl) (qp 185 7 79))
(lCons (sRet (eIdxV true "_law_letters" 1 (qp 186 15 27) (eMod (eVar "_law_cell" 0 (qp 186 28 37) (by left)) (eInt 26 0 (qp 186 40 42)) (qp 186 28 42)) (qp 186 15 43) (by left)) (qp 186 8 43)) lNil)
lNil ⟨185,4,186,43⟩) (lCons (sRetV "_law_word" 5 (qp 187 11 20) (qp 187 4 20) (by left)) lNil)))))))
theorem b__law_name_by_x (w : World) (d : Nat) : (b__law_name_by w d).xs = fd__law_name_by.st := by left
def b__law_joined (w : World) (d : Nat) : SL (G w) d fi__law_joined :=
(lCons (sIte false (eEq (eVar "_law_kind" 0 (qp 189 7 16) (by left)) (eInt 6 0 (qp 189 20 21)) (qp 189 7 21))
(lCons (sRet (eTup (rCons (eStr "call" z_call 0 (qp 190 16 22) z_call_e z_call_k) (rCons (eTup (rCons (eStr "fun" z_fun 0 (qp 190 25 30) z_fun_e z_fun_k) (rCons (eVar "_law_name" 1 (qp 190 32 41) (by left)) (rCons (eVar "_law_one" 2 (qp 190 43 51) (by left)) rNil))) 0 (qp 190 24 52) rfl) (rCons (eVar "_law_other" 3 (qp 190 54 64) (by left)) rNil))) 0 (qp 190 15 65) rfl) (qp 190 8 65)) lNil)
lNil ⟨189,4,190,65⟩) (lCons (sIte false (eEq (eVar "_law_kind" 0 (qp 191 7 16) (by left)) (eInt 7 0 (qp 191 20 21)) (qp 191 7 21))
(lCons (sRet (eTup (rCons (eStr "plus" z_plus 0 (qp 192 16 22) z_plus_e z_plus_k) (rCons (eVar "_law_one" 2 (qp 192 24 32) (by left)) (rCons (eVar "_law_other" 3 (qp 192 34 44) (by left)) rNil))) 0 (qp 192 15 45) rfl) (qp 192 8 45)) lNil)
lNil ⟨191,4,192,45⟩) (lCons (sIte false (eEq (eVar "_law_kind" 0 (qp 193 7 16) (by left)) (eInt 8 0 (qp 193 20 21)) (qp 193 7 21))
(lCons (sRet (eTup (rCons (eStr "less" z_less 0 (qp 194 16 22) z_less_e z_less_k) (rCons (eVar "_law_one" 2 (qp 194 24 32) (by left)) (rCons (eVar "_law_other" 3 (qp 194 34 44) (by left)) rNil))) 0 (qp 194 15 45) rfl) (qp 194 8 45)) lNil)
lNil ⟨193,4,194,45⟩) (lCons (sIte false (eEq (eVar "_law_kind" 0 (qp 195 7 16) (by left)) (eInt 9 0 (qp 195 20 21)) (qp 195 7 21))
(lCons (sRet (eTup (rCons (eStr "if" z_if 0 (qp 196 16 20) z_if_e z_if_k) (rCons (eVar "_law_one" 2 (qp 196 22 30) (by left)) (rCons (eVar "_law_other" 3 (qp 196 32 42) (by left)) (rCons (eTup (rCons (eStr "name" z_name 0 (qp 196 45 51) z_name_e z_name_k) (rCons (eVar "_law_name" 1 (qp 196 53 62) (by left)) rNil)) 0 (qp 196 44 63) rfl) rNil)))) 0 (qp 196 15 64) rfl) (qp 196 8 64)) lNil)
lNil ⟨195,4,196,64⟩) (lCons (sRet (eTup (rCons (eStr "let" z_let 0 (qp 197 12 17) z_let_e z_let_k) (rCons (eVar "_law_name" 1 (qp 197 19 28) (by left)) (rCons (eVar "_law_one" 2 (qp 197 30 38) (by left)) (rCons (eVar "_law_other" 3 (qp 197 40 50) (by left)) rNil)))) 0 (qp 197 11 51) rfl) (qp 197 4 51)) lNil)))))
theorem b__law_joined_x (w : World) (d : Nat) : (b__law_joined w d).xs = fd__law_joined.st := by left
def l__law_tree_by_200 (w : World) (d : Nat) : SL (G w) d fi__law_tree_by :=
(lCons (sAsg "_law_kind" 4 (eTell (eMod (eVar "_law_cell" 3 (qp 201 20 29) (by left)) (eInt 12 0 (qp 201 32 34)) (qp 201 20 34))) (qp 201 8 17) (qp 201 8 34) (by left)) (lCons (sAsg "_law_more" 5 (eDiv (eVar "_law_cell" 3 (qp 202 20 29) (by left)) (eInt 12 0 (qp 202 33 35)) (qp 202 20 35)) (qp 202 8 17) (qp 202 8 35) (by left)) (lCons (sAsg "_law_name" 6 (eIdxV true "_law_names" 1 (qp 203 20 30) (eMod (eVar "_law_more" 5 (qp 203 31 40) (by left)) (eInt 4 0 (qp 203 43 44)) (qp 203 31 44)) (qp 203 20 45) (by left)) (qp 203 8 17) (qp 203 8 45) (by left)) (lCons (sAsg "_law_small" 7 (eTup (rCons (eStr "num" z_num 0 (qp 204 22 27) z_num_e z_num_k) (rCons (eSub (eMod (eDiv (eVar "_law_more" 5 (qp 204 29 38) (by left)) (eInt 4 0 (qp 204 42 43)) (qp 204 29 43)) (eInt 7 0 (qp 204 46 47)) (qp 204 29 47)) (eInt 3 0 (qp 204 50 51)) (qp 204 29 51)) rNil)) 0 (qp 204 21 52) rfl) (qp 204 8 18) (qp 204 8 52) (by left)) (lCons (sIte false (eBop (bCons false (eEq (eVar "_law_kind" 4 (qp 205 11 20) (by left)) (eInt 0 0 (qp 205 24 25)) (qp 205 11 25)) (bLast .Or (eBop (bCons false (eNot (eVar "_law_stack" 2 (qp 205 34 44) (by left)) (qp 205 30 44)) (bLast .And (eEq (eMod (eVar "_law_kind" 4 (qp 205 49 58) (by left)) (eInt 2 0 (qp 205 61 62)) (qp 205 49 62)) (eInt 1 0 (qp 205 66 67)) (qp 205 49 67)))) (qp 205 30 67)))) (qp 205 11 68))
(lCons (sApp "_law_stack" 2 (eTup (rCons (eStr "name" z_name 0 (qp 206 31 37) z_name_e z_name_k) (rCons (eVar "_law_name" 6 (qp 206 39 48) (by left)) rNil)) 0 (qp 206 30 49) rfl) (qp 206 12 22) (qp 206 12 29) (qp 206 12 50) (qp 206 12 50) (by left)) lNil)
(lCons (sIte false (eBop (bCons false (eEq (eVar "_law_kind" 4 (qp 207 13 22) (by left)) (eInt 1 0 (qp 207 26 27)) (qp 207 13 27)) (bLast .Or (eNot (eVar "_law_stack" 2 (qp 207 35 45) (by left)) (qp 207 31 45)))) (qp 207 13 45))
(lCons (sApp "_law_stack" 2 (eVar "_law_small" 7 (qp 208 30 40) (by left)) (qp 208 12 22) (qp 208 12 29) (qp 208 12 41) (qp 208 12 41) (by left)) lNil)
(lCons (sIte false (eEq (eVar "_law_kind" 4 (qp 209 13 22) (by left)) (eInt 2 0 (qp 209 26 27)) (qp 209 13 27))
(lCons (sApp "_law_stack" 2 (eTup (rCons (eStr "num" z_num 0 (qp 210 31 36) z_num_e z_num_k) (rCons (eAdd (eSub (eMod (eVar "_law_more" 5 (qp 210 38 47) (by left)) (eSub (eMul (eInt 2 0 (qp 210 51 52)) (ePow (eInt 10 0 (qp 210 55 57)) (eInt 60 0 (qp 210 61 63)) (qp 210 55 63)) (qp 210 51 63)) (eInt 1 0 (qp 210 66 67)) (qp 210 51 67)) (qp 210 38 68)) (ePow (eInt 10 0 (qp 210 71 73)) (eInt 60 0 (qp 210 77 79)) (qp 210 71 79)) (qp 210 38 79)) (eInt 1 0 (qp 210 82 83)) (qp 210 38 83)) rNil)) 0 (qp 210 30 84) rfl) (qp 210 12 22) (qp 210 12 29) (qp 210 12 85) (qp 210 12 85) (by left)) lNil)
(lCons (sIte false (eEq (eVar "_law_kind" 4 (qp 211 13 22) (by left)) (eInt 3 0 (qp 211 26 27)) (qp 211 13 27))
(lCons (sSet "_law_stack" 2 (eNeg (eInt 1 0 (qp 212 24 25)) (qp 212 23 25)) (eTup (rCons (eStr "fun" z_fun 0 (qp 212 30 35) z_fun_e z_fun_k) (rCons (eVar "_law_name" 6 (qp 212 37 46) (by left)) (rCons (eIdxV false "_law_stack" 2 (qp 212 48 58) (eNeg (eInt 1 0 (qp 212 60 61)) (qp 212 59 61)) (qp 212 48 62) (by left)) rNil))) 0 (qp 212 29 63) rfl) (qp 212 12 22) (qp 212 12 26) (qp 212 12 63) (by left)) lNil)
(lCons (sIte false (eEq (eVar "_law_kind" 4 (qp 213 13 22) (by left)) (eInt 4 0 (qp 213 26 27)) (qp 213 13 27))
(lCons (sSet "_law_stack" 2 (eNeg (eInt 1 0 (qp 214 24 25)) (qp 214 23 25)) (eTup (rCons (eStr "call" z_call 0 (qp 214 30 36) z_call_e z_call_k) (rCons (eTup (rCons (eStr "fun" z_fun 0 (qp 214 39 44) z_fun_e z_fun_k) (rCons (eVar "_law_name" 6 (qp 214 46 55) (by left)) (rCons (eIdxV false "_law_stack" 2 (qp 214 57 67) (eNeg (eInt 1 0 (qp 214 69 70)) (qp 214 68 70)) (qp 214 57 71) (by left)) rNil))) 0 (qp 214 38 72) rfl) (rCons (eVar "_law_small" 7 (qp 214 74 84) (by left)) rNil))) 0 (qp 214 29 85) rfl) (qp 214 12 22) (qp 214 12 26) (qp 214 12 85) (by left)) lNil)
(lCons (sIte false (eEq (eVar "_law_kind" 4 (qp 215 13 22) (by left)) (eInt 5 0 (qp 215 26 27)) (qp 215 13 27))
(lCons (sSet "_law_stack" 2 (eNeg (eInt 1 0 (qp 216 24 25)) (qp 216 23 25)) (eTup (rCons (eStr "let" z_let 0 (qp 216 30 35) z_let_e z_let_k) (rCons (eVar "_law_name" 6 (qp 216 37 46) (by left)) (rCons (eIdxV false "_law_stack" 2 (qp 216 48 58) (eNeg (eInt 1 0 (qp 216 60 61)) (qp 216 59 61)) (qp 216 48 62) (by left)) (rCons (eTup (rCons (eStr "call" z_call 0 (qp 216 65 71) z_call_e z_call_k) (rCons (eTup (rCons (eStr "name" z_name 0 (qp 216 74 80) z_name_e z_name_k) (rCons (eVar "_law_name" 6 (qp 216 82 91) (by left)) rNil)) 0 (qp 216 73 92) rfl) (rCons (eTup (rCons (eStr "name" z_name 0 (qp 216 95 101) z_name_e z_name_k) (rCons (eIdxV true "_law_names" 1 (qp 216 103 113) (eMod (eDiv (eVar "_law_more" 5 (qp 216 114 123) (by left)) (eInt 4 0 (qp 216 127 128)) (qp 216 114 128)) (eInt 4 0 (qp 216 131 132)) (qp 216 114 132)) (qp 216 103 133) (by left)) rNil)) 0 (qp 216 94 134) rfl) rNil))) 0 (qp 216 64 135) rfl) rNil)))) 0 (qp 216 29 136) rfl) (qp 216 12 22) (qp 216 12 26) (qp 216 12 136) (by left)) lNil)
(lCons (sIte false (eEq (eVar "_law_kind" 4 (qp 217 13 22) (by left)) (eInt 11 0 (qp 217 26 28)) (qp 217 13 28))
(lCons (sApp "_law_stack" 2 (eTup (rCons (eStr "fun" z_fun 0 (qp 218 31 36) z_fun_e z_fun_k) (rCons (eVar "_law_name" 6 (qp 218 38 47) (by left)) (rCons (eTup (rCons (eStr "call" z_call 0 (qp 218 50 56) z_call_e z_call_k) (rCons (eTup (rCons (eStr "name" z_name 0 (qp 218 59 65) z_name_e z_name_k) (rCons (eVar "_law_name" 6 (qp 218 67 76) (by left)) rNil)) 0 (qp 218 58 77) rfl) (rCons (eTup (rCons (eStr "name" z_name 0 (qp 218 80 86) z_name_e z_name_k) (rCons (eIdxV true "_law_names" 1 (qp 218 88 98) (eMod (eDiv (eVar "_law_more" 5 (qp 218 99 108) (by left)) (eInt 4 0 (qp 218 112 113)) (qp 218 99 113)) (eInt 4 0 (qp 218 116 117)) (qp 218 99 117)) (qp 218 88 118) (by left)) rNil)) 0 (qp 218 79 119) rfl) rNil))) 0 (qp 218 49 120) rfl) rNil))) 0 (qp 218 30 121) rfl) (qp 218 12 22) (qp 218 12 29) (qp 218 12 122) (qp 218 12 122) (by left)) lNil)
(lCons (sIte false (eEq (eLen (eVar "_law_stack" 2 (qp 219 17 27) (by left)) (qp 219 13 16) (qp 219 13 28) (by left)) (eInt 1 0 (qp 219 32 33)) (qp 219 13 33))
(lCons (sSet "_law_stack" 2 (eNeg (eInt 1 0 (qp 220 24 25)) (qp 220 23 25)) (eTup (rCons (eStr "plus" z_plus 0 (qp 220 30 36) z_plus_e z_plus_k) (rCons (eVar "_law_small" 7 (qp 220 38 48) (by left)) (rCons (eIdxV false "_law_stack" 2 (qp 220 50 60) (eNeg (eInt 1 0 (qp 220 62 63)) (qp 220 61 63)) (qp 220 50 64) (by left)) rNil))) 0 (qp 220 29 65) rfl) (qp 220 12 22) (qp 220 12 26) (qp 220 12 65) (by left)) lNil)
(lCons (sAsg "_law_other" 8 (ePop "_law_stack" 2 (qp 222 25 35) (qp 222 25 39) (qp 222 25 41) (by left)) (qp 222 12 22) (qp 222 12 41) (by left)) (lCons (sSet "_law_stack" 2 (eNeg (eInt 1 0 (qp 223 24 25)) (qp 223 23 25)) (eCall "_law_joined" 239 (rCons (eVar "_law_kind" 4 (qp 223 41 50) (by left)) (rCons (eVar "_law_name" 6 (qp 223 52 61) (by left)) (rCons (eIdxV false "_law_stack" 2 (qp 223 63 73) (eNeg (eInt 1 0 (qp 223 75 76)) (qp 223 74 76)) (qp 223 63 77) (by left)) (rCons (eVar "_law_other" 8 (qp 223 79 89) (by left)) rNil)))) (qp 223 29 40) (qp 223 29 90) (by left)) (qp 223 12 22) (qp 223 12 26) (qp 223 12 90) (by left)) lNil)) ⟨219,8,223,90⟩) lNil) ⟨217,8,223,90⟩) lNil) ⟨215,8,223,90⟩) lNil) ⟨213,8,223,90⟩) lNil) ⟨211,8,223,90⟩) lNil) ⟨209,8,223,90⟩) lNil) ⟨207,8,223,90⟩) lNil) ⟨205,8,223,90⟩) lNil)))))
def c__law_tree_by_224 (w : World) (d : Nat) : T (G w) d fi__law_tree_by := (eGt (eLen (eVar "_law_stack" 2 (qp 224 14 24) (by left)) (qp 224 10 13) (qp 224 10 25) (by left)) (eInt 1 0 (qp 224 28 29)) (qp 224 10 29))
def l__law_tree_by_224 (w : World) (d : Nat) : SL (G w) d fi__law_tree_by :=
(lCons (sAsg "_law_other" 8 (ePop "_law_stack" 2 (qp 225 21 31) (qp 225 21 35) (qp 225 21 37) (by left)) (qp 225 8 18) (qp 225 8 37) (by left)) (lCons (sSet "_law_stack" 2 (eNeg (eInt 1 0 (qp 226 20 21)) (qp 226 19 21)) (eTup (rCons (eStr "let" z_let 0 (qp 226 26 31) z_let_e z_let_k) (rCons (eIdxV true "_law_names" 1 (qp 226 33 43) (eMod (eLen (eVar "_law_stack" 2 (qp 226 48 58) (by left)) (qp 226 44 47) (qp 226 44 59) (by left)) (eInt 4 0 (qp 226 62 63)) (qp 226 44 63)) (qp 226 33 64) (by left)) (rCons (eIdxV false "_law_stack" 2 (qp 226 66 76) (eNeg (eInt 1 0 (qp 226 78 79)) (qp 226 77 79)) (qp 226 66 80) (by left)) (rCons (eVar "_law_other" 8 (qp 226 82 92) (by left)) rNil)))) 0 (qp 226 25 93) rfl) (qp 226 8 18) (qp 226 8 22) (qp 226 8 93) (by left)) lNil))
def b__law_tree_by (w : World) (d : Nat) : SL (G w) d fi__law_tree_by :=
(lCons (sAsg "_law_stack" 2 (eLst rNil (qp 199 17 19) rfl) (qp 199 4 14) (qp 199 4 19) (by left)) (lCons (sFor "_law_cell" (iList (eVar "_law_cells" 0 (qp 200 21 31) (by left))) (l__law_tree_by_200 w d) (qp 200 8 17) ⟨200,4,223,90⟩) (lCons (sWhil (c__law_tree_by_224 w d) (l__law_tree_by_224 w d) ⟨224,4,226,93⟩) (lCons (sIte false (eVar "_law_stack" 2 (qp 227 7 17) (by left))
(lCons (sRet (eIdxV false "_law_stack" 2 (qp 228 15 25) (eInt 0 0 (qp 228 26 27)) (qp 228 15 28) (by left)) (qp 228 8 28)) lNil)
lNil ⟨227,4,228,28⟩) (lCons (sRet (eTup (rCons (eStr "num" z_num 0 (qp 229 12 17) z_num_e z_num_k) (rCons (eInt 0 0 (qp 229 19 20)) rNil)) 0 (qp 229 11 21) rfl) (qp 229 4 21)) lNil)))))
theorem b__law_tree_by_x (w : World) (d : Nat) : (b__law_tree_by w d).xs = fd__law_tree_by.st := by left
def c__law_has_232 (w : World) (d : Nat) : T (G w) d fi__law_has := (eVar "_law_todo" 2 (qp 232 10 19) (by left))
def l__law_has_232 (w : World) (d : Nat) : SL (G w) d fi__law_has :=
(lCons (sAsg "_law_node" 3 (ePop "_law_todo" 2 (qp 233 20 29) (qp 233 20 33) (qp 233 20 35) (by left)) (qp 233 8 17) (qp 233 8 35) (by left)) (lCons (sIte true (eBop (bCons false (eEq (eIdxV false "_law_node" 3 (qp 234 11 20) (eInt 0 0 (qp 234 21 22)) (qp 234 11 23) (by left)) (eStr "name" z_name 0 (qp 234 27 33) z_name_e z_name_k) (qp 234 11 33)) (bLast .And (eEq (eIdxV false "_law_node" 3 (qp 234 38 47) (eInt 1 0 (qp 234 48 49)) (qp 234 38 50) (by left)) (eVar "_law_name" 1 (qp 234 54 63) (by left)) (qp 234 38 63)))) (qp 234 11 63))
(lCons (sRet (eBool true 0 (qp 235 19 23)) (qp 235 12 23)) lNil)
lNil ⟨234,8,235,23⟩) (lCons (sIte false (eEq (eIdxV false "_law_node" 3 (qp 236 11 20) (eInt 0 0 (qp 236 21 22)) (qp 236 11 23) (by left)) (eStr "let" z_let 0 (qp 236 27 32) z_let_e z_let_k) (qp 236 11 32))
(lCons (sApp "_law_todo" 2 (eIdxV false "_law_node" 3 (qp 237 29 38) (eInt 2 0 (qp 237 39 40)) (qp 237 29 41) (by left)) (qp 237 12 21) (qp 237 12 28) (qp 237 12 42) (qp 237 12 42) (by left)) lNil)
lNil ⟨236,8,237,42⟩) (lCons (sIte true (eBop (bCons false (eIn (eIdxV false "_law_node" 3 (qp 238 11 20) (eInt 0 0 (qp 238 21 22)) (qp 238 11 23) (by left)) (eTup (rCons (eStr "fun" z_fun 0 (qp 238 28 33) z_fun_e z_fun_k) (rCons (eStr "let" z_let 0 (qp 238 35 40) z_let_e z_let_k) rNil)) 0 (qp 238 27 41) rfl) (qp 238 11 41)) (bLast .And (eNe (eIdxV false "_law_node" 3 (qp 238 46 55) (eInt 1 0 (qp 238 56 57)) (qp 238 46 58) (by left)) (eVar "_law_name" 1 (qp 238 62 71) (by left)) (qp 238 46 71)))) (qp 238 11 71))
(lCons (sApp "_law_todo" 2 (eIdxV false "_law_node" 3 (qp 239 29 38) (eNeg (eInt 1 0 (qp 239 40 41)) (qp 239 39 41)) (qp 239 29 42) (by left)) (qp 239 12 21) (qp 239 12 28) (qp 239 12 43) (qp 239 12 43) (by left)) lNil)
lNil ⟨238,8,239,43⟩) (lCons (sIte false (eIn (eIdxV false "_law_node" 3 (qp 240 11 20) (eInt 0 0 (qp 240 21 22)) (qp 240 11 23) (by left)) (eTup (rCons (eStr "call" z_call 0 (qp 240 28 34) z_call_e z_call_k) (rCons (eStr "plus" z_plus 0 (qp 240 36 42) z_plus_e z_plus_k) (rCons (eStr "less" z_less 0 (qp 240 44 50) z_less_e z_less_k) (rCons (eStr "if" z_if 0 (qp 240 52 56) z_if_e z_if_k) rNil)))) 0 (qp 240 27 57) rfl) (qp 240 11 57))
(lCons (sExtT "_law_todo" 2 (eSlc (eVar "_law_node" 3 (qp 241 29 38) (by left)) (dSome (eInt 1 0 (qp 241 39 40))) dNone (qp 241 39 41) (qp 241 29 42)) (qp 241 12 21) (qp 241 12 28) (qp 241 12 43) (qp 241 12 43) (by left)) lNil)
lNil ⟨240,8,241,43⟩) lNil)))))
def b__law_has (w : World) (d : Nat) : SL (G w) d fi__law_has :=
(lCons (sAsg "_law_todo" 2 (eLst (rCons (eVar "_law_tree" 0 (qp 231 17 26) (by left)) rNil) (qp 231 16 27) rfl) (qp 231 4 13) (qp 231 4 27) (by left)) (lCons (sWhil (c__law_has_232 w d) (l__law_has_232 w d) ⟨232,4,241,43⟩) (lCons (sRet (eBool false 0 (qp 242 11 16)) (qp 242 4 16)) lNil)))
theorem b__law_has_x (w : World) (d : Nat) : (b__law_has w d).xs = fd__law_has.st := by left
def s__law_closed_by_246_17 : Scope := ⟨.function, [(".0", .local), ("_law_k", .local), ("_law_name_by", .globalImplicit), ("_law_first", .free)], false, false, []⟩
def e__law_closed_by_246_17 (w : World) (d : Nat) : T (G w) d (fi__law_closed_by.inner s__law_closed_by_246_17 "_law_k" 8) := (eCall "_law_name_by" 232 (rCons (eAdd (eSub (eVar "_law_first" 1 (qp 246 31 41) (by left)) (eMod (eVar "_law_first" 1 (qp 246 44 54) (by left)) (eInt 26 0 (qp 246 57 59)) (qp 246 44 59)) (qp 246 31 59)) (eMod (eAdd (eVar "_law_first" 1 (qp 246 63 73) (by left)) (eMul (eInt 7 0 (qp 246 76 77)) (eVar "_law_k" 8 (qp 246 80 86) (by left)) (qp 246 76 86)) (qp 246 63 86)) (eInt 26 0 (qp 246 90 92)) (qp 246 62 92)) (qp 246 31 92)) rNil) (qp 246 18 30) (qp 246 18 93) (by left))
def l__law_closed_by_248 (w : World) (d : Nat) : SL (G w) d fi__law_closed_by :=
(lCons (sIte false (eCall "_law_has" 253 (rCons (eVar "_law_tree" 5 (qp 249 20 29) (by left)) (rCons (eIdxV true "_law_names" 4 (qp 249 31 41) (eVar "_law_k" 3 (qp 249 42 48) (by left)) (qp 249 31 49) (by left)) rNil)) (qp 249 11 19) (qp 249 11 50) (by left))
(lCons (sAsg "_law_way" 6 (eMod (eDiv (eDiv (eVar "_law_second" 2 (qp 250 23 34) (by left)) (eInt 4 0 (qp 250 38 39)) (qp 250 23 39)) (eIdx true (eLst (rCons (eInt 1 0 (qp 250 44 45)) (rCons (eInt 3 0 (qp 250 47 48)) (rCons (eInt 9 0 (qp 250 50 51)) (rCons (eInt 27 0 (qp 250 53 55)) rNil)))) (qp 250 43 56) rfl) (eVar "_law_k" 3 (qp 250 57 63) (by left)) (qp 250 43 64)) (qp 250 23 64)) (eInt 3 0 (qp 250 67 68)) (qp 250 23 68)) (qp 250 12 20) (qp 250 12 68) (by left)) (lCons (sAsg "_law_worth" 7 (eLst (rCons (eTup (rCons (eStr "num" z_num 0 (qp 251 27 32) z_num_e z_num_k) (rCons (eSub (eMod (eVar "_law_second" 2 (qp 251 34 45) (by left)) (eInt 4 0 (qp 251 48 49)) (qp 251 34 49)) (eInt 1 0 (qp 251 52 53)) (qp 251 34 53)) rNil)) 0 (qp 251 26 54) rfl) (rCons (eTup (rCons (eStr "fun" z_fun 0 (qp 251 57 62) z_fun_e z_fun_k) (rCons (eStr "y" z_y 0 (qp 251 64 67) z_y_e z_y_k) (rCons (eTup (rCons (eStr "name" z_name 0 (qp 251 70 76) z_name_e z_name_k) (rCons (eStr "y" z_y 0 (qp 251 78 81) z_y_e z_y_k) rNil)) 0 (qp 251 69 82) rfl) rNil))) 0 (qp 251 56 83) rfl) rNil)) (qp 251 25 84) rfl) (qp 251 12 22) (qp 251 12 84) (by left)) (lCons (sApp "_law_worth" 7 (eTup (rCons (eStr "fun" z_fun 0 (qp 252 31 36) z_fun_e z_fun_k) (rCons (eStr "y" z_y 0 (qp 252 38 41) z_y_e z_y_k) (rCons (eTup (rCons (eStr "plus" z_plus 0 (qp 252 44 50) z_plus_e z_plus_k) (rCons (eTup (rCons (eStr "name" z_name 0 (qp 252 53 59) z_name_e z_name_k) (rCons (eStr "y" z_y 0 (qp 252 61 64) z_y_e z_y_k) rNil)) 0 (qp 252 52 65) rfl) (rCons (eTup (rCons (eStr "num" z_num 0 (qp 252 68 73) z_num_e z_num_k) (rCons (eInt 1 0 (qp 252 75 76)) rNil)) 0 (qp 252 67 77) rfl) rNil))) 0 (qp 252 43 78) rfl) rNil))) 0 (qp 252 30 79) rfl) (qp 252 12 22) (qp 252 12 29) (qp 252 12 80) (qp 252 12 80) (by left)) (lCons (sAsg "_law_tree" 5 (eTup (rCons (eStr "let" z_let 0 (qp 253 25 30) z_let_e z_let_k) (rCons (eIdxV true "_law_names" 4 (qp 253 32 42) (eVar "_law_k" 3 (qp 253 43 49) (by left)) (qp 253 32 50) (by left)) (rCons (eIdxV true "_law_worth" 7 (qp 253 52 62) (eVar "_law_way" 6 (qp 253 63 71) (by left)) (qp 253 52 72) (by left)) (rCons (eVar "_law_tree" 5 (qp 253 74 83) (by left)) rNil)))) 0 (qp 253 24 84) rfl) (qp 253 12 21) (qp 253 12 84) (by left)) lNil))))
lNil ⟨249,8,253,84⟩) lNil)
def b__law_closed_by (w : World) (d : Nat) : SL (G w) d fi__law_closed_by :=
(lCons (sAsg "_law_first" 1 (eCall "_law_cell_at" 225 (rCons (eVar "_law_script" 0 (qp 244 30 41) (by left)) (rCons (eInt 0 0 (qp 244 43 44)) rNil)) (qp 244 17 29) (qp 244 17 45) (by left)) (qp 244 4 14) (qp 244 4 45) (by left)) (lCons (sAsg "_law_second" 2 (eCall "_law_cell_at" 225 (rCons (eVar "_law_script" 0 (qp 245 31 42) (by left)) (rCons (eInt 1 0 (qp 245 44 45)) rNil)) (qp 245 18 30) (qp 245 18 46) (by left)) (qp 245 4 15) (qp 245 4 46) (by left)) (lCons (sAsgC "_law_names" 4 (qp 246 4 14) (qp 246 4 117) "_law_k" 8 (qp 246 98 104) (iRange (rCons (eInt 4 0 (qp 246 114 115)) rNil) (qp 246 108 113) (qp 246 108 116) (by left)) s__law_closed_by_246_17 (e__law_closed_by_246_17 w d) (qp 246 17 117) (by left)) (lCons (sAsg "_law_tree" 5 (eCall "_law_tree_by" 246 (rCons (eSlc (eVar "_law_script" 0 (qp 247 29 40) (by left)) (dSome (eInt 3 0 (qp 247 41 42))) (dSome (eAdd (eInt 3 0 (qp 247 43 44)) (eIdx true (eLst (rCons (eInt 45 0 (qp 247 48 50)) (rCons (eInt 16 0 (qp 247 52 54)) rNil)) (qp 247 47 55) rfl) (eMod (eCall "_law_cell_at" 225 (rCons (eVar "_law_script" 0 (qp 247 69 80) (by left)) (rCons (eInt 2 0 (qp 247 82 83)) rNil)) (qp 247 56 68) (qp 247 56 84) (by left)) (eInt 2 0 (qp 247 87 88)) (qp 247 56 88)) (qp 247 47 89)) (qp 247 43 89))) (qp 247 41 89) (qp 247 29 90)) (rCons (eVar "_law_names" 4 (qp 247 92 102) (by left)) rNil)) (qp 247 16 28) (qp 247 16 103) (by left)) (qp 247 4 13) (qp 247 4 103) (by left)) (lCons (sFor "_law_k" (iRange (rCons (eInt 4 0 (qp 248 24 25)) rNil) (qp 248 18 23) (qp 248 18 26) (by left)) (l__law_closed_by_248 w d) (qp 248 8 14) ⟨248,4,253,84⟩) (lCons (sRetV "_law_tree" 5 (qp 254 11 20) (qp 254 4 20) (by left)) lNil))))))
theorem b__law_closed_by_x (w : World) (d : Nat) : (b__law_closed_by w d).xs = fd__law_closed_by.st := by left
def b__law_leaf (w : World) (d : Nat) : SL (G w) d fi__law_leaf :=
(lCons (sIte false (eBop (bCons false (eIsi (eVar "_law_one" 0 (qp 256 18 26) (by left)) .bool (qp 256 7 17) (qp 256 28 32) (qp 256 7 33) (by left)) (bCons false (eIsi (eVar "_law_other" 1 (qp 256 48 58) (by left)) .bool (qp 256 37 47) (qp 256 60 64) (qp 256 37 65) (by left)) (bLast .Or (eNe (eIsi (eVar "_law_one" 0 (qp 256 80 88) (by left)) .str (qp 256 69 79) (qp 256 90 93) (qp 256 69 94) (by left)) (eIsi (eVar "_law_other" 1 (qp 256 109 119) (by left)) .str (qp 256 98 108) (qp 256 121 124) (qp 256 98 125) (by left)) (qp 256 69 125))))) (qp 256 7 125))
(lCons (sRet (eBool false 0 (qp 257 15 20)) (qp 257 8 20)) lNil)
lNil ⟨256,4,257,20⟩) (lCons (sRet (eBop (bCons false (eBop (bCons false (eIsi (eVar "_law_one" 0 (qp 258 23 31) (by left)) .str (qp 258 12 22) (qp 258 33 36) (qp 258 12 37) (by left)) (bLast .Or (eBop (bCons false (eIsi (eVar "_law_one" 0 (qp 258 53 61) (by left)) .int (qp 258 42 52) (qp 258 63 66) (qp 258 42 67) (by left)) (bLast .And (eIsi (eVar "_law_other" 1 (qp 258 83 93) (by left)) .int (qp 258 72 82) (qp 258 95 98) (qp 258 72 99) (by left)))) (qp 258 42 99)))) (qp 258 12 100)) (bLast .And (eEqS (eVar "_law_one" 0 (qp 258 106 114) (by left)) (eVar "_law_other" 1 (qp 258 118 128) (by left)) (qp 258 106 128)))) (qp 258 11 128)) (qp 258 4 128)) lNil))
theorem b__law_leaf_x (w : World) (d : Nat) : (b__law_leaf w d).xs = fd__law_leaf.st := by left
def l__law_led_273 (w : World) (d : Nat) : SL (G w) d fi__law_led :=
(lCons (sAsg "_law_inner" 9 (eBop (bCons false (eIdxV false "_law_row" 5 (qp 274 29 37) (eInt 2 0 (qp 274 38 39)) (qp 274 29 40) (by left)) (bLast .Or (eBop (bCons false (eEq (eIdxV false "_law_one" 6 (qp 274 45 53) (eInt 0 0 (qp 274 54 55)) (qp 274 45 56) (by left)) (eStr "fun" z_fun 0 (qp 274 60 65) z_fun_e z_fun_k) (qp 274 45 65)) (bLast .And (eEq (eIdxV false "_law_one" 6 (qp 274 70 78) (eInt 1 0 (qp 274 79 80)) (qp 274 70 81) (by left)) (eVar "_law_name" 2 (qp 274 85 94) (by left)) (qp 274 70 94)))) (qp 274 45 94)))) (qp 274 29 95)) (qp 274 16 26) (qp 274 16 95) (by left)) (lCons (sApp "_law_todo" 4 (eTup (rCons (eIdxV false "_law_one" 6 (qp 275 34 42) (eVar "_law_k" 8 (qp 275 43 49) (by left)) (qp 275 34 50) (by left)) (rCons (eIdxV false "_law_other" 7 (qp 275 52 62) (eVar "_law_k" 8 (qp 275 63 69) (by left)) (qp 275 52 70) (by left)) (rCons (eBop (bCons true (eVar "_law_inner" 9 (qp 275 72 82) (by left)) (bLast .Or (eBop (bCons false (eEq (eIdxV false "_law_one" 6 (qp 275 87 95) (eInt 0 0 (qp 275 96 97)) (qp 275 87 98) (by left)) (eStr "let" z_let 0 (qp 275 102 107) z_let_e z_let_k) (qp 275 87 107)) (bCons true (eEq (eIdxV false "_law_one" 6 (qp 275 112 120) (eInt 1 0 (qp 275 121 122)) (qp 275 112 123) (by left)) (eVar "_law_name" 2 (qp 275 127 136) (by left)) (qp 275 112 136)) (bLast .And (eEq (eVar "_law_k" 8 (qp 275 142 148) (by left)) (eInt 3 0 (qp 275 152 153)) (qp 275 142 153))))) (qp 275 87 154)))) (qp 275 72 155)) rNil))) 0 (qp 275 33 156) rfl) (qp 275 16 25) (qp 275 16 32) (qp 275 16 157) (qp 275 16 157) (by left)) lNil))
def c__law_led_261 (w : World) (d : Nat) : T (G w) d fi__law_led := (eVar "_law_todo" 4 (qp 261 10 19) (by left))
def l__law_led_261 (w : World) (d : Nat) : SL (G w) d fi__law_led :=
(lCons (sAsg "_law_row" 5 (ePop "_law_todo" 4 (qp 262 19 28) (qp 262 19 32) (qp 262 19 34) (by left)) (qp 262 8 16) (qp 262 8 34) (by left)) (lCons (sAsg "_law_one" 6 (eIdxV false "_law_row" 5 (qp 263 19 27) (eInt 0 0 (qp 263 28 29)) (qp 263 19 30) (by left)) (qp 263 8 16) (qp 263 8 30) (by left)) (lCons (sAsg "_law_other" 7 (eIdxV false "_law_row" 5 (qp 264 21 29) (eInt 1 0 (qp 264 30 31)) (qp 264 21 32) (by left)) (qp 264 8 18) (qp 264 8 32) (by left)) (lCons (sIte false (eBop (bCons false (eIsi (eVar "_law_one" 6 (qp 265 22 30) (by left)) .tuple (qp 265 11 21) (qp 265 32 37) (qp 265 11 38) (by left)) (bCons false (eEq (eLen (eVar "_law_one" 6 (qp 265 47 55) (by left)) (qp 265 43 46) (qp 265 43 56) (by left)) (eInt 2 0 (qp 265 60 61)) (qp 265 43 61)) (bCons false (eEq (eIdxV false "_law_one" 6 (qp 265 67 75) (eInt 0 0 (qp 265 76 77)) (qp 265 67 78) (by left)) (eStr "name" z_name 0 (qp 265 82 88) z_name_e z_name_k) (qp 265 67 88)) (bCons true (eEq (eIdxV false "_law_one" 6 (qp 265 95 103) (eInt 1 0 (qp 265 104 105)) (qp 265 95 106) (by left)) (eVar "_law_name" 2 (qp 265 110 119) (by left)) (qp 265 95 119)) (bLast .And (eNot (eIdxV false "_law_row" 5 (qp 265 130 138) (eInt 2 0 (qp 265 139 140)) (qp 265 130 141) (by left)) (qp 265 126 141))))))) (qp 265 11 142))
(lCons (sApp "_law_todo" 4 (eTup (rCons (eVar "_law_value" 3 (qp 266 30 40) (by left)) (rCons (eVar "_law_other" 7 (qp 266 42 52) (by left)) (rCons (eBool true 0 (qp 266 54 58)) rNil))) 0 (qp 266 29 59) rfl) (qp 266 12 21) (qp 266 12 28) (qp 266 12 60) (qp 266 12 60) (by left)) lNil)
(lCons (sIte false (eNot (eIsi (eVar "_law_one" 6 (qp 267 28 36) (by left)) .tuple (qp 267 17 27) (qp 267 38 43) (qp 267 17 44) (by left)) (qp 267 13 44))
(lCons (sIte false (eBop (bCons false (eIsi (eVar "_law_other" 7 (qp 268 26 36) (by left)) .tuple (qp 268 15 25) (qp 268 38 43) (qp 268 15 44) (by left)) (bLast .Or (eNot (eCall "_law_leaf" 265 (rCons (eVar "_law_one" 6 (qp 268 62 70) (by left)) (rCons (eVar "_law_other" 7 (qp 268 72 82) (by left)) rNil)) (qp 268 52 61) (qp 268 52 83) (by left)) (qp 268 48 83)))) (qp 268 15 83))
(lCons (sRet (eBool false 0 (qp 269 23 28)) (qp 269 16 28)) lNil)
lNil ⟨268,12,269,28⟩) lNil)
(lCons (sIte false (eBop (bCons false (eNot (eIsi (eVar "_law_other" 7 (qp 270 28 38) (by left)) .tuple (qp 270 17 27) (qp 270 40 45) (qp 270 17 46) (by left)) (qp 270 13 46)) (bLast .Or (eNe (eLen (eVar "_law_one" 6 (qp 270 54 62) (by left)) (qp 270 50 53) (qp 270 50 63) (by left)) (eLen (eVar "_law_other" 7 (qp 270 71 81) (by left)) (qp 270 67 70) (qp 270 67 82) (by left)) (qp 270 50 82)))) (qp 270 13 82))
(lCons (sRet (eBool false 0 (qp 271 19 24)) (qp 271 12 24)) lNil)
(lCons (sFor "_law_k" (iRange (rCons (eLen (eVar "_law_one" 6 (qp 273 36 44) (by left)) (qp 273 32 35) (qp 273 32 45) (by left)) rNil) (qp 273 26 31) (qp 273 26 46) (by left)) (l__law_led_273 w d) (qp 273 16 22) ⟨273,12,275,157⟩) lNil) ⟨270,8,275,157⟩) lNil) ⟨267,8,275,157⟩) lNil) ⟨265,8,275,157⟩) lNil))))
def b__law_led (w : World) (d : Nat) : SL (G w) d fi__law_led :=
(lCons (sAsg "_law_todo" 4 (eLst (rCons (eTup (rCons (eVar "_law_tree" 0 (qp 260 18 27) (by left)) (rCons (eVar "_law_found" 1 (qp 260 29 39) (by left)) (rCons (eBool false 0 (qp 260 41 46)) rNil))) 0 (qp 260 17 47) rfl) rNil) (qp 260 16 48) rfl) (qp 260 4 13) (qp 260 4 48) (by left)) (lCons (sWhil (c__law_led_261 w d) (l__law_led_261 w d) ⟨261,4,275,157⟩) (lCons (sRet (eBool true 0 (qp 276 11 15)) (qp 276 4 15)) lNil)))
theorem b__law_led_x (w : World) (d : Nat) : (b__law_led w d).xs = fd__law_led.st := by left
def b__law_where (w : World) (d : Nat) : SL (G w) d fi__law_where :=
(lCons (sIte false (eEq (eIdxV false "_law_node" 0 (qp 278 7 16) (eInt 0 0 (qp 278 17 18)) (qp 278 7 19) (by left)) (eStr "let" z_let 0 (qp 278 23 28) z_let_e z_let_k) (qp 278 7 28))
(lCons (sRet (eIte false (eInP (eIdx false (eIdxV false "_law_node" 0 (qp 279 20 29) (eInt 2 0 (qp 279 30 31)) (qp 279 20 32) (by left)) (eInt 0 0 (qp 279 33 34)) (qp 279 20 35)) (eTup (rCons (eStr "num" z_num 0 (qp 279 40 45) z_num_e z_num_k) (rCons (eStr "fun" z_fun 0 (qp 279 47 52) z_fun_e z_fun_k) rNil)) 0 (qp 279 39 53) rfl) (qp 279 20 53)) (eInt 0 0 (qp 279 15 16)) (eInt 2 0 (qp 279 59 60)) (qp 279 15 60) rfl) (qp 279 8 60)) lNil)
lNil ⟨278,4,279,60⟩) (lCons (sIte false (eNotInP (eIdx false (eIdxV false "_law_node" 0 (qp 280 7 16) (eInt 1 0 (qp 280 17 18)) (qp 280 7 19) (by left)) (eInt 0 0 (qp 280 20 21)) (qp 280 7 22)) (eTup (rCons (eStr "num" z_num 0 (qp 280 31 36) z_num_e z_num_k) (rCons (eStr "fun" z_fun 0 (qp 280 38 43) z_fun_e z_fun_k) rNil)) 0 (qp 280 30 44) rfl) (qp 280 7 44))
(lCons (sRet (eInt 1 0 (qp 281 15 16)) (qp 281 8 16)) lNil)
lNil ⟨280,4,281,16⟩) (lCons (sIte false (eBop (bCons false (eNe (eIdxV false "_law_node" 0 (qp 282 7 16) (eInt 0 0 (qp 282 17 18)) (qp 282 7 19) (by left)) (eStr "if" z_if 0 (qp 282 23 27) z_if_e z_if_k) (qp 282 7 27)) (bLast .And (eNotInP (eIdx false (eIdxV false "_law_node" 0 (qp 282 32 41) (eInt 2 0 (qp 282 42 43)) (qp 282 32 44) (by left)) (eInt 0 0 (qp 282 45 46)) (qp 282 32 47)) (eTup (rCons (eStr "num" z_num 0 (qp 282 56 61) z_num_e z_num_k) (rCons (eStr "fun" z_fun 0 (qp 282 63 68) z_fun_e z_fun_k) rNil)) 0 (qp 282 55 69) rfl) (qp 282 32 69)))) (qp 282 7 69))
(lCons (sRet (eInt 2 0 (qp 283 15 16)) (qp 283 8 16)) lNil)
lNil ⟨282,4,283,16⟩) (lCons (sRet (eInt 0 0 (qp 284 11 12)) (qp 284 4 12)) lNil))))
theorem b__law_where_x (w : World) (d : Nat) : (b__law_where w d).xs = fd__law_where.st := by left
def b__law_wrong (w : World) (d : Nat) : SL (G w) d fi__law_wrong :=
(lCons (sIte true (eBop (bCons false (eEq (eIdxV false "_law_node" 0 (qp 286 7 16) (eInt 0 0 (qp 286 17 18)) (qp 286 7 19) (by left)) (eStr "call" z_call 0 (qp 286 23 29) z_call_e z_call_k) (qp 286 7 29)) (bLast .And (eEq (eIdx false (eIdxV false "_law_node" 0 (qp 286 34 43) (eInt 1 0 (qp 286 44 45)) (qp 286 34 46) (by left)) (eInt 0 0 (qp 286 47 48)) (qp 286 34 49)) (eStr "num" z_num 0 (qp 286 53 58) z_num_e z_num_k) (qp 286 34 58)))) (qp 286 7 58))
(lCons (sRet (eStr "function" z_function 0 (qp 287 15 25) z_function_e z_function_k) (qp 287 8 25)) lNil)
lNil ⟨286,4,287,25⟩) (lCons (sIte true (eBop (bCons false (eInP (eIdxV false "_law_node" 0 (qp 288 7 16) (eInt 0 0 (qp 288 17 18)) (qp 288 7 19) (by left)) (eTup (rCons (eStr "plus" z_plus 0 (qp 288 24 30) z_plus_e z_plus_k) (rCons (eStr "less" z_less 0 (qp 288 32 38) z_less_e z_less_k) rNil)) 0 (qp 288 23 39) rfl) (qp 288 7 39)) (bLast .And (eInP (eStr "fun" z_fun 0 (qp 288 44 49) z_fun_e z_fun_k) (eTup (rCons (eIdx false (eIdxV false "_law_node" 0 (qp 288 54 63) (eInt 1 0 (qp 288 64 65)) (qp 288 54 66) (by left)) (eInt 0 0 (qp 288 67 68)) (qp 288 54 69)) (rCons (eIdx false (eIdxV false "_law_node" 0 (qp 288 71 80) (eInt 2 0 (qp 288 81 82)) (qp 288 71 83) (by left)) (eInt 0 0 (qp 288 84 85)) (qp 288 71 86)) rNil)) 0 (qp 288 53 87) rfl) (qp 288 44 87)))) (qp 288 7 87))
(lCons (sRet (eStr "number" z_number 0 (qp 289 15 23) z_number_e z_number_k) (qp 289 8 23)) lNil)
lNil ⟨288,4,289,23⟩) (lCons (sIte true (eBop (bCons false (eEq (eIdxV false "_law_node" 0 (qp 290 7 16) (eInt 0 0 (qp 290 17 18)) (qp 290 7 19) (by left)) (eStr "if" z_if 0 (qp 290 23 27) z_if_e z_if_k) (qp 290 7 27)) (bLast .And (eEq (eIdx false (eIdxV false "_law_node" 0 (qp 290 32 41) (eInt 1 0 (qp 290 42 43)) (qp 290 32 44) (by left)) (eInt 0 0 (qp 290 45 46)) (qp 290 32 47)) (eStr "fun" z_fun 0 (qp 290 51 56) z_fun_e z_fun_k) (qp 290 32 56)))) (qp 290 7 56))
(lCons (sRet (eStr "number" z_number 0 (qp 291 15 23) z_number_e z_number_k) (qp 291 8 23)) lNil)
lNil ⟨290,4,291,23⟩) (lCons (sRet (eStr "" z_ 0 (qp 292 11 13) z__e z__k) (qp 292 4 13)) lNil))))
theorem b__law_wrong_x (w : World) (d : Nat) : (b__law_wrong w d).xs = fd__law_wrong.st := by left
def c__law_redex_296 (w : World) (d : Nat) : T (G w) d fi__law_redex := (eGt (eVar "_law_at" 2 (qp 296 10 17) (by left)) (eInt 0 0 (qp 296 20 21)) (qp 296 10 21))
def l__law_redex_296 (w : World) (d : Nat) : SL (G w) d fi__law_redex :=
(lCons (sAsg "_law_node" 1 (eIdxV false "_law_node" 1 (qp 297 20 29) (eVar "_law_at" 2 (qp 297 30 37) (by left)) (qp 297 20 38) (by left)) (qp 297 8 17) (qp 297 8 38) (by left)) (lCons (sAsg "_law_at" 2 (eCall "_law_where" 279 (rCons (eVar "_law_node" 1 (qp 298 29 38) (by left)) rNil) (qp 298 18 28) (qp 298 18 39) (by left)) (qp 298 8 15) (qp 298 8 39) (by left)) lNil))
def b__law_redex (w : World) (d : Nat) : SL (G w) d fi__law_redex :=
(lCons (sAsg "_law_node" 1 (eVar "_law_tree" 0 (qp 294 16 25) (by left)) (qp 294 4 13) (qp 294 4 25) (by left)) (lCons (sAsg "_law_at" 2 (eCall "_law_where" 279 (rCons (eVar "_law_node" 1 (qp 295 25 34) (by left)) rNil) (qp 295 14 24) (qp 295 14 35) (by left)) (qp 295 4 11) (qp 295 4 35) (by left)) (lCons (sWhil (c__law_redex_296 w d) (l__law_redex_296 w d) ⟨296,4,298,39⟩) (lCons (sRetV "_law_node" 1 (qp 299 11 20) (qp 299 4 20) (by left)) lNil))))
theorem b__law_redex_x (w : World) (d : Nat) : (b__law_redex w d).xs = fd__law_redex.st := by left
def b__law_done_right (w : World) (d : Nat) : SL (G w) d fi__law_done_right :=
(lCons (sIte false (eEq (eIdxV false "_law_node" 0 (qp 301 7 16) (eInt 0 0 (qp 301 17 18)) (qp 301 7 19) (by left)) (eStr "let" z_let 0 (qp 301 23 28) z_let_e z_let_k) (qp 301 7 28))
(lCons (sRet (eCall "_law_led" 272 (rCons (eIdxV false "_law_node" 0 (qp 302 24 33) (eInt 3 0 (qp 302 34 35)) (qp 302 24 36) (by left)) (rCons (eVar "_law_found" 1 (qp 302 38 48) (by left)) (rCons (eIdxV false "_law_node" 0 (qp 302 50 59) (eInt 1 0 (qp 302 60 61)) (qp 302 50 62) (by left)) (rCons (eIdxV false "_law_node" 0 (qp 302 64 73) (eInt 2 0 (qp 302 74 75)) (qp 302 64 76) (by left)) rNil)))) (qp 302 15 23) (qp 302 15 77) (by left)) (qp 302 8 77)) lNil)
lNil ⟨301,4,302,77⟩) (lCons (sIte false (eEq (eIdxV false "_law_node" 0 (qp 303 7 16) (eInt 0 0 (qp 303 17 18)) (qp 303 7 19) (by left)) (eStr "call" z_call 0 (qp 303 23 29) z_call_e z_call_k) (qp 303 7 29))
(lCons (sRet (eCall "_law_led" 272 (rCons (eIdx false (eIdxV false "_law_node" 0 (qp 304 24 33) (eInt 1 0 (qp 304 34 35)) (qp 304 24 36) (by left)) (eInt 2 0 (qp 304 37 38)) (qp 304 24 39)) (rCons (eVar "_law_found" 1 (qp 304 41 51) (by left)) (rCons (eIdx false (eIdxV false "_law_node" 0 (qp 304 53 62) (eInt 1 0 (qp 304 63 64)) (qp 304 53 65) (by left)) (eInt 1 0 (qp 304 66 67)) (qp 304 53 68)) (rCons (eIdxV false "_law_node" 0 (qp 304 70 79) (eInt 2 0 (qp 304 80 81)) (qp 304 70 82) (by left)) rNil)))) (qp 304 15 23) (qp 304 15 83) (by left)) (qp 304 8 83)) lNil)
lNil ⟨303,4,304,83⟩) (lCons (sIte false (eEq (eIdxV false "_law_node" 0 (qp 305 7 16) (eInt 0 0 (qp 305 17 18)) (qp 305 7 19) (by left)) (eStr "if" z_if 0 (qp 305 23 27) z_if_e z_if_k) (qp 305 7 27))
(lCons (sRet (eCall "_law_led" 272 (rCons (eIte true (eNe (eIdx false (eIdxV false "_law_node" 0 (qp 306 40 49) (eInt 1 0 (qp 306 50 51)) (qp 306 40 52) (by left)) (eInt 1 0 (qp 306 53 54)) (qp 306 40 55)) (eInt 0 0 (qp 306 59 60)) (qp 306 40 60)) (eIdxV false "_law_node" 0 (qp 306 24 33) (eInt 2 0 (qp 306 34 35)) (qp 306 24 36) (by left)) (eIdxV false "_law_node" 0 (qp 306 66 75) (eInt 3 0 (qp 306 76 77)) (qp 306 66 78) (by left)) (qp 306 24 78) rfl) (rCons (eVar "_law_found" 1 (qp 306 80 90) (by left)) (rCons (eStr "" z_ 0 (qp 306 92 94) z__e z__k) (rCons (eVar "_law_node" 0 (qp 306 96 105) (by left)) rNil)))) (qp 306 15 23) (qp 306 15 106) (by left)) (qp 306 8 106)) lNil)
lNil ⟨305,4,306,106⟩) (lCons (sAsg "_law_due" 2 (eAdd (eIdx false (eIdxV false "_law_node" 0 (qp 307 15 24) (eInt 1 0 (qp 307 25 26)) (qp 307 15 27) (by left)) (eInt 1 0 (qp 307 28 29)) (qp 307 15 30)) (eIdx false (eIdxV false "_law_node" 0 (qp 307 33 42) (eInt 2 0 (qp 307 43 44)) (qp 307 33 45) (by left)) (eInt 1 0 (qp 307 46 47)) (qp 307 33 48)) (qp 307 15 48)) (qp 307 4 12) (qp 307 4 48) (by left)) (lCons (sIte false (eEq (eIdxV false "_law_node" 0 (qp 308 7 16) (eInt 0 0 (qp 308 17 18)) (qp 308 7 19) (by left)) (eStr "less" z_less 0 (qp 308 23 29) z_less_e z_less_k) (qp 308 7 29))
(lCons (sAsg "_law_due" 2 (eSub (eIdx false (eIdxV false "_law_node" 0 (qp 309 19 28) (eInt 1 0 (qp 309 29 30)) (qp 309 19 31) (by left)) (eInt 1 0 (qp 309 32 33)) (qp 309 19 34)) (eIdx false (eIdxV false "_law_node" 0 (qp 309 37 46) (eInt 2 0 (qp 309 47 48)) (qp 309 37 49) (by left)) (eInt 1 0 (qp 309 50 51)) (qp 309 37 52)) (qp 309 19 52)) (qp 309 8 16) (qp 309 8 52) (by left)) lNil)
lNil ⟨308,4,309,52⟩) (lCons (sRet (eCall "_law_led" 272 (rCons (eTup (rCons (eStr "num" z_num 0 (qp 310 21 26) z_num_e z_num_k) (rCons (eVar "_law_due" 2 (qp 310 28 36) (by left)) rNil)) 0 (qp 310 20 37) rfl) (rCons (eVar "_law_found" 1 (qp 310 39 49) (by left)) (rCons (eStr "" z_ 0 (qp 310 51 53) z__e z__k) (rCons (eVar "_law_node" 0 (qp 310 55 64) (by left)) rNil)))) (qp 310 11 19) (qp 310 11 65) (by left)) (qp 310 4 65)) lNil))))))
theorem b__law_done_right_x (w : World) (d : Nat) : (b__law_done_right w d).xs = fd__law_done_right.st := by left
def l__law_apart_317 (w : World) (d : Nat) : SL (G w) d fi__law_apart :=
(lCons (sIte false (eBop (bCons false (eNe (eVar "_law_k" 4 (qp 318 15 21) (by left)) (eVar "_law_at" 3 (qp 318 25 32) (by left)) (qp 318 15 32)) (bLast .And (eNot (eCall "_law_led" 272 (rCons (eIdxV false "_law_node" 2 (qp 318 51 60) (eVar "_law_k" 4 (qp 318 61 67) (by left)) (qp 318 51 68) (by left)) (rCons (eIdxV false "_law_found" 1 (qp 318 70 80) (eVar "_law_k" 4 (qp 318 81 87) (by left)) (qp 318 70 88) (by left)) (rCons (eStr "" z_ 0 (qp 318 90 92) z__e z__k) (rCons (eVar "_law_node" 2 (qp 318 94 103) (by left)) rNil)))) (qp 318 42 50) (qp 318 42 104) (by left)) (qp 318 38 104)))) (qp 318 15 105))
(lCons (sRet (eBool false 0 (qp 319 23 28)) (qp 319 16 28)) lNil)
lNil ⟨318,12,319,28⟩) lNil)
def c__law_apart_314 (w : World) (d : Nat) : T (G w) d fi__law_apart := (eGt (eVar "_law_at" 3 (qp 314 10 17) (by left)) (eInt 0 0 (qp 314 20 21)) (qp 314 10 21))
def l__law_apart_314 (w : World) (d : Nat) : SL (G w) d fi__law_apart :=
(lCons (sIte false (eBop (bCons false (eNot (eIsi (eVar "_law_found" 1 (qp 315 26 36) (by left)) .tuple (qp 315 15 25) (qp 315 38 43) (qp 315 15 44) (by left)) (qp 315 11 44)) (bLast .Or (eNe (eLen (eVar "_law_found" 1 (qp 315 52 62) (by left)) (qp 315 48 51) (qp 315 48 63) (by left)) (eLen (eVar "_law_node" 2 (qp 315 71 80) (by left)) (qp 315 67 70) (qp 315 67 81) (by left)) (qp 315 48 81)))) (qp 315 11 81))
(lCons (sRet (eBool false 0 (qp 316 19 24)) (qp 316 12 24)) lNil)
lNil ⟨315,8,316,24⟩) (lCons (sFor "_law_k" (iRange (rCons (eLen (eVar "_law_node" 2 (qp 317 32 41) (by left)) (qp 317 28 31) (qp 317 28 42) (by left)) rNil) (qp 317 22 27) (qp 317 22 43) (by left)) (l__law_apart_317 w d) (qp 317 12 18) ⟨317,8,319,28⟩) (lCons (sAsg "_law_node" 2 (eIdxV false "_law_node" 2 (qp 320 20 29) (eVar "_law_at" 3 (qp 320 30 37) (by left)) (qp 320 20 38) (by left)) (qp 320 8 17) (qp 320 8 38) (by left)) (lCons (sAsg "_law_found" 1 (eIdxV false "_law_found" 1 (qp 321 21 31) (eVar "_law_at" 3 (qp 321 32 39) (by left)) (qp 321 21 40) (by left)) (qp 321 8 18) (qp 321 8 40) (by left)) (lCons (sAsg "_law_at" 3 (eCall "_law_where" 279 (rCons (eVar "_law_node" 2 (qp 322 29 38) (by left)) rNil) (qp 322 18 28) (qp 322 18 39) (by left)) (qp 322 8 15) (qp 322 8 39) (by left)) lNil)))))
def b__law_apart (w : World) (d : Nat) : SL (G w) d fi__law_apart :=
(lCons (sAsg "_law_node" 2 (eVar "_law_tree" 0 (qp 312 16 25) (by left)) (qp 312 4 13) (qp 312 4 25) (by left)) (lCons (sAsg "_law_at" 3 (eCall "_law_where" 279 (rCons (eVar "_law_node" 2 (qp 313 25 34) (by left)) rNil) (qp 313 14 24) (qp 313 14 35) (by left)) (qp 313 4 11) (qp 313 4 35) (by left)) (lCons (sWhil (c__law_apart_314 w d) (l__law_apart_314 w d) ⟨314,4,322,39⟩) (lCons (sRet (eCall "_law_done_right" 300 (rCons (eVar "_law_node" 2 (qp 323 27 36) (by left)) (rCons (eVar "_law_found" 1 (qp 323 38 48) (by left)) rNil)) (qp 323 11 26) (qp 323 11 49) (by left)) (qp 323 4 49)) lNil))))
theorem b__law_apart_x (w : World) (d : Nat) : (b__law_apart w d).xs = fd__law_apart.st := by left
def b__law_words (w : World) (d : Nat) : SL (G0 w) d fi__law_words :=
(lCons (sAsg "_law_words_here" 1 (eStr "" z_ 0 (qp 325 22 24) z__e z__k) (qp 325 4 19) (qp 325 4 24) (by left)) (lCons (sIte false (eIsE "NoNumber" (.ref 73) (xTab 73) (eVar "_law_e" 0 (qp 326 18 24) (by left)) (qp 326 7 17) (qp 326 26 34) (qp 326 7 35) (by left) (.inl ⟨(by left), fun J m => m.cls "NoNumber" 73 rfl⟩) (xTab_ok rfl))
(lCons (sAsg "_law_words_here" 1 (eCat (eVar "_law_words_here" 1 (qp 327 26 41) (by left)) (eStr "number" z_number 0 (qp 327 44 52) z_number_e z_number_k) (qp 327 26 52)) (qp 327 8 23) (qp 327 8 52) (by left)) lNil)
lNil ⟨326,4,327,52⟩) (lCons (sIte false (eIsE "NoFunction" (.ref 85) (xTab 85) (eVar "_law_e" 0 (qp 328 18 24) (by left)) (qp 328 7 17) (qp 328 26 36) (qp 328 7 37) (by left) (.inl ⟨(by left), fun J m => m.cls "NoFunction" 85 rfl⟩) (xTab_ok rfl))
(lCons (sAsg "_law_words_here" 1 (eCat (eVar "_law_words_here" 1 (qp 329 26 41) (by left)) (eStr "function" z_function 0 (qp 329 44 54) z_function_e z_function_k) (qp 329 26 54)) (qp 329 8 23) (qp 329 8 54) (by left)) lNil)
lNil ⟨328,4,329,54⟩) (lCons (sIte false (eIsE "Dry" (.ref 97) (xTab 97) (eVar "_law_e" 0 (qp 330 18 24) (by left)) (qp 330 7 17) (qp 330 26 29) (qp 330 7 30) (by left) (.inl ⟨(by left), fun J m => m.cls "Dry" 97 rfl⟩) (xTab_ok rfl))
(lCons (sAsg "_law_words_here" 1 (eCat (eVar "_law_words_here" 1 (qp 331 26 41) (by left)) (eStr "dry" z_dry 0 (qp 331 44 49) z_dry_e z_dry_k) (qp 331 26 49)) (qp 331 8 23) (qp 331 8 49) (by left)) lNil)
lNil ⟨330,4,331,49⟩) (lCons (sIte false (eBop (bCons false (eIsEt [("NoTree", 37, (qp 332 27 33)), ("NotClosed", 49, (qp 332 35 44))] (xTabT [37, 49]) (eVar "_law_e" 0 (qp 332 18 24) (by left)) (qp 332 7 17) (qp 332 26 45) (qp 332 7 46) 0 (by left) (nmG_of (by left)) (xTabT_ok (ns := [("NoTree", 37, (qp 332 27 33)), ("NotClosed", 49, (qp 332 35 44))]) (by left))) (bCons false (eIsEt [("BadMost", 61, (qp 332 70 77)), ("NoText", 109, (qp 332 79 85))] (xTabT [61, 109]) (eVar "_law_e" 0 (qp 332 61 67) (by left)) (qp 332 50 60) (qp 332 69 86) (qp 332 50 87) 0 (by left) (nmG_of (by left)) (xTabT_ok (ns := [("BadMost", 61, (qp 332 70 77)), ("NoText", 109, (qp 332 79 85))]) (by left))) (bLast .Or (eNot (eIsE "ValueError" (.type "ValueError") xTabV (eVar "_law_e" 0 (qp 332 107 113) (by left)) (qp 332 96 106) (qp 332 115 125) (qp 332 96 126) (by left) (.inr ⟨(by left), rfl⟩) xTabV_ok) (qp 332 92 126))))) (qp 332 7 127))
(lCons (sAsg "_law_words_here" 1 (eCat (eVar "_law_words_here" 1 (qp 333 26 41) (by left)) (eStr "other" z_other 0 (qp 333 44 51) z_other_e z_other_k) (qp 333 26 51)) (qp 333 8 23) (qp 333 8 51) (by left)) lNil)
lNil ⟨332,4,333,51⟩) (lCons (sRetV "_law_words_here" 1 (qp 334 11 26) (qp 334 4 26) (by left)) lNil))))))
theorem b__law_words_x (w : World) (d : Nat) : (b__law_words w d).xs = fd__law_words.st := by left
def y__law_stepped_338 (w : World) (d : Nat) : SL (G0 w) d fi__law_stepped :=
(lCons (sRet (eCall "_law_words" 314 (rCons (eVar "_law_e" 1 (qp 339 26 32) (by left)) rNil) (qp 339 15 25) (qp 339 15 33) (by left)) (qp 339 8 33)) lNil)
def h__law_stepped_338 (w : World) (d : Nat) : ExceptHandler := .ExceptHandler (some (.Name "MillError" (qp 338 11 20))) (some "_law_e") (y__law_stepped_338 w d).xs ⟨338,4,339,33⟩
def r__law_stepped_337_15 (w : World) (d : Nat) : Rw (G w) d fi__law_stepped := (rCons (eVar "_law_tree" 0 (qp 337 20 29) (by left)) rNil)
theorem b__law_stepped_p (w : World) (d : Nat) : fd__law_stepped.st = [(.Try [(.Return (some (.Call (.Name "step" (qp 337 15 19)) (r__law_stepped_337_15 w d).xs [] (qp 337 15 30))) (qp 337 8 30))] [.ExceptHandler (some (.Name "MillError" (qp 338 11 20))) (some "_law_e") (y__law_stepped_338 w d).xs ⟨338,4,339,33⟩] [] [] ⟨336,4,339,33⟩)] := by left
def b__law_stepped (w : World) (d : Nat) : SL (G w) d fi__law_stepped :=
(lCons (sTry (lCons (sRet (eCall "step" 211 (rCons (eVar "_law_tree" 0 (qp 337 20 29) (by left)) rNil) (qp 337 15 19) (qp 337 15 30) (by left)) (qp 337 8 30)) lNil) (h__law_stepped_338 w d) [] ⟨336,4,339,33⟩) lNil)
theorem b__law_stepped_x (w : World) (d : Nat) : (b__law_stepped w d).xs = fd__law_stepped.st := by left
def y__law_all_343 (w : World) (d : Nat) : SL (G0 w) d fi__law_all :=
(lCons (sRet (eCall "_law_words" 314 (rCons (eVar "_law_e" 2 (qp 344 26 32) (by left)) rNil) (qp 344 15 25) (qp 344 15 33) (by left)) (qp 344 8 33)) lNil)
def h__law_all_343 (w : World) (d : Nat) : ExceptHandler := .ExceptHandler (some (.Name "MillError" (qp 343 11 20))) (some "_law_e") (y__law_all_343 w d).xs ⟨343,4,344,33⟩
def r__law_all_342_15 (w : World) (d : Nat) : Rw (G w) d fi__law_all := (rCons (eVar "_law_tree" 0 (qp 342 21 30) (by left)) (rCons (eVar "_law_most" 1 (qp 342 32 41) (by left)) rNil))
theorem b__law_all_p (w : World) (d : Nat) : fd__law_all.st = [(.Try [(.Return (some (.Call (.Name "steps" (qp 342 15 20)) (r__law_all_342_15 w d).xs [] (qp 342 15 42))) (qp 342 8 42))] [.ExceptHandler (some (.Name "MillError" (qp 343 11 20))) (some "_law_e") (y__law_all_343 w d).xs ⟨343,4,344,33⟩] [] [] ⟨341,4,344,33⟩)] := by left
def b__law_all (w : World) (d : Nat) : SL (G w) d fi__law_all :=
(lCons (sTry (lCons (sRet (eCall "steps" 218 (rCons (eVar "_law_tree" 0 (qp 342 21 30) (by left)) (rCons (eVar "_law_most" 1 (qp 342 32 41) (by left)) rNil)) (qp 342 15 20) (qp 342 15 42) (by left)) (qp 342 8 42)) lNil) (h__law_all_343 w d) [] ⟨341,4,344,33⟩) lNil)
theorem b__law_all_x (w : World) (d : Nat) : (b__law_all w d).xs = fd__law_all.st := by left
def l_law_373 (w : World) (d : Nat) : SL (G w) d fi_law :=
(lCons (sIte false (eNot (eCall "_law_led" 272 (rCons (eIdxV true "_law_trees" 3 (qp 374 24 34) (eVar "_law_k" 8 (qp 374 35 41) (by left)) (qp 374 24 42) (by left)) (rCons (eIdxV true "_law_whole" 7 (qp 374 44 54) (eVar "_law_k" 8 (qp 374 55 61) (by left)) (qp 374 44 62) (by left)) (rCons (eStr "" z_ 0 (qp 374 64 66) z__e z__k) (rCons (eVar "_law_tree" 1 (qp 374 68 77) (by left)) rNil)))) (qp 374 15 23) (qp 374 15 78) (by left)) (qp 374 11 78))
(lCons (sRet (eBool false 0 (qp 375 19 24)) (qp 375 12 24)) lNil)
lNil ⟨374,8,375,24⟩) lNil)
def x_law_346 (w : World) (d : Nat) : SS (G w) d fi_law :=
(sAsg "_law_tree" 1 (eCall "_law_closed_by" 258 (rCons (eVar "_law_script" 0 (qp 346 31 42) (by left)) rNil) (qp 346 16 30) (qp 346 16 43) (by left)) (qp 346 4 13) (qp 346 4 43) (by left))
def x_law_347 (w : World) (d : Nat) : SS (G w) d fi_law :=
(sAsg "_law_most" 2 (eMod (eDiv (eCall "_law_cell_at" 225 (rCons (eVar "_law_script" 0 (qp 347 29 40) (by left)) (rCons (eInt 2 0 (qp 347 42 43)) rNil)) (qp 347 16 28) (qp 347 16 44) (by left)) (eInt 2 0 (qp 347 48 49)) (qp 347 16 49)) (eIdx true (eLst (rCons (eInt 13 0 (qp 347 53 55)) (rCons (eInt 25 0 (qp 347 57 59)) rNil)) (qp 347 52 60) rfl) (eMod (eCall "_law_cell_at" 225 (rCons (eVar "_law_script" 0 (qp 347 74 85) (by left)) (rCons (eInt 2 0 (qp 347 87 88)) rNil)) (qp 347 61 73) (qp 347 61 89) (by left)) (eInt 2 0 (qp 347 92 93)) (qp 347 61 93)) (qp 347 52 94)) (qp 347 16 94)) (qp 347 4 13) (qp 347 4 94) (by left))
def x_law_348 (w : World) (d : Nat) : SS (G w) d fi_law :=
(sAsg "_law_trees" 3 (eLst (rCons (eVar "_law_tree" 1 (qp 348 18 27) (by left)) rNil) (qp 348 17 28) rfl) (qp 348 4 14) (qp 348 4 28) (by left))
def x_law_349 (w : World) (d : Nat) : SS (G w) d fi_law :=
(sAsg "_law_ending" 4 (eStr "dry" z_dry 0 (qp 349 18 23) z_dry_e z_dry_k) (qp 349 4 15) (qp 349 4 23) (by left))
def t_law_350_10 (w : World) (d : Nat) : T (G w) d fi_law := (eLe (eLen (eVar "_law_trees" 3 (qp 350 14 24) (by left)) (qp 350 10 13) (qp 350 10 25) (by left)) (eAdd (eVar "_law_most" 2 (qp 350 29 38) (by left)) (eInt 1 0 (qp 350 41 42)) (qp 350 29 42)) (qp 350 10 42))
def r_law_351_21 (w : World) (d : Nat) : Rw (G w) d fi_law := (rCons (eIdxV false "_law_trees" 3 (qp 351 34 44) (eNeg (eInt 1 0 (qp 351 46 47)) (qp 351 45 47)) (qp 351 34 48) (by left)) rNil)
def t_law_352_11 (w : World) (d : Nat) : T (G w) d fi_law := (eIn (eIdx false (eIdxV false "_law_trees" 3 (qp 352 11 21) (eNeg (eInt 1 0 (qp 352 23 24)) (qp 352 22 24)) (qp 352 11 25) (by left)) (eInt 0 0 (qp 352 26 27)) (qp 352 11 28)) (eTup (rCons (eStr "num" z_num 0 (qp 352 33 38) z_num_e z_num_k) (rCons (eStr "fun" z_fun 0 (qp 352 40 45) z_fun_e z_fun_k) rNil)) 0 (qp 352 32 46) rfl) (qp 352 11 46))
def t_law_353_15 (w : World) (d : Nat) : T (G w) d fi_law := (eIsNot (eVar "_law_found" 5 (qp 353 15 25) (by left)) (eNone 0 (qp 353 33 37)) (qp 353 15 37))
def x_law_354 (w : World) (d : Nat) : SS (G w) d fi_law :=
(sRet (eBool false 0 (qp 354 23 28)) (qp 354 16 28))
def x_law_355 (w : World) (d : Nat) : SS (G w) d fi_law :=
(sAsg "_law_ending" 4 (eStr "" z_ 0 (qp 355 26 28) z__e z__k) (qp 355 12 23) (qp 355 12 28) (by left))
def t_law_357_11 (w : World) (d : Nat) : T (G w) d fi_law := (eEq (eLen (eVar "_law_trees" 3 (qp 357 15 25) (by left)) (qp 357 11 14) (qp 357 11 26) (by left)) (eAdd (eVar "_law_most" 2 (qp 357 30 39) (by left)) (eInt 1 0 (qp 357 42 43)) (qp 357 30 43)) (qp 357 11 43))
def x_law_359 (w : World) (d : Nat) : SS (G w) d fi_law :=
(sAsg "_law_wrong_here" 6 (eCall "_law_wrong" 286 (rCons (eCall "_law_redex" 293 (rCons (eIdxV false "_law_trees" 3 (qp 359 48 58) (eNeg (eInt 1 0 (qp 359 60 61)) (qp 359 59 61)) (qp 359 48 62) (by left)) rNil) (qp 359 37 47) (qp 359 37 63) (by left)) rNil) (qp 359 26 36) (qp 359 26 64) (by left)) (qp 359 8 23) (qp 359 8 64) (by left))
def t_law_360_11 (w : World) (d : Nat) : T (G w) d fi_law := (eNe (eVar "_law_wrong_here" 6 (qp 360 11 26) (by left)) (eStr "" z_ 0 (qp 360 30 32) z__e z__k) (qp 360 11 32))
def t_law_361_15 (w : World) (d : Nat) : T (G w) d fi_law := (eBop (bCons false (eNot (eIsi (eVar "_law_found" 5 (qp 361 30 40) (by left)) .str (qp 361 19 29) (qp 361 42 45) (qp 361 19 46) (by left)) (qp 361 15 46)) (bLast .Or (eNe (eVar "_law_found" 5 (qp 361 50 60) (by left)) (eVar "_law_wrong_here" 6 (qp 361 64 79) (by left)) (qp 361 50 79)))) (qp 361 15 79))
def x_law_362 (w : World) (d : Nat) : SS (G w) d fi_law :=
(sRet (eBool false 0 (qp 362 23 28)) (qp 362 16 28))
def x_law_363 (w : World) (d : Nat) : SS (G w) d fi_law :=
(sAsg "_law_ending" 4 (eVar "_law_wrong_here" 6 (qp 363 26 41) (by left)) (qp 363 12 23) (qp 363 12 41) (by left))
def t_law_365_11 (w : World) (d : Nat) : T (G w) d fi_law := (eNot (eCall "_law_apart" 307 (rCons (eIdxV false "_law_trees" 3 (qp 365 26 36) (eNeg (eInt 1 0 (qp 365 38 39)) (qp 365 37 39)) (qp 365 26 40) (by left)) (rCons (eVar "_law_found" 5 (qp 365 42 52) (by left)) rNil)) (qp 365 15 25) (qp 365 15 53) (by left)) (qp 365 11 53))
def x_law_366 (w : World) (d : Nat) : SS (G w) d fi_law :=
(sRet (eBool false 0 (qp 366 19 24)) (qp 366 12 24))
def x_law_367 (w : World) (d : Nat) : SS (G w) d fi_law :=
(sApp "_law_trees" 3 (eVar "_law_found" 5 (qp 367 26 36) (by left)) (qp 367 8 18) (qp 367 8 25) (qp 367 8 37) (qp 367 8 37) (by left))
def r_law_368_17 (w : World) (d : Nat) : Rw (G w) d fi_law := (rCons (eVar "_law_tree" 1 (qp 368 26 35) (by left)) (rCons (eVar "_law_most" 2 (qp 368 37 46) (by left)) rNil))
def t_law_369_7 (w : World) (d : Nat) : T (G w) d fi_law := (eNe (eVar "_law_ending" 4 (qp 369 7 18) (by left)) (eStr "" z_ 0 (qp 369 22 24) z__e z__k) (qp 369 7 24))
def x_law_370 (w : World) (d : Nat) : SS (G w) d fi_law :=
(sRet (eBop (bCons false (eIsi (eVar "_law_whole" 7 (qp 370 26 36) (by left)) .str (qp 370 15 25) (qp 370 38 41) (qp 370 15 42) (by left)) (bLast .And (eEq (eVar "_law_whole" 7 (qp 370 47 57) (by left)) (eVar "_law_ending" 4 (qp 370 61 72) (by left)) (qp 370 47 72)))) (qp 370 15 72)) (qp 370 8 72))
def t_law_371_7 (w : World) (d : Nat) : T (G w) d fi_law := (eBop (bCons false (eNot (eIsi (eVar "_law_whole" 7 (qp 371 22 32) (by left)) .list (qp 371 11 21) (qp 371 34 38) (qp 371 11 39) (by left)) (qp 371 7 39)) (bLast .Or (eNe (eLen (eVar "_law_whole" 7 (qp 371 47 57) (by left)) (qp 371 43 46) (qp 371 43 58) (by left)) (eLen (eVar "_law_trees" 3 (qp 371 66 76) (by left)) (qp 371 62 65) (qp 371 62 77) (by left)) (qp 371 43 77)))) (qp 371 7 77))
def x_law_372 (w : World) (d : Nat) : SS (G w) d fi_law :=
(sRet (eBool false 0 (qp 372 15 20)) (qp 372 8 20))
def x_law_373 (w : World) (d : Nat) : SS (G w) d fi_law :=
(sFor "_law_k" (iRange (rCons (eLen (eVar "_law_trees" 3 (qp 373 28 38) (by left)) (qp 373 24 27) (qp 373 24 39) (by left)) rNil) (qp 373 18 23) (qp 373 18 40) (by left)) (l_law_373 w d) (qp 373 8 14) ⟨373,4,375,24⟩)
def t_law_376_11 (w : World) (d : Nat) : T (G w) d fi_law := (eEq (eLen (eVar "_law_trees" 3 (qp 376 15 25) (by left)) (qp 376 11 14) (qp 376 11 26) (by left)) (eInt 1 0 (qp 376 30 31)) (qp 376 11 31))
def r_law_376_35 (w : World) (d : Nat) : Rw (G w) d fi_law := (rCons (eVar "_law_tree" 1 (qp 376 44 53) (by left)) (rCons (eSub (eLen (eVar "_law_trees" 3 (qp 376 59 69) (by left)) (qp 376 55 58) (qp 376 55 70) (by left)) (eInt 2 0 (qp 376 73 74)) (qp 376 55 74)) rNil))
theorem b_law_p (w : World) (d : Nat) : fd_law.st = [(x_law_346 w d).x, (x_law_347 w d).x, (x_law_348 w d).x, (x_law_349 w d).x, (.While (t_law_350_10 w d).x [(.Assign [.Name "_law_found" (qp 351 8 18)] (.Call (.Name "_law_stepped" (qp 351 21 33)) (r_law_351_21 w d).xs [] (qp 351 21 49)) (qp 351 8 49)), (.If (t_law_352_11 w d).x [(.If (t_law_353_15 w d).x [(x_law_354 w d).x] [] ⟨353,12,354,28⟩), (x_law_355 w d).x, (.Break (qp 356 12 17))] [] ⟨352,8,356,17⟩), (.If (t_law_357_11 w d).x [(.Break (qp 358 12 17))] [] ⟨357,8,358,17⟩), (x_law_359 w d).x, (.If (t_law_360_11 w d).x [(.If (t_law_361_15 w d).x [(x_law_362 w d).x] [] ⟨361,12,362,28⟩), (x_law_363 w d).x, (.Break (qp 364 12 17))] [] ⟨360,8,364,17⟩), (.If (t_law_365_11 w d).x [(x_law_366 w d).x] [] ⟨365,8,366,24⟩), (x_law_367 w d).x] [] ⟨350,4,367,37⟩), (.Assign [.Name "_law_whole" (qp 368 4 14)] (.Call (.Name "_law_all" (qp 368 17 25)) (r_law_368_17 w d).xs [] (qp 368 17 47)) (qp 368 4 47)), (.If (t_law_369_7 w d).x [(x_law_370 w d).x] [] ⟨369,4,370,72⟩), (.If (t_law_371_7 w d).x [(x_law_372 w d).x] [] ⟨371,4,372,20⟩), (x_law_373 w d).x, (.Return (some (.BoolOp .Or [(t_law_376_11 w d).x, (.Compare (.Call (.Name "_law_all" (qp 376 35 43)) (r_law_376_35 w d).xs [] (qp 376 35 75)) [.Eq] [.Constant (.str "dry") 0 (qp 376 79 84)] (qp 376 35 84))] (qp 376 11 84))) (qp 376 4 84))] := by left
end Mine.L09
end
section
namespace Mine.L09
noncomputable def isName (s : List Nat) : Bool := decide ((1 : Int) <= s.length) && (decide ((s.length : Int) <= 8) && (!words.any (· == s) && s.all (letters.contains ·)))
noncomputable def numI (i : Int) : Bool := decide (-great < i) && decide (i < great)
set_option genSizeOf false in
set_option genInjectivity false in
inductive Tree where
 | num (i : Int)
 | name (x : List Nat)
 | fn (x : List Nat) (b : Tree)
 | call (f a : Tree)
 | plus (a b : Tree)
 | less (a b : Tree)
 | ite (c a b : Tree)
 | lt (x : List Nat) (e b : Tree)
noncomputable def tv (t : Tree) : V := Tree.rec (fun i => .tup [.str z_num, .int i]) (fun x => .tup [.str z_name, .str x]) (fun x J b => .tup [.str z_fun, .str x, b]) (fun J J f a => .tup [.str z_call, f, a]) (fun J J a b => .tup [.str z_plus, a, b]) (fun J J a b => .tup [.str z_less, a, b])
 (fun J J J c a b => .tup [.str z_if, c, a, b]) (fun x J J e b => .tup [.str z_let, .str x, e, b]) t
noncomputable def ks (t : Tree) : List Tree := Tree.casesOn t (fun J => []) (fun J => []) (fun J b => [b]) (fun a b => [b, a]) (fun a b => [b, a]) (fun a b => [b, a]) (fun c a b => [b, a, c]) (fun J e b => [b, e])
noncomputable def sz (t : Tree) : Nat := Tree.rec (fun J => 1) (fun J => 1) (fun J J b => b + 1) (fun J J a b => a + b + 1) (fun J J a b => a + b + 1) (fun J J a b => a + b + 1) (fun J J J a b c => a + b + c + 1) (fun J J J a b => a + b + 1) t
def gd (t : Tree) : Prop := Tree.rec (fun i => numI i = true) (fun x => isName x = true) (fun x J b => isName x = true /\ b) (fun J J a b => a /\ b) (fun J J a b => a /\ b) (fun J J a b => a /\ b) (fun J J J a b c => a /\ b /\ c) (fun x J J a b => isName x = true /\ a /\ b) t
noncomputable def szL (ts : List Tree) : Nat := @List.rec Tree (fun J => Nat) 0 (fun t J r => sz t + r) ts
def gdL (ts : List Tree) : Prop := @List.rec Tree (fun J => Prop) True (fun t J r => gd t /\ r) ts
theorem sz_pos (t : Tree) : 1 <= sz t := by cases t <;> exact Nat.succ_le_succ (Nat.zero_le _)
theorem szL_app : ∀ a b : List Tree, szL (a ++ b) = szL a + szL b
 | [], b => (Nat.zero_add _).symm
 | t :: a, b => by show sz t + szL (a ++ b) = sz t + szL a + szL b; rw [szL_app a b, Nat.add_assoc]
theorem gdL_app : ∀ {a b : List Tree}, gdL a -> gdL b -> gdL (a ++ b)
 | [], _, _, h => h
 | t :: a, b, h, k => ⟨h.1, gdL_app h.2 k⟩
theorem ks_sz (t : Tree) : szL (ks t) + 1 = sz t := by
 cases t <;> (simp only [ks, szL, sz]; try lia)
theorem ks_gd {t : Tree} (g : gd t) : gdL (ks t) := by
 cases t
 ·trivial
 ·trivial
 ·exact ⟨g.2, trivial⟩
 ·exact ⟨g.2, g.1, trivial⟩
 ·exact ⟨g.2, g.1, trivial⟩
 ·exact ⟨g.2, g.1, trivial⟩
 ·exact ⟨g.2.2, g.2.1, g.1, trivial⟩
 ·exact ⟨g.2.2, g.2.1, trivial⟩
end Mine.L09
end
section
namespace Mine.L09
variable {w : World}
theorem ok_whole (d : Nat) (i : Int) : CallOK (G w) (d + 1) 127 [.int i] (.val (.bool true)) :=
 call_go (n := 0) (tp := []) (b_is_whole w d) rfl (b_is_whole_x w d) rfl (by left) (P := True) (by left) trivial
theorem name_loop (d : Nat) (u : V) : ∀ (l : List Nat) (o : Option O), ∃ fl ρ', ForOK (G w) d fi_is_name (.Name "sign" (qp 27 8 12)) (l_is_name_27 w d).xs (signsL l) [some (.val u), o] fl ρ' /\ ((l.all (letters.contains ·) = true /\ fl = .next /\ ∃ o', ρ' = [some (.val u), o']) \/ (l.all (letters.contains ·) = false /\ fl = .ret (.val (.bool false))))
 | [], o => ⟨_, _, for_nil, .inl ⟨rfl, rfl, o, rfl⟩⟩
 | c :: l, o => by
  cases hc : letters.contains c with
  | true =>
   obtain ⟨fl, ρ', h1, h2⟩ := name_loop d u l (some (.val (.str [c])))
   refine ⟨fl, ρ', for_go (i := 1) (ρ' := [some (.val u), some (.val (.str [c]))]) (tp := [.b false]) (by left) (by left) (P := (!letters.contains c) = false /\ True) (by left) ⟨by rw [hc]; rfl, trivial⟩ h1, ?_⟩
   rw [List.all_cons, hc, Bool.true_and]; exact h2
  | false => exact ⟨_, _, for_ret (i := 1) (v := .str [c]) (l := signsL l) (ρ := [some (.val u), o]) (ρ' := [some (.val u), some (.val (.str [c]))]) (o' := .val (.bool false)) (tp := [.b true]) (by left) (by left) (P := (!letters.contains c) = true /\ True) (by left) ⟨by rw [hc]; rfl, trivial⟩, .inr ⟨by rw [List.all_cons, hc]; rfl, rfl⟩⟩
theorem ok_name (d : Nat) (s : List Nat) : CallOK (G w) (d + 1) 120 [.str s] (.val (.bool (isName s))) := by
  unfold isName
  cases h1 : decide ((1 : Int) <= s.length) with
  | false => exact call_go (n := 1) (tp := [.b false, .b true]) (b_is_name w d) rfl (b_is_name_x w d) rfl (by left) (P := true = true /\ decide ((1 : Int) <= s.length) = false /\ True) (by left) ⟨rfl, h1, trivial⟩
  | true =>
   cases h2 : decide ((s.length : Int) <= 8) with
   | false => exact call_go (n := 1) (tp := [.b true, .b true]) (b_is_name w d) rfl (b_is_name_x w d) rfl (by left) (P := (!decide ((s.length : Int) <= 8)) = true /\ decide ((1 : Int) <= s.length) = true /\ True) (by left) ⟨by rw [h2]; rfl, h1, trivial⟩
   | true =>
    cases h3 : words.any (· == s) with
    | true => exact call_go (n := 1) (tp := [.b true, .b false, .b true]) (b_is_name w d) rfl (b_is_name_x w d) rfl (by left) (P := true = words.any (· == s) /\ (!decide ((s.length : Int) <= 8)) = false /\ decide ((1 : Int) <= s.length) = true /\ True) (by left) ⟨h3.symm, by rw [h2]; rfl, h1, trivial⟩
    | false =>
     obtain ⟨fl, ρ', k1, k2⟩ := name_loop d (.str s) s none
     rcases k2 with ⟨q, rfl, o', rfl⟩ | ⟨q, rfl⟩
     ·rw [q]
      exact call_go (n := 1) (tp := [.b true, .b false, .b false, .l .next [some (.val (.str s)), o']]) (b_is_name w d) rfl (b_is_name_x w d) rfl (by left) (P := ForOK (G w) d fi_is_name (.Name "sign" (qp 27 8 12)) (l_is_name_27 w d).xs (signsL s) [some (.val (.str s)), none] .next [some (.val (.str s)), o'] /\ false = words.any (· == s) /\ (!decide ((s.length : Int) <= 8)) = false /\ decide ((1 : Int) <= s.length) = true /\ True) (by left) ⟨k1, h3.symm, by rw [h2]; rfl, h1, trivial⟩
     ·rw [q]
      exact call_go (n := 1) (tp := [.b true, .b false, .b false, .l (.ret (.val (.bool false))) ρ']) (b_is_name w d) rfl (b_is_name_x w d) rfl (by left) (P := ForOK (G w) d fi_is_name (.Name "sign" (qp 27 8 12)) (l_is_name_27 w d).xs (signsL s) [some (.val (.str s)), none] (.ret (.val (.bool false))) ρ' /\ false = words.any (· == s) /\ (!decide ((s.length : Int) <= 8)) = false /\ decide ((1 : Int) <= s.length) = true /\ True) (by left) ⟨k1, h3.symm, by rw [h2]; rfl, h1, trivial⟩
theorem node_num (d : Nat) {i : Int} : CallOK (G w) (d + 2) 134 [.tup [.str z_num, .int i]] (.val (.bool (numI i))) := by
  show CallOK _ _ _ _ (.val (.bool (decide (-great < i) && decide (i < great))))
  cases h : decide (-great < i) with
  | true => exact call_go (n := 0) (tp := [.b false, .b false, .b false, .r (.val (.bool true)), .b true]) (b_is_node w (d + 1)) rfl (b_is_node_x w (d + 1)) rfl (by left) (P := decide (-great < i) = true /\ CallOK (G w) (d + 1) 127 [.int i] (.val (.bool true)) /\ (!(Int.ofNat 2 == Int.ofNat 2)) = false /\ false = (!words.any (· == z_num)) /\ (Int.ofNat 2 == 0) = false /\ True) (by left) ⟨h, ok_whole d i, rfl, rfl, rfl, trivial⟩
  | false => exact call_go (n := 0) (tp := [.b false, .b false, .b false, .r (.val (.bool true)), .b false]) (b_is_node w (d + 1)) rfl (b_is_node_x w (d + 1)) rfl (by left) (P := decide (-great < i) = false /\ CallOK (G w) (d + 1) 127 [.int i] (.val (.bool true)) /\ (!(Int.ofNat 2 == Int.ofNat 2)) = false /\ false = (!words.any (· == z_num)) /\ (Int.ofNat 2 == 0) = false /\ True) (by left) ⟨h, ok_whole d i, rfl, rfl, rfl, trivial⟩
theorem node_name (d : Nat) {x : List Nat} : CallOK (G w) (d + 2) 134 [.tup [.str z_name, .str x]] (.val (.bool (isName x))) :=
 call_go (n := 0) (tp := [.b false, .b false, .b false, .r (.val (.bool (isName x)))]) (b_is_node w (d + 1)) rfl (b_is_node_x w (d + 1)) rfl (by left) (P := CallOK (G w) (d + 1) 120 [.str x] (.val (.bool (isName x))) /\ (!(Int.ofNat 2 == Int.ofNat 2)) = false /\ false = (!words.any (· == z_name)) /\ (Int.ofNat 2 == 0) = false /\ True) (by left) ⟨ok_name d x, rfl, rfl, rfl, trivial⟩
theorem node_fun (d : Nat) {x : List Nat} {b : V} : CallOK (G w) (d + 2) 134 [.tup [.str z_fun, .str x, b]] (.val (.bool (isName x))) :=
 call_go (n := 0) (tp := [.b false, .b false, .b false, .r (.val (.bool (isName x)))]) (b_is_node w (d + 1)) rfl (b_is_node_x w (d + 1)) rfl (by left) (P := CallOK (G w) (d + 1) 120 [.str x] (.val (.bool (isName x))) /\ (!(Int.ofNat 3 == Int.ofNat 3)) = false /\ false = (!words.any (· == z_fun)) /\ (Int.ofNat 3 == 0) = false /\ True) (by left) ⟨ok_name d x, rfl, rfl, rfl, trivial⟩
theorem node_let (d : Nat) {x : List Nat} {a b : V} : CallOK (G w) (d + 2) 134 [.tup [.str z_let, .str x, a, b]] (.val (.bool (isName x))) :=
 call_go (n := 0) (tp := [.b false, .b false, .b false, .r (.val (.bool (isName x)))]) (b_is_node w (d + 1)) rfl (b_is_node_x w (d + 1)) rfl (by left) (P := CallOK (G w) (d + 1) 120 [.str x] (.val (.bool (isName x))) /\ (!(Int.ofNat 4 == Int.ofNat 4)) = false /\ false = (!words.any (· == z_let)) /\ (Int.ofNat 4 == 0) = false /\ True) (by left) ⟨ok_name d x, rfl, rfl, rfl, trivial⟩
theorem node_call (d : Nat) {a b : V} : CallOK (G w) (d + 2) 134 [.tup [.str z_call, a, b]] (.val (.bool true)) :=
 call_go (n := 0) (tp := [.b false, .b false, .b false]) (b_is_node w (d + 1)) rfl (b_is_node_x w (d + 1)) rfl (by left) (P := (!(Int.ofNat 3 == Int.ofNat 3)) = false /\ false = (!words.any (· == z_call)) /\ (Int.ofNat 3 == 0) = false /\ True) (by left) ⟨rfl, rfl, rfl, trivial⟩
theorem node_plus (d : Nat) {a b : V} : CallOK (G w) (d + 2) 134 [.tup [.str z_plus, a, b]] (.val (.bool true)) :=
 call_go (n := 0) (tp := [.b false, .b false, .b false]) (b_is_node w (d + 1)) rfl (b_is_node_x w (d + 1)) rfl (by left) (P := (!(Int.ofNat 3 == Int.ofNat 3)) = false /\ false = (!words.any (· == z_plus)) /\ (Int.ofNat 3 == 0) = false /\ True) (by left) ⟨rfl, rfl, rfl, trivial⟩
theorem node_less (d : Nat) {a b : V} : CallOK (G w) (d + 2) 134 [.tup [.str z_less, a, b]] (.val (.bool true)) :=
 call_go (n := 0) (tp := [.b false, .b false, .b false]) (b_is_node w (d + 1)) rfl (b_is_node_x w (d + 1)) rfl (by left) (P := (!(Int.ofNat 3 == Int.ofNat 3)) = false /\ false = (!words.any (· == z_less)) /\ (Int.ofNat 3 == 0) = false /\ True) (by left) ⟨rfl, rfl, rfl, trivial⟩
theorem node_if (d : Nat) {a b c : V} : CallOK (G w) (d + 2) 134 [.tup [.str z_if, a, b, c]] (.val (.bool true)) :=
 call_go (n := 0) (tp := [.b false, .b false, .b false]) (b_is_node w (d + 1)) rfl (b_is_node_x w (d + 1)) rfl (by left) (P := (!(Int.ofNat 4 == Int.ofNat 4)) = false /\ false = (!words.any (· == z_if)) /\ (Int.ofNat 4 == 0) = false /\ True) (by left) ⟨rfl, rfl, rfl, trivial⟩
theorem ok_node (d : Nat) {t : Tree} (g : gd t) : CallOK (G w) (d + 2) 134 [tv t] (.val (.bool true)) := by
 cases t with
 | num i => have := node_num (w := w) d (i := i); rwa [show numI i = true from g] at this
 | name x => have := node_name (w := w) d (x := x); rwa [show isName x = true from g] at this
 | fn x b => have := node_fun (w := w) d (x := x) (b := tv b); rwa [show isName x = true from g.1] at this
 | call a b => exact node_call d
 | plus a b => exact node_plus d
 | less a b => exact node_less d
 | ite c a b => exact node_if d
 | lt x e b => have := node_let (w := w) d (x := x) (a := tv e) (b := tv b); rwa [show isName x = true from g.1] at this
theorem ok_parts (d : Nat) (t : Tree) : CallOK (G w) (d + 1) 141 [tv t] (.own ((ks t).map tv)) := by
 cases t with
 | num i => exact call_go (n := 0) (tp := []) (b_parts w d) rfl (b_parts_x w d) rfl (by left) (P := True) (by left) (by decide)
 | name x => exact call_go (n := 0) (tp := []) (b_parts w d) rfl (b_parts_x w d) rfl (by left) (P := True) (by left) (by decide)
 | fn x b => exact call_go (n := 0) (tp := []) (b_parts w d) rfl (b_parts_x w d) rfl (by left) (P := ((0 : Int) <= 2 /\ (2 : Int) <= 1000000) /\ True) (by left) (by decide)
 | call a b => exact call_go (n := 0) (tp := []) (b_parts w d) rfl (b_parts_x w d) rfl (by left) (P := ((0 : Int) <= 1 /\ (1 : Int) <= 1000000) /\ True) (by left) (by decide)
 | plus a b => exact call_go (n := 0) (tp := []) (b_parts w d) rfl (b_parts_x w d) rfl (by left) (P := ((0 : Int) <= 1 /\ (1 : Int) <= 1000000) /\ True) (by left) (by decide)
 | less a b => exact call_go (n := 0) (tp := []) (b_parts w d) rfl (b_parts_x w d) rfl (by left) (P := ((0 : Int) <= 1 /\ (1 : Int) <= 1000000) /\ True) (by left) (by decide)
 | ite c a b => exact call_go (n := 0) (tp := []) (b_parts w d) rfl (b_parts_x w d) rfl (by left) (P := ((0 : Int) <= 1 /\ (1 : Int) <= 1000000) /\ True) (by left) (by decide)
 | lt x e b => exact call_go (n := 0) (tp := []) (b_parts w d) rfl (b_parts_x w d) rfl (by left) (P := ((0 : Int) <= 2 /\ (2 : Int) <= 1000000) /\ True) (by left) (by decide)
end Mine.L09
end
section
namespace Mine.L09
variable {w : World}
section
variable {G : Gl} {d : Nat} {fi : FI} {c : T G d fi} {b : SL G d fi} {ρ ρ' ρ'' : Loc} {fl : Fl} {cN : Addr}
def Trn (c : T G d fi) (b : SL G d fi) (ρ ρ' : Loc) : Prop := ∃ tp, out (turn c b false ⟨ρ, tp, []⟩) = some (some .next, ρ', []) /\ All (obs (turn c b false ⟨ρ, tp, []⟩))
theorem Trn.wh (h : Trn c b ρ ρ') (k : WhilOK G d fi c.x b.xs ρ' fl ρ'') : WhilOK G d fi c.x b.xs ρ fl ρ'' := by
 obtain ⟨tp, e, o⟩ := h; exact (turn_ok c b false).run e rfl o fl ρ'' k
theorem Trn.of {tp : List Tk} {P : Prop} (e : out (turn c b false ⟨ρ, tp, []⟩) = some (some .next, ρ', [])) (o : All (obs (turn c b false ⟨ρ, tp, []⟩)) = P) (p : P) : Trn c b ρ ρ' := ⟨tp, e, o ▸ p⟩
end
noncomputable abbrev nst (T : V) (K : List V) (m : Int) (x : Option O) : Loc := [some (.val T), some (.own K), some (.val (.int m)), x]
variable {d : Nat} {T : V}
theorem nt_turn {t : Tree} (g : gd t) {K : List V} {m : Int} {x : Option O} (hK : K.length + 4 < room) (hm : decide (m + 1 > 400) = false) :
  Trn (c_need_tree_52 w (d + 2)) (l_need_tree_52 w (d + 2)) (nst T (tv t :: K) m x) (nst T ((ks t).map tv ++ K) (m + 1) (some (.val (tv t)))) := by
 have h1 := ok_node (w := w) d g
 have h2 := ok_parts (w := w) (d + 1) t
 cases t with
 | num i => exact .of (tp := [.b false, .r (.val (.bool true)), .r (.own [])]) (by left) (P := (0 + K.length < room) /\ CallOK (G w) (d + 2) 141 [tv (.num i)] (.own []) /\ CallOK (G w) (d + 2) 134 [tv (.num i)] (.val (.bool true)) /\ decide (m + 1 > 400) = false /\ True) (by left) ⟨by lia, h2, h1, hm, trivial⟩
 | name x => exact .of (tp := [.b false, .r (.val (.bool true)), .r (.own [])]) (by left) (P := (0 + K.length < room) /\ CallOK (G w) (d + 2) 141 [tv (.name x)] (.own []) /\ CallOK (G w) (d + 2) 134 [tv (.name x)] (.val (.bool true)) /\ decide (m + 1 > 400) = false /\ True) (by left) ⟨by lia, h2, h1, hm, trivial⟩
 | fn x b => exact .of (tp := [.b false, .r (.val (.bool true)), .r (.own [tv b])]) (by left) (P := (1 + K.length < room) /\ CallOK (G w) (d + 2) 141 [tv (.fn x b)] (.own [tv b]) /\ CallOK (G w) (d + 2) 134 [tv (.fn x b)] (.val (.bool true)) /\ decide (m + 1 > 400) = false /\ True) (by left) ⟨by lia, h2, h1, hm, trivial⟩
 | call a b => exact .of (tp := [.b false, .r (.val (.bool true)), .r (.own [tv b, tv a])]) (by left) (P := (2 + K.length < room) /\ CallOK (G w) (d + 2) 141 [tv (.call a b)] (.own [tv b, tv a]) /\ CallOK (G w) (d + 2) 134 [tv (.call a b)] (.val (.bool true)) /\ decide (m + 1 > 400) = false /\ True) (by left) ⟨by lia, h2, h1, hm, trivial⟩
 | plus a b => exact .of (tp := [.b false, .r (.val (.bool true)), .r (.own [tv b, tv a])]) (by left) (P := (2 + K.length < room) /\ CallOK (G w) (d + 2) 141 [tv (.plus a b)] (.own [tv b, tv a]) /\ CallOK (G w) (d + 2) 134 [tv (.plus a b)] (.val (.bool true)) /\ decide (m + 1 > 400) = false /\ True) (by left) ⟨by lia, h2, h1, hm, trivial⟩
 | less a b => exact .of (tp := [.b false, .r (.val (.bool true)), .r (.own [tv b, tv a])]) (by left) (P := (2 + K.length < room) /\ CallOK (G w) (d + 2) 141 [tv (.less a b)] (.own [tv b, tv a]) /\ CallOK (G w) (d + 2) 134 [tv (.less a b)] (.val (.bool true)) /\ decide (m + 1 > 400) = false /\ True) (by left) ⟨by lia, h2, h1, hm, trivial⟩
 | ite c a b => exact .of (tp := [.b false, .r (.val (.bool true)), .r (.own [tv b, tv a, tv c])]) (by left) (P := (3 + K.length < room) /\ CallOK (G w) (d + 2) 141 [tv (.ite c a b)] (.own [tv b, tv a, tv c]) /\ CallOK (G w) (d + 2) 134 [tv (.ite c a b)] (.val (.bool true)) /\ decide (m + 1 > 400) = false /\ True) (by left) ⟨by lia, h2, h1, hm, trivial⟩
 | lt x e b => exact .of (tp := [.b false, .r (.val (.bool true)), .r (.own [tv b, tv e])]) (by left) (P := (2 + K.length < room) /\ CallOK (G w) (d + 2) 141 [tv (.lt x e b)] (.own [tv b, tv e]) /\ CallOK (G w) (d + 2) 134 [tv (.lt x e b)] (.val (.bool true)) /\ decide (m + 1 > 400) = false /\ True) (by left) ⟨by lia, h2, h1, hm, trivial⟩
theorem len_sz : ∀ ts : List Tree, ts.length <= szL ts
 | [] => Nat.le_refl _
 | t :: ts => by have := len_sz ts; have := sz_pos t; show ts.length + 1 <= sz t + szL ts; lia
theorem room_big : 100000 < room := by decide
theorem loop_ok : ∀ (n : Nat) (ts : List Tree) (m : Int) (x : Option O), gdL ts -> szL ts <= n -> (n : Int) + m = 400 -> 0 <= m -> ∃ m' x', WhilOK (G w) (d + 2) fi_need_tree (c_need_tree_52 w (d + 2)).x (l_need_tree_52 w (d + 2)).xs (nst T (ts.map tv) m x) .next (nst T [] m' x') := by
 intro n
 induction n with
 | zero =>
  intro ts m x hg hs hm h0
  cases ts with
  | nil => exact ⟨m, x, whil_end false (tp := []) (by left) (P := True) (by left) trivial⟩
  | cons t ts => have := sz_pos t; have : szL (t :: ts) = sz t + szL ts := rfl; lia
 | succ n ih =>
  intro ts m x hg hs hm h0
  cases ts with
  | nil => exact ⟨m, x, whil_end false (tp := []) (by left) (P := True) (by left) trivial⟩
  | cons t ts =>
   have hz : szL (t :: ts) = sz t + szL ts := rfl
   have hk := ks_sz t
   have hl := len_sz ts
   have hr := room_big
   obtain ⟨m', x', h⟩ := ih (ks t ++ ts) (m + 1) (some (.val (tv t))) (gdL_app (ks_gd hg.1) hg.2) (by rw [szL_app]; lia) (by lia) (by lia)
   rw [List.map_append] at h
   exact ⟨m', x', (nt_turn hg.1 (by rw [List.length_map]; lia) (decide_eq_false (by lia))).wh h⟩
theorem ok_need {t : Tree} (g : gd t) (hs : sz t <= 400) : CallOK (G w) (d + 3) 148 [tv t] (.val (tv t)) := by
 obtain ⟨m', x', h⟩ := loop_ok (w := w) (d := d) (T := tv t) 400 [t] 0 none ⟨g, trivial⟩ (by show sz t + 0 <= 400; lia) rfl (Int.le_refl _)
 exact call_go (n := 3) (tp := [.l .next (nst (tv t) [] m' x')]) (b_need_tree w (d + 2)) rfl (b_need_tree_x w (d + 2)) rfl (by left) (P := WhilOK (G w) (d + 2) fi_need_tree (c_need_tree_52 w (d + 2)).x (l_need_tree_52 w (d + 2)).xs (nst (tv t) [tv t] 0 none) .next (nst (tv t) [] m' x') /\ True) (by left) ⟨h, trivial⟩
end Mine.L09
end
section
namespace Mine.L09
variable {w : World}
def addN (bd F : List (List Nat)) (x : List Nat) : List (List Nat) := if x ∈ bd \/ x ∈ F then F else x :: F
noncomputable def fr (t : Tree) : List (List Nat) -> List (List Nat) -> List (List Nat) := @Tree.rec (fun J => List (List Nat) -> List (List Nat) -> List (List Nat)) (fun J J F => F) (fun x bd F => addN bd F x) (fun x J b bd F => b (bd ++ [x]) F) (fun J J a b bd F => b bd (a bd F)) (fun J J a b bd F => b bd (a bd F)) (fun J J a b bd F => b bd (a bd F)) (fun J J J c a b bd F => b bd (a bd (c bd F))) (fun x J J e b bd F => b (bd ++ [x]) (e bd F)) t
theorem texts_map : ∀ F : List (List Nat), textsOf (F.map .str) = some F
 | [] => rfl
 | x :: F => by
  show (textsOf (F.map .str)).bind _ = _
  rw [texts_map F]; rfl
theorem not_in {F : List (List Nat)} {x : List Nat} {y : O} (hy : textsIn y = some F) {t : Bool} (h : t = decide (x ∉ F)) : InP true (.str x) y t := by
 show (textsIn y).bind _ = _
 rw [hy, h]
 show some (!F.any (· == x), ([] : List Prop)) = _
 congr 2
 by_cases q : x ∈ F
 ·rw [decide_eq_false (fun h => h q), List.any_eq_true.mpr ⟨x, q, by simp⟩]; rfl
 ·rw [decide_eq_true q]
  cases e : F.any (· == x) with
  | false => rfl
  | true => obtain ⟨z, hz, hz2⟩ := List.any_eq_true.mp e; rw [beq_iff_eq.mp hz2] at hz; exact absurd hz q
section
variable {d : Nat} {T : V} {Φ : Fl -> Loc -> Prop} {x3 x4 x5 : Option O}
noncomputable abbrev fst' (T : V) (F : List (List Nat)) (K : List V) (x3 x4 x5 : Option O) : Loc := [some (.val T), some (.own (F.map .str)), some (.own K), x3, x4, x5]
noncomputable abbrev fe (t : V) (bd : List (List Nat)) : V := .tup [t, .tup (bd.map .str)]
abbrev FW (w : World) (d : Nat) (ρ : Loc) (Φ : Fl -> Loc -> Prop) : Prop := WhP (c_free_62 w d) (l_free_62 w d) ρ Φ
theorem fr_num {i : Int} {K : List V} {F bd : List (List Nat)} (k : ∀ x3 x4 x5, FW w (d + 1) (fst' T F K x3 x4 x5) Φ) : FW w (d + 1) (fst' T F (fe (tv (.num i)) bd :: K) x3 x4 x5) Φ :=
 whp_go false (tp := [.r (.own []), .l .next (fst' T F K (some (.val (tv (.num i)))) (some (.val (.tup (bd.map .str)))) x5)]) (ρ' := fst' T F K (some (.val (tv (.num i)))) (some (.val (.tup (bd.map .str)))) x5) (by left) (P := ForOK (G w) (d + 1) fi_free (.Name "part" (qp 73 16 20)) (l_free_73 w (d + 1)).xs [] (fst' T F K (some (.val (tv (.num i)))) (some (.val (.tup (bd.map .str)))) x5) .next (fst' T F K (some (.val (tv (.num i)))) (some (.val (.tup (bd.map .str)))) x5) /\ CallOK (G w) (d + 1) 141 [tv (.num i)] (.own []) /\ True) (by left) ⟨for_nil, ok_parts d (.num i), trivial⟩ (k _ _ _)
theorem fr_name1 {x : List Nat} {K : List V} {F bd : List (List Nat)} (h : x ∈ bd) (k : ∀ x3 x4 x5, FW w (d + 1) (fst' T F K x3 x4 x5) Φ) : FW w (d + 1) (fst' T F (fe (tv (.name x)) bd :: K) x3 x4 x5) Φ :=
 whp_go false (tp := [.b false]) (ρ' := (fst' T F K (some (.val (tv (.name x)))) (some (.val (.tup (bd.map .str)))) x5)) (by left) (P := InP true (.str x) (.val (.tup (bd.map .str))) false /\ True) (by left) ⟨not_in (F := bd) (y := .val (.tup (bd.map .str))) (texts_map bd) (by simp [h]), trivial⟩ (k _ _ _)
theorem fr_name2 {x : List Nat} {K : List V} {F bd : List (List Nat)} (h : x ∉ bd) (h2 : x ∈ F) (k : ∀ x3 x4 x5, FW w (d + 1) (fst' T F K x3 x4 x5) Φ) : FW w (d + 1) (fst' T F (fe (tv (.name x)) bd :: K) x3 x4 x5) Φ :=
 whp_go false (tp := [.b true, .b false]) (ρ' := (fst' T F K (some (.val (tv (.name x)))) (some (.val (.tup (bd.map .str)))) x5)) (by left) (P := InP true (.str x) (.own (F.map .str)) false /\ InP true (.str x) (.val (.tup (bd.map .str))) true /\ True) (by left) ⟨not_in (F := F) (y := .own (F.map .str)) (texts_map F) (by simp [h2]), not_in (F := bd) (y := .val (.tup (bd.map .str))) (texts_map bd) (by simp [h]), trivial⟩ (k _ _ _)
theorem fr_name3 {x : List Nat} {K : List V} {F bd : List (List Nat)} (h : x ∉ bd) (h2 : x ∉ F) (hF : F.length < room) (k : ∀ x3 x4 x5, FW w (d + 1) (fst' T (x :: F) K x3 x4 x5) Φ) : FW w (d + 1) (fst' T F (fe (tv (.name x)) bd :: K) x3 x4 x5) Φ :=
 whp_go false (tp := [.b true, .b true]) (ρ' := (fst' T (x :: F) K (some (.val (tv (.name x)))) (some (.val (.tup (bd.map .str)))) x5)) (by left) (P := ((F.map V.str).length < room) /\ InP true (.str x) (.own (F.map .str)) true /\ InP true (.str x) (.val (.tup (bd.map .str))) true /\ True) (by left) ⟨by rw [List.length_map]; exact hF, not_in (F := F) (y := .own (F.map .str)) (texts_map F) (by simp [h2]), not_in (F := bd) (y := .val (.tup (bd.map .str))) (texts_map bd) (by simp [h]), trivial⟩ (k _ _ _)
theorem app_map (bd : List (List Nat)) (x : List Nat) : bd.map V.str ++ [V.str x] = (bd ++ [x]).map V.str := by simp
theorem fr_fn {x : List Nat} {b : Tree} {K : List V} {F bd : List (List Nat)} (hK : K.length < room) (hb : bd.length + 1 < room) (k : ∀ x3 x4 x5, FW w (d + 1) (fst' T F (fe (tv b) (bd ++ [x]) :: K) x3 x4 x5) Φ) : FW w (d + 1) (fst' T F (fe (tv (.fn x b)) bd :: K) x3 x4 x5) Φ :=
 whp_go false (tp := []) (ρ' := fst' T F (.tup [tv b, .tup (bd.map V.str ++ [V.str x])] :: K) (some (.val (tv (.fn x b)))) (some (.val (.tup (bd.map .str)))) x5) (by left) (P := (K.length < room) /\ ((bd.map V.str ++ [V.str x]).length <= room) /\ True) (by left) ⟨hK, by simp; lia, trivial⟩ (by rw [app_map]; exact k _ _ _)
theorem fr_lt {x : List Nat} {e b : Tree} {K : List V} {F bd : List (List Nat)} (hK : K.length + 2 < room) (hb : bd.length + 1 < room) (k : ∀ x3 x4 x5, FW w (d + 1) (fst' T F (fe (tv e) bd :: fe (tv b) (bd ++ [x]) :: K) x3 x4 x5) Φ) : FW w (d + 1) (fst' T F (fe (tv (.lt x e b)) bd :: K) x3 x4 x5) Φ :=
 whp_go false (tp := []) (ρ' := fst' T F (fe (tv e) bd :: .tup [tv b, .tup (bd.map V.str ++ [V.str x])] :: K) (some (.val (tv (.lt x e b)))) (some (.val (.tup (bd.map .str)))) x5) (by left) (P := ((.tup [tv b, .tup (bd.map V.str ++ [V.str x])] :: K : List V).length < room) /\ (K.length < room) /\ ((bd.map V.str ++ [V.str x]).length <= room) /\ True) (by left) ⟨by rw [List.length_cons]; lia, by lia, by simp; lia, trivial⟩ (by rw [app_map]; exact k _ _ _)
theorem fr_call {a b : Tree} {K : List V} {F bd : List (List Nat)} (hK : K.length + 4 < room) (k : ∀ x3 x4 x5, FW w (d + 1) (fst' T F (fe (tv a) bd :: (fe (tv b) bd :: K)) x3 x4 x5) Φ) : FW w (d + 1) (fst' T F (fe (tv (.call a b)) bd :: K) x3 x4 x5) Φ :=
 have hf : ForOK (G w) (d + 1) fi_free (.Name "part" (qp 73 16 20)) (l_free_73 w (d + 1)).xs [tv b, tv a] (fst' T F K (some (.val (tv (.call a b)))) (some (.val (.tup (bd.map .str)))) x5) .next (fst' T F (fe (tv a) bd :: (fe (tv b) bd :: K)) (some (.val (tv (.call a b)))) (some (.val (.tup (bd.map .str)))) (some (.val (tv a)))) :=
  (for_go (i := 5) (ρ' := (fst' T F (fe (tv b) bd :: K) (some (.val (tv (.call a b)))) (some (.val (.tup (bd.map .str)))) (some (.val (tv b))))) (tp := []) (by left) (by left) (P := ((K : List V).length < room) /\ True) (by left) ⟨by (try simp only [List.length_cons]); lia, trivial⟩ (for_go (i := 5) (ρ' := (fst' T F (fe (tv a) bd :: (fe (tv b) bd :: K)) (some (.val (tv (.call a b)))) (some (.val (.tup (bd.map .str)))) (some (.val (tv a))))) (tp := []) (by left) (by left) (P := (((fe (tv b) bd :: K) : List V).length < room) /\ True) (by left) ⟨by (try simp only [List.length_cons]); lia, trivial⟩ for_nil))
 whp_go false (tp := [.r (.own [tv b, tv a]), .l .next (fst' T F (fe (tv a) bd :: (fe (tv b) bd :: K)) (some (.val (tv (.call a b)))) (some (.val (.tup (bd.map .str)))) (some (.val (tv a))))]) (ρ' := (fst' T F (fe (tv a) bd :: (fe (tv b) bd :: K)) (some (.val (tv (.call a b)))) (some (.val (.tup (bd.map .str)))) (some (.val (tv a))))) (by left) (P := ForOK (G w) (d + 1) fi_free (.Name "part" (qp 73 16 20)) (l_free_73 w (d + 1)).xs [tv b, tv a] (fst' T F K (some (.val (tv (.call a b)))) (some (.val (.tup (bd.map .str)))) x5) .next (fst' T F (fe (tv a) bd :: (fe (tv b) bd :: K)) (some (.val (tv (.call a b)))) (some (.val (.tup (bd.map .str)))) (some (.val (tv a)))) /\ CallOK (G w) (d + 1) 141 [tv (.call a b)] (.own [tv b, tv a]) /\ True) (by left) ⟨hf, ok_parts d (.call a b), trivial⟩ (k _ _ _)
theorem fr_plus {a b : Tree} {K : List V} {F bd : List (List Nat)} (hK : K.length + 4 < room) (k : ∀ x3 x4 x5, FW w (d + 1) (fst' T F (fe (tv a) bd :: (fe (tv b) bd :: K)) x3 x4 x5) Φ) : FW w (d + 1) (fst' T F (fe (tv (.plus a b)) bd :: K) x3 x4 x5) Φ :=
 have hf : ForOK (G w) (d + 1) fi_free (.Name "part" (qp 73 16 20)) (l_free_73 w (d + 1)).xs [tv b, tv a] (fst' T F K (some (.val (tv (.plus a b)))) (some (.val (.tup (bd.map .str)))) x5) .next (fst' T F (fe (tv a) bd :: (fe (tv b) bd :: K)) (some (.val (tv (.plus a b)))) (some (.val (.tup (bd.map .str)))) (some (.val (tv a)))) :=
  (for_go (i := 5) (ρ' := (fst' T F (fe (tv b) bd :: K) (some (.val (tv (.plus a b)))) (some (.val (.tup (bd.map .str)))) (some (.val (tv b))))) (tp := []) (by left) (by left) (P := ((K : List V).length < room) /\ True) (by left) ⟨by (try simp only [List.length_cons]); lia, trivial⟩ (for_go (i := 5) (ρ' := (fst' T F (fe (tv a) bd :: (fe (tv b) bd :: K)) (some (.val (tv (.plus a b)))) (some (.val (.tup (bd.map .str)))) (some (.val (tv a))))) (tp := []) (by left) (by left) (P := (((fe (tv b) bd :: K) : List V).length < room) /\ True) (by left) ⟨by (try simp only [List.length_cons]); lia, trivial⟩ for_nil))
 whp_go false (tp := [.r (.own [tv b, tv a]), .l .next (fst' T F (fe (tv a) bd :: (fe (tv b) bd :: K)) (some (.val (tv (.plus a b)))) (some (.val (.tup (bd.map .str)))) (some (.val (tv a))))]) (ρ' := (fst' T F (fe (tv a) bd :: (fe (tv b) bd :: K)) (some (.val (tv (.plus a b)))) (some (.val (.tup (bd.map .str)))) (some (.val (tv a))))) (by left) (P := ForOK (G w) (d + 1) fi_free (.Name "part" (qp 73 16 20)) (l_free_73 w (d + 1)).xs [tv b, tv a] (fst' T F K (some (.val (tv (.plus a b)))) (some (.val (.tup (bd.map .str)))) x5) .next (fst' T F (fe (tv a) bd :: (fe (tv b) bd :: K)) (some (.val (tv (.plus a b)))) (some (.val (.tup (bd.map .str)))) (some (.val (tv a)))) /\ CallOK (G w) (d + 1) 141 [tv (.plus a b)] (.own [tv b, tv a]) /\ True) (by left) ⟨hf, ok_parts d (.plus a b), trivial⟩ (k _ _ _)
theorem fr_less {a b : Tree} {K : List V} {F bd : List (List Nat)} (hK : K.length + 4 < room) (k : ∀ x3 x4 x5, FW w (d + 1) (fst' T F (fe (tv a) bd :: (fe (tv b) bd :: K)) x3 x4 x5) Φ) : FW w (d + 1) (fst' T F (fe (tv (.less a b)) bd :: K) x3 x4 x5) Φ :=
 have hf : ForOK (G w) (d + 1) fi_free (.Name "part" (qp 73 16 20)) (l_free_73 w (d + 1)).xs [tv b, tv a] (fst' T F K (some (.val (tv (.less a b)))) (some (.val (.tup (bd.map .str)))) x5) .next (fst' T F (fe (tv a) bd :: (fe (tv b) bd :: K)) (some (.val (tv (.less a b)))) (some (.val (.tup (bd.map .str)))) (some (.val (tv a)))) :=
  (for_go (i := 5) (ρ' := (fst' T F (fe (tv b) bd :: K) (some (.val (tv (.less a b)))) (some (.val (.tup (bd.map .str)))) (some (.val (tv b))))) (tp := []) (by left) (by left) (P := ((K : List V).length < room) /\ True) (by left) ⟨by (try simp only [List.length_cons]); lia, trivial⟩ (for_go (i := 5) (ρ' := (fst' T F (fe (tv a) bd :: (fe (tv b) bd :: K)) (some (.val (tv (.less a b)))) (some (.val (.tup (bd.map .str)))) (some (.val (tv a))))) (tp := []) (by left) (by left) (P := (((fe (tv b) bd :: K) : List V).length < room) /\ True) (by left) ⟨by (try simp only [List.length_cons]); lia, trivial⟩ for_nil))
 whp_go false (tp := [.r (.own [tv b, tv a]), .l .next (fst' T F (fe (tv a) bd :: (fe (tv b) bd :: K)) (some (.val (tv (.less a b)))) (some (.val (.tup (bd.map .str)))) (some (.val (tv a))))]) (ρ' := (fst' T F (fe (tv a) bd :: (fe (tv b) bd :: K)) (some (.val (tv (.less a b)))) (some (.val (.tup (bd.map .str)))) (some (.val (tv a))))) (by left) (P := ForOK (G w) (d + 1) fi_free (.Name "part" (qp 73 16 20)) (l_free_73 w (d + 1)).xs [tv b, tv a] (fst' T F K (some (.val (tv (.less a b)))) (some (.val (.tup (bd.map .str)))) x5) .next (fst' T F (fe (tv a) bd :: (fe (tv b) bd :: K)) (some (.val (tv (.less a b)))) (some (.val (.tup (bd.map .str)))) (some (.val (tv a)))) /\ CallOK (G w) (d + 1) 141 [tv (.less a b)] (.own [tv b, tv a]) /\ True) (by left) ⟨hf, ok_parts d (.less a b), trivial⟩ (k _ _ _)
theorem fr_ite {c a b : Tree} {K : List V} {F bd : List (List Nat)} (hK : K.length + 4 < room) (k : ∀ x3 x4 x5, FW w (d + 1) (fst' T F (fe (tv c) bd :: (fe (tv a) bd :: (fe (tv b) bd :: K))) x3 x4 x5) Φ) : FW w (d + 1) (fst' T F (fe (tv (.ite c a b)) bd :: K) x3 x4 x5) Φ :=
 have hf : ForOK (G w) (d + 1) fi_free (.Name "part" (qp 73 16 20)) (l_free_73 w (d + 1)).xs [tv b, tv a, tv c] (fst' T F K (some (.val (tv (.ite c a b)))) (some (.val (.tup (bd.map .str)))) x5) .next (fst' T F (fe (tv c) bd :: (fe (tv a) bd :: (fe (tv b) bd :: K))) (some (.val (tv (.ite c a b)))) (some (.val (.tup (bd.map .str)))) (some (.val (tv c)))) :=
  (for_go (i := 5) (ρ' := (fst' T F (fe (tv b) bd :: K) (some (.val (tv (.ite c a b)))) (some (.val (.tup (bd.map .str)))) (some (.val (tv b))))) (tp := []) (by left) (by left) (P := ((K : List V).length < room) /\ True) (by left) ⟨by (try simp only [List.length_cons]); lia, trivial⟩ (for_go (i := 5) (ρ' := (fst' T F (fe (tv a) bd :: (fe (tv b) bd :: K)) (some (.val (tv (.ite c a b)))) (some (.val (.tup (bd.map .str)))) (some (.val (tv a))))) (tp := []) (by left) (by left) (P := (((fe (tv b) bd :: K) : List V).length < room) /\ True) (by left) ⟨by (try simp only [List.length_cons]); lia, trivial⟩ (for_go (i := 5) (ρ' := (fst' T F (fe (tv c) bd :: (fe (tv a) bd :: (fe (tv b) bd :: K))) (some (.val (tv (.ite c a b)))) (some (.val (.tup (bd.map .str)))) (some (.val (tv c))))) (tp := []) (by left) (by left) (P := (((fe (tv a) bd :: (fe (tv b) bd :: K)) : List V).length < room) /\ True) (by left) ⟨by (try simp only [List.length_cons]); lia, trivial⟩ for_nil)))
 whp_go false (tp := [.r (.own [tv b, tv a, tv c]), .l .next (fst' T F (fe (tv c) bd :: (fe (tv a) bd :: (fe (tv b) bd :: K))) (some (.val (tv (.ite c a b)))) (some (.val (.tup (bd.map .str)))) (some (.val (tv c))))]) (ρ' := (fst' T F (fe (tv c) bd :: (fe (tv a) bd :: (fe (tv b) bd :: K))) (some (.val (tv (.ite c a b)))) (some (.val (.tup (bd.map .str)))) (some (.val (tv c))))) (by left) (P := ForOK (G w) (d + 1) fi_free (.Name "part" (qp 73 16 20)) (l_free_73 w (d + 1)).xs [tv b, tv a, tv c] (fst' T F K (some (.val (tv (.ite c a b)))) (some (.val (.tup (bd.map .str)))) x5) .next (fst' T F (fe (tv c) bd :: (fe (tv a) bd :: (fe (tv b) bd :: K))) (some (.val (tv (.ite c a b)))) (some (.val (.tup (bd.map .str)))) (some (.val (tv c)))) /\ CallOK (G w) (d + 1) 141 [tv (.ite c a b)] (.own [tv b, tv a, tv c]) /\ True) (by left) ⟨hf, ok_parts d (.ite c a b), trivial⟩ (k _ _ _)
theorem addN_len (bd F : List (List Nat)) (x : List Nat) : (addN bd F x).length <= F.length + 1 := by
 unfold addN; split
 ·lia
 ·rw [List.length_cons]; lia
theorem fr_len (t : Tree) : ∀ bd F, (fr t bd F).length <= F.length + sz t := by
 induction t with
 | num i => intro bd F; exact Nat.le_add_right _ _
 | name x => intro bd F; exact addN_len bd F x
 | fn x b ib => intro bd F; have := ib (bd ++ [x]) F; show (fr b (bd ++ [x]) F).length <= F.length + (sz b + 1); lia
 | call a b ia ib => intro bd F; have h1 := ia bd F; have h2 := ib bd (fr a bd F); show (fr b bd (fr a bd F)).length <= F.length + (sz a + sz b + 1); lia
 | plus a b ia ib => intro bd F; have h1 := ia bd F; have h2 := ib bd (fr a bd F); show (fr b bd (fr a bd F)).length <= F.length + (sz a + sz b + 1); lia
 | less a b ia ib => intro bd F; have h1 := ia bd F; have h2 := ib bd (fr a bd F); show (fr b bd (fr a bd F)).length <= F.length + (sz a + sz b + 1); lia
 | ite c a b ic ia ib => intro bd F; have h0 := ic bd F; have h1 := ia bd (fr c bd F); have h2 := ib bd (fr a bd (fr c bd F)); show (fr b bd (fr a bd (fr c bd F))).length <= F.length + (sz c + sz a + sz b + 1); lia
 | lt x e b ie ib => intro bd F; have h1 := ie bd F; have h2 := ib (bd ++ [x]) (fr e bd F); show (fr b (bd ++ [x]) (fr e bd F)).length <= F.length + (sz e + sz b + 1); lia
theorem fr_all (t : Tree) : ∀ {K : List V} {F bd : List (List Nat)} {x3 x4 x5 : Option O}, K.length + 4 * sz t < room -> F.length + 4 * sz t < room -> bd.length + 4 * sz t < room -> (∀ x3 x4 x5, FW w (d + 1) (fst' T (fr t bd F) K x3 x4 x5) Φ) -> FW w (d + 1) (fst' T F (fe (tv t) bd :: K) x3 x4 x5) Φ := by
 induction t with
 | num i => intro K F bd x3 x4 x5 hK hF hb k; exact fr_num k
 | name x =>
  intro K F bd x3 x4 x5 hK hF hb k
  have e : fr (.name x) bd F = addN bd F x := rfl
  rw [e] at k
  unfold addN at k
  by_cases h : x ∈ bd
  ·rw [if_pos (.inl h)] at k; exact fr_name1 h k
  ·by_cases h2 : x ∈ F
   ·rw [if_pos (.inr h2)] at k; exact fr_name2 h h2 k
   ·rw [if_neg (fun q => q.elim h h2)] at k; exact fr_name3 h h2 (by lia) k
 | fn x b ib =>
  intro K F bd x3 x4 x5 hK hF hb k
  have hs : sz (.fn x b) = sz b + 1 := rfl
  rw [hs] at hK hF hb
  exact fr_fn (by lia) (by lia) fun J J J => ib (by lia) (by lia) (by rw [List.length_append, List.length_singleton]; lia) k
 | call a b ia ib =>
  intro K F bd x3 x4 x5 hK hF hb k
  have hs : sz (.call a b) = sz a + sz b + 1 := rfl
  rw [hs] at hK hF hb
  have := sz_pos a; have := sz_pos b; have := fr_len a bd F
  exact fr_call (by lia) fun J J J => ia (by rw [List.length_cons]; lia) (by lia) (by lia) fun J J J => ib (by lia) (by lia) (by lia) k
 | plus a b ia ib =>
  intro K F bd x3 x4 x5 hK hF hb k
  have hs : sz (.plus a b) = sz a + sz b + 1 := rfl
  rw [hs] at hK hF hb
  have := sz_pos a; have := sz_pos b; have := fr_len a bd F
  exact fr_plus (by lia) fun J J J => ia (by rw [List.length_cons]; lia) (by lia) (by lia) fun J J J => ib (by lia) (by lia) (by lia) k
 | less a b ia ib =>
  intro K F bd x3 x4 x5 hK hF hb k
  have hs : sz (.less a b) = sz a + sz b + 1 := rfl
  rw [hs] at hK hF hb
  have := sz_pos a; have := sz_pos b; have := fr_len a bd F
  exact fr_less (by lia) fun J J J => ia (by rw [List.length_cons]; lia) (by lia) (by lia) fun J J J => ib (by lia) (by lia) (by lia) k
 | ite c a b ic ia ib =>
  intro K F bd x3 x4 x5 hK hF hb k
  have hs : sz (.ite c a b) = sz c + sz a + sz b + 1 := rfl
  rw [hs] at hK hF hb
  have := sz_pos c; have := sz_pos a; have := sz_pos b; have := fr_len c bd F; have := fr_len a bd (fr c bd F)
  exact fr_ite (by lia) fun J J J => ic (by simp only [List.length_cons]; lia) (by lia) (by lia) fun J J J => ia (by rw [List.length_cons]; lia) (by lia) (by lia) fun J J J => ib (by lia) (by lia) (by lia) k
 | lt x e b ie ib =>
  intro K F bd x3 x4 x5 hK hF hb k
  have hs : sz (.lt x e b) = sz e + sz b + 1 := rfl
  rw [hs] at hK hF hb
  have := sz_pos e; have := sz_pos b; have := fr_len e bd F
  exact fr_lt (by lia) (by lia) fun J J J => ie (by rw [List.length_cons]; lia) (by lia) (by lia) fun J J J => ib (by lia) (by lia) (by rw [List.length_append, List.length_singleton]; lia) k
theorem ok_free (t : Tree) (hz : 4 * sz t < room) : CallOK (G w) (d + 2) 155 [tv t] (.own ((fr t [] []).map .str)) := by
 obtain ⟨fl, ρ, hw, rfl, x3, x4, x5, rfl⟩ := fr_all (w := w) (d := d) (T := tv t) (Φ := fun fl ρ => fl = .next /\ ∃ x3 x4 x5, ρ = fst' (tv t) (fr t [] []) [] x3 x4 x5) t (K := []) (F := []) (bd := []) (x3 := none) (x4 := none) (x5 := none) (by simpa using hz) (by simpa using hz) (by simpa using hz) fun x3 x4 x5 => whp_end false (tp := []) (ρ' := fst' (tv t) (fr t [] []) [] x3 x4 x5) (by left) (P := True) (by left) trivial ⟨rfl, _, _, _, rfl⟩
 exact call_go (n := 5) (tp := [.l .next (fst' (tv t) (fr t [] []) [] x3 x4 x5)]) (b_free w (d + 1)) rfl (b_free_x w (d + 1)) rfl (by left) (P := WhilOK (G w) (d + 1) fi_free (c_free_62 w (d + 1)).x (l_free_62 w (d + 1)).xs (fst' (tv t) [] [fe (tv t) []] none none none) .next (fst' (tv t) (fr t [] []) [] x3 x4 x5) /\ True) (by left) ⟨hw, trivial⟩
end
end Mine.L09
end
section
namespace Mine.L09
variable {w : World}
noncomputable def dp (t : Tree) : Nat := Tree.rec (fun J => 1) (fun J => 1) (fun J J b => b + 1) (fun J J a b => max a b + 1) (fun J J a b => max a b + 1) (fun J J a b => max a b + 1) (fun J J J c a b => max c (max a b) + 1) (fun J J J e b => max e b + 1) t
theorem dp_pos (t : Tree) : 1 <= dp t := by cases t <;> exact Nat.succ_le_succ (Nat.zero_le _)
noncomputable def pl (t : Tree) (n : List Nat) : List V := Tree.casesOn t (fun J => []) (fun J => []) (fun x J => Bool.casesOn (x == n) [.int 2] []) (fun J J => [.int 2, .int 1]) (fun J J => [.int 2, .int 1]) (fun J J => [.int 2, .int 1]) (fun J J J => [.int 3, .int 2, .int 1]) (fun x J J => Bool.casesOn (x == n) [.int 3, .int 2] [.int 2])
theorem ok_places (d : Nat) (t : Tree) (n : List Nat) : CallOK (G w) (d + 1) 169 [tv t, .str n] (.own (pl t n)) := by
 cases t with
 | num i => exact call_go (n := 0) (tp := []) (b_open_places w d) rfl (b_open_places_x w d) rfl (by left) (P := True) (by left) trivial
 | name x => exact call_go (n := 0) (tp := []) (b_open_places w d) rfl (b_open_places_x w d) rfl (by left) (P := True) (by left) trivial
 | fn x b =>
  unfold pl; dsimp only
  cases h : x == n with
  | true => exact call_go (n := 0) (tp := [.b true]) (b_open_places w d) rfl (b_open_places_x w d) rfl (by left) (P := (x == n) = true /\ True) (by left) ⟨h, trivial⟩
  | false => exact call_go (n := 0) (tp := [.b false]) (b_open_places w d) rfl (b_open_places_x w d) rfl (by left) (P := (x == n) = false /\ True) (by left) ⟨h, trivial⟩
 | call f a => exact call_go (n := 0) (tp := []) (b_open_places w d) rfl (b_open_places_x w d) rfl (by left) (P := (1 <= 1000000 /\ 3 <= 1000000) /\ True) (by left) (by decide)
 | plus a b => exact call_go (n := 0) (tp := []) (b_open_places w d) rfl (b_open_places_x w d) rfl (by left) (P := (1 <= 1000000 /\ 3 <= 1000000) /\ True) (by left) (by decide)
 | less a b => exact call_go (n := 0) (tp := []) (b_open_places w d) rfl (b_open_places_x w d) rfl (by left) (P := (1 <= 1000000 /\ 3 <= 1000000) /\ True) (by left) (by decide)
 | ite c a b => exact call_go (n := 0) (tp := []) (b_open_places w d) rfl (b_open_places_x w d) rfl (by left) (P := (1 <= 1000000 /\ 4 <= 1000000) /\ True) (by left) (by decide)
 | lt x e b =>
  unfold pl; dsimp only
  cases h : x == n with
  | true => exact call_go (n := 0) (tp := [.b true]) (b_open_places w d) rfl (b_open_places_x w d) rfl (by left) (P := (x == n) = true /\ True) (by left) ⟨h, trivial⟩
  | false => exact call_go (n := 0) (tp := [.b false]) (b_open_places w d) rfl (b_open_places_x w d) rfl (by left) (P := (x == n) = false /\ True) (by left) ⟨h, trivial⟩
noncomputable def sub (n : List Nat) (v : V) (t : Tree) : V := Tree.rec (fun i => tv (.num i)) (fun x => Bool.casesOn (x == n) (tv (.name x)) v) (fun x b s => .tup [.str z_fun, .str x, Bool.casesOn (x == n) s (tv b)]) (fun J J f a => .tup [.str z_call, f, a]) (fun J J a b => .tup [.str z_plus, a, b]) (fun J J a b => .tup [.str z_less, a, b])
 (fun J J J c a b => .tup [.str z_if, c, a, b]) (fun x J b e s => .tup [.str z_let, .str x, e, Bool.casesOn (x == n) s (tv b)]) t
noncomputable abbrev pst (t v : V) (n : List Nat) (K M : List V) (x5 x6 x7 x8 x9 : Option O) : Loc := [some (.val t), some (.val (.str n)), some (.val v), some (.own K), some (.own M), x5, x6, x7, x8, x9]
abbrev PW (w : World) (d : Nat) (ρ : Loc) (Φ : Fl -> Loc -> Prop) : Prop := WhP (c_put_100 w d) (l_put_100 w d) ρ Φ
section
variable {d : Nat} {T v : V} {n : List Nat} {x5 x6 x7 x8 x9 : Option O} {Φ : Fl -> Loc -> Prop}
theorem put_num {i : Int} {K M : List V} (hM : M.length < room) (k : ∀ x5 x6 x7 x8 x9, PW w (d + 1) (pst T v n K (tv (.num i) :: M) x5 x6 x7 x8 x9) Φ) : PW w (d + 1) (pst T v n (.tup [tv (.num i), .bool false] :: K) M x5 x6 x7 x8 x9) Φ :=
 whp_go false (tp := [.r (.own (pl (.num i) n)), .b false]) (ρ' := pst T v n K (tv (.num i) :: M) (some (.val (tv (.num i)))) (some (.val (.bool false))) (some (.own (pl (.num i) n))) x8 x9) (by left) (P := M.length < room /\ false = false /\ CallOK (G w) (d + 1) 169 [tv (.num i), .str n] (.own (pl (.num i) n)) /\ True) (by left) ⟨hM, rfl, ok_places d _ _, trivial⟩ (k _ _ _ _ _)
theorem put_name1 {x : List Nat} {K M : List V} (h : (x == n) = true) (hM : M.length < room) (k : ∀ x5 x6 x7 x8 x9, PW w (d + 1) (pst T v n K (v :: M) x5 x6 x7 x8 x9) Φ) : PW w (d + 1) (pst T v n (.tup [tv (.name x), .bool false] :: K) M x5 x6 x7 x8 x9) Φ :=
 whp_go false (tp := [.r (.own (pl (.name x) n)), .b true]) (ρ' := pst T v n K (v :: M) (some (.val (tv (.name x)))) (some (.val (.bool false))) (some (.own (pl (.name x) n))) x8 x9) (by left) (P := M.length < room /\ (x == n) = true /\ CallOK (G w) (d + 1) 169 [tv (.name x), .str n] (.own (pl (.name x) n)) /\ True) (by left) ⟨hM, h, ok_places d _ _, trivial⟩ (k _ _ _ _ _)
theorem put_name0 {x : List Nat} {K M : List V} (h : (x == n) = false) (hM : M.length < room) (k : ∀ x5 x6 x7 x8 x9, PW w (d + 1) (pst T v n K (tv (.name x) :: M) x5 x6 x7 x8 x9) Φ) : PW w (d + 1) (pst T v n (.tup [tv (.name x), .bool false] :: K) M x5 x6 x7 x8 x9) Φ :=
 whp_go false (tp := [.r (.own (pl (.name x) n)), .b false]) (ρ' := pst T v n K (tv (.name x) :: M) (some (.val (tv (.name x)))) (some (.val (.bool false))) (some (.own (pl (.name x) n))) x8 x9) (by left) (P := M.length < room /\ (x == n) = false /\ CallOK (G w) (d + 1) 169 [tv (.name x), .str n] (.own (pl (.name x) n)) /\ True) (by left) ⟨hM, h, ok_places d _ _, trivial⟩ (k _ _ _ _ _)
theorem put_fn1 {x : List Nat} {b : Tree} {K M : List V} (h : (x == n) = true) (hM : M.length < room) (k : ∀ x5 x6 x7 x8 x9, PW w (d + 1) (pst T v n K (tv (.fn x b) :: M) x5 x6 x7 x8 x9) Φ) : PW w (d + 1) (pst T v n (.tup [tv (.fn x b), .bool false] :: K) M x5 x6 x7 x8 x9) Φ :=
 have hp : CallOK (G w) (d + 1) 169 [tv (.fn x b), .str n] (.own []) := by have := ok_places (w := w) d (.fn x b) n; unfold pl at this; dsimp only at this; rw [h] at this; exact this
 whp_go false (tp := [.r (.own []), .b false]) (ρ' := pst T v n K (tv (.fn x b) :: M) (some (.val (tv (.fn x b)))) (some (.val (.bool false))) (some (.own [])) x8 x9) (by left) (P := M.length < room /\ false = false /\ CallOK (G w) (d + 1) 169 [tv (.fn x b), .str n] (.own []) /\ True) (by left) ⟨hM, rfl, hp, trivial⟩ (k _ _ _ _ _)
theorem push_fn0 {x : List Nat} {b : Tree} {K M : List V} (h : (x == n) = false) (hK : K.length + 4 < room) (k : ∀ x5 x6 x7 x8 x9, PW w (d + 1) (pst T v n (.tup [tv b, .bool false] :: (.tup [tv (.fn x b), .bool true] :: K)) M x5 x6 x7 x8 x9) Φ) : PW w (d + 1) (pst T v n (.tup [tv (.fn x b), .bool false] :: K) M x5 x6 x7 x8 x9) Φ :=
 have hp : CallOK (G w) (d + 1) 169 [tv (.fn x b), .str n] (.own [.int 2]) := by have := ok_places (w := w) d (.fn x b) n; unfold pl at this; dsimp only at this; rw [h] at this; exact this
 have hf : ForOK (G w) (d + 1) fi_put (.Name "place" (qp 114 16 21)) (l_put_114 w (d + 1)).xs [.int 2] (pst T v n (.tup [tv (.fn x b), .bool true] :: K) M (some (.val (tv (.fn x b)))) (some (.val (.bool false))) (some (.val (.lst [.int 2]))) x8 x9) .next (pst T v n (.tup [tv b, .bool false] :: (.tup [tv (.fn x b), .bool true] :: K)) M (some (.val (tv (.fn x b)))) (some (.val (.bool false))) (some (.val (.lst [.int 2]))) x8 (some (.val (.int 2)))) :=
  (for_go (i := 9) (ρ' := (pst T v n (.tup [tv b, .bool false] :: (.tup [tv (.fn x b), .bool true] :: K)) M (some (.val (tv (.fn x b)))) (some (.val (.bool false))) (some (.val (.lst [.int 2]))) x8 (some (.val (.int 2))))) (tp := []) (by left) (by left) (P := (((.tup [tv (.fn x b), .bool true] :: K) : List V).length < room) /\ True) (by left) ⟨by simp only [List.length_cons]; omega, trivial⟩ for_nil)
 whp_go false (tp := [.r (.own [.int 2]), .b false, .l .next (pst T v n (.tup [tv b, .bool false] :: (.tup [tv (.fn x b), .bool true] :: K)) M (some (.val (tv (.fn x b)))) (some (.val (.bool false))) (some (.val (.lst [.int 2]))) x8 (some (.val (.int 2))))]) (ρ' := (pst T v n (.tup [tv b, .bool false] :: (.tup [tv (.fn x b), .bool true] :: K)) M (some (.val (tv (.fn x b)))) (some (.val (.bool false))) (some (.val (.lst [.int 2]))) x8 (some (.val (.int 2))))) (by left) (P := ForOK (G w) (d + 1) fi_put (.Name "place" (qp 114 16 21)) (l_put_114 w (d + 1)).xs [.int 2] (pst T v n (.tup [tv (.fn x b), .bool true] :: K) M (some (.val (tv (.fn x b)))) (some (.val (.bool false))) (some (.val (.lst [.int 2]))) x8 x9) .next (pst T v n (.tup [tv b, .bool false] :: (.tup [tv (.fn x b), .bool true] :: K)) M (some (.val (tv (.fn x b)))) (some (.val (.bool false))) (some (.val (.lst [.int 2]))) x8 (some (.val (.int 2)))) /\ (K.length < room) /\ false = false /\ CallOK (G w) (d + 1) 169 [tv (.fn x b), .str n] (.own [.int 2]) /\ True) (by left) ⟨hf, by omega, rfl, hp, trivial⟩ (k _ _ _ _ _)
theorem pop_fn0 {x : List Nat} {b : Tree} {K M : List V} {s0 : V} (h : (x == n) = false) (hM : M.length < room) (k : ∀ x5 x6 x7 x8 x9, PW w (d + 1) (pst T v n K (.tup [.str z_fun, .str x, s0] :: M) x5 x6 x7 x8 x9) Φ) : PW w (d + 1) (pst T v n (.tup [tv (.fn x b), .bool true] :: K) (s0 :: M) x5 x6 x7 x8 x9) Φ :=
 have hp : CallOK (G w) (d + 1) 169 [tv (.fn x b), .str n] (.own [.int 2]) := by have := ok_places (w := w) d (.fn x b) n; unfold pl at this; dsimp only at this; rw [h] at this; exact this
 have hf : ForOK (G w) (d + 1) fi_put (.Name "place" (qp 105 16 21)) (l_put_105 w (d + 1)).xs [.int 2] (pst T v n K (s0 :: M) (some (.val (tv (.fn x b)))) (some (.val (.bool true))) (some (.val (.lst [.int 2]))) (some (.own [tv b, .str x, .str z_fun])) x9) .next (pst T v n K M (some (.val (tv (.fn x b)))) (some (.val (.bool true))) (some (.val (.lst [.int 2]))) (some (.own [s0, .str x, .str z_fun])) (some (.val (.int 2)))) :=
  (for_go (i := 9) (ρ' := (pst T v n K M (some (.val (tv (.fn x b)))) (some (.val (.bool true))) (some (.val (.lst [.int 2]))) (some (.own [s0, .str x, .str z_fun])) (some (.val (.int 2))))) (tp := []) (by left) (by left) (P := True) (by left) trivial for_nil)
 whp_go false (tp := [.r (.own [.int 2]), .l .next (pst T v n K M (some (.val (tv (.fn x b)))) (some (.val (.bool true))) (some (.val (.lst [.int 2]))) (some (.own [s0, .str x, .str z_fun])) (some (.val (.int 2))))]) (ρ' := (pst T v n K (.tup [.str z_fun, .str x, s0] :: M) (some (.val (tv (.fn x b)))) (some (.val (.bool true))) (some (.val (.lst [.int 2]))) (some (.own [s0, .str x, .str z_fun])) (some (.val (.int 2))))) (by left) (P := (M.length < room) /\ ForOK (G w) (d + 1) fi_put (.Name "place" (qp 105 16 21)) (l_put_105 w (d + 1)).xs [.int 2] (pst T v n K (s0 :: M) (some (.val (tv (.fn x b)))) (some (.val (.bool true))) (some (.val (.lst [.int 2]))) (some (.own [tv b, .str x, .str z_fun])) x9) .next (pst T v n K M (some (.val (tv (.fn x b)))) (some (.val (.bool true))) (some (.val (.lst [.int 2]))) (some (.own [s0, .str x, .str z_fun])) (some (.val (.int 2)))) /\ CallOK (G w) (d + 1) 169 [tv (.fn x b), .str n] (.own [.int 2]) /\ True) (by left) ⟨hM, hf, hp, trivial⟩ (k _ _ _ _ _)
theorem push_call {a b : Tree} {K M : List V} (hK : K.length + 4 < room) (k : ∀ x5 x6 x7 x8 x9, PW w (d + 1) (pst T v n (.tup [tv a, .bool false] :: (.tup [tv b, .bool false] :: (.tup [tv (.call a b), .bool true] :: K))) M x5 x6 x7 x8 x9) Φ) : PW w (d + 1) (pst T v n (.tup [tv (.call a b), .bool false] :: K) M x5 x6 x7 x8 x9) Φ :=
 have hp : CallOK (G w) (d + 1) 169 [tv (.call a b), .str n] (.own [.int 2, .int 1]) := ok_places d (.call a b) n
 have hf : ForOK (G w) (d + 1) fi_put (.Name "place" (qp 114 16 21)) (l_put_114 w (d + 1)).xs [.int 2, .int 1] (pst T v n (.tup [tv (.call a b), .bool true] :: K) M (some (.val (tv (.call a b)))) (some (.val (.bool false))) (some (.val (.lst [.int 1, .int 2]))) x8 x9) .next (pst T v n (.tup [tv a, .bool false] :: (.tup [tv b, .bool false] :: (.tup [tv (.call a b), .bool true] :: K))) M (some (.val (tv (.call a b)))) (some (.val (.bool false))) (some (.val (.lst [.int 1, .int 2]))) x8 (some (.val (.int 1)))) :=
  (for_go (i := 9) (ρ' := (pst T v n (.tup [tv b, .bool false] :: (.tup [tv (.call a b), .bool true] :: K)) M (some (.val (tv (.call a b)))) (some (.val (.bool false))) (some (.val (.lst [.int 1, .int 2]))) x8 (some (.val (.int 2))))) (tp := []) (by left) (by left) (P := (((.tup [tv (.call a b), .bool true] :: K) : List V).length < room) /\ True) (by left) ⟨by simp only [List.length_cons]; omega, trivial⟩ (for_go (i := 9) (ρ' := (pst T v n (.tup [tv a, .bool false] :: (.tup [tv b, .bool false] :: (.tup [tv (.call a b), .bool true] :: K))) M (some (.val (tv (.call a b)))) (some (.val (.bool false))) (some (.val (.lst [.int 1, .int 2]))) x8 (some (.val (.int 1))))) (tp := []) (by left) (by left) (P := (((.tup [tv b, .bool false] :: (.tup [tv (.call a b), .bool true] :: K)) : List V).length < room) /\ True) (by left) ⟨by simp only [List.length_cons]; omega, trivial⟩ for_nil))
 whp_go false (tp := [.r (.own [.int 2, .int 1]), .b false, .l .next (pst T v n (.tup [tv a, .bool false] :: (.tup [tv b, .bool false] :: (.tup [tv (.call a b), .bool true] :: K))) M (some (.val (tv (.call a b)))) (some (.val (.bool false))) (some (.val (.lst [.int 1, .int 2]))) x8 (some (.val (.int 1))))]) (ρ' := (pst T v n (.tup [tv a, .bool false] :: (.tup [tv b, .bool false] :: (.tup [tv (.call a b), .bool true] :: K))) M (some (.val (tv (.call a b)))) (some (.val (.bool false))) (some (.val (.lst [.int 1, .int 2]))) x8 (some (.val (.int 1))))) (by left) (P := ForOK (G w) (d + 1) fi_put (.Name "place" (qp 114 16 21)) (l_put_114 w (d + 1)).xs [.int 2, .int 1] (pst T v n (.tup [tv (.call a b), .bool true] :: K) M (some (.val (tv (.call a b)))) (some (.val (.bool false))) (some (.val (.lst [.int 1, .int 2]))) x8 x9) .next (pst T v n (.tup [tv a, .bool false] :: (.tup [tv b, .bool false] :: (.tup [tv (.call a b), .bool true] :: K))) M (some (.val (tv (.call a b)))) (some (.val (.bool false))) (some (.val (.lst [.int 1, .int 2]))) x8 (some (.val (.int 1)))) /\ (K.length < room) /\ false = false /\ CallOK (G w) (d + 1) 169 [tv (.call a b), .str n] (.own [.int 2, .int 1]) /\ True) (by left) ⟨hf, by omega, rfl, hp, trivial⟩ (k _ _ _ _ _)
theorem pop_call {a b : Tree} {K M : List V} {s0 s1 : V} (hM : M.length < room) (k : ∀ x5 x6 x7 x8 x9, PW w (d + 1) (pst T v n K (.tup [.str z_call, s0, s1] :: M) x5 x6 x7 x8 x9) Φ) : PW w (d + 1) (pst T v n (.tup [tv (.call a b), .bool true] :: K) (s1 :: (s0 :: M)) x5 x6 x7 x8 x9) Φ :=
 have hp : CallOK (G w) (d + 1) 169 [tv (.call a b), .str n] (.own [.int 2, .int 1]) := ok_places d (.call a b) n
 have hf : ForOK (G w) (d + 1) fi_put (.Name "place" (qp 105 16 21)) (l_put_105 w (d + 1)).xs [.int 2, .int 1] (pst T v n K (s1 :: (s0 :: M)) (some (.val (tv (.call a b)))) (some (.val (.bool true))) (some (.val (.lst [.int 1, .int 2]))) (some (.own [tv b, tv a, .str z_call])) x9) .next (pst T v n K M (some (.val (tv (.call a b)))) (some (.val (.bool true))) (some (.val (.lst [.int 1, .int 2]))) (some (.own [s1, s0, .str z_call])) (some (.val (.int 1)))) :=
  (for_go (i := 9) (ρ' := (pst T v n K (s0 :: M) (some (.val (tv (.call a b)))) (some (.val (.bool true))) (some (.val (.lst [.int 1, .int 2]))) (some (.own [s1, tv a, .str z_call])) (some (.val (.int 2))))) (tp := []) (by left) (by left) (P := True) (by left) trivial (for_go (i := 9) (ρ' := (pst T v n K M (some (.val (tv (.call a b)))) (some (.val (.bool true))) (some (.val (.lst [.int 1, .int 2]))) (some (.own [s1, s0, .str z_call])) (some (.val (.int 1))))) (tp := []) (by left) (by left) (P := True) (by left) trivial for_nil))
 whp_go false (tp := [.r (.own [.int 2, .int 1]), .l .next (pst T v n K M (some (.val (tv (.call a b)))) (some (.val (.bool true))) (some (.val (.lst [.int 1, .int 2]))) (some (.own [s1, s0, .str z_call])) (some (.val (.int 1))))]) (ρ' := (pst T v n K (.tup [.str z_call, s0, s1] :: M) (some (.val (tv (.call a b)))) (some (.val (.bool true))) (some (.val (.lst [.int 1, .int 2]))) (some (.own [s1, s0, .str z_call])) (some (.val (.int 1))))) (by left) (P := (M.length < room) /\ ForOK (G w) (d + 1) fi_put (.Name "place" (qp 105 16 21)) (l_put_105 w (d + 1)).xs [.int 2, .int 1] (pst T v n K (s1 :: (s0 :: M)) (some (.val (tv (.call a b)))) (some (.val (.bool true))) (some (.val (.lst [.int 1, .int 2]))) (some (.own [tv b, tv a, .str z_call])) x9) .next (pst T v n K M (some (.val (tv (.call a b)))) (some (.val (.bool true))) (some (.val (.lst [.int 1, .int 2]))) (some (.own [s1, s0, .str z_call])) (some (.val (.int 1)))) /\ CallOK (G w) (d + 1) 169 [tv (.call a b), .str n] (.own [.int 2, .int 1]) /\ True) (by left) ⟨hM, hf, hp, trivial⟩ (k _ _ _ _ _)
theorem push_plus {a b : Tree} {K M : List V} (hK : K.length + 4 < room) (k : ∀ x5 x6 x7 x8 x9, PW w (d + 1) (pst T v n (.tup [tv a, .bool false] :: (.tup [tv b, .bool false] :: (.tup [tv (.plus a b), .bool true] :: K))) M x5 x6 x7 x8 x9) Φ) : PW w (d + 1) (pst T v n (.tup [tv (.plus a b), .bool false] :: K) M x5 x6 x7 x8 x9) Φ :=
 have hp : CallOK (G w) (d + 1) 169 [tv (.plus a b), .str n] (.own [.int 2, .int 1]) := ok_places d (.plus a b) n
 have hf : ForOK (G w) (d + 1) fi_put (.Name "place" (qp 114 16 21)) (l_put_114 w (d + 1)).xs [.int 2, .int 1] (pst T v n (.tup [tv (.plus a b), .bool true] :: K) M (some (.val (tv (.plus a b)))) (some (.val (.bool false))) (some (.val (.lst [.int 1, .int 2]))) x8 x9) .next (pst T v n (.tup [tv a, .bool false] :: (.tup [tv b, .bool false] :: (.tup [tv (.plus a b), .bool true] :: K))) M (some (.val (tv (.plus a b)))) (some (.val (.bool false))) (some (.val (.lst [.int 1, .int 2]))) x8 (some (.val (.int 1)))) :=
  (for_go (i := 9) (ρ' := (pst T v n (.tup [tv b, .bool false] :: (.tup [tv (.plus a b), .bool true] :: K)) M (some (.val (tv (.plus a b)))) (some (.val (.bool false))) (some (.val (.lst [.int 1, .int 2]))) x8 (some (.val (.int 2))))) (tp := []) (by left) (by left) (P := (((.tup [tv (.plus a b), .bool true] :: K) : List V).length < room) /\ True) (by left) ⟨by simp only [List.length_cons]; omega, trivial⟩ (for_go (i := 9) (ρ' := (pst T v n (.tup [tv a, .bool false] :: (.tup [tv b, .bool false] :: (.tup [tv (.plus a b), .bool true] :: K))) M (some (.val (tv (.plus a b)))) (some (.val (.bool false))) (some (.val (.lst [.int 1, .int 2]))) x8 (some (.val (.int 1))))) (tp := []) (by left) (by left) (P := (((.tup [tv b, .bool false] :: (.tup [tv (.plus a b), .bool true] :: K)) : List V).length < room) /\ True) (by left) ⟨by simp only [List.length_cons]; omega, trivial⟩ for_nil))
 whp_go false (tp := [.r (.own [.int 2, .int 1]), .b false, .l .next (pst T v n (.tup [tv a, .bool false] :: (.tup [tv b, .bool false] :: (.tup [tv (.plus a b), .bool true] :: K))) M (some (.val (tv (.plus a b)))) (some (.val (.bool false))) (some (.val (.lst [.int 1, .int 2]))) x8 (some (.val (.int 1))))]) (ρ' := (pst T v n (.tup [tv a, .bool false] :: (.tup [tv b, .bool false] :: (.tup [tv (.plus a b), .bool true] :: K))) M (some (.val (tv (.plus a b)))) (some (.val (.bool false))) (some (.val (.lst [.int 1, .int 2]))) x8 (some (.val (.int 1))))) (by left) (P := ForOK (G w) (d + 1) fi_put (.Name "place" (qp 114 16 21)) (l_put_114 w (d + 1)).xs [.int 2, .int 1] (pst T v n (.tup [tv (.plus a b), .bool true] :: K) M (some (.val (tv (.plus a b)))) (some (.val (.bool false))) (some (.val (.lst [.int 1, .int 2]))) x8 x9) .next (pst T v n (.tup [tv a, .bool false] :: (.tup [tv b, .bool false] :: (.tup [tv (.plus a b), .bool true] :: K))) M (some (.val (tv (.plus a b)))) (some (.val (.bool false))) (some (.val (.lst [.int 1, .int 2]))) x8 (some (.val (.int 1)))) /\ (K.length < room) /\ false = false /\ CallOK (G w) (d + 1) 169 [tv (.plus a b), .str n] (.own [.int 2, .int 1]) /\ True) (by left) ⟨hf, by omega, rfl, hp, trivial⟩ (k _ _ _ _ _)
theorem pop_plus {a b : Tree} {K M : List V} {s0 s1 : V} (hM : M.length < room) (k : ∀ x5 x6 x7 x8 x9, PW w (d + 1) (pst T v n K (.tup [.str z_plus, s0, s1] :: M) x5 x6 x7 x8 x9) Φ) : PW w (d + 1) (pst T v n (.tup [tv (.plus a b), .bool true] :: K) (s1 :: (s0 :: M)) x5 x6 x7 x8 x9) Φ :=
 have hp : CallOK (G w) (d + 1) 169 [tv (.plus a b), .str n] (.own [.int 2, .int 1]) := ok_places d (.plus a b) n
 have hf : ForOK (G w) (d + 1) fi_put (.Name "place" (qp 105 16 21)) (l_put_105 w (d + 1)).xs [.int 2, .int 1] (pst T v n K (s1 :: (s0 :: M)) (some (.val (tv (.plus a b)))) (some (.val (.bool true))) (some (.val (.lst [.int 1, .int 2]))) (some (.own [tv b, tv a, .str z_plus])) x9) .next (pst T v n K M (some (.val (tv (.plus a b)))) (some (.val (.bool true))) (some (.val (.lst [.int 1, .int 2]))) (some (.own [s1, s0, .str z_plus])) (some (.val (.int 1)))) :=
  (for_go (i := 9) (ρ' := (pst T v n K (s0 :: M) (some (.val (tv (.plus a b)))) (some (.val (.bool true))) (some (.val (.lst [.int 1, .int 2]))) (some (.own [s1, tv a, .str z_plus])) (some (.val (.int 2))))) (tp := []) (by left) (by left) (P := True) (by left) trivial (for_go (i := 9) (ρ' := (pst T v n K M (some (.val (tv (.plus a b)))) (some (.val (.bool true))) (some (.val (.lst [.int 1, .int 2]))) (some (.own [s1, s0, .str z_plus])) (some (.val (.int 1))))) (tp := []) (by left) (by left) (P := True) (by left) trivial for_nil))
 whp_go false (tp := [.r (.own [.int 2, .int 1]), .l .next (pst T v n K M (some (.val (tv (.plus a b)))) (some (.val (.bool true))) (some (.val (.lst [.int 1, .int 2]))) (some (.own [s1, s0, .str z_plus])) (some (.val (.int 1))))]) (ρ' := (pst T v n K (.tup [.str z_plus, s0, s1] :: M) (some (.val (tv (.plus a b)))) (some (.val (.bool true))) (some (.val (.lst [.int 1, .int 2]))) (some (.own [s1, s0, .str z_plus])) (some (.val (.int 1))))) (by left) (P := (M.length < room) /\ ForOK (G w) (d + 1) fi_put (.Name "place" (qp 105 16 21)) (l_put_105 w (d + 1)).xs [.int 2, .int 1] (pst T v n K (s1 :: (s0 :: M)) (some (.val (tv (.plus a b)))) (some (.val (.bool true))) (some (.val (.lst [.int 1, .int 2]))) (some (.own [tv b, tv a, .str z_plus])) x9) .next (pst T v n K M (some (.val (tv (.plus a b)))) (some (.val (.bool true))) (some (.val (.lst [.int 1, .int 2]))) (some (.own [s1, s0, .str z_plus])) (some (.val (.int 1)))) /\ CallOK (G w) (d + 1) 169 [tv (.plus a b), .str n] (.own [.int 2, .int 1]) /\ True) (by left) ⟨hM, hf, hp, trivial⟩ (k _ _ _ _ _)
theorem push_less {a b : Tree} {K M : List V} (hK : K.length + 4 < room) (k : ∀ x5 x6 x7 x8 x9, PW w (d + 1) (pst T v n (.tup [tv a, .bool false] :: (.tup [tv b, .bool false] :: (.tup [tv (.less a b), .bool true] :: K))) M x5 x6 x7 x8 x9) Φ) : PW w (d + 1) (pst T v n (.tup [tv (.less a b), .bool false] :: K) M x5 x6 x7 x8 x9) Φ :=
 have hp : CallOK (G w) (d + 1) 169 [tv (.less a b), .str n] (.own [.int 2, .int 1]) := ok_places d (.less a b) n
 have hf : ForOK (G w) (d + 1) fi_put (.Name "place" (qp 114 16 21)) (l_put_114 w (d + 1)).xs [.int 2, .int 1] (pst T v n (.tup [tv (.less a b), .bool true] :: K) M (some (.val (tv (.less a b)))) (some (.val (.bool false))) (some (.val (.lst [.int 1, .int 2]))) x8 x9) .next (pst T v n (.tup [tv a, .bool false] :: (.tup [tv b, .bool false] :: (.tup [tv (.less a b), .bool true] :: K))) M (some (.val (tv (.less a b)))) (some (.val (.bool false))) (some (.val (.lst [.int 1, .int 2]))) x8 (some (.val (.int 1)))) :=
  (for_go (i := 9) (ρ' := (pst T v n (.tup [tv b, .bool false] :: (.tup [tv (.less a b), .bool true] :: K)) M (some (.val (tv (.less a b)))) (some (.val (.bool false))) (some (.val (.lst [.int 1, .int 2]))) x8 (some (.val (.int 2))))) (tp := []) (by left) (by left) (P := (((.tup [tv (.less a b), .bool true] :: K) : List V).length < room) /\ True) (by left) ⟨by simp only [List.length_cons]; omega, trivial⟩ (for_go (i := 9) (ρ' := (pst T v n (.tup [tv a, .bool false] :: (.tup [tv b, .bool false] :: (.tup [tv (.less a b), .bool true] :: K))) M (some (.val (tv (.less a b)))) (some (.val (.bool false))) (some (.val (.lst [.int 1, .int 2]))) x8 (some (.val (.int 1))))) (tp := []) (by left) (by left) (P := (((.tup [tv b, .bool false] :: (.tup [tv (.less a b), .bool true] :: K)) : List V).length < room) /\ True) (by left) ⟨by simp only [List.length_cons]; omega, trivial⟩ for_nil))
 whp_go false (tp := [.r (.own [.int 2, .int 1]), .b false, .l .next (pst T v n (.tup [tv a, .bool false] :: (.tup [tv b, .bool false] :: (.tup [tv (.less a b), .bool true] :: K))) M (some (.val (tv (.less a b)))) (some (.val (.bool false))) (some (.val (.lst [.int 1, .int 2]))) x8 (some (.val (.int 1))))]) (ρ' := (pst T v n (.tup [tv a, .bool false] :: (.tup [tv b, .bool false] :: (.tup [tv (.less a b), .bool true] :: K))) M (some (.val (tv (.less a b)))) (some (.val (.bool false))) (some (.val (.lst [.int 1, .int 2]))) x8 (some (.val (.int 1))))) (by left) (P := ForOK (G w) (d + 1) fi_put (.Name "place" (qp 114 16 21)) (l_put_114 w (d + 1)).xs [.int 2, .int 1] (pst T v n (.tup [tv (.less a b), .bool true] :: K) M (some (.val (tv (.less a b)))) (some (.val (.bool false))) (some (.val (.lst [.int 1, .int 2]))) x8 x9) .next (pst T v n (.tup [tv a, .bool false] :: (.tup [tv b, .bool false] :: (.tup [tv (.less a b), .bool true] :: K))) M (some (.val (tv (.less a b)))) (some (.val (.bool false))) (some (.val (.lst [.int 1, .int 2]))) x8 (some (.val (.int 1)))) /\ (K.length < room) /\ false = false /\ CallOK (G w) (d + 1) 169 [tv (.less a b), .str n] (.own [.int 2, .int 1]) /\ True) (by left) ⟨hf, by omega, rfl, hp, trivial⟩ (k _ _ _ _ _)
theorem pop_less {a b : Tree} {K M : List V} {s0 s1 : V} (hM : M.length < room) (k : ∀ x5 x6 x7 x8 x9, PW w (d + 1) (pst T v n K (.tup [.str z_less, s0, s1] :: M) x5 x6 x7 x8 x9) Φ) : PW w (d + 1) (pst T v n (.tup [tv (.less a b), .bool true] :: K) (s1 :: (s0 :: M)) x5 x6 x7 x8 x9) Φ :=
 have hp : CallOK (G w) (d + 1) 169 [tv (.less a b), .str n] (.own [.int 2, .int 1]) := ok_places d (.less a b) n
 have hf : ForOK (G w) (d + 1) fi_put (.Name "place" (qp 105 16 21)) (l_put_105 w (d + 1)).xs [.int 2, .int 1] (pst T v n K (s1 :: (s0 :: M)) (some (.val (tv (.less a b)))) (some (.val (.bool true))) (some (.val (.lst [.int 1, .int 2]))) (some (.own [tv b, tv a, .str z_less])) x9) .next (pst T v n K M (some (.val (tv (.less a b)))) (some (.val (.bool true))) (some (.val (.lst [.int 1, .int 2]))) (some (.own [s1, s0, .str z_less])) (some (.val (.int 1)))) :=
  (for_go (i := 9) (ρ' := (pst T v n K (s0 :: M) (some (.val (tv (.less a b)))) (some (.val (.bool true))) (some (.val (.lst [.int 1, .int 2]))) (some (.own [s1, tv a, .str z_less])) (some (.val (.int 2))))) (tp := []) (by left) (by left) (P := True) (by left) trivial (for_go (i := 9) (ρ' := (pst T v n K M (some (.val (tv (.less a b)))) (some (.val (.bool true))) (some (.val (.lst [.int 1, .int 2]))) (some (.own [s1, s0, .str z_less])) (some (.val (.int 1))))) (tp := []) (by left) (by left) (P := True) (by left) trivial for_nil))
 whp_go false (tp := [.r (.own [.int 2, .int 1]), .l .next (pst T v n K M (some (.val (tv (.less a b)))) (some (.val (.bool true))) (some (.val (.lst [.int 1, .int 2]))) (some (.own [s1, s0, .str z_less])) (some (.val (.int 1))))]) (ρ' := (pst T v n K (.tup [.str z_less, s0, s1] :: M) (some (.val (tv (.less a b)))) (some (.val (.bool true))) (some (.val (.lst [.int 1, .int 2]))) (some (.own [s1, s0, .str z_less])) (some (.val (.int 1))))) (by left) (P := (M.length < room) /\ ForOK (G w) (d + 1) fi_put (.Name "place" (qp 105 16 21)) (l_put_105 w (d + 1)).xs [.int 2, .int 1] (pst T v n K (s1 :: (s0 :: M)) (some (.val (tv (.less a b)))) (some (.val (.bool true))) (some (.val (.lst [.int 1, .int 2]))) (some (.own [tv b, tv a, .str z_less])) x9) .next (pst T v n K M (some (.val (tv (.less a b)))) (some (.val (.bool true))) (some (.val (.lst [.int 1, .int 2]))) (some (.own [s1, s0, .str z_less])) (some (.val (.int 1)))) /\ CallOK (G w) (d + 1) 169 [tv (.less a b), .str n] (.own [.int 2, .int 1]) /\ True) (by left) ⟨hM, hf, hp, trivial⟩ (k _ _ _ _ _)
theorem push_ite {c a b : Tree} {K M : List V} (hK : K.length + 4 < room) (k : ∀ x5 x6 x7 x8 x9, PW w (d + 1) (pst T v n (.tup [tv c, .bool false] :: (.tup [tv a, .bool false] :: (.tup [tv b, .bool false] :: (.tup [tv (.ite c a b), .bool true] :: K)))) M x5 x6 x7 x8 x9) Φ) : PW w (d + 1) (pst T v n (.tup [tv (.ite c a b), .bool false] :: K) M x5 x6 x7 x8 x9) Φ :=
 have hp : CallOK (G w) (d + 1) 169 [tv (.ite c a b), .str n] (.own [.int 3, .int 2, .int 1]) := ok_places d (.ite c a b) n
 have hf : ForOK (G w) (d + 1) fi_put (.Name "place" (qp 114 16 21)) (l_put_114 w (d + 1)).xs [.int 3, .int 2, .int 1] (pst T v n (.tup [tv (.ite c a b), .bool true] :: K) M (some (.val (tv (.ite c a b)))) (some (.val (.bool false))) (some (.val (.lst [.int 1, .int 2, .int 3]))) x8 x9) .next (pst T v n (.tup [tv c, .bool false] :: (.tup [tv a, .bool false] :: (.tup [tv b, .bool false] :: (.tup [tv (.ite c a b), .bool true] :: K)))) M (some (.val (tv (.ite c a b)))) (some (.val (.bool false))) (some (.val (.lst [.int 1, .int 2, .int 3]))) x8 (some (.val (.int 1)))) :=
  (for_go (i := 9) (ρ' := (pst T v n (.tup [tv b, .bool false] :: (.tup [tv (.ite c a b), .bool true] :: K)) M (some (.val (tv (.ite c a b)))) (some (.val (.bool false))) (some (.val (.lst [.int 1, .int 2, .int 3]))) x8 (some (.val (.int 3))))) (tp := []) (by left) (by left) (P := (((.tup [tv (.ite c a b), .bool true] :: K) : List V).length < room) /\ True) (by left) ⟨by simp only [List.length_cons]; omega, trivial⟩ (for_go (i := 9) (ρ' := (pst T v n (.tup [tv a, .bool false] :: (.tup [tv b, .bool false] :: (.tup [tv (.ite c a b), .bool true] :: K))) M (some (.val (tv (.ite c a b)))) (some (.val (.bool false))) (some (.val (.lst [.int 1, .int 2, .int 3]))) x8 (some (.val (.int 2))))) (tp := []) (by left) (by left) (P := (((.tup [tv b, .bool false] :: (.tup [tv (.ite c a b), .bool true] :: K)) : List V).length < room) /\ True) (by left) ⟨by simp only [List.length_cons]; omega, trivial⟩ (for_go (i := 9) (ρ' := (pst T v n (.tup [tv c, .bool false] :: (.tup [tv a, .bool false] :: (.tup [tv b, .bool false] :: (.tup [tv (.ite c a b), .bool true] :: K)))) M (some (.val (tv (.ite c a b)))) (some (.val (.bool false))) (some (.val (.lst [.int 1, .int 2, .int 3]))) x8 (some (.val (.int 1))))) (tp := []) (by left) (by left) (P := (((.tup [tv a, .bool false] :: (.tup [tv b, .bool false] :: (.tup [tv (.ite c a b), .bool true] :: K))) : List V).length < room) /\ True) (by left) ⟨by simp only [List.length_cons]; omega, trivial⟩ for_nil)))
 whp_go false (tp := [.r (.own [.int 3, .int 2, .int 1]), .b false, .l .next (pst T v n (.tup [tv c, .bool false] :: (.tup [tv a, .bool false] :: (.tup [tv b, .bool false] :: (.tup [tv (.ite c a b), .bool true] :: K)))) M (some (.val (tv (.ite c a b)))) (some (.val (.bool false))) (some (.val (.lst [.int 1, .int 2, .int 3]))) x8 (some (.val (.int 1))))]) (ρ' := (pst T v n (.tup [tv c, .bool false] :: (.tup [tv a, .bool false] :: (.tup [tv b, .bool false] :: (.tup [tv (.ite c a b), .bool true] :: K)))) M (some (.val (tv (.ite c a b)))) (some (.val (.bool false))) (some (.val (.lst [.int 1, .int 2, .int 3]))) x8 (some (.val (.int 1))))) (by left) (P := ForOK (G w) (d + 1) fi_put (.Name "place" (qp 114 16 21)) (l_put_114 w (d + 1)).xs [.int 3, .int 2, .int 1] (pst T v n (.tup [tv (.ite c a b), .bool true] :: K) M (some (.val (tv (.ite c a b)))) (some (.val (.bool false))) (some (.val (.lst [.int 1, .int 2, .int 3]))) x8 x9) .next (pst T v n (.tup [tv c, .bool false] :: (.tup [tv a, .bool false] :: (.tup [tv b, .bool false] :: (.tup [tv (.ite c a b), .bool true] :: K)))) M (some (.val (tv (.ite c a b)))) (some (.val (.bool false))) (some (.val (.lst [.int 1, .int 2, .int 3]))) x8 (some (.val (.int 1)))) /\ (K.length < room) /\ false = false /\ CallOK (G w) (d + 1) 169 [tv (.ite c a b), .str n] (.own [.int 3, .int 2, .int 1]) /\ True) (by left) ⟨hf, by omega, rfl, hp, trivial⟩ (k _ _ _ _ _)
theorem pop_ite {c a b : Tree} {K M : List V} {s0 s1 s2 : V} (hM : M.length < room) (k : ∀ x5 x6 x7 x8 x9, PW w (d + 1) (pst T v n K (.tup [.str z_if, s0, s1, s2] :: M) x5 x6 x7 x8 x9) Φ) : PW w (d + 1) (pst T v n (.tup [tv (.ite c a b), .bool true] :: K) (s2 :: (s1 :: (s0 :: M))) x5 x6 x7 x8 x9) Φ :=
 have hp : CallOK (G w) (d + 1) 169 [tv (.ite c a b), .str n] (.own [.int 3, .int 2, .int 1]) := ok_places d (.ite c a b) n
 have hf : ForOK (G w) (d + 1) fi_put (.Name "place" (qp 105 16 21)) (l_put_105 w (d + 1)).xs [.int 3, .int 2, .int 1] (pst T v n K (s2 :: (s1 :: (s0 :: M))) (some (.val (tv (.ite c a b)))) (some (.val (.bool true))) (some (.val (.lst [.int 1, .int 2, .int 3]))) (some (.own [tv b, tv a, tv c, .str z_if])) x9) .next (pst T v n K M (some (.val (tv (.ite c a b)))) (some (.val (.bool true))) (some (.val (.lst [.int 1, .int 2, .int 3]))) (some (.own [s2, s1, s0, .str z_if])) (some (.val (.int 1)))) :=
  (for_go (i := 9) (ρ' := (pst T v n K (s1 :: (s0 :: M)) (some (.val (tv (.ite c a b)))) (some (.val (.bool true))) (some (.val (.lst [.int 1, .int 2, .int 3]))) (some (.own [s2, tv a, tv c, .str z_if])) (some (.val (.int 3))))) (tp := []) (by left) (by left) (P := True) (by left) trivial (for_go (i := 9) (ρ' := (pst T v n K (s0 :: M) (some (.val (tv (.ite c a b)))) (some (.val (.bool true))) (some (.val (.lst [.int 1, .int 2, .int 3]))) (some (.own [s2, s1, tv c, .str z_if])) (some (.val (.int 2))))) (tp := []) (by left) (by left) (P := True) (by left) trivial (for_go (i := 9) (ρ' := (pst T v n K M (some (.val (tv (.ite c a b)))) (some (.val (.bool true))) (some (.val (.lst [.int 1, .int 2, .int 3]))) (some (.own [s2, s1, s0, .str z_if])) (some (.val (.int 1))))) (tp := []) (by left) (by left) (P := True) (by left) trivial for_nil)))
 whp_go false (tp := [.r (.own [.int 3, .int 2, .int 1]), .l .next (pst T v n K M (some (.val (tv (.ite c a b)))) (some (.val (.bool true))) (some (.val (.lst [.int 1, .int 2, .int 3]))) (some (.own [s2, s1, s0, .str z_if])) (some (.val (.int 1))))]) (ρ' := (pst T v n K (.tup [.str z_if, s0, s1, s2] :: M) (some (.val (tv (.ite c a b)))) (some (.val (.bool true))) (some (.val (.lst [.int 1, .int 2, .int 3]))) (some (.own [s2, s1, s0, .str z_if])) (some (.val (.int 1))))) (by left) (P := (M.length < room) /\ ForOK (G w) (d + 1) fi_put (.Name "place" (qp 105 16 21)) (l_put_105 w (d + 1)).xs [.int 3, .int 2, .int 1] (pst T v n K (s2 :: (s1 :: (s0 :: M))) (some (.val (tv (.ite c a b)))) (some (.val (.bool true))) (some (.val (.lst [.int 1, .int 2, .int 3]))) (some (.own [tv b, tv a, tv c, .str z_if])) x9) .next (pst T v n K M (some (.val (tv (.ite c a b)))) (some (.val (.bool true))) (some (.val (.lst [.int 1, .int 2, .int 3]))) (some (.own [s2, s1, s0, .str z_if])) (some (.val (.int 1)))) /\ CallOK (G w) (d + 1) 169 [tv (.ite c a b), .str n] (.own [.int 3, .int 2, .int 1]) /\ True) (by left) ⟨hM, hf, hp, trivial⟩ (k _ _ _ _ _)
theorem push_lt1 {x : List Nat} {e b : Tree} {K M : List V} (h : (x == n) = true) (hK : K.length + 4 < room) (k : ∀ x5 x6 x7 x8 x9, PW w (d + 1) (pst T v n (.tup [tv e, .bool false] :: (.tup [tv (.lt x e b), .bool true] :: K)) M x5 x6 x7 x8 x9) Φ) : PW w (d + 1) (pst T v n (.tup [tv (.lt x e b), .bool false] :: K) M x5 x6 x7 x8 x9) Φ :=
 have hp : CallOK (G w) (d + 1) 169 [tv (.lt x e b), .str n] (.own [.int 2]) := by have := ok_places (w := w) d (.lt x e b) n; unfold pl at this; dsimp only at this; rw [h] at this; exact this
 have hf : ForOK (G w) (d + 1) fi_put (.Name "place" (qp 114 16 21)) (l_put_114 w (d + 1)).xs [.int 2] (pst T v n (.tup [tv (.lt x e b), .bool true] :: K) M (some (.val (tv (.lt x e b)))) (some (.val (.bool false))) (some (.val (.lst [.int 2]))) x8 x9) .next (pst T v n (.tup [tv e, .bool false] :: (.tup [tv (.lt x e b), .bool true] :: K)) M (some (.val (tv (.lt x e b)))) (some (.val (.bool false))) (some (.val (.lst [.int 2]))) x8 (some (.val (.int 2)))) :=
  (for_go (i := 9) (ρ' := (pst T v n (.tup [tv e, .bool false] :: (.tup [tv (.lt x e b), .bool true] :: K)) M (some (.val (tv (.lt x e b)))) (some (.val (.bool false))) (some (.val (.lst [.int 2]))) x8 (some (.val (.int 2))))) (tp := []) (by left) (by left) (P := (((.tup [tv (.lt x e b), .bool true] :: K) : List V).length < room) /\ True) (by left) ⟨by simp only [List.length_cons]; omega, trivial⟩ for_nil)
 whp_go false (tp := [.r (.own [.int 2]), .b false, .l .next (pst T v n (.tup [tv e, .bool false] :: (.tup [tv (.lt x e b), .bool true] :: K)) M (some (.val (tv (.lt x e b)))) (some (.val (.bool false))) (some (.val (.lst [.int 2]))) x8 (some (.val (.int 2))))]) (ρ' := (pst T v n (.tup [tv e, .bool false] :: (.tup [tv (.lt x e b), .bool true] :: K)) M (some (.val (tv (.lt x e b)))) (some (.val (.bool false))) (some (.val (.lst [.int 2]))) x8 (some (.val (.int 2))))) (by left) (P := ForOK (G w) (d + 1) fi_put (.Name "place" (qp 114 16 21)) (l_put_114 w (d + 1)).xs [.int 2] (pst T v n (.tup [tv (.lt x e b), .bool true] :: K) M (some (.val (tv (.lt x e b)))) (some (.val (.bool false))) (some (.val (.lst [.int 2]))) x8 x9) .next (pst T v n (.tup [tv e, .bool false] :: (.tup [tv (.lt x e b), .bool true] :: K)) M (some (.val (tv (.lt x e b)))) (some (.val (.bool false))) (some (.val (.lst [.int 2]))) x8 (some (.val (.int 2)))) /\ (K.length < room) /\ false = false /\ CallOK (G w) (d + 1) 169 [tv (.lt x e b), .str n] (.own [.int 2]) /\ True) (by left) ⟨hf, by omega, rfl, hp, trivial⟩ (k _ _ _ _ _)
theorem pop_lt1 {x : List Nat} {e b : Tree} {K M : List V} {s0 : V} (h : (x == n) = true) (hM : M.length < room) (k : ∀ x5 x6 x7 x8 x9, PW w (d + 1) (pst T v n K (.tup [.str z_let, .str x, s0, tv b] :: M) x5 x6 x7 x8 x9) Φ) : PW w (d + 1) (pst T v n (.tup [tv (.lt x e b), .bool true] :: K) (s0 :: M) x5 x6 x7 x8 x9) Φ :=
 have hp : CallOK (G w) (d + 1) 169 [tv (.lt x e b), .str n] (.own [.int 2]) := by have := ok_places (w := w) d (.lt x e b) n; unfold pl at this; dsimp only at this; rw [h] at this; exact this
 have hf : ForOK (G w) (d + 1) fi_put (.Name "place" (qp 105 16 21)) (l_put_105 w (d + 1)).xs [.int 2] (pst T v n K (s0 :: M) (some (.val (tv (.lt x e b)))) (some (.val (.bool true))) (some (.val (.lst [.int 2]))) (some (.own [tv b, tv e, .str x, .str z_let])) x9) .next (pst T v n K M (some (.val (tv (.lt x e b)))) (some (.val (.bool true))) (some (.val (.lst [.int 2]))) (some (.own [tv b, s0, .str x, .str z_let])) (some (.val (.int 2)))) :=
  (for_go (i := 9) (ρ' := (pst T v n K M (some (.val (tv (.lt x e b)))) (some (.val (.bool true))) (some (.val (.lst [.int 2]))) (some (.own [tv b, s0, .str x, .str z_let])) (some (.val (.int 2))))) (tp := []) (by left) (by left) (P := True) (by left) trivial for_nil)
 whp_go false (tp := [.r (.own [.int 2]), .l .next (pst T v n K M (some (.val (tv (.lt x e b)))) (some (.val (.bool true))) (some (.val (.lst [.int 2]))) (some (.own [tv b, s0, .str x, .str z_let])) (some (.val (.int 2))))]) (ρ' := (pst T v n K (.tup [.str z_let, .str x, s0, tv b] :: M) (some (.val (tv (.lt x e b)))) (some (.val (.bool true))) (some (.val (.lst [.int 2]))) (some (.own [tv b, s0, .str x, .str z_let])) (some (.val (.int 2))))) (by left) (P := (M.length < room) /\ ForOK (G w) (d + 1) fi_put (.Name "place" (qp 105 16 21)) (l_put_105 w (d + 1)).xs [.int 2] (pst T v n K (s0 :: M) (some (.val (tv (.lt x e b)))) (some (.val (.bool true))) (some (.val (.lst [.int 2]))) (some (.own [tv b, tv e, .str x, .str z_let])) x9) .next (pst T v n K M (some (.val (tv (.lt x e b)))) (some (.val (.bool true))) (some (.val (.lst [.int 2]))) (some (.own [tv b, s0, .str x, .str z_let])) (some (.val (.int 2)))) /\ CallOK (G w) (d + 1) 169 [tv (.lt x e b), .str n] (.own [.int 2]) /\ True) (by left) ⟨hM, hf, hp, trivial⟩ (k _ _ _ _ _)
theorem push_lt0 {x : List Nat} {e b : Tree} {K M : List V} (h : (x == n) = false) (hK : K.length + 4 < room) (k : ∀ x5 x6 x7 x8 x9, PW w (d + 1) (pst T v n (.tup [tv e, .bool false] :: (.tup [tv b, .bool false] :: (.tup [tv (.lt x e b), .bool true] :: K))) M x5 x6 x7 x8 x9) Φ) : PW w (d + 1) (pst T v n (.tup [tv (.lt x e b), .bool false] :: K) M x5 x6 x7 x8 x9) Φ :=
 have hp : CallOK (G w) (d + 1) 169 [tv (.lt x e b), .str n] (.own [.int 3, .int 2]) := by have := ok_places (w := w) d (.lt x e b) n; unfold pl at this; dsimp only at this; rw [h] at this; exact this
 have hf : ForOK (G w) (d + 1) fi_put (.Name "place" (qp 114 16 21)) (l_put_114 w (d + 1)).xs [.int 3, .int 2] (pst T v n (.tup [tv (.lt x e b), .bool true] :: K) M (some (.val (tv (.lt x e b)))) (some (.val (.bool false))) (some (.val (.lst [.int 2, .int 3]))) x8 x9) .next (pst T v n (.tup [tv e, .bool false] :: (.tup [tv b, .bool false] :: (.tup [tv (.lt x e b), .bool true] :: K))) M (some (.val (tv (.lt x e b)))) (some (.val (.bool false))) (some (.val (.lst [.int 2, .int 3]))) x8 (some (.val (.int 2)))) :=
  (for_go (i := 9) (ρ' := (pst T v n (.tup [tv b, .bool false] :: (.tup [tv (.lt x e b), .bool true] :: K)) M (some (.val (tv (.lt x e b)))) (some (.val (.bool false))) (some (.val (.lst [.int 2, .int 3]))) x8 (some (.val (.int 3))))) (tp := []) (by left) (by left) (P := (((.tup [tv (.lt x e b), .bool true] :: K) : List V).length < room) /\ True) (by left) ⟨by simp only [List.length_cons]; omega, trivial⟩ (for_go (i := 9) (ρ' := (pst T v n (.tup [tv e, .bool false] :: (.tup [tv b, .bool false] :: (.tup [tv (.lt x e b), .bool true] :: K))) M (some (.val (tv (.lt x e b)))) (some (.val (.bool false))) (some (.val (.lst [.int 2, .int 3]))) x8 (some (.val (.int 2))))) (tp := []) (by left) (by left) (P := (((.tup [tv b, .bool false] :: (.tup [tv (.lt x e b), .bool true] :: K)) : List V).length < room) /\ True) (by left) ⟨by simp only [List.length_cons]; omega, trivial⟩ for_nil))
 whp_go false (tp := [.r (.own [.int 3, .int 2]), .b false, .l .next (pst T v n (.tup [tv e, .bool false] :: (.tup [tv b, .bool false] :: (.tup [tv (.lt x e b), .bool true] :: K))) M (some (.val (tv (.lt x e b)))) (some (.val (.bool false))) (some (.val (.lst [.int 2, .int 3]))) x8 (some (.val (.int 2))))]) (ρ' := (pst T v n (.tup [tv e, .bool false] :: (.tup [tv b, .bool false] :: (.tup [tv (.lt x e b), .bool true] :: K))) M (some (.val (tv (.lt x e b)))) (some (.val (.bool false))) (some (.val (.lst [.int 2, .int 3]))) x8 (some (.val (.int 2))))) (by left) (P := ForOK (G w) (d + 1) fi_put (.Name "place" (qp 114 16 21)) (l_put_114 w (d + 1)).xs [.int 3, .int 2] (pst T v n (.tup [tv (.lt x e b), .bool true] :: K) M (some (.val (tv (.lt x e b)))) (some (.val (.bool false))) (some (.val (.lst [.int 2, .int 3]))) x8 x9) .next (pst T v n (.tup [tv e, .bool false] :: (.tup [tv b, .bool false] :: (.tup [tv (.lt x e b), .bool true] :: K))) M (some (.val (tv (.lt x e b)))) (some (.val (.bool false))) (some (.val (.lst [.int 2, .int 3]))) x8 (some (.val (.int 2)))) /\ (K.length < room) /\ false = false /\ CallOK (G w) (d + 1) 169 [tv (.lt x e b), .str n] (.own [.int 3, .int 2]) /\ True) (by left) ⟨hf, by omega, rfl, hp, trivial⟩ (k _ _ _ _ _)
theorem pop_lt0 {x : List Nat} {e b : Tree} {K M : List V} {s0 s1 : V} (h : (x == n) = false) (hM : M.length < room) (k : ∀ x5 x6 x7 x8 x9, PW w (d + 1) (pst T v n K (.tup [.str z_let, .str x, s0, s1] :: M) x5 x6 x7 x8 x9) Φ) : PW w (d + 1) (pst T v n (.tup [tv (.lt x e b), .bool true] :: K) (s1 :: (s0 :: M)) x5 x6 x7 x8 x9) Φ :=
 have hp : CallOK (G w) (d + 1) 169 [tv (.lt x e b), .str n] (.own [.int 3, .int 2]) := by have := ok_places (w := w) d (.lt x e b) n; unfold pl at this; dsimp only at this; rw [h] at this; exact this
 have hf : ForOK (G w) (d + 1) fi_put (.Name "place" (qp 105 16 21)) (l_put_105 w (d + 1)).xs [.int 3, .int 2] (pst T v n K (s1 :: (s0 :: M)) (some (.val (tv (.lt x e b)))) (some (.val (.bool true))) (some (.val (.lst [.int 2, .int 3]))) (some (.own [tv b, tv e, .str x, .str z_let])) x9) .next (pst T v n K M (some (.val (tv (.lt x e b)))) (some (.val (.bool true))) (some (.val (.lst [.int 2, .int 3]))) (some (.own [s1, s0, .str x, .str z_let])) (some (.val (.int 2)))) :=
  (for_go (i := 9) (ρ' := (pst T v n K (s0 :: M) (some (.val (tv (.lt x e b)))) (some (.val (.bool true))) (some (.val (.lst [.int 2, .int 3]))) (some (.own [s1, tv e, .str x, .str z_let])) (some (.val (.int 3))))) (tp := []) (by left) (by left) (P := True) (by left) trivial (for_go (i := 9) (ρ' := (pst T v n K M (some (.val (tv (.lt x e b)))) (some (.val (.bool true))) (some (.val (.lst [.int 2, .int 3]))) (some (.own [s1, s0, .str x, .str z_let])) (some (.val (.int 2))))) (tp := []) (by left) (by left) (P := True) (by left) trivial for_nil))
 whp_go false (tp := [.r (.own [.int 3, .int 2]), .l .next (pst T v n K M (some (.val (tv (.lt x e b)))) (some (.val (.bool true))) (some (.val (.lst [.int 2, .int 3]))) (some (.own [s1, s0, .str x, .str z_let])) (some (.val (.int 2))))]) (ρ' := (pst T v n K (.tup [.str z_let, .str x, s0, s1] :: M) (some (.val (tv (.lt x e b)))) (some (.val (.bool true))) (some (.val (.lst [.int 2, .int 3]))) (some (.own [s1, s0, .str x, .str z_let])) (some (.val (.int 2))))) (by left) (P := (M.length < room) /\ ForOK (G w) (d + 1) fi_put (.Name "place" (qp 105 16 21)) (l_put_105 w (d + 1)).xs [.int 3, .int 2] (pst T v n K (s1 :: (s0 :: M)) (some (.val (tv (.lt x e b)))) (some (.val (.bool true))) (some (.val (.lst [.int 2, .int 3]))) (some (.own [tv b, tv e, .str x, .str z_let])) x9) .next (pst T v n K M (some (.val (tv (.lt x e b)))) (some (.val (.bool true))) (some (.val (.lst [.int 2, .int 3]))) (some (.own [s1, s0, .str x, .str z_let])) (some (.val (.int 2)))) /\ CallOK (G w) (d + 1) 169 [tv (.lt x e b), .str n] (.own [.int 3, .int 2]) /\ True) (by left) ⟨hM, hf, hp, trivial⟩ (k _ _ _ _ _)
theorem put_all (t : Tree) : ∀ {K M : List V} {x5 x6 x7 x8 x9 : Option O}, K.length + 4 * dp t < room -> M.length + 4 * dp t < room -> (∀ x5 x6 x7 x8 x9, PW w (d + 1) (pst T v n K (sub n v t :: M) x5 x6 x7 x8 x9) Φ) -> PW w (d + 1) (pst T v n (.tup [tv t, .bool false] :: K) M x5 x6 x7 x8 x9) Φ := by
 induction t with
 | num i =>
  intro K M x5 x6 x7 x8 x9 hK hM k
  exact put_num (Nat.lt_of_le_of_lt (Nat.le_add_right ..) hM) k
 | name x =>
  intro K M x5 x6 x7 x8 x9 hK hM k
  unfold sub at k; dsimp only at k
  cases h : x == n with
  | true => rw [h] at k; exact put_name1 h (Nat.lt_of_le_of_lt (Nat.le_add_right ..) hM) k
  | false => rw [h] at k; exact put_name0 h (Nat.lt_of_le_of_lt (Nat.le_add_right ..) hM) k
 | fn x b ib =>
  intro K M x5 x6 x7 x8 x9 hK hM k
  have hs : dp (.fn x b) = dp b + 1 := rfl
  rw [hs] at hK hM
  have hb := dp_pos b
  have e : sub n v (.fn x b) = .tup [.str z_fun, .str x, Bool.casesOn (x == n) (sub n v b) (tv b)] := rfl
  rw [e] at k
  cases h : x == n with
  | true => rw [h] at k; exact put_fn1 h (by omega) k
  | false => rw [h] at k; exact push_fn0 h (by omega) fun J J J J J => ib (by simp only [List.length_cons]; omega) (by (try simp only [List.length_cons]); omega) fun J J J J J => pop_fn0 h (by omega) k
 | call a b ia ib =>
  intro K M x5 x6 x7 x8 x9 hK hM k
  have hs : dp (.call a b) = max (dp a) (dp b) + 1 := rfl
  have := Nat.le_max_left (dp a) (dp b)
  have := Nat.le_max_right (dp a) (dp b)
  rw [hs] at hK hM
  have ha := dp_pos a
  have hb := dp_pos b
  exact push_call (by omega) fun J J J J J => ia (by simp only [List.length_cons]; omega) (by (try simp only [List.length_cons]); omega) fun J J J J J => ib (by simp only [List.length_cons]; omega) (by (try simp only [List.length_cons]); omega) fun J J J J J => pop_call (by omega) k
 | plus a b ia ib =>
  intro K M x5 x6 x7 x8 x9 hK hM k
  have hs : dp (.plus a b) = max (dp a) (dp b) + 1 := rfl
  have := Nat.le_max_left (dp a) (dp b)
  have := Nat.le_max_right (dp a) (dp b)
  rw [hs] at hK hM
  have ha := dp_pos a
  have hb := dp_pos b
  exact push_plus (by omega) fun J J J J J => ia (by simp only [List.length_cons]; omega) (by (try simp only [List.length_cons]); omega) fun J J J J J => ib (by simp only [List.length_cons]; omega) (by (try simp only [List.length_cons]); omega) fun J J J J J => pop_plus (by omega) k
 | less a b ia ib =>
  intro K M x5 x6 x7 x8 x9 hK hM k
  have hs : dp (.less a b) = max (dp a) (dp b) + 1 := rfl
  have := Nat.le_max_left (dp a) (dp b)
  have := Nat.le_max_right (dp a) (dp b)
  rw [hs] at hK hM
  have ha := dp_pos a
  have hb := dp_pos b
  exact push_less (by omega) fun J J J J J => ia (by simp only [List.length_cons]; omega) (by (try simp only [List.length_cons]); omega) fun J J J J J => ib (by simp only [List.length_cons]; omega) (by (try simp only [List.length_cons]); omega) fun J J J J J => pop_less (by omega) k
 | ite c a b ic ia ib =>
  intro K M x5 x6 x7 x8 x9 hK hM k
  have hs : dp (.ite c a b) = max (dp c) (max (dp a) (dp b)) + 1 := rfl
  have := Nat.le_max_left (dp c) (max (dp a) (dp b))
  have := Nat.le_max_right (dp c) (max (dp a) (dp b))
  have := Nat.le_max_left (dp a) (dp b)
  have := Nat.le_max_right (dp a) (dp b)
  rw [hs] at hK hM
  have hc := dp_pos c
  have ha := dp_pos a
  have hb := dp_pos b
  exact push_ite (by omega) fun J J J J J => ic (by simp only [List.length_cons]; omega) (by (try simp only [List.length_cons]); omega) fun J J J J J => ia (by simp only [List.length_cons]; omega) (by (try simp only [List.length_cons]); omega) fun J J J J J => ib (by simp only [List.length_cons]; omega) (by (try simp only [List.length_cons]); omega) fun J J J J J => pop_ite (by omega) k
 | lt x e b ie ib =>
  intro K M x5 x6 x7 x8 x9 hK hM k
  have hs : dp (.lt x e b) = max (dp e) (dp b) + 1 := rfl
  have := Nat.le_max_left (dp e) (dp b)
  have := Nat.le_max_right (dp e) (dp b)
  rw [hs] at hK hM
  have he := dp_pos e
  have hb := dp_pos b
  have e' : sub n v (.lt x e b) = .tup [.str z_let, .str x, sub n v e, Bool.casesOn (x == n) (sub n v b) (tv b)] := rfl
  rw [e'] at k
  cases h : x == n with
  | true => rw [h] at k; exact push_lt1 h (by omega) fun J J J J J => ie (by simp only [List.length_cons]; omega) (by (try simp only [List.length_cons]); omega) fun J J J J J => pop_lt1 h (by omega) k
  | false => rw [h] at k; exact push_lt0 h (by omega) fun J J J J J => ie (by simp only [List.length_cons]; omega) (by (try simp only [List.length_cons]); omega) fun J J J J J => ib (by simp only [List.length_cons]; omega) (by (try simp only [List.length_cons]); omega) fun J J J J J => pop_lt0 h (by omega) k
theorem ok_put (t : Tree) (hz : 4 * dp t < room) : CallOK (G w) (d + 2) 176 [tv t, .str n, v] (.val (sub n v t)) := by
 have hw : PW w (d + 1) (pst (tv t) v n [.tup [tv t, .bool false]] [] none none none none none) fun fl ρ => fl = .next /\ ∃ x5 x6 x7 x8 x9, ρ = pst (tv t) v n [] [sub n v t] x5 x6 x7 x8 x9 :=
  put_all t (by simpa using hz) (by simpa using hz) fun x5 x6 x7 x8 x9 => whp_end false (tp := []) (ρ' := pst (tv t) v n [] [sub n v t] x5 x6 x7 x8 x9) (by left) (P := True) (by left) trivial ⟨rfl, _, _, _, _, _, rfl⟩
 obtain ⟨fl, ρ, hw, rfl, x5, x6, x7, x8, x9, rfl⟩ := hw
 exact call_go (n := 7) (tp := [.l .next (pst (tv t) v n [] [sub n v t] x5 x6 x7 x8 x9)]) (b_put w (d + 1)) rfl (b_put_x w (d + 1)) rfl (by left) (P := WhilOK (G w) (d + 1) fi_put (c_put_100 w (d + 1)).x (l_put_100 w (d + 1)).xs (pst (tv t) v n [.tup [tv t, .bool false]] [] none none none none none) .next (pst (tv t) v n [] [sub n v t] x5 x6 x7 x8 x9) /\ True) (by left) ⟨hw, trivial⟩
end
end Mine.L09
end
section
namespace Mine.L09
noncomputable def r_deed_call (w : World) (d : Nat) : SR (G w) d fi_deed 85 :=
(zCons (k6 w d)
(zIf false (k17 w d)
(zIf false (k14 w d)
(zOf (xRaise "NoFunction" "a number is called" 0 (qp 135 18 28) (qp 135 29 49) (qp 135 18 50) (qp 135 12 50) [] (by left) fun J m => m.xFun)) (lNil : SL (G w) d fi_deed).xs ((k7 w d) : SL (G w) d fi_deed).xs ⟨134,8,135,50⟩) (lNil : SL (G w) d fi_deed).xs ((k1 w d) : SL (G w) d fi_deed).xs ⟨133,4,136,51⟩))
theorem r_deed_call_x (w : World) (d : Nat) : (r_deed_call w d).xs = fd_deed.st := by left
noncomputable def r_deed_if (w : World) (d : Nat) : SR (G w) d fi_deed 73 :=
(zCons (k6 w d)
(zCons (k3 w d)
(zIf false (k19 w d)
(zIf false (k13 w d)
(zOf (xRaise "NoNumber" "a function is chosen by" 0 (qp 139 18 26) (qp 139 27 52) (qp 139 18 53) (qp 139 12 53) [] (by left) fun J m => m.xNum)) (lNil : SL (G w) d fi_deed).xs ((k8 w d) : SL (G w) d fi_deed).xs ⟨138,8,139,53⟩) (lNil : SL (G w) d fi_deed).xs ((k2 w d) : SL (G w) d fi_deed).xs ⟨137,4,142,22⟩)))
theorem r_deed_if_x (w : World) (d : Nat) : (r_deed_if w d).xs = fd_deed.st := by left
noncomputable def r_deed_num (w : World) (d : Nat) : SR (G w) d fi_deed 73 :=
(zCons (k6 w d)
(zCons (k3 w d)
(zCons (k4 w d)
(zIf false (k9 w d)
(zOf (xRaise "NoNumber" "a function is reckoned with" 0 (qp 144 14 22) (qp 144 23 52) (qp 144 14 53) (qp 144 8 53) [] (by left) fun J m => m.xNum)) (lNil : SL (G w) d fi_deed).xs ((k5 w d) : SL (G w) d fi_deed).xs ⟨143,4,144,53⟩))))
theorem r_deed_num_x (w : World) (d : Nat) : (r_deed_num w d).xs = fd_deed.st := by left
noncomputable def r_step_deed (w : World) (d : Nat) (cN : Addr) : SR (G w) d fi_step cN :=
(zCons (k15 w d)
(zCons (k23 w d)
(zCons (k22 w d)
(zCons (sAsg "place" 3 (eInt 0 0 (qp 153 12 13)) (qp 153 4 9) (qp 153 4 13) (by left))
(zCons (sWhil (c_step_154 w d) (l_step_154 w d) ⟨154,4,160,30⟩)
(zAsg "found" (tCall "deed" 204 (rCons (eVar "node" 2 (qp 161 17 21) (by left)) rNil) (qp 161 12 16) (qp 161 12 22) (by left)) (qp 161 4 9) (qp 161 4 22) ((k12 w d) : SL (G w) d fi_step).xs rfl))))))
theorem r_step_deed_x (w : World) (d : Nat) (cN : Addr) : (r_step_deed w d cN).xs = fd_step.st := by left
noncomputable def r_steps_turn (w : World) (d : Nat) : SR (G w) d fi_steps 97 :=
(zIf true (k18 w d)
(zOf (xRaise "Dry" "no value behind so many deeds" 0 (qp 170 18 21) (qp 170 22 53) (qp 170 18 54) (qp 170 12 54) [] (by left) fun J m => m.xDry)) (lNil : SL (G w) d fi_steps).xs ((k11 w d) : SL (G w) d fi_steps).xs ⟨169,8,170,54⟩)
theorem r_steps_turn_x (w : World) (d : Nat) : (r_steps_turn w d).xs = (l_steps_168 w d).xs := by left
noncomputable def r_steps_step (w : World) (d : Nat) (cN : Addr) : SR (G w) d fi_steps cN :=
(zCons (k10 w d)
(zExpr (tApp "found" 2 (tCall "step" 211 (rCons (k21 w d) rNil) (qp 171 21 25) (qp 171 21 36) (by left)) rfl (qp 171 8 13) (qp 171 8 20) (qp 171 8 37) (by left)) (qp 171 8 37) (lNil : SL (G w) d fi_steps).xs rfl))
theorem r_steps_step_x (w : World) (d : Nat) (cN : Addr) : (r_steps_step w d cN).xs = (l_steps_168 w d).xs := by left
noncomputable def r_steps (w : World) (d : Nat) (cN : Addr) : SR (G w) d fi_steps cN :=
(zCons (k16 w d)
(zCons (k20 w d)
(zWhil (c_steps_168 w d) (l_steps_168 w d).xs ⟨168,4,171,37⟩ ((lCons (sRetV "found" 2 (qp 172 11 16) (qp 172 4 16) (by left)) lNil) : SL (G w) d fi_steps).xs)))
theorem r_steps_x (w : World) (d : Nat) (cN : Addr) : (r_steps w d cN).xs = fd_steps.st := by left
end Mine.L09
end
section
namespace Mine.L09
variable {w : World} {d : Nat}
noncomputable def isV (t : Tree) : Bool := Tree.casesOn t (fun J => true) (fun J => false) (fun J J => true) (fun J J => false) (fun J J => false) (fun J J => false) (fun J J J => false) (fun J J J => false)
theorem ok_value (t : Tree) : CallOK (G w) (d + 1) 183 [tv t] (.val (.bool (isV t))) := by
 cases t <;> exact call_go (n := 0) (tp := []) (b_is_value w d) rfl (b_is_value_x w d) rfl (by left) (P := True) (by left) trivial
set_option genSizeOf false in
set_option genInjectivity false in
inductive Fr where
 | call1 (b : Tree)
 | call2 (a : Tree)
 | plus1 (b : Tree)
 | plus2 (a : Tree)
 | less1 (b : Tree)
 | less2 (a : Tree)
 | ite1 (a b : Tree)
 | lt2 (x : List Nat) (b : Tree)
noncomputable def fill (f : Fr) (t : Tree) : Tree := Fr.casesOn f (fun b => .call t b) (fun a => .call a t) (fun b => .plus t b) (fun a => .plus a t) (fun b => .less t b) (fun a => .less a t) (fun a b => .ite t a b) (fun x b => .lt x t b)
noncomputable def pc (f : Fr) : Int := Fr.casesOn f (fun J => 1) (fun J => 2) (fun J => 1) (fun J => 2) (fun J => 1) (fun J => 2) (fun J J => 1) (fun J J => 2)
def fok (f : Fr) : Prop := Fr.casesOn f (fun J => True) (fun a => isV a = true) (fun J => True) (fun a => isV a = true) (fun J => True) (fun a => isV a = true) (fun J J => True) (fun J J => True)
noncomputable def plug (fs : List Fr) (t : Tree) : Tree := @List.rec Fr (fun J => Tree) t (fun f J r => fill f r) fs
theorem fill_nv (f : Fr) (t : Tree) : isV (fill f t) = false := by cases f <;> rfl
theorem plug_nv {t : Tree} (h : isV t = false) (fs : List Fr) : isV (plug fs t) = false := by
 cases fs with
 | nil => exact h
 | cons f fs => exact fill_nv f _
theorem fill_dp (f : Fr) (t : Tree) : dp t < dp (fill f t) := by
 have l : ∀ a b : Nat, a < max a b + 1 := fun a b => Nat.lt_succ_of_le (Nat.le_max_left a b)
 have r : ∀ a b : Nat, b < max a b + 1 := fun a b => Nat.lt_succ_of_le (Nat.le_max_right a b)
 cases f with
 | call1 b => exact l _ _
 | call2 b => exact r _ _
 | plus1 b => exact l _ _
 | plus2 b => exact r _ _
 | less1 b => exact l _ _
 | less2 b => exact r _ _
 | ite1 a b => exact l _ _
 | lt2 x b => exact l _ _
theorem plug_dp (fs : List Fr) (t : Tree) : dp t + fs.length <= dp (plug fs t) := by
 induction fs with
 | nil => exact Nat.le_refl _
 | cons f fs ih => have := fill_dp f (plug fs t); show dp t + (fs.length + 1) <= dp (fill f (plug fs t)); lia
abbrev NF (w : World) (d : Nat) (l : List V) (ρ : Loc) (fl : Fl) (ρ' : Loc) : Prop := ForOK (G w) d fi_next_place (.Name "place" (qp 126 8 13)) (l_next_place_126 w d).xs l ρ fl ρ'
noncomputable abbrev qst (t : Tree) (x : Option O) : Loc := [some (.val (tv t)), x]
theorem np_fr (f : Fr) (x : Tree) (h : isV x = false) (hf : fok f) : CallOK (G w) (d + 2) 197 [tv (fill f x)] (.val (.int (pc f))) := by
 have hx := ok_value (w := w) (d := d) x
 rw [h] at hx
 cases f with
 | call1 b =>
  have hn : CallOK (G w) (d + 1) 190 [tv (.call x b)] (.own [.int 2, .int 1]) := call_go (n := 0) (tp := []) (b_needed w d) rfl (b_needed_x w d) rfl (by left) (P := True) (by left) trivial
  have hf : NF w (d + 1) [.int 1, .int 2] (qst (.call x b) none) (.ret (.val (.int 1))) (qst (.call x b) none) := for_ret (i := 1) (v := .int 1) (l := [.int 2]) (ρ := qst (.call x b) none) (tp := [.r (.val (.bool false))]) (by left) (by left) (P := CallOK (G w) (d + 1) 183 [tv x] (.val (.bool false)) /\ True) (by left) ⟨hx, trivial⟩
  exact call_go (n := 1) (tp := [.r (.own [.int 2, .int 1]), .l (.ret (.val (.int 1))) (qst (.call x b) none)]) (b_next_place w (d + 1)) rfl (b_next_place_x w (d + 1)) rfl (by left) (P := NF w (d + 1) [.int 1, .int 2] (qst (.call x b) none) (.ret (.val (.int 1))) (qst (.call x b) none) /\ CallOK (G w) (d + 1) 190 [tv (.call x b)] (.own [.int 2, .int 1]) /\ True) (by left) ⟨hf, hn, trivial⟩
 | call2 a =>
  have ha := ok_value (w := w) (d := d) a
  rw [show isV a = true from hf] at ha
  have hn : CallOK (G w) (d + 1) 190 [tv (.call a x)] (.own [.int 2, .int 1]) := call_go (n := 0) (tp := []) (b_needed w d) rfl (b_needed_x w d) rfl (by left) (P := True) (by left) trivial
  have hf : NF w (d + 1) [.int 1, .int 2] (qst (.call a x) none) (.ret (.val (.int 2))) (qst (.call a x) none) := for_go (i := 1) (ρ' := qst (.call a x) (some (.val (.int 1)))) (tp := [.r (.val (.bool true))]) (by left) (by left) (P := CallOK (G w) (d + 1) 183 [tv a] (.val (.bool true)) /\ True) (by left) ⟨ha, trivial⟩ (for_ret (i := 1) (v := .int 2) (l := []) (ρ := qst (.call a x) (some (.val (.int 1)))) (tp := [.r (.val (.bool false))]) (by left) (by left) (P := CallOK (G w) (d + 1) 183 [tv x] (.val (.bool false)) /\ True) (by left) ⟨hx, trivial⟩)
  exact call_go (n := 1) (tp := [.r (.own [.int 2, .int 1]), .l (.ret (.val (.int 2))) (qst (.call a x) none)]) (b_next_place w (d + 1)) rfl (b_next_place_x w (d + 1)) rfl (by left) (P := NF w (d + 1) [.int 1, .int 2] (qst (.call a x) none) (.ret (.val (.int 2))) (qst (.call a x) none) /\ CallOK (G w) (d + 1) 190 [tv (.call a x)] (.own [.int 2, .int 1]) /\ True) (by left) ⟨hf, hn, trivial⟩
 | plus1 b =>
  have hn : CallOK (G w) (d + 1) 190 [tv (.plus x b)] (.own [.int 2, .int 1]) := call_go (n := 0) (tp := []) (b_needed w d) rfl (b_needed_x w d) rfl (by left) (P := True) (by left) trivial
  have hf : NF w (d + 1) [.int 1, .int 2] (qst (.plus x b) none) (.ret (.val (.int 1))) (qst (.plus x b) none) := for_ret (i := 1) (v := .int 1) (l := [.int 2]) (ρ := qst (.plus x b) none) (tp := [.r (.val (.bool false))]) (by left) (by left) (P := CallOK (G w) (d + 1) 183 [tv x] (.val (.bool false)) /\ True) (by left) ⟨hx, trivial⟩
  exact call_go (n := 1) (tp := [.r (.own [.int 2, .int 1]), .l (.ret (.val (.int 1))) (qst (.plus x b) none)]) (b_next_place w (d + 1)) rfl (b_next_place_x w (d + 1)) rfl (by left) (P := NF w (d + 1) [.int 1, .int 2] (qst (.plus x b) none) (.ret (.val (.int 1))) (qst (.plus x b) none) /\ CallOK (G w) (d + 1) 190 [tv (.plus x b)] (.own [.int 2, .int 1]) /\ True) (by left) ⟨hf, hn, trivial⟩
 | plus2 a =>
  have ha := ok_value (w := w) (d := d) a
  rw [show isV a = true from hf] at ha
  have hn : CallOK (G w) (d + 1) 190 [tv (.plus a x)] (.own [.int 2, .int 1]) := call_go (n := 0) (tp := []) (b_needed w d) rfl (b_needed_x w d) rfl (by left) (P := True) (by left) trivial
  have hf : NF w (d + 1) [.int 1, .int 2] (qst (.plus a x) none) (.ret (.val (.int 2))) (qst (.plus a x) none) := for_go (i := 1) (ρ' := qst (.plus a x) (some (.val (.int 1)))) (tp := [.r (.val (.bool true))]) (by left) (by left) (P := CallOK (G w) (d + 1) 183 [tv a] (.val (.bool true)) /\ True) (by left) ⟨ha, trivial⟩ (for_ret (i := 1) (v := .int 2) (l := []) (ρ := qst (.plus a x) (some (.val (.int 1)))) (tp := [.r (.val (.bool false))]) (by left) (by left) (P := CallOK (G w) (d + 1) 183 [tv x] (.val (.bool false)) /\ True) (by left) ⟨hx, trivial⟩)
  exact call_go (n := 1) (tp := [.r (.own [.int 2, .int 1]), .l (.ret (.val (.int 2))) (qst (.plus a x) none)]) (b_next_place w (d + 1)) rfl (b_next_place_x w (d + 1)) rfl (by left) (P := NF w (d + 1) [.int 1, .int 2] (qst (.plus a x) none) (.ret (.val (.int 2))) (qst (.plus a x) none) /\ CallOK (G w) (d + 1) 190 [tv (.plus a x)] (.own [.int 2, .int 1]) /\ True) (by left) ⟨hf, hn, trivial⟩
 | less1 b =>
  have hn : CallOK (G w) (d + 1) 190 [tv (.less x b)] (.own [.int 2, .int 1]) := call_go (n := 0) (tp := []) (b_needed w d) rfl (b_needed_x w d) rfl (by left) (P := True) (by left) trivial
  have hf : NF w (d + 1) [.int 1, .int 2] (qst (.less x b) none) (.ret (.val (.int 1))) (qst (.less x b) none) := for_ret (i := 1) (v := .int 1) (l := [.int 2]) (ρ := qst (.less x b) none) (tp := [.r (.val (.bool false))]) (by left) (by left) (P := CallOK (G w) (d + 1) 183 [tv x] (.val (.bool false)) /\ True) (by left) ⟨hx, trivial⟩
  exact call_go (n := 1) (tp := [.r (.own [.int 2, .int 1]), .l (.ret (.val (.int 1))) (qst (.less x b) none)]) (b_next_place w (d + 1)) rfl (b_next_place_x w (d + 1)) rfl (by left) (P := NF w (d + 1) [.int 1, .int 2] (qst (.less x b) none) (.ret (.val (.int 1))) (qst (.less x b) none) /\ CallOK (G w) (d + 1) 190 [tv (.less x b)] (.own [.int 2, .int 1]) /\ True) (by left) ⟨hf, hn, trivial⟩
 | less2 a =>
  have ha := ok_value (w := w) (d := d) a
  rw [show isV a = true from hf] at ha
  have hn : CallOK (G w) (d + 1) 190 [tv (.less a x)] (.own [.int 2, .int 1]) := call_go (n := 0) (tp := []) (b_needed w d) rfl (b_needed_x w d) rfl (by left) (P := True) (by left) trivial
  have hf : NF w (d + 1) [.int 1, .int 2] (qst (.less a x) none) (.ret (.val (.int 2))) (qst (.less a x) none) := for_go (i := 1) (ρ' := qst (.less a x) (some (.val (.int 1)))) (tp := [.r (.val (.bool true))]) (by left) (by left) (P := CallOK (G w) (d + 1) 183 [tv a] (.val (.bool true)) /\ True) (by left) ⟨ha, trivial⟩ (for_ret (i := 1) (v := .int 2) (l := []) (ρ := qst (.less a x) (some (.val (.int 1)))) (tp := [.r (.val (.bool false))]) (by left) (by left) (P := CallOK (G w) (d + 1) 183 [tv x] (.val (.bool false)) /\ True) (by left) ⟨hx, trivial⟩)
  exact call_go (n := 1) (tp := [.r (.own [.int 2, .int 1]), .l (.ret (.val (.int 2))) (qst (.less a x) none)]) (b_next_place w (d + 1)) rfl (b_next_place_x w (d + 1)) rfl (by left) (P := NF w (d + 1) [.int 1, .int 2] (qst (.less a x) none) (.ret (.val (.int 2))) (qst (.less a x) none) /\ CallOK (G w) (d + 1) 190 [tv (.less a x)] (.own [.int 2, .int 1]) /\ True) (by left) ⟨hf, hn, trivial⟩
 | ite1 a b =>
  have hn : CallOK (G w) (d + 1) 190 [tv (.ite x a b)] (.own [.int 1]) := call_go (n := 0) (tp := []) (b_needed w d) rfl (b_needed_x w d) rfl (by left) (P := True) (by left) trivial
  have hf : NF w (d + 1) [.int 1] (qst (.ite x a b) none) (.ret (.val (.int 1))) (qst (.ite x a b) none) := for_ret (i := 1) (v := .int 1) (l := []) (ρ := qst (.ite x a b) none) (tp := [.r (.val (.bool false))]) (by left) (by left) (P := CallOK (G w) (d + 1) 183 [tv x] (.val (.bool false)) /\ True) (by left) ⟨hx, trivial⟩
  exact call_go (n := 1) (tp := [.r (.own [.int 1]), .l (.ret (.val (.int 1))) (qst (.ite x a b) none)]) (b_next_place w (d + 1)) rfl (b_next_place_x w (d + 1)) rfl (by left) (P := NF w (d + 1) [.int 1] (qst (.ite x a b) none) (.ret (.val (.int 1))) (qst (.ite x a b) none) /\ CallOK (G w) (d + 1) 190 [tv (.ite x a b)] (.own [.int 1]) /\ True) (by left) ⟨hf, hn, trivial⟩
 | lt2 y b =>
  have hn : CallOK (G w) (d + 1) 190 [tv (.lt y x b)] (.own [.int 2]) := call_go (n := 0) (tp := []) (b_needed w d) rfl (b_needed_x w d) rfl (by left) (P := True) (by left) trivial
  have hf : NF w (d + 1) [.int 2] (qst (.lt y x b) none) (.ret (.val (.int 2))) (qst (.lt y x b) none) := for_ret (i := 1) (v := .int 2) (l := []) (ρ := qst (.lt y x b) none) (tp := [.r (.val (.bool false))]) (by left) (by left) (P := CallOK (G w) (d + 1) 183 [tv x] (.val (.bool false)) /\ True) (by left) ⟨hx, trivial⟩
  exact call_go (n := 1) (tp := [.r (.own [.int 2]), .l (.ret (.val (.int 2))) (qst (.lt y x b) none)]) (b_next_place w (d + 1)) rfl (b_next_place_x w (d + 1)) rfl (by left) (P := NF w (d + 1) [.int 2] (qst (.lt y x b) none) (.ret (.val (.int 2))) (qst (.lt y x b) none) /\ CallOK (G w) (d + 1) 190 [tv (.lt y x b)] (.own [.int 2]) /\ True) (by left) ⟨hf, hn, trivial⟩
def Red (t : Tree) : Prop := Tree.casesOn t (fun J => False) (fun J => False) (fun J J => False) (fun a b => isV a = true /\ isV b = true) (fun a b => isV a = true /\ isV b = true) (fun a b => isV a = true /\ isV b = true) (fun c J J => isV c = true) (fun J e J => isV e = true)
theorem np_red (t : Tree) (h : Red t) : CallOK (G w) (d + 2) 197 [tv t] (.val .none) := by
 cases t with
 | num i => exact h.elim
 | name x => exact h.elim
 | fn x b => exact h.elim
 | call a b =>
  have ha := ok_value (w := w) (d := d) a
  rw [show isV a = true from h.1] at ha
  have hb := ok_value (w := w) (d := d) b
  rw [show isV b = true from h.2] at hb
  have hn : CallOK (G w) (d + 1) 190 [tv (.call a b)] (.own [.int 2, .int 1]) := call_go (n := 0) (tp := []) (b_needed w d) rfl (b_needed_x w d) rfl (by left) (P := True) (by left) trivial
  have hf : NF w (d + 1) [.int 1, .int 2] (qst (.call a b) none) .next (qst (.call a b) (some (.val (.int 2)))) := for_go (i := 1) (ρ' := qst (.call a b) (some (.val (.int 1)))) (tp := [.r (.val (.bool true))]) (by left) (by left) (P := CallOK (G w) (d + 1) 183 [tv a] (.val (.bool true)) /\ True) (by left) ⟨ha, trivial⟩ (for_go (i := 1) (ρ' := qst (.call a b) (some (.val (.int 2)))) (tp := [.r (.val (.bool true))]) (by left) (by left) (P := CallOK (G w) (d + 1) 183 [tv b] (.val (.bool true)) /\ True) (by left) ⟨hb, trivial⟩ for_nil)
  exact call_go (n := 1) (tp := [.r (.own [.int 2, .int 1]), .l .next (qst (.call a b) (some (.val (.int 2))))]) (b_next_place w (d + 1)) rfl (b_next_place_x w (d + 1)) rfl (by left) (P := NF w (d + 1) [.int 1, .int 2] (qst (.call a b) none) .next (qst (.call a b) (some (.val (.int 2)))) /\ CallOK (G w) (d + 1) 190 [tv (.call a b)] (.own [.int 2, .int 1]) /\ True) (by left) ⟨hf, hn, trivial⟩
 | plus a b =>
  have ha := ok_value (w := w) (d := d) a
  rw [show isV a = true from h.1] at ha
  have hb := ok_value (w := w) (d := d) b
  rw [show isV b = true from h.2] at hb
  have hn : CallOK (G w) (d + 1) 190 [tv (.plus a b)] (.own [.int 2, .int 1]) := call_go (n := 0) (tp := []) (b_needed w d) rfl (b_needed_x w d) rfl (by left) (P := True) (by left) trivial
  have hf : NF w (d + 1) [.int 1, .int 2] (qst (.plus a b) none) .next (qst (.plus a b) (some (.val (.int 2)))) := for_go (i := 1) (ρ' := qst (.plus a b) (some (.val (.int 1)))) (tp := [.r (.val (.bool true))]) (by left) (by left) (P := CallOK (G w) (d + 1) 183 [tv a] (.val (.bool true)) /\ True) (by left) ⟨ha, trivial⟩ (for_go (i := 1) (ρ' := qst (.plus a b) (some (.val (.int 2)))) (tp := [.r (.val (.bool true))]) (by left) (by left) (P := CallOK (G w) (d + 1) 183 [tv b] (.val (.bool true)) /\ True) (by left) ⟨hb, trivial⟩ for_nil)
  exact call_go (n := 1) (tp := [.r (.own [.int 2, .int 1]), .l .next (qst (.plus a b) (some (.val (.int 2))))]) (b_next_place w (d + 1)) rfl (b_next_place_x w (d + 1)) rfl (by left) (P := NF w (d + 1) [.int 1, .int 2] (qst (.plus a b) none) .next (qst (.plus a b) (some (.val (.int 2)))) /\ CallOK (G w) (d + 1) 190 [tv (.plus a b)] (.own [.int 2, .int 1]) /\ True) (by left) ⟨hf, hn, trivial⟩
 | less a b =>
  have ha := ok_value (w := w) (d := d) a
  rw [show isV a = true from h.1] at ha
  have hb := ok_value (w := w) (d := d) b
  rw [show isV b = true from h.2] at hb
  have hn : CallOK (G w) (d + 1) 190 [tv (.less a b)] (.own [.int 2, .int 1]) := call_go (n := 0) (tp := []) (b_needed w d) rfl (b_needed_x w d) rfl (by left) (P := True) (by left) trivial
  have hf : NF w (d + 1) [.int 1, .int 2] (qst (.less a b) none) .next (qst (.less a b) (some (.val (.int 2)))) := for_go (i := 1) (ρ' := qst (.less a b) (some (.val (.int 1)))) (tp := [.r (.val (.bool true))]) (by left) (by left) (P := CallOK (G w) (d + 1) 183 [tv a] (.val (.bool true)) /\ True) (by left) ⟨ha, trivial⟩ (for_go (i := 1) (ρ' := qst (.less a b) (some (.val (.int 2)))) (tp := [.r (.val (.bool true))]) (by left) (by left) (P := CallOK (G w) (d + 1) 183 [tv b] (.val (.bool true)) /\ True) (by left) ⟨hb, trivial⟩ for_nil)
  exact call_go (n := 1) (tp := [.r (.own [.int 2, .int 1]), .l .next (qst (.less a b) (some (.val (.int 2))))]) (b_next_place w (d + 1)) rfl (b_next_place_x w (d + 1)) rfl (by left) (P := NF w (d + 1) [.int 1, .int 2] (qst (.less a b) none) .next (qst (.less a b) (some (.val (.int 2)))) /\ CallOK (G w) (d + 1) 190 [tv (.less a b)] (.own [.int 2, .int 1]) /\ True) (by left) ⟨hf, hn, trivial⟩
 | ite c a b =>
  have hc := ok_value (w := w) (d := d) c
  rw [show isV c = true from h] at hc
  have hn : CallOK (G w) (d + 1) 190 [tv (.ite c a b)] (.own [.int 1]) := call_go (n := 0) (tp := []) (b_needed w d) rfl (b_needed_x w d) rfl (by left) (P := True) (by left) trivial
  have hf : NF w (d + 1) [.int 1] (qst (.ite c a b) none) .next (qst (.ite c a b) (some (.val (.int 1)))) := for_go (i := 1) (ρ' := qst (.ite c a b) (some (.val (.int 1)))) (tp := [.r (.val (.bool true))]) (by left) (by left) (P := CallOK (G w) (d + 1) 183 [tv c] (.val (.bool true)) /\ True) (by left) ⟨hc, trivial⟩ for_nil
  exact call_go (n := 1) (tp := [.r (.own [.int 1]), .l .next (qst (.ite c a b) (some (.val (.int 1))))]) (b_next_place w (d + 1)) rfl (b_next_place_x w (d + 1)) rfl (by left) (P := NF w (d + 1) [.int 1] (qst (.ite c a b) none) .next (qst (.ite c a b) (some (.val (.int 1)))) /\ CallOK (G w) (d + 1) 190 [tv (.ite c a b)] (.own [.int 1]) /\ True) (by left) ⟨hf, hn, trivial⟩
 | lt y e b =>
  have he := ok_value (w := w) (d := d) e
  rw [show isV e = true from h] at he
  have hn : CallOK (G w) (d + 1) 190 [tv (.lt y e b)] (.own [.int 2]) := call_go (n := 0) (tp := []) (b_needed w d) rfl (b_needed_x w d) rfl (by left) (P := True) (by left) trivial
  have hf : NF w (d + 1) [.int 2] (qst (.lt y e b) none) .next (qst (.lt y e b) (some (.val (.int 2)))) := for_go (i := 1) (ρ' := qst (.lt y e b) (some (.val (.int 2)))) (tp := [.r (.val (.bool true))]) (by left) (by left) (P := CallOK (G w) (d + 1) 183 [tv e] (.val (.bool true)) /\ True) (by left) ⟨he, trivial⟩ for_nil
  exact call_go (n := 1) (tp := [.r (.own [.int 2]), .l .next (qst (.lt y e b) (some (.val (.int 2))))]) (b_next_place w (d + 1)) rfl (b_next_place_x w (d + 1)) rfl (by left) (P := NF w (d + 1) [.int 2] (qst (.lt y e b) none) .next (qst (.lt y e b) (some (.val (.int 2)))) /\ CallOK (G w) (d + 1) 190 [tv (.lt y e b)] (.own [.int 2]) /\ True) (by left) ⟨hf, hn, trivial⟩
section
variable {G : Gl} {d : Nat} {fi : FI} {c : T G d fi} {b : SL G d fi} {ρ ρ' : Loc} {cN : Addr}
theorem Trn.whe (h : Trn c b ρ ρ') (k : WhErr G d fi cN c.x b.xs ρ') : WhErr G d fi cN c.x b.xs ρ := by
 obtain ⟨tp, e, o⟩ := h; exact whe_go (c := c) (b := b) false e rfl o k
end
noncomputable abbrev sst (T : V) (A : List V) (n p : V) (x4 x5 : Option O) : Loc := [some (.val T), some (.own A), some (.val n), some (.val p), x4, x5]
abbrev SW (w : World) (d : Nat) (ρ ρ' : Loc) : Prop := WhilOK (G w) d fi_step (c_step_154 w d).x (l_step_154 w d).xs ρ .next ρ'
abbrev STn (w : World) (d : Nat) (ρ ρ' : Loc) : Prop := Trn (c_step_154 w d) (l_step_154 w d) ρ ρ'
section
variable {T : V} {A : List V} {p : Int}
theorem sw_end {n : V} : SW w d (sst T A n .none none none) (sst T A n .none none none) := whil_end false (tp := []) (by left) (P := True) (by left) trivial
theorem sw_red {t : Tree} (h : Red t) : SW w (d + 3) (sst T A (tv t) (.int p) none none) (sst T A (tv t) .none none none) := by
 have k := np_red (w := w) (d := d + 1) t h
 cases t with
 | num i => exact h.elim
 | name x => exact h.elim
 | fn x b => exact h.elim
 | call a b => exact whil_go false (ρ' := sst T A (tv (.call a b)) .none none none) (tp := [.r (.val .none)]) (by left) (P := CallOK (G w) (d + 3) 197 [tv (.call a b)] (.val .none) /\ True) (by left) ⟨k, trivial⟩ sw_end
 | plus a b => exact whil_go false (ρ' := sst T A (tv (.plus a b)) .none none none) (tp := [.r (.val .none)]) (by left) (P := CallOK (G w) (d + 3) 197 [tv (.plus a b)] (.val .none) /\ True) (by left) ⟨k, trivial⟩ sw_end
 | less a b => exact whil_go false (ρ' := sst T A (tv (.less a b)) .none none none) (tp := [.r (.val .none)]) (by left) (P := CallOK (G w) (d + 3) 197 [tv (.less a b)] (.val .none) /\ True) (by left) ⟨k, trivial⟩ sw_end
 | ite c a b => exact whil_go false (ρ' := sst T A (tv (.ite c a b)) .none none none) (tp := [.r (.val .none)]) (by left) (P := CallOK (G w) (d + 3) 197 [tv (.ite c a b)] (.val .none) /\ True) (by left) ⟨k, trivial⟩ sw_end
 | lt y e b => exact whil_go false (ρ' := sst T A (tv (.lt y e b)) .none none none) (tp := [.r (.val .none)]) (by left) (P := CallOK (G w) (d + 3) 197 [tv (.lt y e b)] (.val .none) /\ True) (by left) ⟨k, trivial⟩ sw_end
theorem turn_fr (f : Fr) {x : Tree} (h : isV x = false) (hf : fok f) (hA : A.length < room) : STn w (d + 3) (sst T A (tv (fill f x)) (.int p) none none) (sst T (.tup [tv (fill f x), .int (pc f)] :: A) (tv x) (.int (pc f)) none none) := by
 have k := np_fr (w := w) (d := d + 1) f x h hf
 cases f with
 | call1 b => exact .of (tp := [.r (.val (.int 1))]) (by left) (P := (A.length < room) /\ CallOK (G w) (d + 3) 197 [tv (.call x b)] (.val (.int 1)) /\ True) (by left) ⟨hA, k, trivial⟩
 | call2 a => exact .of (tp := [.r (.val (.int 2))]) (by left) (P := (A.length < room) /\ CallOK (G w) (d + 3) 197 [tv (.call a x)] (.val (.int 2)) /\ True) (by left) ⟨hA, k, trivial⟩
 | plus1 b => exact .of (tp := [.r (.val (.int 1))]) (by left) (P := (A.length < room) /\ CallOK (G w) (d + 3) 197 [tv (.plus x b)] (.val (.int 1)) /\ True) (by left) ⟨hA, k, trivial⟩
 | plus2 a => exact .of (tp := [.r (.val (.int 2))]) (by left) (P := (A.length < room) /\ CallOK (G w) (d + 3) 197 [tv (.plus a x)] (.val (.int 2)) /\ True) (by left) ⟨hA, k, trivial⟩
 | less1 b => exact .of (tp := [.r (.val (.int 1))]) (by left) (P := (A.length < room) /\ CallOK (G w) (d + 3) 197 [tv (.less x b)] (.val (.int 1)) /\ True) (by left) ⟨hA, k, trivial⟩
 | less2 a => exact .of (tp := [.r (.val (.int 2))]) (by left) (P := (A.length < room) /\ CallOK (G w) (d + 3) 197 [tv (.less a x)] (.val (.int 2)) /\ True) (by left) ⟨hA, k, trivial⟩
 | ite1 a b => exact .of (tp := [.r (.val (.int 1))]) (by left) (P := (A.length < room) /\ CallOK (G w) (d + 3) 197 [tv (.ite x a b)] (.val (.int 1)) /\ True) (by left) ⟨hA, k, trivial⟩
 | lt2 y b => exact .of (tp := [.r (.val (.int 2))]) (by left) (P := (A.length < room) /\ CallOK (G w) (d + 3) 197 [tv (.lt y x b)] (.val (.int 2)) /\ True) (by left) ⟨hA, k, trivial⟩
end
noncomputable def pth (fs : List Fr) (r : Tree) : List V := @List.rec Fr (fun J => List V) [] (fun f fs ih => ih ++ [.tup [tv (fill f (plug fs r)), .int (pc f)]]) fs
theorem pth_cons (f : Fr) (fs : List Fr) (r : Tree) : pth (f :: fs) r = pth fs r ++ [.tup [tv (fill f (plug fs r)), .int (pc f)]] := rfl
theorem sw_all {T : V} {r : Tree} (hr : isV r = false) {K : Loc -> Prop} (hK : ∀ ρ ρ', STn w (d + 3) ρ ρ' -> K ρ' -> K ρ) : ∀ (fs : List Fr), (∀ f, f ∈ fs -> fok f) -> ∀ {A : List V} {p : Int}, A.length + fs.length < room -> (∀ p', K (sst T (pth fs r ++ A) (tv r) (.int p') none none)) -> K (sst T A (tv (plug fs r)) (.int p) none none)
 | [], _, _, _, _, k => k _
 | f :: fs, hf, A, p, hA, k => by
  rw [List.length_cons] at hA
  refine hK _ _ (turn_fr f (plug_nv hr fs) (hf f List.mem_cons_self) (by lia)) (sw_all hr hK fs (fun g hg => hf g (List.mem_cons_of_mem _ hg)) (by rw [List.length_cons]; lia) fun p' => ?_)
  have := k p'
  rw [pth_cons, List.append_assoc] at this
  exact this
noncomputable def subT (n : List Nat) (u t : Tree) : Tree := Tree.rec (fun i => .num i) (fun x => Bool.casesOn (x == n) (.name x) u) (fun x b s => .fn x (Bool.casesOn (x == n) s b)) (fun J J f a => .call f a) (fun J J a b => .plus a b) (fun J J a b => .less a b) (fun J J J c a b => .ite c a b) (fun x J b e s => .lt x e (Bool.casesOn (x == n) s b)) t
theorem sub_tv (n : List Nat) (u t : Tree) : sub n (tv u) t = tv (subT n u t) := by
 induction t with
 | num i => rfl
 | name x => show Bool.casesOn (x == n) (tv (.name x)) (tv u) = tv (Bool.casesOn (x == n) (.name x) u); cases x == n <;> rfl
 | fn x b ib =>
  show V.tup [.str z_fun, .str x, Bool.casesOn (x == n) (sub n (tv u) b) (tv b)] = tv (.fn x (Bool.casesOn (x == n) (subT n u b) b))
  cases x == n
  ·show V.tup [.str z_fun, .str x, sub n (tv u) b] = _; rw [ib]; rfl
  ·rfl
 | call a b ia ib => show V.tup [.str z_call, sub n (tv u) a, sub n (tv u) b] = _; rw [ia, ib]; rfl
 | plus a b ia ib => show V.tup [.str z_plus, sub n (tv u) a, sub n (tv u) b] = _; rw [ia, ib]; rfl
 | less a b ia ib => show V.tup [.str z_less, sub n (tv u) a, sub n (tv u) b] = _; rw [ia, ib]; rfl
 | ite c a b ic ia ib => show V.tup [.str z_if, sub n (tv u) c, sub n (tv u) a, sub n (tv u) b] = _; rw [ic, ia, ib]; rfl
 | lt x e b ie ib =>
  show V.tup [.str z_let, .str x, sub n (tv u) e, Bool.casesOn (x == n) (sub n (tv u) b) (tv b)] = tv (.lt x (subT n u e) (Bool.casesOn (x == n) (subT n u b) b))
  rw [ie]
  cases x == n
  ·show V.tup [.str z_let, .str x, tv (subT n u e), sub n (tv u) b] = _; rw [ib]; rfl
  ·rfl
inductive Deed : Tree -> Tree -> Prop where
 | call (x : List Nat) (b v : Tree) (h : isV v = true) : Deed (.call (.fn x b) v) (subT x v b)
 | lt (x : List Nat) (v b : Tree) (h : isV v = true) : Deed (.lt x v b) (subT x v b)
 | plus (i j : Int) : Deed (.plus (.num i) (.num j)) (.num (i + j))
 | less (i j : Int) : Deed (.less (.num i) (.num j)) (.num (i - j))
 | ite0 (a b : Tree) : Deed (.ite (.num 0) a b) b
 | ite1 (i : Int) (a b : Tree) (h : i ≠ 0) : Deed (.ite (.num i) a b) a
theorem Deed.red {r r' : Tree} (h : Deed r r') : Red r := by
 cases h with
 | call x b v h => exact ⟨rfl, h⟩
 | lt x v b h => exact h
 | _ => first | exact ⟨rfl, rfl⟩ | exact rfl
theorem Red.nv {r : Tree} (h : Red r) : isV r = false := by
 cases r <;> first | exact h.elim | rfl
theorem ok_put' (x : List Nat) (v b : Tree) (hz : 4 * dp b < room) : CallOK (G w) (d + 2) 176 [tv b, .str x, tv v] (.val (tv (subT x v b))) := by
 have := ok_put (w := w) (d := d) (n := x) (v := tv v) b hz
 rwa [sub_tv] at this
theorem ok_deed {r r' : Tree} (h : Deed r r') (hz : 4 * dp r < room) : CallOK (G w) (d + 3) 204 [tv r] (.val (tv r')) := by
 cases h with
 | call x b v h =>
  have hs : dp (.call (.fn x b) v) = max (dp b + 1) (dp v) + 1 := rfl
  have := Nat.le_max_left (dp b + 1) (dp v)
  exact call_go (n := 0) (tp := [.r (.val (tv (subT x v b)))]) (b_deed w (d + 2)) rfl (b_deed_x w (d + 2)) rfl (by left) (P := CallOK (G w) (d + 2) 176 [tv b, .str x, tv v] (.val (tv (subT x v b))) /\ True) (by left) ⟨ok_put' x v b (by lia), trivial⟩
 | lt x v b h =>
  have hs : dp (.lt x v b) = max (dp v) (dp b) + 1 := rfl
  have := Nat.le_max_right (dp v) (dp b)
  exact call_go (n := 0) (tp := [.r (.val (tv (subT x v b)))]) (b_deed w (d + 2)) rfl (b_deed_x w (d + 2)) rfl (by left) (P := CallOK (G w) (d + 2) 176 [tv b, .str x, tv v] (.val (tv (subT x v b))) /\ True) (by left) ⟨ok_put' x v b (by lia), trivial⟩
 | plus i j => exact call_go (n := 0) (tp := []) (b_deed w (d + 2)) rfl (b_deed_x w (d + 2)) rfl (by left) (P := True) (by left) trivial
 | less i j => exact call_go (n := 0) (tp := []) (b_deed w (d + 2)) rfl (b_deed_x w (d + 2)) rfl (by left) (P := True) (by left) trivial
 | ite0 a b => exact call_go (n := 0) (tp := [.b true]) (b_deed w (d + 2)) rfl (b_deed_x w (d + 2)) rfl (by left) (P := (((0 : Int) == 0) = true) /\ True) (by left) ⟨rfl, trivial⟩
 | ite1 i a b h => exact call_go (n := 0) (tp := [.b false]) (b_deed w (d + 2)) rfl (b_deed_x w (d + 2)) rfl (by left) (P := ((i == 0) = false) /\ True) (by left) ⟨beq_eq_false_iff_ne.mpr h, trivial⟩
noncomputable abbrev rst (T : V) (A n : V) (f : Tree) (x5 : Option O) : Loc := [some (.val T), some (.val A), some (.val n), some (.val .none), some (.val (tv f)), x5]
abbrev SF (w : World) (d : Nat) (l : List V) (ρ : Loc) (fl : Fl) (ρ' : Loc) : Prop := ForOK (G w) d fi_step (.Name "pair" (qp 162 8 12)) (l_step_162 w d).xs l ρ fl ρ'
section
variable {T A n : V} {x5 : Option O} {l : List V} {fl : Fl} {ρ' : Loc} {Φ : Loc -> Prop}
theorem sf_fr (f : Fr) {y x : Tree} (k : SF w d l (rst T A n (fill f x) (some (.val (.tup [tv (fill f y), .int (pc f)])))) fl ρ') : SF w d (.tup [tv (fill f y), .int (pc f)] :: l) (rst T A n x x5) fl ρ' := by
 cases f with
 | call1 b => exact for_go (by left) (i := 5) (ρ' := rst T A n (.call x b) (some (.val (.tup [tv (.call y b), .int 1])))) (tp := []) (by left) (P := (([V.str z_call] ++ [tv x] ++ [tv b] : List V).length <= room) /\ ((0 : Int) <= 1 + 1 /\ (1 : Int) + 1 <= 1000000) /\ (([V.str z_call] ++ [tv x] : List V).length <= room) /\ ((0 : Int) <= 1 /\ (1 : Int) <= 1000000) /\ True) (by left) ⟨by show 3 <= room; decide, by decide, by show 2 <= room; decide, by decide, trivial⟩ k
 | call2 a => exact for_go (by left) (i := 5) (ρ' := rst T A n (.call a x) (some (.val (.tup [tv (.call a y), .int 2])))) (tp := []) (by left) (P := (([V.str z_call, tv a] ++ [tv x] ++ [] : List V).length <= room) /\ ((0 : Int) <= 2 + 1 /\ (2 : Int) + 1 <= 1000000) /\ (([V.str z_call, tv a] ++ [tv x] : List V).length <= room) /\ ((0 : Int) <= 2 /\ (2 : Int) <= 1000000) /\ True) (by left) ⟨by show 3 <= room; decide, by decide, by show 3 <= room; decide, by decide, trivial⟩ k
 | plus1 b => exact for_go (by left) (i := 5) (ρ' := rst T A n (.plus x b) (some (.val (.tup [tv (.plus y b), .int 1])))) (tp := []) (by left) (P := (([V.str z_plus] ++ [tv x] ++ [tv b] : List V).length <= room) /\ ((0 : Int) <= 1 + 1 /\ (1 : Int) + 1 <= 1000000) /\ (([V.str z_plus] ++ [tv x] : List V).length <= room) /\ ((0 : Int) <= 1 /\ (1 : Int) <= 1000000) /\ True) (by left) ⟨by show 3 <= room; decide, by decide, by show 2 <= room; decide, by decide, trivial⟩ k
 | plus2 a => exact for_go (by left) (i := 5) (ρ' := rst T A n (.plus a x) (some (.val (.tup [tv (.plus a y), .int 2])))) (tp := []) (by left) (P := (([V.str z_plus, tv a] ++ [tv x] ++ [] : List V).length <= room) /\ ((0 : Int) <= 2 + 1 /\ (2 : Int) + 1 <= 1000000) /\ (([V.str z_plus, tv a] ++ [tv x] : List V).length <= room) /\ ((0 : Int) <= 2 /\ (2 : Int) <= 1000000) /\ True) (by left) ⟨by show 3 <= room; decide, by decide, by show 3 <= room; decide, by decide, trivial⟩ k
 | less1 b => exact for_go (by left) (i := 5) (ρ' := rst T A n (.less x b) (some (.val (.tup [tv (.less y b), .int 1])))) (tp := []) (by left) (P := (([V.str z_less] ++ [tv x] ++ [tv b] : List V).length <= room) /\ ((0 : Int) <= 1 + 1 /\ (1 : Int) + 1 <= 1000000) /\ (([V.str z_less] ++ [tv x] : List V).length <= room) /\ ((0 : Int) <= 1 /\ (1 : Int) <= 1000000) /\ True) (by left) ⟨by show 3 <= room; decide, by decide, by show 2 <= room; decide, by decide, trivial⟩ k
 | less2 a => exact for_go (by left) (i := 5) (ρ' := rst T A n (.less a x) (some (.val (.tup [tv (.less a y), .int 2])))) (tp := []) (by left) (P := (([V.str z_less, tv a] ++ [tv x] ++ [] : List V).length <= room) /\ ((0 : Int) <= 2 + 1 /\ (2 : Int) + 1 <= 1000000) /\ (([V.str z_less, tv a] ++ [tv x] : List V).length <= room) /\ ((0 : Int) <= 2 /\ (2 : Int) <= 1000000) /\ True) (by left) ⟨by show 3 <= room; decide, by decide, by show 3 <= room; decide, by decide, trivial⟩ k
 | ite1 a b => exact for_go (by left) (i := 5) (ρ' := rst T A n (.ite x a b) (some (.val (.tup [tv (.ite y a b), .int 1])))) (tp := []) (by left) (P := (([V.str z_if] ++ [tv x] ++ [tv a, tv b] : List V).length <= room) /\ ((0 : Int) <= 1 + 1 /\ (1 : Int) + 1 <= 1000000) /\ (([V.str z_if] ++ [tv x] : List V).length <= room) /\ ((0 : Int) <= 1 /\ (1 : Int) <= 1000000) /\ True) (by left) ⟨by show 4 <= room; decide, by decide, by show 2 <= room; decide, by decide, trivial⟩ k
 | lt2 z b => exact for_go (by left) (i := 5) (ρ' := rst T A n (.lt z x b) (some (.val (.tup [tv (.lt z y b), .int 2])))) (tp := []) (by left) (P := (([V.str z_let, V.str z] ++ [tv x] ++ [tv b] : List V).length <= room) /\ ((0 : Int) <= 2 + 1 /\ (2 : Int) + 1 <= 1000000) /\ (([V.str z_let, V.str z] ++ [tv x] : List V).length <= room) /\ ((0 : Int) <= 2 /\ (2 : Int) <= 1000000) /\ True) (by left) ⟨by show 4 <= room; decide, by decide, by show 3 <= room; decide, by decide, trivial⟩ k
theorem sf_all {r r' : Tree} : ∀ (fs : List Fr) {l : List V} {x5 : Option O}, (∀ x5, ∃ ρ', SF w d l (rst T A n (plug fs r') x5) fl ρ' /\ Φ ρ') -> ∃ ρ', SF w d (pth fs r ++ l) (rst T A n r' x5) fl ρ' /\ Φ ρ'
 | [], _, _, k => k _
 | f :: fs, l, x5, k => by
  rw [pth_cons, List.append_assoc]
  exact sf_all fs fun x5 => let ⟨ρ', k1, k2⟩ := k (some (.val (.tup [tv (fill f (plug fs r)), .int (pc f)]))); ⟨ρ', sf_fr f k1, k2⟩
end
theorem ok_step {r r' : Tree} (h : Deed r r') (fs : List Fr) (hf : ∀ f, f ∈ fs -> fok f) (hs : 4 * dp (plug fs r) < room) : CallOK (G w) (d + 4) 211 [tv (plug fs r)] (.val (tv (plug fs r'))) := by
 have hp := plug_dp fs r
 have hr := dp_pos r
 have h0 := ok_value (w := w) (d := d + 2) (plug fs r)
 rw [plug_nv h.red.nv fs] at h0
 have h1 : SW w (d + 3) (sst (tv (plug fs r)) [] (tv (plug fs r)) (.int 0) none none) (sst (tv (plug fs r)) (pth fs r) (tv r) .none none none) := sw_all (w := w) (d := d) (T := tv (plug fs r)) h.red.nv (K := fun ρ => SW w (d + 3) ρ (sst (tv (plug fs r)) (pth fs r) (tv r) .none none none)) (fun J J a k => a.wh k) fs hf (A := []) (p := 0) (by show 0 + fs.length < room; lia) fun p' => by rw [List.append_nil]; exact sw_red h.red
 have h2 := ok_deed (w := w) (d := d) h (by lia)
 obtain ⟨ρ', h3, x5, rfl⟩ := sf_all (w := w) (d := d + 3) (T := tv (plug fs r)) (A := .lst (pth fs r).reverse) (n := tv r) (fl := .next) (Φ := fun ρ' => ∃ x5, ρ' = rst (tv (plug fs r)) (.lst (pth fs r).reverse) (tv r) (plug fs r') x5) (r := r) (r' := r') fs (l := []) (x5 := none) fun x5 => ⟨_, for_nil, x5, rfl⟩
 rw [List.append_nil] at h3
 generalize plug fs r' = q' at *
 generalize plug fs r = q at *
 exact call_go (n := 5) (tp := [.r (.val (.bool false)), .l .next (sst (tv q) (pth fs r) (tv r) .none none none), .r (.val (tv r')), .l .next (rst (tv q) (.lst (pth fs r).reverse) (tv r) q' x5)]) (b_step w (d + 3)) rfl (b_step_x w (d + 3)) rfl (by left)
  (P := SF w (d + 3) (pth fs r).reverse.reverse (rst (tv q) (.lst (pth fs r).reverse) (tv r) r' none) .next (rst (tv q) (.lst (pth fs r).reverse) (tv r) q' x5) /\ CallOK (G w) (d + 3) 204 [tv r] (.val (tv r')) /\ SW w (d + 3) (sst (tv q) [] (tv q) (.int 0) none none) (sst (tv q) (pth fs r) (tv r) .none none none) /\ CallOK (G w) (d + 3) 183 [tv q] (.val (.bool false)) /\ True) (by left) ⟨by rw [List.reverse_reverse]; exact h3, h2, h1, h0, trivial⟩
theorem step_val {t : Tree} (h : isV t = true) : CallOK (G w) (d + 2) 211 [tv t] (.val .none) := by
 have h0 := ok_value (w := w) (d := d) t
 rw [h] at h0
 exact call_go (n := 5) (tp := [.r (.val (.bool true))]) (b_step w (d + 1)) rfl (b_step_x w (d + 1)) rfl (by left) (P := CallOK (G w) (d + 1) 183 [tv t] (.val (.bool true)) /\ True) (by left) ⟨h0, trivial⟩
inductive Bad : Tree -> Addr -> Prop where
 | call (i : Int) (v : Tree) (h : isV v = true) : Bad (.call (.num i) v) 85
 | ite (x : List Nat) (b a c : Tree) : Bad (.ite (.fn x b) a c) 73
 | plus1 (x : List Nat) (b v : Tree) (h : isV v = true) : Bad (.plus (.fn x b) v) 73
 | plus2 (i : Int) (x : List Nat) (b : Tree) : Bad (.plus (.num i) (.fn x b)) 73
 | less1 (x : List Nat) (b v : Tree) (h : isV v = true) : Bad (.less (.fn x b) v) 73
 | less2 (i : Int) (x : List Nat) (b : Tree) : Bad (.less (.num i) (.fn x b)) 73
theorem Bad.red {r : Tree} {c : Addr} (h : Bad r c) : Red r := by
 cases h with
 | call i v h => exact ⟨rfl, h⟩
 | ite x b a c => exact rfl
 | plus1 x b v h => exact ⟨rfl, h⟩
 | plus2 i x b => exact ⟨rfl, rfl⟩
 | less1 x b v h => exact ⟨rfl, h⟩
 | less2 i x b => exact ⟨rfl, rfl⟩
theorem bad_deed {r : Tree} {c : Addr} (h : Bad r c) : RCall (G w) (d + 1) c 204 [tv r] := by
 cases h with
 | call i v h => exact rcallz_go (n := 0) (ρ' := [some (.val (tv (.call (.num i) v)))]) (tp := []) (r_deed_call w d) rfl (r_deed_call_x w d) rfl (by left) (P := True) (by left) trivial
 | ite x b a c => exact rcallz_go (n := 0) (ρ' := [some (.val (tv (.ite (.fn x b) a c)))]) (tp := []) (r_deed_if w d) rfl (r_deed_if_x w d) rfl (by left) (P := True) (by left) trivial
 | plus1 x b v h => exact rcallz_go (n := 0) (ρ' := [some (.val (tv (.plus (.fn x b) v)))]) (tp := []) (r_deed_num w d) rfl (r_deed_num_x w d) rfl (by left) (P := True) (by left) trivial
 | plus2 i x b => exact rcallz_go (n := 0) (ρ' := [some (.val (tv (.plus (.num i) (.fn x b))))]) (tp := []) (r_deed_num w d) rfl (r_deed_num_x w d) rfl (by left) (P := True) (by left) trivial
 | less1 x b v h => exact rcallz_go (n := 0) (ρ' := [some (.val (tv (.less (.fn x b) v)))]) (tp := []) (r_deed_num w d) rfl (r_deed_num_x w d) rfl (by left) (P := True) (by left) trivial
 | less2 i x b => exact rcallz_go (n := 0) (ρ' := [some (.val (tv (.less (.num i) (.fn x b))))]) (tp := []) (r_deed_num w d) rfl (r_deed_num_x w d) rfl (by left) (P := True) (by left) trivial
theorem bad_step {r : Tree} {c : Addr} (h : Bad r c) (fs : List Fr) (hf : ∀ f, f ∈ fs -> fok f) (hs : 4 * dp (plug fs r) < room) : RCall (G w) (d + 4) c 211 [tv (plug fs r)] := by
 have hp := plug_dp fs r
 have hr := dp_pos r
 have h0 := ok_value (w := w) (d := d + 2) (plug fs r)
 rw [plug_nv h.red.nv fs] at h0
 have h1 : SW w (d + 3) (sst (tv (plug fs r)) [] (tv (plug fs r)) (.int 0) none none) (sst (tv (plug fs r)) (pth fs r) (tv r) .none none none) := sw_all (w := w) (d := d) (T := tv (plug fs r)) h.red.nv (K := fun ρ => SW w (d + 3) ρ (sst (tv (plug fs r)) (pth fs r) (tv r) .none none none)) (fun J J a k => a.wh k) fs hf (A := []) (p := 0) (by show 0 + fs.length < room; lia) fun p' => by rw [List.append_nil]; exact sw_red h.red
 have h2 := bad_deed (w := w) (d := d + 2) h
 generalize plug fs r = q at *
 exact rcallz_go (n := 5) (ρ' := sst (tv q) (pth fs r) (tv r) .none none none) (tp := [.r (.val (.bool false)), .l .next (sst (tv q) (pth fs r) (tv r) .none none none)]) (r_step_deed w (d + 3) c) rfl (r_step_deed_x w (d + 3) c) rfl (by left) (P := RCall (G w) (d + 3) c 204 [tv r] /\ SW w (d + 3) (sst (tv q) [] (tv q) (.int 0) none none) (sst (tv q) (pth fs r) (tv r) .none none none) /\ CallOK (G w) (d + 3) 183 [tv q] (.val (.bool false)) /\ True) (by left) ⟨h2, h1, h0, trivial⟩
def St (t t' : Tree) : Prop := ∃ fs r r', (∀ f, f ∈ fs -> fok f) /\ Deed r r' /\ t = plug fs r /\ t' = plug fs r'
theorem St.nv {t t' : Tree} (h : St t t') : isV t = false := by obtain ⟨fs, r, r', h1, h2, rfl, rfl⟩ := h; exact plug_nv h2.red.nv fs
theorem St.ok {t t' : Tree} (h : St t t') (hz : 4 * dp t < room) : CallOK (G w) (d + 4) 211 [tv t] (.val (tv t')) := by obtain ⟨fs, r, r', h1, h2, rfl, rfl⟩ := h; exact ok_step h2 fs h1 hz
noncomputable abbrev tst (T : V) (m : Int) (F : List V) : Loc := [some (.val T), some (.val (.int m)), some (.own F)]
abbrev TW2 (w : World) (d : Nat) (ρ ρ' : Loc) : Prop := WhilOK (G w) d fi_steps (c_steps_168 w d).x (l_steps_168 w d).xs ρ .next ρ'
theorem steps_turn {T : V} {m : Int} {t t' : Tree} {F : List V} (h : St t t') (hz : 4 * dp t < room) (hm : ((F.length + 1 : Nat) : Int) <= m) (hl : F.length < 5000) : Trn (c_steps_168 w (d + 4)) (l_steps_168 w (d + 4)) (tst T m (tv t :: F)) (tst T m (tv t' :: tv t :: F)) := by
 have h0 := ok_value (w := w) (d := d + 3) t
 rw [h.nv] at h0
 have hr := room_big
 exact .of (tp := [.r (.val (.bool false)), .b false, .r (.val (tv t'))]) (by left) (P := ((tv t :: F).length < room) /\ CallOK (G w) (d + 4) 211 [tv t] (.val (tv t')) /\ (decide (Int.ofNat (tv t :: F).length > m) = false) /\ CallOK (G w) (d + 4) 183 [tv t] (.val (.bool false)) /\ True) (by left) ⟨by rw [List.length_cons]; lia, h.ok hz, decide_eq_false (by rw [List.length_cons]; show ¬ ((F.length + 1 : Nat) : Int) > m; lia), h0, trivial⟩
def StB (t : Tree) (c : Addr) : Prop := ∃ fs r, (∀ f, f ∈ fs -> fok f) /\ Bad r c /\ t = plug fs r
theorem StB.nv {t : Tree} {c : Addr} (h : StB t c) : isV t = false := by obtain ⟨fs, r, h1, h2, rfl⟩ := h; exact plug_nv h2.red.nv fs
theorem StB.r {t : Tree} {c : Addr} (h : StB t c) (hz : 4 * dp t < room) : RCall (G w) (d + 4) c 211 [tv t] := by obtain ⟨fs, r, h1, h2, rfl⟩ := h; exact bad_step h2 fs h1 hz
end Mine.L09
end
section
namespace Mine.L09
def FV (t : Tree) (y : List Nat) : Prop := Tree.rec (motive := fun J => Prop) (fun J => False) (fun x => y = x) (fun x J b => b /\ y ≠ x) (fun J J a b => a \/ b) (fun J J a b => a \/ b) (fun J J a b => a \/ b) (fun J J J c a b => c \/ a \/ b) (fun x J J e b => e \/ (b /\ y ≠ x)) t
set_option tactic.hygienic true in
theorem mem_addN {bd F : List (List Nat)} {x y : List Nat} : y ∈ addN bd F x ↔ y ∈ F \/ (y = x /\ y ∉ bd) := by
 unfold addN
 split
 ·rename_i h
  constructor
  ·exact .inl
  ·rintro (h1 | ⟨rfl, h1⟩)
   ·exact h1
   ·exact h.resolve_left h1
 ·rename_i h
  rw [not_or] at h
  rw [List.mem_cons]
  constructor
  ·rintro (rfl | h1)
   ·exact .inr ⟨rfl, h.1⟩
   ·exact .inl h1
  ·rintro (h1 | ⟨rfl, _⟩)
   ·exact .inr h1
   ·exact .inl rfl
theorem mem_fr (t : Tree) : ∀ (y : List Nat) (bd F : List (List Nat)), y ∈ fr t bd F ↔ y ∈ F \/ (FV t y /\ y ∉ bd) := by
 induction t with
 | num i => intro y bd F; exact ⟨.inl, fun h => h.elim id fun h => h.1.elim⟩
 | name x => intro y bd F; exact mem_addN
 | fn x b ih => intro y bd F; rw [show fr (.fn x b) bd F = fr b (bd ++ [x]) F from rfl, ih, List.mem_append, List.mem_singleton, not_or, show FV (.fn x b) y = (FV b y /\ y ≠ x) from rfl]; grind
 | call a b iha ihb => intro y bd F; rw [show fr (.call a b) bd F = fr b bd (fr a bd F) from rfl, ihb, iha, show FV (.call a b) y = (FV a y \/ FV b y) from rfl]; grind
 | plus a b iha ihb => intro y bd F; rw [show fr (.plus a b) bd F = fr b bd (fr a bd F) from rfl, ihb, iha, show FV (.plus a b) y = (FV a y \/ FV b y) from rfl]; grind
 | less a b iha ihb => intro y bd F; rw [show fr (.less a b) bd F = fr b bd (fr a bd F) from rfl, ihb, iha, show FV (.less a b) y = (FV a y \/ FV b y) from rfl]; grind
 | ite c a b ihc iha ihb => intro y bd F; rw [show fr (.ite c a b) bd F = fr b bd (fr a bd (fr c bd F)) from rfl, ihb, iha, ihc, show FV (.ite c a b) y = (FV c y \/ FV a y \/ FV b y) from rfl]; grind
 | lt x e b ihe ihb => intro y bd F; rw [show fr (.lt x e b) bd F = fr b (bd ++ [x]) (fr e bd F) from rfl, ihb, ihe, List.mem_append, List.mem_singleton, not_or, show FV (.lt x e b) y = (FV e y \/ (FV b y /\ y ≠ x)) from rfl]; grind
def cl (t : Tree) : Prop := ∀ y, ¬ FV t y
def up (n : Nat) : Nat := if n = 0 then 0 else n + 1
noncomputable def occ (x : List Nat) (t : Tree) : Nat := Tree.rec (fun J => 0) (fun y => if y = x then 1 else 0) (fun y J o => if y = x then 0 else up o) (fun J J a b => max (up a) (up b)) (fun J J a b => max (up a) (up b)) (fun J J a b => max (up a) (up b)) (fun J J J c a b => max (up c) (max (up a) (up b))) (fun y J J e b => max (up e) (if y = x then 0 else up b)) t
theorem up_le {n m : Nat} (h : n <= m) : up n <= m + 1 := by unfold up; split <;> lia
theorem up_mono {n m : Nat} (h : n <= m) : up n <= up m := by unfold up; split <;> split <;> lia
theorem mx {a b c : Nat} (h1 : a <= c) (h2 : b <= c) : max a b <= c := Nat.max_le.mpr ⟨h1, h2⟩
theorem occ_dp (x : List Nat) (t : Tree) : occ x t <= dp t := by
 induction t with
 | num i => exact Nat.zero_le _
 | name y => show (if y = x then 1 else 0) <= 1; split <;> lia
 | fn y b ib => show (if y = x then 0 else up (occ x b)) <= dp b + 1; have := up_le ib; split <;> lia
 | call a b ia ib => exact mx (Nat.le_trans (up_le ia) (Nat.succ_le_succ (Nat.le_max_left _ _))) (Nat.le_trans (up_le ib) (Nat.succ_le_succ (Nat.le_max_right _ _)))
 | plus a b ia ib => exact mx (Nat.le_trans (up_le ia) (Nat.succ_le_succ (Nat.le_max_left _ _))) (Nat.le_trans (up_le ib) (Nat.succ_le_succ (Nat.le_max_right _ _)))
 | less a b ia ib => exact mx (Nat.le_trans (up_le ia) (Nat.succ_le_succ (Nat.le_max_left _ _))) (Nat.le_trans (up_le ib) (Nat.succ_le_succ (Nat.le_max_right _ _)))
 | ite c a b ic ia ib => exact mx (Nat.le_trans (up_le ic) (Nat.succ_le_succ (Nat.le_max_left _ _))) (mx (Nat.le_trans (up_le ia) (Nat.succ_le_succ (Nat.le_trans (Nat.le_max_left _ _) (Nat.le_max_right _ _)))) (Nat.le_trans (up_le ib) (Nat.succ_le_succ (Nat.le_trans (Nat.le_max_right _ _) (Nat.le_max_right _ _)))))
 | lt y e b ie ib => exact mx (Nat.le_trans (up_le ie) (Nat.succ_le_succ (Nat.le_max_left _ _))) (by show (if y = x then 0 else up (occ x b)) <= max (dp e) (dp b) + 1; have := up_le ib; have := Nat.le_max_right (dp e) (dp b); split <;> lia)
theorem occ_no {x : List Nat} {t : Tree} (h : ¬ FV t x) : occ x t = 0 := by
 have u0 : up 0 = 0 := rfl
 induction t with
 | num i => rfl
 | name y => exact if_neg fun q => h q.symm
 | fn y b ib => show (if y = x then 0 else up (occ x b)) = 0; split; rfl; rw [ib fun q => h ⟨q, fun z => by subst z; contradiction⟩]; rfl
 | call a b ia ib => show max (up (occ x a)) (up (occ x b)) = 0; rw [ia fun q => h (.inl q), ib fun q => h (.inr q)]; rfl
 | plus a b ia ib => show max (up (occ x a)) (up (occ x b)) = 0; rw [ia fun q => h (.inl q), ib fun q => h (.inr q)]; rfl
 | less a b ia ib => show max (up (occ x a)) (up (occ x b)) = 0; rw [ia fun q => h (.inl q), ib fun q => h (.inr q)]; rfl
 | ite c a b ic ia ib => show max (up (occ x c)) (max (up (occ x a)) (up (occ x b))) = 0; rw [ic fun q => h (.inl q), ia fun q => h (.inr (.inl q)), ib fun q => h (.inr (.inr q))]; rfl
 | lt y e b ie ib => show max (up (occ x e)) (if y = x then 0 else up (occ x b)) = 0; rw [ie fun q => h (.inl q)]; split; rfl; rw [ib fun q => h (.inr ⟨q, fun z => by subst z; contradiction⟩)]; rfl
def top (o v : Nat) : Nat := if o = 0 then 0 else o + v
theorem top_up (o v : Nat) : top (up o) v = if o = 0 then 0 else o + v + 1 := by unfold top up; split; simp [*]; rw [if_neg (by lia)]; lia
theorem beq_l {x y : List Nat} {α : Type} {a b : α} : (Bool.casesOn (motive := fun J => α) (x == y) a b) = if x = y then b else a := by
 by_cases h : x = y
 ·rw [if_pos h, beq_iff_eq.mpr h]
 ·rw [if_neg h, beq_eq_false_iff_ne.mpr h]
theorem top_step {o v m d : Nat} (h : d <= max m (top o v)) (k : Nat) (hk : m + 1 <= k) (j : Nat) (hj : top (up o) v <= j) : d + 1 <= max k j := by
 rw [top_up] at hj
 unfold top at h
 by_cases q : o = 0
 ·rw [if_pos q] at h
  have := Nat.le_max_left k j; rw [Nat.max_eq_left (Nat.zero_le _)] at h; lia
 ·rw [if_neg q] at h hj
  rcases Nat.le_total m (o + v) with z | z
  ·rw [Nat.max_eq_right z] at h; have := Nat.le_max_right k j; lia
  ·rw [Nat.max_eq_left z] at h; have := Nat.le_max_left k j; lia
theorem top_mono {o o' v : Nat} (h : o <= o') : top o v <= top o' v := by unfold top; split <;> split <;> lia
theorem dp_sub (x : List Nat) (u t : Tree) : dp (subT x u t) <= max (dp t) (top (occ x t) (dp u)) := by
 have L := Nat.le_max_left
 have R := Nat.le_max_right
 induction t with
 | num i => exact L _ _
 | name y =>
  show dp (Bool.casesOn (motive := fun J => Tree) (y == x) (.name y) u) <= max 1 (top (if y = x then 1 else 0) (dp u))
  rw [beq_l]
  split
  ·exact Nat.le_trans (Nat.le_add_left _ _) (R _ _)
  ·exact L _ _
 | fn y b ib =>
  show dp (Bool.casesOn (motive := fun J => Tree) (y == x) (subT x u b) b) + 1 <= max (dp b + 1) (top (if y = x then 0 else up (occ x b)) (dp u))
  rw [beq_l]
  split
  ·exact L _ _
  ·exact top_step ib _ (Nat.le_refl _) _ (Nat.le_refl _)
 | call a b ia ib =>
  show max (dp (subT x u a)) (dp (subT x u b)) + 1 <= max (max (dp a) (dp b) + 1) (top (max (up (occ x a)) (up (occ x b))) (dp u))
  have h1 := top_step ia (max (dp a) (dp b) + 1) (Nat.succ_le_succ (L _ _)) _ (top_mono (L (up (occ x a)) (up (occ x b))))
  have h2 := top_step ib (max (dp a) (dp b) + 1) (Nat.succ_le_succ (R _ _)) _ (top_mono (R (up (occ x a)) (up (occ x b))))
  exact Nat.succ_le_of_lt (Nat.max_lt.mpr ⟨h1, h2⟩)
 | plus a b ia ib =>
  show max (dp (subT x u a)) (dp (subT x u b)) + 1 <= max (max (dp a) (dp b) + 1) (top (max (up (occ x a)) (up (occ x b))) (dp u))
  have h1 := top_step ia (max (dp a) (dp b) + 1) (Nat.succ_le_succ (L _ _)) _ (top_mono (L (up (occ x a)) (up (occ x b))))
  have h2 := top_step ib (max (dp a) (dp b) + 1) (Nat.succ_le_succ (R _ _)) _ (top_mono (R (up (occ x a)) (up (occ x b))))
  exact Nat.succ_le_of_lt (Nat.max_lt.mpr ⟨h1, h2⟩)
 | less a b ia ib =>
  show max (dp (subT x u a)) (dp (subT x u b)) + 1 <= max (max (dp a) (dp b) + 1) (top (max (up (occ x a)) (up (occ x b))) (dp u))
  have h1 := top_step ia (max (dp a) (dp b) + 1) (Nat.succ_le_succ (L _ _)) _ (top_mono (L (up (occ x a)) (up (occ x b))))
  have h2 := top_step ib (max (dp a) (dp b) + 1) (Nat.succ_le_succ (R _ _)) _ (top_mono (R (up (occ x a)) (up (occ x b))))
  exact Nat.succ_le_of_lt (Nat.max_lt.mpr ⟨h1, h2⟩)
 | ite c a b ic ia ib =>
  show max (dp (subT x u c)) (max (dp (subT x u a)) (dp (subT x u b))) + 1 <= max (max (dp c) (max (dp a) (dp b)) + 1) (top (max (up (occ x c)) (max (up (occ x a)) (up (occ x b)))) (dp u))
  have h0 := top_step ic (max (dp c) (max (dp a) (dp b)) + 1) (Nat.succ_le_succ (L _ _)) _ (top_mono (L (up (occ x c)) (max (up (occ x a)) (up (occ x b)))))
  have h1 := top_step ia (max (dp c) (max (dp a) (dp b)) + 1) (Nat.succ_le_succ (Nat.le_trans (L _ _) (R _ _))) _ (top_mono (Nat.le_trans (L (up (occ x a)) (up (occ x b))) (R (up (occ x c)) _)))
  have h2 := top_step ib (max (dp c) (max (dp a) (dp b)) + 1) (Nat.succ_le_succ (Nat.le_trans (R _ _) (R _ _))) _ (top_mono (Nat.le_trans (R (up (occ x a)) (up (occ x b))) (R (up (occ x c)) _)))
  exact Nat.succ_le_of_lt (Nat.max_lt.mpr ⟨h0, Nat.max_lt.mpr ⟨h1, h2⟩⟩)
 | lt y e b ie ib =>
  show max (dp (subT x u e)) (dp (Bool.casesOn (motive := fun J => Tree) (y == x) (subT x u b) b)) + 1 <= max (max (dp e) (dp b) + 1) (top (max (up (occ x e)) (if y = x then 0 else up (occ x b))) (dp u))
  rw [beq_l]
  have h1 := top_step ie (max (dp e) (dp b) + 1) (Nat.succ_le_succ (L _ _)) _ (top_mono (L (up (occ x e)) (if y = x then 0 else up (occ x b))))
  refine Nat.succ_le_of_lt (Nat.max_lt.mpr ⟨h1, ?_⟩)
  split
  ·exact Nat.lt_of_lt_of_le (Nat.lt_succ_of_le (R (dp e) (dp b))) (L _ _)
  ·exact top_step ib (max (dp e) (dp b) + 1) (Nat.succ_le_succ (R _ _)) _ (top_mono (R (up (occ x e)) (up (occ x b))))
set_option tactic.hygienic true in
theorem fv_sub {x : List Nat} {u t : Tree} {y : List Nat} : FV (subT x u t) y -> FV u y \/ (FV t y /\ y ≠ x) := by
 induction t with
 | num i => exact fun h => h.elim
 | name z =>
  show FV (Bool.casesOn (motive := fun J => Tree) (z == x) (.name z) u) y -> _
  rw [beq_l]
  split
  ·exact .inl
  ·rename_i q; exact fun h => .inr ⟨h, fun e => q ((show y = z from h) ▸ e)⟩
 | fn z b ib =>
  show FV (Bool.casesOn (motive := fun J => Tree) (z == x) (subT x u b) b) y /\ y ≠ z -> _
  rw [beq_l]
  split
  ·rename_i q; exact fun h => .inr ⟨h, q ▸ h.2⟩
  ·exact fun h => (ib h.1).elim .inl fun k => .inr ⟨⟨k.1, h.2⟩, k.2⟩
 | call a b ia ib => exact fun h => h.elim (fun h => (ia h).elim .inl fun k => .inr ⟨.inl k.1, k.2⟩) (fun h => (ib h).elim .inl fun k => .inr ⟨.inr k.1, k.2⟩)
 | plus a b ia ib => exact fun h => h.elim (fun h => (ia h).elim .inl fun k => .inr ⟨.inl k.1, k.2⟩) (fun h => (ib h).elim .inl fun k => .inr ⟨.inr k.1, k.2⟩)
 | less a b ia ib => exact fun h => h.elim (fun h => (ia h).elim .inl fun k => .inr ⟨.inl k.1, k.2⟩) (fun h => (ib h).elim .inl fun k => .inr ⟨.inr k.1, k.2⟩)
 | ite c a b ic ia ib => exact fun h => h.elim (fun h => (ic h).elim .inl fun k => .inr ⟨.inl k.1, k.2⟩) fun h => h.elim (fun h => (ia h).elim .inl fun k => .inr ⟨.inr (.inl k.1), k.2⟩) (fun h => (ib h).elim .inl fun k => .inr ⟨.inr (.inr k.1), k.2⟩)
 | lt z e b ie ib =>
  show FV (subT x u e) y \/ (FV (Bool.casesOn (motive := fun J => Tree) (z == x) (subT x u b) b) y /\ y ≠ z) -> _
  rw [beq_l]
  rintro (h | h)
  ·exact (ie h).elim .inl fun k => .inr ⟨.inl k.1, k.2⟩
  ·by_cases q : z = x
   ·rw [if_pos q] at h; exact .inr ⟨.inr h, q ▸ h.2⟩
   ·rw [if_neg q] at h; exact (ib h.1).elim .inl fun k => .inr ⟨.inr ⟨k.1, h.2⟩, k.2⟩
theorem occ_sub {x y : List Nat} {u : Tree} (hn : y ≠ x) (hu : ¬ FV u y) (t : Tree) : occ y (subT x u t) <= occ y t := by
 have M : ∀ {a b c d : Nat}, a <= c -> b <= d -> max a b <= max c d := fun h1 h2 => mx (Nat.le_trans h1 (Nat.le_max_left _ _)) (Nat.le_trans h2 (Nat.le_max_right _ _))
 induction t with
 | num i => exact Nat.le_refl _
 | name z =>
  show occ y (Bool.casesOn (motive := fun J => Tree) (z == x) (.name z) u) <= _
  rw [beq_l]
  split
  ·rw [occ_no hu]; exact Nat.zero_le _
  ·exact Nat.le_refl _
 | fn z b ib =>
  show (if z = y then 0 else up (occ y (Bool.casesOn (motive := fun J => Tree) (z == x) (subT x u b) b))) <= (if z = y then 0 else up (occ y b))
  rw [beq_l]
  split
  ·exact Nat.le_refl _
  ·split
   ·exact Nat.le_refl _
   ·exact up_mono ib
 | call a b ia ib => exact M (up_mono ia) (up_mono ib)
 | plus a b ia ib => exact M (up_mono ia) (up_mono ib)
 | less a b ia ib => exact M (up_mono ia) (up_mono ib)
 | ite c a b ic ia ib => exact M (up_mono ic) (M (up_mono ia) (up_mono ib))
 | lt z e b ie ib =>
  show max (up (occ y (subT x u e))) (if z = y then 0 else up (occ y (Bool.casesOn (motive := fun J => Tree) (z == x) (subT x u b) b))) <= max (up (occ y e)) (if z = y then 0 else up (occ y b))
  rw [beq_l]
  refine M (up_mono ie) ?_
  split
  ·exact Nat.le_refl _
  ·split
   ·exact Nat.le_refl _
   ·exact up_mono ib
def Qk (K : Nat) (t : Tree) : Prop := Tree.rec (motive := fun J => Prop) (fun J => True) (fun y => y ≠ []) (fun y b q => (y ≠ [] /\ occ y b <= K) /\ q) (fun J J a b => a /\ b) (fun J J a b => a /\ b) (fun J J a b => a /\ b) (fun J J J c a b => c /\ a /\ b) (fun y J b e q => (y ≠ [] /\ occ y b <= K) /\ e /\ q) t
theorem ne_of_name {x : List Nat} (h : isName x = true) : x ≠ [] := fun q => by subst q; cases h
theorem Qk_of {K : Nat} {t : Tree} (g : gd t) : dp t <= K -> Qk K t := by
 have L := Nat.le_max_left
 have R := Nat.le_max_right
 induction t with
 | num i => exact fun J => trivial
 | name y => exact fun J => ne_of_name g
 | fn y b ib => exact fun h => ⟨⟨ne_of_name g.1, Nat.le_trans (occ_dp y b) (Nat.le_of_succ_le h)⟩, ib g.2 (Nat.le_of_succ_le h)⟩
 | call a b ia ib => exact fun h => ⟨ia g.1 (Nat.le_trans (L _ _) (Nat.le_of_succ_le h)), ib g.2 (Nat.le_trans (R _ _) (Nat.le_of_succ_le h))⟩
 | plus a b ia ib => exact fun h => ⟨ia g.1 (Nat.le_trans (L _ _) (Nat.le_of_succ_le h)), ib g.2 (Nat.le_trans (R _ _) (Nat.le_of_succ_le h))⟩
 | less a b ia ib => exact fun h => ⟨ia g.1 (Nat.le_trans (L _ _) (Nat.le_of_succ_le h)), ib g.2 (Nat.le_trans (R _ _) (Nat.le_of_succ_le h))⟩
 | ite c a b ic ia ib => exact fun h => ⟨ic g.1 (Nat.le_trans (L _ _) (Nat.le_of_succ_le h)), ia g.2.1 (Nat.le_trans (Nat.le_trans (L _ _) (R _ _)) (Nat.le_of_succ_le h)), ib g.2.2 (Nat.le_trans (Nat.le_trans (R _ _) (R _ _)) (Nat.le_of_succ_le h))⟩
 | lt y e b ie ib => exact fun h => ⟨⟨ne_of_name g.1, Nat.le_trans (occ_dp y b) (Nat.le_trans (R _ _) (Nat.le_of_succ_le h))⟩, ie g.2.1 (Nat.le_trans (L _ _) (Nat.le_of_succ_le h)), ib g.2.2 (Nat.le_trans (R _ _) (Nat.le_of_succ_le h))⟩
set_option tactic.hygienic true in
theorem Qk_sub {K : Nat} {x : List Nat} {u t : Tree} (hu : Qk K u) (hc : cl u) (ht : Qk K t) : Qk K (subT x u t) := by
 induction t with
 | num i => exact trivial
 | name y =>
  show Qk K (Bool.casesOn (motive := fun J => Tree) (y == x) (.name y) u)
  rw [beq_l]; split
  ·exact hu
  ·exact ht
 | fn y b ib =>
  show (y ≠ [] /\ occ y (Bool.casesOn (motive := fun J => Tree) (y == x) (subT x u b) b) <= K) /\ Qk K (Bool.casesOn (motive := fun J => Tree) (y == x) (subT x u b) b)
  rw [beq_l]; split
  ·exact ht
  ·rename_i q; exact ⟨⟨ht.1.1, Nat.le_trans (occ_sub q (hc y) b) ht.1.2⟩, ib ht.2⟩
 | call a b ia ib => exact ⟨ia ht.1, ib ht.2⟩
 | plus a b ia ib => exact ⟨ia ht.1, ib ht.2⟩
 | less a b ia ib => exact ⟨ia ht.1, ib ht.2⟩
 | ite c a b ic ia ib => exact ⟨ic ht.1, ia ht.2.1, ib ht.2.2⟩
 | lt y e b ie ib =>
  show (y ≠ [] /\ occ y (Bool.casesOn (motive := fun J => Tree) (y == x) (subT x u b) b) <= K) /\ Qk K (subT x u e) /\ Qk K (Bool.casesOn (motive := fun J => Tree) (y == x) (subT x u b) b)
  rw [beq_l]; split
  ·exact ⟨ht.1, ie ht.2.1, ht.2.2⟩
  ·rename_i q; exact ⟨⟨ht.1.1, Nat.le_trans (occ_sub q (hc y) b) ht.1.2⟩, ie ht.2.1, ib ht.2.2⟩
theorem sub_nil {K : Nat} {u t : Tree} (h : Qk K t) : subT [] u t = t := by
 induction t with
 | num i => rfl
 | name y => show (Bool.casesOn (motive := fun J => Tree) (y == []) (.name y) u) = _; rw [beq_l, if_neg h]
 | fn y b ib => show Tree.fn y (Bool.casesOn (motive := fun J => Tree) (y == []) (subT [] u b) b) = _; rw [beq_l, if_neg h.1.1, ib h.2]
 | call a b ia ib => show Tree.call (subT [] u a) (subT [] u b) = _; rw [ia h.1, ib h.2]
 | plus a b ia ib => show Tree.plus (subT [] u a) (subT [] u b) = _; rw [ia h.1, ib h.2]
 | less a b ia ib => show Tree.less (subT [] u a) (subT [] u b) = _; rw [ia h.1, ib h.2]
 | ite c a b ic ia ib => show Tree.ite (subT [] u c) (subT [] u a) (subT [] u b) = _; rw [ic h.1, ia h.2.1, ib h.2.2]
 | lt y e b ie ib => show Tree.lt y (subT [] u e) (Bool.casesOn (motive := fun J => Tree) (y == []) (subT [] u b) b) = _; rw [beq_l, if_neg h.1.1, ie h.2.1, ib h.2.2]
theorem fill_fv {f : Fr} {t : Tree} {y : List Nat} (h : FV t y) : FV (fill f t) y := by
 cases f <;> first | exact .inl h | exact .inr h
theorem fill_fv2 {f : Fr} {t t' : Tree} {y : List Nat} (h : FV (fill f t') y) : FV (fill f t) y \/ FV t' y := by
 cases f with
 | call1 b => exact h.elim .inr fun k => .inl (.inr k)
 | call2 a => exact h.elim (fun k => .inl (.inl k)) .inr
 | plus1 b => exact h.elim .inr fun k => .inl (.inr k)
 | plus2 a => exact h.elim (fun k => .inl (.inl k)) .inr
 | less1 b => exact h.elim .inr fun k => .inl (.inr k)
 | less2 a => exact h.elim (fun k => .inl (.inl k)) .inr
 | ite1 a b => exact h.elim .inr fun k => .inl (.inr k)
 | lt2 x b => exact h.elim .inr fun k => .inl (.inr k)
theorem plug_fv {t : Tree} {y : List Nat} (h : FV t y) : ∀ fs : List Fr, FV (plug fs t) y
 | [] => h
 | f :: fs => fill_fv (plug_fv h fs)
theorem plug_fv2 {t t' : Tree} {y : List Nat} : ∀ fs : List Fr, FV (plug fs t') y -> FV (plug fs t) y \/ FV t' y
 | [], h => .inr h
 | f :: fs, h => (fill_fv2 (t := plug fs t) h).elim .inl fun k => (plug_fv2 (t := t) fs k).elim (fun k => .inl (fill_fv k)) .inr
theorem fill_q {K : Nat} {f : Fr} {t : Tree} (h : Qk K (fill f t)) : Qk K t := by
 cases f with
 | call1 b => exact h.1
 | call2 a => exact h.2
 | plus1 b => exact h.1
 | plus2 a => exact h.2
 | less1 b => exact h.1
 | less2 a => exact h.2
 | ite1 a b => exact h.1
 | lt2 x b => exact h.2.1
theorem fill_q2 {K : Nat} {f : Fr} {t t' : Tree} (h : Qk K (fill f t)) (h' : Qk K t') : Qk K (fill f t') := by
 cases f with
 | call1 b => exact ⟨h', h.2⟩
 | call2 a => exact ⟨h.1, h'⟩
 | plus1 b => exact ⟨h', h.2⟩
 | plus2 a => exact ⟨h.1, h'⟩
 | less1 b => exact ⟨h', h.2⟩
 | less2 a => exact ⟨h.1, h'⟩
 | ite1 a b => exact ⟨h', h.2⟩
 | lt2 x b => exact ⟨h.1, h', h.2.2⟩
theorem plug_q {K : Nat} {t : Tree} : ∀ fs : List Fr, Qk K (plug fs t) -> Qk K t
 | [], h => h
 | f :: fs, h => plug_q fs (fill_q h)
theorem plug_q2 {K : Nat} {t t' : Tree} (h' : Qk K t') : ∀ fs : List Fr, Qk K (plug fs t) -> Qk K (plug fs t')
 | [], _ => h'
 | f :: fs, h => fill_q2 h (plug_q2 h' fs (fill_q h))
theorem fill_dp2 (f : Fr) (t t' : Tree) : dp (fill f t') <= max (dp (fill f t)) (dp t' + 1) := by
 have key : ∀ a b c : Nat, max a b + 1 <= max (max c b + 1) (a + 1) := fun a b c => by
  rcases Nat.le_total a b with q | q
  ·rw [Nat.max_eq_right q]; exact Nat.le_trans (Nat.succ_le_succ (Nat.le_max_right c b)) (Nat.le_max_left _ _)
  ·rw [Nat.max_eq_left q]; exact Nat.le_max_right _ _
 cases f with
 | call1 b => exact key _ _ _
 | plus1 b => exact key _ _ _
 | less1 b => exact key _ _ _
 | ite1 a b => exact key _ _ _
 | lt2 x b => exact key _ _ _
 | call2 a => show max (dp a) (dp t') + 1 <= max (max (dp a) (dp t) + 1) (dp t' + 1); rw [Nat.max_comm (dp a), Nat.max_comm (dp a)]; exact key _ _ _
 | plus2 a => show max (dp a) (dp t') + 1 <= max (max (dp a) (dp t) + 1) (dp t' + 1); rw [Nat.max_comm (dp a), Nat.max_comm (dp a)]; exact key _ _ _
 | less2 a => show max (dp a) (dp t') + 1 <= max (max (dp a) (dp t) + 1) (dp t' + 1); rw [Nat.max_comm (dp a), Nat.max_comm (dp a)]; exact key _ _ _
theorem plug_dp2 (t t' : Tree) : ∀ fs : List Fr, dp (plug fs t') <= max (dp (plug fs t)) (dp t' + fs.length)
 | [] => Nat.le_max_right _ _
 | f :: fs => by
  have h1 := fill_dp2 f (plug fs t) (plug fs t')
  have h2 := plug_dp2 t t' fs
  have h3 := fill_dp f (plug fs t)
  show dp (fill f (plug fs t')) <= max (dp (fill f (plug fs t))) (dp t' + (fs.length + 1))
  rcases Nat.le_total (dp (plug fs t)) (dp t' + fs.length) with q | q
  ·rw [Nat.max_eq_right q] at h2
   exact Nat.le_trans h1 (mx (Nat.le_max_left _ _) (Nat.le_trans (by lia) (Nat.le_max_right _ _)))
  ·rw [Nat.max_eq_left q] at h2
   exact Nat.le_trans h1 (mx (Nat.le_max_left _ _) (Nat.le_trans (by lia) (Nat.le_max_left _ _)))
theorem Deed.keeps {K : Nat} {r r' : Tree} (h : Deed r r') (hc : cl r) (hq : Qk K r) : cl r' /\ Qk K r' /\ dp r' <= dp r + K := by
 have sub : ∀ (x : List Nat) (b v : Tree), (∀ y, FV b y -> y = x) -> occ x b <= K -> cl v -> Qk K v -> Qk K b -> ∀ m, dp b <= m -> dp v <= m -> cl (subT x v b) /\ Qk K (subT x v b) /\ dp (subT x v b) <= m + K := fun x b v h1 h2 h3 h4 h5 m m1 m2 => ⟨fun y q => (fv_sub q).elim (h3 y) fun k => k.2 (h1 y k.1), Qk_sub h4 h3 h5, by
  have := dp_sub x v b
  refine Nat.le_trans this (mx (by lia) ?_)
  unfold top; split <;> lia⟩
 have le := Nat.le_max_left
 have ri := Nat.le_max_right
 cases h with
 | call x b v h => exact sub x b v (fun y q => Decidable.byContradiction fun z => hc y (.inl ⟨q, z⟩)) hq.1.1.2 (fun y q => hc y (.inr q)) hq.2 hq.1.2 _ (Nat.le_trans (Nat.le_succ _) (Nat.le_trans (le (dp b + 1) (dp v)) (Nat.le_succ _))) (Nat.le_trans (ri (dp b + 1) (dp v)) (Nat.le_succ _))
 | lt x v b h => exact sub x b v (fun y q => Decidable.byContradiction fun z => hc y (.inr ⟨q, z⟩)) hq.1.2 (fun y q => hc y (.inl q)) hq.2.1 hq.2.2 _ (Nat.le_trans (ri (dp v) (dp b)) (Nat.le_succ _)) (Nat.le_trans (le (dp v) (dp b)) (Nat.le_succ _))
 | plus i j => exact ⟨fun y q => q.elim, trivial, Nat.le_trans (dp_pos _) (Nat.le_add_right _ _)⟩
 | less i j => exact ⟨fun y q => q.elim, trivial, Nat.le_trans (dp_pos _) (Nat.le_add_right _ _)⟩
 | ite0 a b => exact ⟨fun y q => hc y (.inr (.inr q)), hq.2.2, Nat.le_trans (Nat.le_trans (Nat.le_trans (ri _ _) (ri 1 _)) (Nat.le_succ _)) (Nat.le_add_right _ _)⟩
 | ite1 i a b h => exact ⟨fun y q => hc y (.inr (.inl q)), hq.2.1, Nat.le_trans (Nat.le_trans (Nat.le_trans (le _ _) (ri 1 _)) (Nat.le_succ _)) (Nat.le_add_right _ _)⟩
structure Jt (K n : Nat) (t : Tree) : Prop where
 c : cl t
 q : Qk K t
 d : dp t <= K * (n + 1)
theorem St.keeps {K n : Nat} {t t' : Tree} (h : St t t') (j : Jt K n t) : Jt K (n + 1) t' := by
 obtain ⟨fs, r, r', hf, hd, rfl, rfl⟩ := h
 obtain ⟨h1, h2, h3⟩ := hd.keeps (K := K) (fun y q => j.c y (plug_fv q fs)) (plug_q fs j.q)
 refine ⟨fun y q => (plug_fv2 (t := r) fs q).elim (j.c y) (h1 y), plug_q2 h2 fs j.q, ?_⟩
 have h4 := plug_dp2 r r' fs
 have h5 := plug_dp fs r
 have h6 := j.d
 have e : K * (n + 1 + 1) = K * (n + 1) + K := by rw [Nat.mul_succ]
 exact Nat.le_trans h4 (mx (by lia) (by lia))
theorem goes {t : Tree} (hc : cl t) (hv : isV t = false) : (∃ t', St t t') \/ ∃ c, StB t c /\ (c = 73 \/ c = 85) := by
 have here : ∀ {r r' : Tree}, Deed r r' -> (∃ t', St r t') \/ ∃ c, StB r c /\ (c = 73 \/ c = 85) := fun h => .inl ⟨_, [], _, _, fun J q => (nomatch q), h, rfl, rfl⟩
 have bad : ∀ {r : Tree} {c : Addr}, Bad r c -> (c = 73 \/ c = 85) -> (∃ t', St r t') \/ ∃ c, StB r c /\ (c = 73 \/ c = 85) := fun h k => .inr ⟨_, ⟨[], _, fun J q => (nomatch q), h, rfl⟩, k⟩
 have inn : ∀ (f : Fr) (t : Tree), fok f -> ((∃ t', St t t') \/ ∃ c, StB t c /\ (c = 73 \/ c = 85)) -> (∃ t', St (fill f t) t') \/ ∃ c, StB (fill f t) c /\ (c = 73 \/ c = 85) := by
  intro f t hf h
  rcases h with ⟨t', fs, r, r', h1, h2, rfl, rfl⟩ | ⟨c, ⟨fs, r, h1, h2, rfl⟩, h3⟩
  ·exact .inl ⟨_, f :: fs, r, r', fun g q => (List.mem_cons.mp q).elim (fun e => e ▸ hf) (h1 g), h2, rfl, rfl⟩
  ·exact .inr ⟨c, ⟨f :: fs, r, fun g q => (List.mem_cons.mp q).elim (fun e => e ▸ hf) (h1 g), h2, rfl⟩, h3⟩
 have val : ∀ {t : Tree}, isV t = true -> (∃ i, t = .num i) \/ ∃ x b, t = .fn x b := fun {t} h => by
  cases t with
  | num i => exact .inl ⟨i, rfl⟩
  | fn x b => exact .inr ⟨x, b, rfl⟩
  | _ => cases h
 induction t with
 | num i => cases hv
 | name x => exact (hc x rfl).elim
 | fn x b _ => cases hv
 | call a b ia ib =>
  cases ha : isV a with
  | false => exact inn (.call1 b) a trivial (ia (fun y q => hc y (.inl q)) ha)
  | true =>
   cases hb : isV b with
   | false => exact inn (.call2 a) b ha (ib (fun y q => hc y (.inr q)) hb)
   | true =>
    rcases val ha with ⟨i, rfl⟩ | ⟨x, b', rfl⟩
    ·exact bad (.call i b hb) (.inr rfl)
    ·exact here (.call x b' b hb)
 | plus a b ia ib =>
  cases ha : isV a with
  | false => exact inn (.plus1 b) a trivial (ia (fun y q => hc y (.inl q)) ha)
  | true =>
   cases hb : isV b with
   | false => exact inn (.plus2 a) b ha (ib (fun y q => hc y (.inr q)) hb)
   | true =>
    rcases val ha with ⟨i, rfl⟩ | ⟨x, b', rfl⟩
    ·rcases val hb with ⟨j, rfl⟩ | ⟨x, b', rfl⟩
     ·exact here (.plus i j)
     ·exact bad (.plus2 i x b') (.inl rfl)
    ·exact bad (.plus1 x b' b hb) (.inl rfl)
 | less a b ia ib =>
  cases ha : isV a with
  | false => exact inn (.less1 b) a trivial (ia (fun y q => hc y (.inl q)) ha)
  | true =>
   cases hb : isV b with
   | false => exact inn (.less2 a) b ha (ib (fun y q => hc y (.inr q)) hb)
   | true =>
    rcases val ha with ⟨i, rfl⟩ | ⟨x, b', rfl⟩
    ·rcases val hb with ⟨j, rfl⟩ | ⟨x, b', rfl⟩
     ·exact here (.less i j)
     ·exact bad (.less2 i x b') (.inl rfl)
    ·exact bad (.less1 x b' b hb) (.inl rfl)
 | ite c a b ic ia ib =>
  cases ha : isV c with
  | false => exact inn (.ite1 a b) c trivial (ic (fun y q => hc y (.inl q)) ha)
  | true =>
   rcases val ha with ⟨i, rfl⟩ | ⟨x, b', rfl⟩
   ·by_cases h : i = 0
    ·subst h; exact here (.ite0 a b)
    ·exact here (.ite1 i a b h)
   ·exact bad (.ite x b' a b) (.inl rfl)
 | lt x e b ie ib =>
  cases ha : isV e with
  | false => exact inn (.lt2 x b) e trivial (ie (fun y q => hc y (.inl q)) ha)
  | true => exact here (.lt x e b ha)
end Mine.L09
end
section
namespace Mine.L09
variable {w : World} {d : Nat}
theorem leaf_s (s : List Nat) : CallOK (G w) (d + 1) 265 [.str s, .str s] (.val (.bool true)) := call_go (n := 0) (tp := []) (b__law_leaf w d) rfl (b__law_leaf_x w d) rfl (by left) (P := (V.str s = V.str s /\ 0 <= 1900) /\ True) (by left) ⟨⟨rfl, by decide⟩, trivial⟩
theorem leaf_i (i : Int) : CallOK (G w) (d + 1) 265 [.int i, .int i] (.val (.bool true)) := call_go (n := 0) (tp := []) (b__law_leaf w d) rfl (b__law_leaf_x w d) rfl (by left) (P := (V.int i = V.int i /\ 0 <= 1900) /\ True) (by left) ⟨⟨rfl, by decide⟩, trivial⟩
noncomputable abbrev lds (T F : V) (x : List Nat) (u : V) (K : List V) (x5 x6 x7 x8 x9 : Option O) : Loc := [some (.val T), some (.val F), some (.val (.str x)), some (.val u), some (.own K), x5, x6, x7, x8, x9]
abbrev LW (w : World) (d : Nat) (ρ : Loc) (Φ : Fl -> Loc -> Prop) : Prop := WhP (c__law_led_261 w d) (l__law_led_261 w d) ρ Φ
abbrev LF (w : World) (d : Nat) (l : List V) (ρ ρ' : Loc) : Prop := ForOK (G w) d fi__law_led (.Name "_law_k" (qp 273 16 22)) (l__law_led_273 w d).xs l ρ .next ρ'
noncomputable abbrev rw3 (a b : V) (f : Bool) : V := .tup [a, b, .bool f]
section
variable {T F u : V} {x y : List Nat} {K : List V} {x5 x6 x7 x8 x9 : Option O} {Φ : Fl -> Loc -> Prop}
theorem led_s {s : List Nat} {f : Bool} (k : ∀ x5 x6 x7 x8 x9, LW w (d + 1) (lds T F x u K x5 x6 x7 x8 x9) Φ) : LW w (d + 1) (lds T F x u (rw3 (.str s) (.str s) f :: K) x5 x6 x7 x8 x9) Φ :=
 whp_go false (tp := [.r (.val (.bool true))]) (ρ' := lds T F x u K (some (.val (rw3 (.str s) (.str s) f))) (some (.val (.str s))) (some (.val (.str s))) x8 x9) (by left) (P := CallOK (G w) (d + 1) 265 [.str s, .str s] (.val (.bool true)) /\ True) (by left) ⟨leaf_s s, trivial⟩ (k _ _ _ _ _)
theorem led_i {i : Int} {f : Bool} (k : ∀ x5 x6 x7 x8 x9, LW w (d + 1) (lds T F x u K x5 x6 x7 x8 x9) Φ) : LW w (d + 1) (lds T F x u (rw3 (.int i) (.int i) f :: K) x5 x6 x7 x8 x9) Φ :=
 whp_go false (tp := [.r (.val (.bool true))]) (ρ' := lds T F x u K (some (.val (rw3 (.int i) (.int i) f))) (some (.val (.int i))) (some (.val (.int i))) x8 x9) (by left) (P := CallOK (G w) (d + 1) 265 [.int i, .int i] (.val (.bool true)) /\ True) (by left) ⟨leaf_i i, trivial⟩ (k _ _ _ _ _)
theorem led_hit {b : V} (hy : (y == x) = true) (hK : K.length < room) (k : ∀ x5 x6 x7 x8 x9, LW w d (lds T F x u (rw3 u b true :: K) x5 x6 x7 x8 x9) Φ) : LW w d (lds T F x u (rw3 (.tup [.str z_name, .str y]) b false :: K) x5 x6 x7 x8 x9) Φ :=
 whp_go false (tp := [.b true]) (ρ' := lds T F x u (rw3 u b true :: K) (some (.val (rw3 (.tup [.str z_name, .str y]) b false))) (some (.val (.tup [.str z_name, .str y]))) (some (.val b)) x8 x9) (by left) (P := (K.length < room) /\ ((y == x) = true) /\ True) (by left) ⟨hK, hy, trivial⟩ (k _ _ _ _ _)
noncomputable abbrev lq (T F : V) (x : List Nat) (u L M : V) (f : Bool) (K : List V) (x8 x9 : Option O) : Loc := lds T F x u K (some (.val (rw3 L M f))) (some (.val L)) (some (.val M)) x8 x9
noncomputable abbrev lr (T F : V) (x : List Nat) (u L M : V) (f : Bool) (K : List V) (k : Int) (b : Bool) : Loc := lq T F x u L M f K (some (.val (.int k))) (some (.val (.bool b)))
theorem led_go {ρ ρ1 ρ' : Loc} {l : List V} (pre : List Tk) {Q : Prop} (hf : LF w d l ρ1 ρ') (e : ∀ ρ', out (turn (c__law_led_261 w d) (l__law_led_261 w d) false ⟨ρ, pre ++ [.l .next ρ'], []⟩) = some (some .next, ρ', [])) (o : ∀ ρ', All (obs (turn (c__law_led_261 w d) (l__law_led_261 w d) false ⟨ρ, pre ++ [.l .next ρ'], []⟩)) = (LF w d l ρ1 ρ' /\ Q)) (q : Q) (h : LW w d ρ' Φ) : LW w d ρ Φ := whp_go false (e ρ') (o ρ') ⟨hf, q⟩ h
theorem led_t3 {a b c a2 b2 c2 : V} (hK : K.length + 4 < room) (k : ∀ x5 x6 x7 x8 x9, LW w d (lds T F x u (rw3 c c2 true :: rw3 b b2 true :: rw3 a a2 true :: K) x5 x6 x7 x8 x9) Φ) : LW w d (lds T F x u (rw3 (.tup [a, b, c]) (.tup [a2, b2, c2]) true :: K) x5 x6 x7 x8 x9) Φ := by
 have hf : LF w d [.int 0, .int 1, .int 2] (lq T F x u (.tup [a, b, c]) (.tup [a2, b2, c2]) true K x8 x9) (lr T F x u (.tup [a, b, c]) (.tup [a2, b2, c2]) true (rw3 c c2 true :: rw3 b b2 true :: rw3 a a2 true :: K) 2 true) := (for_go (i := 8) (ρ' := lr T F x u (.tup [a, b, c]) (.tup [a2, b2, c2]) true (rw3 a a2 true :: K) 0 true) (tp := [.b true]) (by left) (by left) (P := ((K : List V).length < room) /\ (true = true) /\ True) (by left) ⟨by (try simp only [List.length_cons]); lia, rfl, trivial⟩ (for_go (i := 8) (ρ' := lr T F x u (.tup [a, b, c]) (.tup [a2, b2, c2]) true (rw3 b b2 true :: rw3 a a2 true :: K) 1 true) (tp := [.b true]) (by left) (by left) (P := ((rw3 a a2 true :: K : List V).length < room) /\ (true = true) /\ True) (by left) ⟨by (try simp only [List.length_cons]); lia, rfl, trivial⟩ (for_go (i := 8) (ρ' := lr T F x u (.tup [a, b, c]) (.tup [a2, b2, c2]) true (rw3 c c2 true :: rw3 b b2 true :: rw3 a a2 true :: K) 2 true) (tp := [.b true]) (by left) (by left) (P := ((rw3 b b2 true :: rw3 a a2 true :: K : List V).length < room) /\ (true = true) /\ True) (by left) ⟨by (try simp only [List.length_cons]); lia, rfl, trivial⟩ for_nil)))
 exact led_go [] (Q := (3 <= 1000000) /\ True) hf (fun J => by left) (fun J => by left) ⟨by decide, trivial⟩ (k _ _ _ _ _)
theorem led_t4 {a b c e a2 b2 c2 e2 : V} (hK : K.length + 4 < room) (k : ∀ x5 x6 x7 x8 x9, LW w d (lds T F x u (rw3 e e2 true :: rw3 c c2 true :: rw3 b b2 true :: rw3 a a2 true :: K) x5 x6 x7 x8 x9) Φ) : LW w d (lds T F x u (rw3 (.tup [a, b, c, e]) (.tup [a2, b2, c2, e2]) true :: K) x5 x6 x7 x8 x9) Φ := by
 have hf : LF w d [.int 0, .int 1, .int 2, .int 3] (lq T F x u (.tup [a, b, c, e]) (.tup [a2, b2, c2, e2]) true K x8 x9) (lr T F x u (.tup [a, b, c, e]) (.tup [a2, b2, c2, e2]) true (rw3 e e2 true :: rw3 c c2 true :: rw3 b b2 true :: rw3 a a2 true :: K) 3 true) := (for_go (i := 8) (ρ' := lr T F x u (.tup [a, b, c, e]) (.tup [a2, b2, c2, e2]) true (rw3 a a2 true :: K) 0 true) (tp := [.b true]) (by left) (by left) (P := ((K : List V).length < room) /\ (true = true) /\ True) (by left) ⟨by (try simp only [List.length_cons]); lia, rfl, trivial⟩ (for_go (i := 8) (ρ' := lr T F x u (.tup [a, b, c, e]) (.tup [a2, b2, c2, e2]) true (rw3 b b2 true :: rw3 a a2 true :: K) 1 true) (tp := [.b true]) (by left) (by left) (P := ((rw3 a a2 true :: K : List V).length < room) /\ (true = true) /\ True) (by left) ⟨by (try simp only [List.length_cons]); lia, rfl, trivial⟩ (for_go (i := 8) (ρ' := lr T F x u (.tup [a, b, c, e]) (.tup [a2, b2, c2, e2]) true (rw3 c c2 true :: rw3 b b2 true :: rw3 a a2 true :: K) 2 true) (tp := [.b true]) (by left) (by left) (P := ((rw3 b b2 true :: rw3 a a2 true :: K : List V).length < room) /\ (true = true) /\ True) (by left) ⟨by (try simp only [List.length_cons]); lia, rfl, trivial⟩ (for_go (i := 8) (ρ' := lr T F x u (.tup [a, b, c, e]) (.tup [a2, b2, c2, e2]) true (rw3 e e2 true :: rw3 c c2 true :: rw3 b b2 true :: rw3 a a2 true :: K) 3 true) (tp := [.b true]) (by left) (by left) (P := ((rw3 c c2 true :: rw3 b b2 true :: rw3 a a2 true :: K : List V).length < room) /\ (true = true) /\ True) (by left) ⟨by (try simp only [List.length_cons]); lia, rfl, trivial⟩ for_nil))))
 exact led_go [] (Q := (4 <= 1000000) /\ True) hf (fun J => by left) (fun J => by left) ⟨by decide, trivial⟩ (k _ _ _ _ _)
theorem led_tnum {a a2 : V} (hK : K.length + 4 < room) (k : ∀ x5 x6 x7 x8 x9, LW w d (lds T F x u (rw3 a a2 true :: rw3 (.str z_num) (.str z_num) true :: K) x5 x6 x7 x8 x9) Φ) : LW w d (lds T F x u (rw3 (.tup [.str z_num, a]) (.tup [.str z_num, a2]) true :: K) x5 x6 x7 x8 x9) Φ := by
 have hf : LF w d [.int 0, .int 1] (lq T F x u (.tup [.str z_num, a]) (.tup [.str z_num, a2]) true K x8 x9) (lr T F x u (.tup [.str z_num, a]) (.tup [.str z_num, a2]) true (rw3 a a2 true :: rw3 (.str z_num) (.str z_num) true :: K) 1 true) := (for_go (i := 8) (ρ' := lr T F x u (.tup [.str z_num, a]) (.tup [.str z_num, a2]) true (rw3 (.str z_num) (.str z_num) true :: K) 0 true) (tp := [.b true]) (by left) (by left) (P := ((K : List V).length < room) /\ (true = true) /\ True) (by left) ⟨by (try simp only [List.length_cons]); lia, rfl, trivial⟩ (for_go (i := 8) (ρ' := lr T F x u (.tup [.str z_num, a]) (.tup [.str z_num, a2]) true (rw3 a a2 true :: rw3 (.str z_num) (.str z_num) true :: K) 1 true) (tp := [.b true]) (by left) (by left) (P := ((rw3 (.str z_num) (.str z_num) true :: K : List V).length < room) /\ (true = true) /\ True) (by left) ⟨by (try simp only [List.length_cons]); lia, rfl, trivial⟩ for_nil))
 exact led_go [] (Q := (2 <= 1000000) /\ True) hf (fun J => by left) (fun J => by left) ⟨by decide, trivial⟩ (k _ _ _ _ _)
theorem led_tname_true {q : V} (hy : (y == x) = true) (hK : K.length + 4 < room) (k : ∀ x5 x6 x7 x8 x9, LW w d (lds T F x u (rw3 (.str y) (.str y) true :: rw3 (.str z_name) (.str z_name) true :: K) x5 x6 x7 x8 x9) Φ) : LW w d (lds T F x u (rw3 (.tup [.str z_name, .str y]) (.tup [.str z_name, .str y]) true :: K) x5 x6 x7 x8 x9) Φ := by
 have hf : LF w d [.int 0, .int 1] (lq T F x u (.tup [.str z_name, .str y]) (.tup [.str z_name, .str y]) true K x8 x9) (lr T F x u (.tup [.str z_name, .str y]) (.tup [.str z_name, .str y]) true (rw3 (.str y) (.str y) true :: rw3 (.str z_name) (.str z_name) true :: K) 1 true) := (for_go (i := 8) (ρ' := lr T F x u (.tup [.str z_name, .str y]) (.tup [.str z_name, .str y]) true (rw3 (.str z_name) (.str z_name) true :: K) 0 true) (tp := [.b true]) (by left) (by left) (P := ((K : List V).length < room) /\ (true = true) /\ True) (by left) ⟨by (try simp only [List.length_cons]); lia, rfl, trivial⟩ (for_go (i := 8) (ρ' := lr T F x u (.tup [.str z_name, .str y]) (.tup [.str z_name, .str y]) true (rw3 (.str y) (.str y) true :: rw3 (.str z_name) (.str z_name) true :: K) 1 true) (tp := [.b true]) (by left) (by left) (P := ((rw3 (.str z_name) (.str z_name) true :: K : List V).length < room) /\ (true = true) /\ True) (by left) ⟨by (try simp only [List.length_cons]); lia, rfl, trivial⟩ for_nil))
 exact led_go [.b true] (Q := (2 <= 1000000) /\ ((y == x) = true) /\ True) hf (fun J => by left) (fun J => by left) ⟨by decide, hy, trivial⟩ (k _ _ _ _ _)
theorem led_tname_false {q : V} (hy : (y == x) = false) (hK : K.length + 4 < room) (k : ∀ x5 x6 x7 x8 x9, LW w d (lds T F x u (rw3 (.str y) (.str y) true :: rw3 (.str z_name) (.str z_name) true :: K) x5 x6 x7 x8 x9) Φ) : LW w d (lds T F x u (rw3 (.tup [.str z_name, .str y]) (.tup [.str z_name, .str y]) true :: K) x5 x6 x7 x8 x9) Φ := by
 have hf : LF w d [.int 0, .int 1] (lq T F x u (.tup [.str z_name, .str y]) (.tup [.str z_name, .str y]) true K x8 x9) (lr T F x u (.tup [.str z_name, .str y]) (.tup [.str z_name, .str y]) true (rw3 (.str y) (.str y) true :: rw3 (.str z_name) (.str z_name) true :: K) 1 true) := (for_go (i := 8) (ρ' := lr T F x u (.tup [.str z_name, .str y]) (.tup [.str z_name, .str y]) true (rw3 (.str z_name) (.str z_name) true :: K) 0 true) (tp := [.b true]) (by left) (by left) (P := ((K : List V).length < room) /\ (true = true) /\ True) (by left) ⟨by (try simp only [List.length_cons]); lia, rfl, trivial⟩ (for_go (i := 8) (ρ' := lr T F x u (.tup [.str z_name, .str y]) (.tup [.str z_name, .str y]) true (rw3 (.str y) (.str y) true :: rw3 (.str z_name) (.str z_name) true :: K) 1 true) (tp := [.b true]) (by left) (by left) (P := ((rw3 (.str z_name) (.str z_name) true :: K : List V).length < room) /\ (true = true) /\ True) (by left) ⟨by (try simp only [List.length_cons]); lia, rfl, trivial⟩ for_nil))
 exact led_go [.b false] (Q := (2 <= 1000000) /\ ((y == x) = false) /\ True) hf (fun J => by left) (fun J => by left) ⟨by decide, hy, trivial⟩ (k _ _ _ _ _)
theorem led_fnum {a a2 : V} (hK : K.length + 4 < room) (k : ∀ x5 x6 x7 x8 x9, LW w d (lds T F x u (rw3 a a2 false :: rw3 (.str z_num) (.str z_num) false :: K) x5 x6 x7 x8 x9) Φ) : LW w d (lds T F x u (rw3 (.tup [.str z_num, a]) (.tup [.str z_num, a2]) false :: K) x5 x6 x7 x8 x9) Φ := by
 have hf : LF w d [.int 0, .int 1] (lq T F x u (.tup [.str z_num, a]) (.tup [.str z_num, a2]) false K x8 x9) (lr T F x u (.tup [.str z_num, a]) (.tup [.str z_num, a2]) false (rw3 a a2 false :: rw3 (.str z_num) (.str z_num) false :: K) 1 (z_num == z_fun)) := (for_go (i := 8) (ρ' := lr T F x u (.tup [.str z_num, a]) (.tup [.str z_num, a2]) false (rw3 (.str z_num) (.str z_num) false :: K) 0 (z_num == z_fun)) (tp := [.b false]) (by left) (by left) (P := ((K : List V).length < room) /\ ((z_num == z_fun) = false) /\ True) (by left) ⟨by (try simp only [List.length_cons]); lia, rfl, trivial⟩ (for_go (i := 8) (ρ' := lr T F x u (.tup [.str z_num, a]) (.tup [.str z_num, a2]) false (rw3 a a2 false :: rw3 (.str z_num) (.str z_num) false :: K) 1 (z_num == z_fun)) (tp := [.b false]) (by left) (by left) (P := ((rw3 (.str z_num) (.str z_num) false :: K : List V).length < room) /\ ((z_num == z_fun) = false) /\ True) (by left) ⟨by (try simp only [List.length_cons]); lia, rfl, trivial⟩ for_nil))
 exact led_go [] (Q := (2 <= 1000000) /\ True) hf (fun J => by left) (fun J => by left) ⟨by decide, trivial⟩ (k _ _ _ _ _)
theorem led_fname {q : V} (hy : (y == x) = false) (hK : K.length + 4 < room) (k : ∀ x5 x6 x7 x8 x9, LW w d (lds T F x u (rw3 (.str y) (.str y) false :: rw3 (.str z_name) (.str z_name) false :: K) x5 x6 x7 x8 x9) Φ) : LW w d (lds T F x u (rw3 (.tup [.str z_name, .str y]) (.tup [.str z_name, .str y]) false :: K) x5 x6 x7 x8 x9) Φ := by
 have hf : LF w d [.int 0, .int 1] (lq T F x u (.tup [.str z_name, .str y]) (.tup [.str z_name, .str y]) false K x8 x9) (lr T F x u (.tup [.str z_name, .str y]) (.tup [.str z_name, .str y]) false (rw3 (.str y) (.str y) false :: rw3 (.str z_name) (.str z_name) false :: K) 1 (z_name == z_fun)) := (for_go (i := 8) (ρ' := lr T F x u (.tup [.str z_name, .str y]) (.tup [.str z_name, .str y]) false (rw3 (.str z_name) (.str z_name) false :: K) 0 (z_name == z_fun)) (tp := [.b false]) (by left) (by left) (P := ((K : List V).length < room) /\ ((z_name == z_fun) = false) /\ True) (by left) ⟨by (try simp only [List.length_cons]); lia, rfl, trivial⟩ (for_go (i := 8) (ρ' := lr T F x u (.tup [.str z_name, .str y]) (.tup [.str z_name, .str y]) false (rw3 (.str y) (.str y) false :: rw3 (.str z_name) (.str z_name) false :: K) 1 (z_name == z_fun)) (tp := [.b false]) (by left) (by left) (P := ((rw3 (.str z_name) (.str z_name) false :: K : List V).length < room) /\ ((z_name == z_fun) = false) /\ True) (by left) ⟨by (try simp only [List.length_cons]); lia, rfl, trivial⟩ for_nil))
 exact led_go [.b false] (Q := (2 <= 1000000) /\ ((y == x) = false) /\ True) hf (fun J => by left) (fun J => by left) ⟨by decide, hy, trivial⟩ (k _ _ _ _ _)
theorem led_fcall {a b a2 b2 : V} (hK : K.length + 4 < room) (k : ∀ x5 x6 x7 x8 x9, LW w d (lds T F x u (rw3 b b2 false :: rw3 a a2 false :: rw3 (.str z_call) (.str z_call) false :: K) x5 x6 x7 x8 x9) Φ) : LW w d (lds T F x u (rw3 (.tup [.str z_call, a, b]) (.tup [.str z_call, a2, b2]) false :: K) x5 x6 x7 x8 x9) Φ := by
 have hf : LF w d [.int 0, .int 1, .int 2] (lq T F x u (.tup [.str z_call, a, b]) (.tup [.str z_call, a2, b2]) false K x8 x9) (lr T F x u (.tup [.str z_call, a, b]) (.tup [.str z_call, a2, b2]) false (rw3 b b2 false :: rw3 a a2 false :: rw3 (.str z_call) (.str z_call) false :: K) 2 (z_call == z_fun)) := (for_go (i := 8) (ρ' := lr T F x u (.tup [.str z_call, a, b]) (.tup [.str z_call, a2, b2]) false (rw3 (.str z_call) (.str z_call) false :: K) 0 (z_call == z_fun)) (tp := [.b false]) (by left) (by left) (P := ((K : List V).length < room) /\ ((z_call == z_fun) = false) /\ True) (by left) ⟨by (try simp only [List.length_cons]); lia, rfl, trivial⟩ (for_go (i := 8) (ρ' := lr T F x u (.tup [.str z_call, a, b]) (.tup [.str z_call, a2, b2]) false (rw3 a a2 false :: rw3 (.str z_call) (.str z_call) false :: K) 1 (z_call == z_fun)) (tp := [.b false]) (by left) (by left) (P := ((rw3 (.str z_call) (.str z_call) false :: K : List V).length < room) /\ ((z_call == z_fun) = false) /\ True) (by left) ⟨by (try simp only [List.length_cons]); lia, rfl, trivial⟩ (for_go (i := 8) (ρ' := lr T F x u (.tup [.str z_call, a, b]) (.tup [.str z_call, a2, b2]) false (rw3 b b2 false :: rw3 a a2 false :: rw3 (.str z_call) (.str z_call) false :: K) 2 (z_call == z_fun)) (tp := [.b false]) (by left) (by left) (P := ((rw3 a a2 false :: rw3 (.str z_call) (.str z_call) false :: K : List V).length < room) /\ ((z_call == z_fun) = false) /\ True) (by left) ⟨by (try simp only [List.length_cons]); lia, rfl, trivial⟩ for_nil)))
 exact led_go [] (Q := (3 <= 1000000) /\ True) hf (fun J => by left) (fun J => by left) ⟨by decide, trivial⟩ (k _ _ _ _ _)
theorem led_fplus {a b a2 b2 : V} (hK : K.length + 4 < room) (k : ∀ x5 x6 x7 x8 x9, LW w d (lds T F x u (rw3 b b2 false :: rw3 a a2 false :: rw3 (.str z_plus) (.str z_plus) false :: K) x5 x6 x7 x8 x9) Φ) : LW w d (lds T F x u (rw3 (.tup [.str z_plus, a, b]) (.tup [.str z_plus, a2, b2]) false :: K) x5 x6 x7 x8 x9) Φ := by
 have hf : LF w d [.int 0, .int 1, .int 2] (lq T F x u (.tup [.str z_plus, a, b]) (.tup [.str z_plus, a2, b2]) false K x8 x9) (lr T F x u (.tup [.str z_plus, a, b]) (.tup [.str z_plus, a2, b2]) false (rw3 b b2 false :: rw3 a a2 false :: rw3 (.str z_plus) (.str z_plus) false :: K) 2 (z_plus == z_fun)) := (for_go (i := 8) (ρ' := lr T F x u (.tup [.str z_plus, a, b]) (.tup [.str z_plus, a2, b2]) false (rw3 (.str z_plus) (.str z_plus) false :: K) 0 (z_plus == z_fun)) (tp := [.b false]) (by left) (by left) (P := ((K : List V).length < room) /\ ((z_plus == z_fun) = false) /\ True) (by left) ⟨by (try simp only [List.length_cons]); lia, rfl, trivial⟩ (for_go (i := 8) (ρ' := lr T F x u (.tup [.str z_plus, a, b]) (.tup [.str z_plus, a2, b2]) false (rw3 a a2 false :: rw3 (.str z_plus) (.str z_plus) false :: K) 1 (z_plus == z_fun)) (tp := [.b false]) (by left) (by left) (P := ((rw3 (.str z_plus) (.str z_plus) false :: K : List V).length < room) /\ ((z_plus == z_fun) = false) /\ True) (by left) ⟨by (try simp only [List.length_cons]); lia, rfl, trivial⟩ (for_go (i := 8) (ρ' := lr T F x u (.tup [.str z_plus, a, b]) (.tup [.str z_plus, a2, b2]) false (rw3 b b2 false :: rw3 a a2 false :: rw3 (.str z_plus) (.str z_plus) false :: K) 2 (z_plus == z_fun)) (tp := [.b false]) (by left) (by left) (P := ((rw3 a a2 false :: rw3 (.str z_plus) (.str z_plus) false :: K : List V).length < room) /\ ((z_plus == z_fun) = false) /\ True) (by left) ⟨by (try simp only [List.length_cons]); lia, rfl, trivial⟩ for_nil)))
 exact led_go [] (Q := (3 <= 1000000) /\ True) hf (fun J => by left) (fun J => by left) ⟨by decide, trivial⟩ (k _ _ _ _ _)
theorem led_fless {a b a2 b2 : V} (hK : K.length + 4 < room) (k : ∀ x5 x6 x7 x8 x9, LW w d (lds T F x u (rw3 b b2 false :: rw3 a a2 false :: rw3 (.str z_less) (.str z_less) false :: K) x5 x6 x7 x8 x9) Φ) : LW w d (lds T F x u (rw3 (.tup [.str z_less, a, b]) (.tup [.str z_less, a2, b2]) false :: K) x5 x6 x7 x8 x9) Φ := by
 have hf : LF w d [.int 0, .int 1, .int 2] (lq T F x u (.tup [.str z_less, a, b]) (.tup [.str z_less, a2, b2]) false K x8 x9) (lr T F x u (.tup [.str z_less, a, b]) (.tup [.str z_less, a2, b2]) false (rw3 b b2 false :: rw3 a a2 false :: rw3 (.str z_less) (.str z_less) false :: K) 2 (z_less == z_fun)) := (for_go (i := 8) (ρ' := lr T F x u (.tup [.str z_less, a, b]) (.tup [.str z_less, a2, b2]) false (rw3 (.str z_less) (.str z_less) false :: K) 0 (z_less == z_fun)) (tp := [.b false]) (by left) (by left) (P := ((K : List V).length < room) /\ ((z_less == z_fun) = false) /\ True) (by left) ⟨by (try simp only [List.length_cons]); lia, rfl, trivial⟩ (for_go (i := 8) (ρ' := lr T F x u (.tup [.str z_less, a, b]) (.tup [.str z_less, a2, b2]) false (rw3 a a2 false :: rw3 (.str z_less) (.str z_less) false :: K) 1 (z_less == z_fun)) (tp := [.b false]) (by left) (by left) (P := ((rw3 (.str z_less) (.str z_less) false :: K : List V).length < room) /\ ((z_less == z_fun) = false) /\ True) (by left) ⟨by (try simp only [List.length_cons]); lia, rfl, trivial⟩ (for_go (i := 8) (ρ' := lr T F x u (.tup [.str z_less, a, b]) (.tup [.str z_less, a2, b2]) false (rw3 b b2 false :: rw3 a a2 false :: rw3 (.str z_less) (.str z_less) false :: K) 2 (z_less == z_fun)) (tp := [.b false]) (by left) (by left) (P := ((rw3 a a2 false :: rw3 (.str z_less) (.str z_less) false :: K : List V).length < room) /\ ((z_less == z_fun) = false) /\ True) (by left) ⟨by (try simp only [List.length_cons]); lia, rfl, trivial⟩ for_nil)))
 exact led_go [] (Q := (3 <= 1000000) /\ True) hf (fun J => by left) (fun J => by left) ⟨by decide, trivial⟩ (k _ _ _ _ _)
theorem led_fif {a b c a2 b2 c2 : V} (hK : K.length + 4 < room) (k : ∀ x5 x6 x7 x8 x9, LW w d (lds T F x u (rw3 c c2 false :: rw3 b b2 false :: rw3 a a2 false :: rw3 (.str z_if) (.str z_if) false :: K) x5 x6 x7 x8 x9) Φ) : LW w d (lds T F x u (rw3 (.tup [.str z_if, a, b, c]) (.tup [.str z_if, a2, b2, c2]) false :: K) x5 x6 x7 x8 x9) Φ := by
 have hf : LF w d [.int 0, .int 1, .int 2, .int 3] (lq T F x u (.tup [.str z_if, a, b, c]) (.tup [.str z_if, a2, b2, c2]) false K x8 x9) (lr T F x u (.tup [.str z_if, a, b, c]) (.tup [.str z_if, a2, b2, c2]) false (rw3 c c2 false :: rw3 b b2 false :: rw3 a a2 false :: rw3 (.str z_if) (.str z_if) false :: K) 3 (z_if == z_fun)) := (for_go (i := 8) (ρ' := lr T F x u (.tup [.str z_if, a, b, c]) (.tup [.str z_if, a2, b2, c2]) false (rw3 (.str z_if) (.str z_if) false :: K) 0 (z_if == z_fun)) (tp := [.b false]) (by left) (by left) (P := ((K : List V).length < room) /\ ((z_if == z_fun) = false) /\ True) (by left) ⟨by (try simp only [List.length_cons]); lia, rfl, trivial⟩ (for_go (i := 8) (ρ' := lr T F x u (.tup [.str z_if, a, b, c]) (.tup [.str z_if, a2, b2, c2]) false (rw3 a a2 false :: rw3 (.str z_if) (.str z_if) false :: K) 1 (z_if == z_fun)) (tp := [.b false]) (by left) (by left) (P := ((rw3 (.str z_if) (.str z_if) false :: K : List V).length < room) /\ ((z_if == z_fun) = false) /\ True) (by left) ⟨by (try simp only [List.length_cons]); lia, rfl, trivial⟩ (for_go (i := 8) (ρ' := lr T F x u (.tup [.str z_if, a, b, c]) (.tup [.str z_if, a2, b2, c2]) false (rw3 b b2 false :: rw3 a a2 false :: rw3 (.str z_if) (.str z_if) false :: K) 2 (z_if == z_fun)) (tp := [.b false]) (by left) (by left) (P := ((rw3 a a2 false :: rw3 (.str z_if) (.str z_if) false :: K : List V).length < room) /\ ((z_if == z_fun) = false) /\ True) (by left) ⟨by (try simp only [List.length_cons]); lia, rfl, trivial⟩ (for_go (i := 8) (ρ' := lr T F x u (.tup [.str z_if, a, b, c]) (.tup [.str z_if, a2, b2, c2]) false (rw3 c c2 false :: rw3 b b2 false :: rw3 a a2 false :: rw3 (.str z_if) (.str z_if) false :: K) 3 (z_if == z_fun)) (tp := [.b false]) (by left) (by left) (P := ((rw3 b b2 false :: rw3 a a2 false :: rw3 (.str z_if) (.str z_if) false :: K : List V).length < room) /\ ((z_if == z_fun) = false) /\ True) (by left) ⟨by (try simp only [List.length_cons]); lia, rfl, trivial⟩ for_nil))))
 exact led_go [] (Q := (4 <= 1000000) /\ True) hf (fun J => by left) (fun J => by left) ⟨by decide, trivial⟩ (k _ _ _ _ _)
theorem led_fun1 {a a2 : V} (hy : (y == x) = true) (hK : K.length + 4 < room) (k : ∀ x5 x6 x7 x8 x9, LW w d (lds T F x u (rw3 a a2 true :: rw3 (.str y) (.str y) true :: rw3 (.str z_fun) (.str z_fun) true :: K) x5 x6 x7 x8 x9) Φ) : LW w d (lds T F x u (rw3 (.tup [.str z_fun, .str y, a]) (.tup [.str z_fun, .str y, a2]) false :: K) x5 x6 x7 x8 x9) Φ := by
 have hf : LF w d [.int 0, .int 1, .int 2] (lq T F x u (.tup [.str z_fun, .str y, a]) (.tup [.str z_fun, .str y, a2]) false K x8 x9) (lr T F x u (.tup [.str z_fun, .str y, a]) (.tup [.str z_fun, .str y, a2]) false (rw3 a a2 (y == x) :: rw3 (.str y) (.str y) (y == x) :: rw3 (.str z_fun) (.str z_fun) (y == x) :: K) 2 (y == x)) := (for_go (i := 8) (ρ' := lr T F x u (.tup [.str z_fun, .str y, a]) (.tup [.str z_fun, .str y, a2]) false (rw3 (.str z_fun) (.str z_fun) (y == x) :: K) 0 (y == x)) (tp := [.b true]) (by left) (by left) (P := ((K : List V).length < room) /\ ((y == x) = true) /\ True) (by left) ⟨by (try simp only [List.length_cons]); lia, hy, trivial⟩ (for_go (i := 8) (ρ' := lr T F x u (.tup [.str z_fun, .str y, a]) (.tup [.str z_fun, .str y, a2]) false (rw3 (.str y) (.str y) (y == x) :: rw3 (.str z_fun) (.str z_fun) (y == x) :: K) 1 (y == x)) (tp := [.b true]) (by left) (by left) (P := ((rw3 (.str z_fun) (.str z_fun) (y == x) :: K : List V).length < room) /\ ((y == x) = true) /\ True) (by left) ⟨by (try simp only [List.length_cons]); lia, hy, trivial⟩ (for_go (i := 8) (ρ' := lr T F x u (.tup [.str z_fun, .str y, a]) (.tup [.str z_fun, .str y, a2]) false (rw3 a a2 (y == x) :: rw3 (.str y) (.str y) (y == x) :: rw3 (.str z_fun) (.str z_fun) (y == x) :: K) 2 (y == x)) (tp := [.b true]) (by left) (by left) (P := ((rw3 (.str y) (.str y) (y == x) :: rw3 (.str z_fun) (.str z_fun) (y == x) :: K : List V).length < room) /\ ((y == x) = true) /\ True) (by left) ⟨by (try simp only [List.length_cons]); lia, hy, trivial⟩ for_nil)))
 exact led_go [] (Q := (3 <= 1000000) /\ True) hf (fun J => by left) (fun J => by left) ⟨by decide, trivial⟩ (by rw [hy]; exact k _ _ _ _ _)
theorem led_fun0 {a a2 : V} (hy : (y == x) = false) (hK : K.length + 4 < room) (k : ∀ x5 x6 x7 x8 x9, LW w d (lds T F x u (rw3 a a2 false :: rw3 (.str y) (.str y) false :: rw3 (.str z_fun) (.str z_fun) false :: K) x5 x6 x7 x8 x9) Φ) : LW w d (lds T F x u (rw3 (.tup [.str z_fun, .str y, a]) (.tup [.str z_fun, .str y, a2]) false :: K) x5 x6 x7 x8 x9) Φ := by
 have hf : LF w d [.int 0, .int 1, .int 2] (lq T F x u (.tup [.str z_fun, .str y, a]) (.tup [.str z_fun, .str y, a2]) false K x8 x9) (lr T F x u (.tup [.str z_fun, .str y, a]) (.tup [.str z_fun, .str y, a2]) false (rw3 a a2 false :: rw3 (.str y) (.str y) false :: rw3 (.str z_fun) (.str z_fun) false :: K) 2 (y == x)) := (for_go (i := 8) (ρ' := lr T F x u (.tup [.str z_fun, .str y, a]) (.tup [.str z_fun, .str y, a2]) false (rw3 (.str z_fun) (.str z_fun) false :: K) 0 (y == x)) (tp := [.b false]) (by left) (by left) (P := ((K : List V).length < room) /\ ((y == x) = false) /\ True) (by left) ⟨by (try simp only [List.length_cons]); lia, hy, trivial⟩ (for_go (i := 8) (ρ' := lr T F x u (.tup [.str z_fun, .str y, a]) (.tup [.str z_fun, .str y, a2]) false (rw3 (.str y) (.str y) false :: rw3 (.str z_fun) (.str z_fun) false :: K) 1 (y == x)) (tp := [.b false]) (by left) (by left) (P := ((rw3 (.str z_fun) (.str z_fun) false :: K : List V).length < room) /\ ((y == x) = false) /\ True) (by left) ⟨by (try simp only [List.length_cons]); lia, hy, trivial⟩ (for_go (i := 8) (ρ' := lr T F x u (.tup [.str z_fun, .str y, a]) (.tup [.str z_fun, .str y, a2]) false (rw3 a a2 false :: rw3 (.str y) (.str y) false :: rw3 (.str z_fun) (.str z_fun) false :: K) 2 (y == x)) (tp := [.b false]) (by left) (by left) (P := ((rw3 (.str y) (.str y) false :: rw3 (.str z_fun) (.str z_fun) false :: K : List V).length < room) /\ ((y == x) = false) /\ True) (by left) ⟨by (try simp only [List.length_cons]); lia, hy, trivial⟩ for_nil)))
 exact led_go [] (Q := (3 <= 1000000) /\ True) hf (fun J => by left) (fun J => by left) ⟨by decide, trivial⟩ (k _ _ _ _ _)
theorem led_let1 {e a e2 a2 : V} (hy : (y == x) = true) (hK : K.length + 4 < room) (k : ∀ x5 x6 x7 x8 x9, LW w d (lds T F x u (rw3 a a2 true :: rw3 e e2 false :: rw3 (.str y) (.str y) false :: rw3 (.str z_let) (.str z_let) false :: K) x5 x6 x7 x8 x9) Φ) : LW w d (lds T F x u (rw3 (.tup [.str z_let, .str y, e, a]) (.tup [.str z_let, .str y, e2, a2]) false :: K) x5 x6 x7 x8 x9) Φ := by
 have hf : LF w d [.int 0, .int 1, .int 2, .int 3] (lq T F x u (.tup [.str z_let, .str y, e, a]) (.tup [.str z_let, .str y, e2, a2]) false K x8 x9) (lr T F x u (.tup [.str z_let, .str y, e, a]) (.tup [.str z_let, .str y, e2, a2]) false (rw3 a a2 true :: rw3 e e2 false :: rw3 (.str y) (.str y) false :: rw3 (.str z_let) (.str z_let) false :: K) 3 (z_let == z_fun)) := (for_go (i := 8) (ρ' := lr T F x u (.tup [.str z_let, .str y, e, a]) (.tup [.str z_let, .str y, e2, a2]) false (rw3 (.str z_let) (.str z_let) false :: K) 0 (z_let == z_fun)) (tp := [.b false, .b true]) (by left) (by left) (P := ((K : List V).length < room) /\ ((y == x) = true) /\ ((z_let == z_fun) = false) /\ True) (by left) ⟨by (try simp only [List.length_cons]); lia, hy, rfl, trivial⟩ (for_go (i := 8) (ρ' := lr T F x u (.tup [.str z_let, .str y, e, a]) (.tup [.str z_let, .str y, e2, a2]) false (rw3 (.str y) (.str y) false :: rw3 (.str z_let) (.str z_let) false :: K) 1 (z_let == z_fun)) (tp := [.b false, .b true]) (by left) (by left) (P := ((rw3 (.str z_let) (.str z_let) false :: K : List V).length < room) /\ ((y == x) = true) /\ ((z_let == z_fun) = false) /\ True) (by left) ⟨by (try simp only [List.length_cons]); lia, hy, rfl, trivial⟩ (for_go (i := 8) (ρ' := lr T F x u (.tup [.str z_let, .str y, e, a]) (.tup [.str z_let, .str y, e2, a2]) false (rw3 e e2 false :: rw3 (.str y) (.str y) false :: rw3 (.str z_let) (.str z_let) false :: K) 2 (z_let == z_fun)) (tp := [.b false, .b true]) (by left) (by left) (P := ((rw3 (.str y) (.str y) false :: rw3 (.str z_let) (.str z_let) false :: K : List V).length < room) /\ ((y == x) = true) /\ ((z_let == z_fun) = false) /\ True) (by left) ⟨by (try simp only [List.length_cons]); lia, hy, rfl, trivial⟩ (for_go (i := 8) (ρ' := lr T F x u (.tup [.str z_let, .str y, e, a]) (.tup [.str z_let, .str y, e2, a2]) false (rw3 a a2 true :: rw3 e e2 false :: rw3 (.str y) (.str y) false :: rw3 (.str z_let) (.str z_let) false :: K) 3 (z_let == z_fun)) (tp := [.b false, .b true]) (by left) (by left) (P := ((rw3 e e2 false :: rw3 (.str y) (.str y) false :: rw3 (.str z_let) (.str z_let) false :: K : List V).length < room) /\ ((y == x) = true) /\ ((z_let == z_fun) = false) /\ True) (by left) ⟨by (try simp only [List.length_cons]); lia, hy, rfl, trivial⟩ for_nil))))
 exact led_go [] (Q := (4 <= 1000000) /\ True) hf (fun J => by left) (fun J => by left) ⟨by decide, trivial⟩ (k _ _ _ _ _)
theorem led_let0 {e a e2 a2 : V} (hy : (y == x) = false) (hK : K.length + 4 < room) (k : ∀ x5 x6 x7 x8 x9, LW w d (lds T F x u (rw3 a a2 false :: rw3 e e2 false :: rw3 (.str y) (.str y) false :: rw3 (.str z_let) (.str z_let) false :: K) x5 x6 x7 x8 x9) Φ) : LW w d (lds T F x u (rw3 (.tup [.str z_let, .str y, e, a]) (.tup [.str z_let, .str y, e2, a2]) false :: K) x5 x6 x7 x8 x9) Φ := by
 have hf : LF w d [.int 0, .int 1, .int 2, .int 3] (lq T F x u (.tup [.str z_let, .str y, e, a]) (.tup [.str z_let, .str y, e2, a2]) false K x8 x9) (lr T F x u (.tup [.str z_let, .str y, e, a]) (.tup [.str z_let, .str y, e2, a2]) false (rw3 a a2 (y == x) :: rw3 e e2 (y == x) :: rw3 (.str y) (.str y) (y == x) :: rw3 (.str z_let) (.str z_let) (y == x) :: K) 3 (z_let == z_fun)) := (for_go (i := 8) (ρ' := lr T F x u (.tup [.str z_let, .str y, e, a]) (.tup [.str z_let, .str y, e2, a2]) false (rw3 (.str z_let) (.str z_let) (y == x) :: K) 0 (z_let == z_fun)) (tp := [.b false, .b false]) (by left) (by left) (P := ((K : List V).length < room) /\ ((y == x) = false) /\ ((z_let == z_fun) = false) /\ True) (by left) ⟨by (try simp only [List.length_cons]); lia, hy, rfl, trivial⟩ (for_go (i := 8) (ρ' := lr T F x u (.tup [.str z_let, .str y, e, a]) (.tup [.str z_let, .str y, e2, a2]) false (rw3 (.str y) (.str y) (y == x) :: rw3 (.str z_let) (.str z_let) (y == x) :: K) 1 (z_let == z_fun)) (tp := [.b false, .b false]) (by left) (by left) (P := ((rw3 (.str z_let) (.str z_let) (y == x) :: K : List V).length < room) /\ ((y == x) = false) /\ ((z_let == z_fun) = false) /\ True) (by left) ⟨by (try simp only [List.length_cons]); lia, hy, rfl, trivial⟩ (for_go (i := 8) (ρ' := lr T F x u (.tup [.str z_let, .str y, e, a]) (.tup [.str z_let, .str y, e2, a2]) false (rw3 e e2 (y == x) :: rw3 (.str y) (.str y) (y == x) :: rw3 (.str z_let) (.str z_let) (y == x) :: K) 2 (z_let == z_fun)) (tp := [.b false, .b false]) (by left) (by left) (P := ((rw3 (.str y) (.str y) (y == x) :: rw3 (.str z_let) (.str z_let) (y == x) :: K : List V).length < room) /\ ((y == x) = false) /\ ((z_let == z_fun) = false) /\ True) (by left) ⟨by (try simp only [List.length_cons]); lia, hy, rfl, trivial⟩ (for_go (i := 8) (ρ' := lr T F x u (.tup [.str z_let, .str y, e, a]) (.tup [.str z_let, .str y, e2, a2]) false (rw3 a a2 (y == x) :: rw3 e e2 (y == x) :: rw3 (.str y) (.str y) (y == x) :: rw3 (.str z_let) (.str z_let) (y == x) :: K) 3 (z_let == z_fun)) (tp := [.b false, .b false]) (by left) (by left) (P := ((rw3 e e2 (y == x) :: rw3 (.str y) (.str y) (y == x) :: rw3 (.str z_let) (.str z_let) (y == x) :: K : List V).length < room) /\ ((y == x) = false) /\ ((z_let == z_fun) = false) /\ True) (by left) ⟨by (try simp only [List.length_cons]); lia, hy, rfl, trivial⟩ for_nil))))
 exact led_go [] (Q := (4 <= 1000000) /\ True) hf (fun J => by left) (fun J => by left) ⟨by decide, trivial⟩ (by rw [hy]; exact k _ _ _ _ _)
theorem led_same (t : Tree) : ∀ {K : List V} {x5 x6 x7 x8 x9 : Option O}, K.length + 4 * dp t + 4 < room -> (∀ x5 x6 x7 x8 x9, LW w (d + 1) (lds T F x u K x5 x6 x7 x8 x9) Φ) -> LW w (d + 1) (lds T F x u (rw3 (tv t) (tv t) true :: K) x5 x6 x7 x8 x9) Φ := by
 have le := Nat.le_max_left
 have ri := Nat.le_max_right
 induction t with
 | num i => intro K x5 x6 x7 x8 x9 h k; exact led_tnum (by lia) fun J J J J J => led_i fun J J J J J => led_s k
 | name y =>
  intro K x5 x6 x7 x8 x9 h k
  cases hy : y == x with
  | true => exact led_tname_true (q := .none) hy (by lia) fun J J J J J => led_s fun J J J J J => led_s k
  | false => exact led_tname_false (q := .none) hy (by lia) fun J J J J J => led_s fun J J J J J => led_s k
 | fn y b ib =>
  intro K x5 x6 x7 x8 x9 h k
  have hs : dp (.fn y b) = dp b + 1 := rfl
  exact led_t3 (by lia) fun J J J J J => ib (by simp only [List.length_cons]; lia) fun J J J J J => led_s fun J J J J J => led_s k
 | call a b ia ib =>
  intro K x5 x6 x7 x8 x9 h k
  have hs : dp (.call a b) = max (dp a) (dp b) + 1 := rfl
  have := le (dp a) (dp b); have := ri (dp a) (dp b)
  exact led_t3 (by lia) fun J J J J J => ib (by simp only [List.length_cons]; lia) fun J J J J J => ia (by simp only [List.length_cons]; lia) fun J J J J J => led_s k
 | plus a b ia ib =>
  intro K x5 x6 x7 x8 x9 h k
  have hs : dp (.plus a b) = max (dp a) (dp b) + 1 := rfl
  have := le (dp a) (dp b); have := ri (dp a) (dp b)
  exact led_t3 (by lia) fun J J J J J => ib (by simp only [List.length_cons]; lia) fun J J J J J => ia (by simp only [List.length_cons]; lia) fun J J J J J => led_s k
 | less a b ia ib =>
  intro K x5 x6 x7 x8 x9 h k
  have hs : dp (.less a b) = max (dp a) (dp b) + 1 := rfl
  have := le (dp a) (dp b); have := ri (dp a) (dp b)
  exact led_t3 (by lia) fun J J J J J => ib (by simp only [List.length_cons]; lia) fun J J J J J => ia (by simp only [List.length_cons]; lia) fun J J J J J => led_s k
 | ite c a b ic ia ib =>
  intro K x5 x6 x7 x8 x9 h k
  have hs : dp (.ite c a b) = max (dp c) (max (dp a) (dp b)) + 1 := rfl
  have := le (dp c) (max (dp a) (dp b)); have := ri (dp c) (max (dp a) (dp b)); have := le (dp a) (dp b); have := ri (dp a) (dp b)
  exact led_t4 (by lia) fun J J J J J => ib (by simp only [List.length_cons]; lia) fun J J J J J => ia (by simp only [List.length_cons]; lia) fun J J J J J => ic (by simp only [List.length_cons]; lia) fun J J J J J => led_s k
 | lt y e b ie ib =>
  intro K x5 x6 x7 x8 x9 h k
  have hs : dp (.lt y e b) = max (dp e) (dp b) + 1 := rfl
  have := le (dp e) (dp b); have := ri (dp e) (dp b)
  exact led_t4 (by lia) fun J J J J J => ib (by simp only [List.length_cons]; lia) fun J J J J J => ie (by simp only [List.length_cons]; lia) fun J J J J J => led_s fun J J J J J => led_s k
theorem led_sub {v : Tree} (t : Tree) : ∀ {K : List V} {x5 x6 x7 x8 x9 : Option O}, K.length + 4 * dp t + 4 * dp v + 8 < room -> (∀ x5 x6 x7 x8 x9, LW w (d + 1) (lds T F x (tv v) K x5 x6 x7 x8 x9) Φ) -> LW w (d + 1) (lds T F x (tv v) (rw3 (tv t) (tv (subT x v t)) false :: K) x5 x6 x7 x8 x9) Φ := by
 have le := Nat.le_max_left
 have ri := Nat.le_max_right
 induction t with
 | num i => intro K x5 x6 x7 x8 x9 h k; exact led_fnum (by lia) fun J J J J J => led_i fun J J J J J => led_s k
 | name y =>
  intro K x5 x6 x7 x8 x9 h k
  show LW w (d + 1) (lds T F x (tv v) (rw3 (.tup [.str z_name, .str y]) (tv (Bool.casesOn (motive := fun J => Tree) (y == x) (.name y) v)) false :: K) x5 x6 x7 x8 x9) Φ
  cases hy : y == x with
  | true => exact led_hit hy (by lia) fun J J J J J => led_same v (by lia) k
  | false => exact led_fname (q := .none) hy (by lia) fun J J J J J => led_s fun J J J J J => led_s k
 | fn y b ib =>
  intro K x5 x6 x7 x8 x9 h k
  have hs : dp (.fn y b) = dp b + 1 := rfl
  show LW w (d + 1) (lds T F x (tv v) (rw3 (.tup [.str z_fun, .str y, tv b]) (.tup [.str z_fun, .str y, tv (Bool.casesOn (motive := fun J => Tree) (y == x) (subT x v b) b)]) false :: K) x5 x6 x7 x8 x9) Φ
  cases hy : y == x with
  | true => exact led_fun1 hy (by lia) fun J J J J J => led_same b (by simp only [List.length_cons]; lia) fun J J J J J => led_s fun J J J J J => led_s k
  | false => exact led_fun0 hy (by lia) fun J J J J J => ib (by simp only [List.length_cons]; lia) fun J J J J J => led_s fun J J J J J => led_s k
 | call a b ia ib =>
  intro K x5 x6 x7 x8 x9 h k
  have hs : dp (.call a b) = max (dp a) (dp b) + 1 := rfl
  have := le (dp a) (dp b); have := ri (dp a) (dp b)
  exact led_fcall (by lia) fun J J J J J => ib (by simp only [List.length_cons]; lia) fun J J J J J => ia (by simp only [List.length_cons]; lia) fun J J J J J => led_s k
 | plus a b ia ib =>
  intro K x5 x6 x7 x8 x9 h k
  have hs : dp (.plus a b) = max (dp a) (dp b) + 1 := rfl
  have := le (dp a) (dp b); have := ri (dp a) (dp b)
  exact led_fplus (by lia) fun J J J J J => ib (by simp only [List.length_cons]; lia) fun J J J J J => ia (by simp only [List.length_cons]; lia) fun J J J J J => led_s k
 | less a b ia ib =>
  intro K x5 x6 x7 x8 x9 h k
  have hs : dp (.less a b) = max (dp a) (dp b) + 1 := rfl
  have := le (dp a) (dp b); have := ri (dp a) (dp b)
  exact led_fless (by lia) fun J J J J J => ib (by simp only [List.length_cons]; lia) fun J J J J J => ia (by simp only [List.length_cons]; lia) fun J J J J J => led_s k
 | ite c a b ic ia ib =>
  intro K x5 x6 x7 x8 x9 h k
  have hs : dp (.ite c a b) = max (dp c) (max (dp a) (dp b)) + 1 := rfl
  have := le (dp c) (max (dp a) (dp b)); have := ri (dp c) (max (dp a) (dp b)); have := le (dp a) (dp b); have := ri (dp a) (dp b)
  exact led_fif (by lia) fun J J J J J => ib (by simp only [List.length_cons]; lia) fun J J J J J => ia (by simp only [List.length_cons]; lia) fun J J J J J => ic (by simp only [List.length_cons]; lia) fun J J J J J => led_s k
 | lt y e b ie ib =>
  intro K x5 x6 x7 x8 x9 h k
  have hs : dp (.lt y e b) = max (dp e) (dp b) + 1 := rfl
  have := le (dp e) (dp b); have := ri (dp e) (dp b)
  show LW w (d + 1) (lds T F x (tv v) (rw3 (.tup [.str z_let, .str y, tv e, tv b]) (.tup [.str z_let, .str y, tv (subT x v e), tv (Bool.casesOn (motive := fun J => Tree) (y == x) (subT x v b) b)]) false :: K) x5 x6 x7 x8 x9) Φ
  cases hy : y == x with
  | true => exact led_let1 hy (by lia) fun J J J J J => led_same b (by simp only [List.length_cons]; lia) fun J J J J J => ie (by simp only [List.length_cons]; lia) fun J J J J J => led_s fun J J J J J => led_s k
  | false => exact led_let0 hy (by lia) fun J J J J J => ib (by simp only [List.length_cons]; lia) fun J J J J J => ie (by simp only [List.length_cons]; lia) fun J J J J J => led_s fun J J J J J => led_s k
end
theorem led_end {T F u : V} {x : List Nat} {r : V} (h : LW w (d + 1) (lds T F x u [r] none none none none none) fun fl ρ => fl = .next /\ ∃ x5 x6 x7 x8 x9, ρ = lds T F x u [] x5 x6 x7 x8 x9) (hr : r = rw3 T F false) : CallOK (G w) (d + 2) 272 [T, F, .str x, u] (.val (.bool true)) := by
 subst hr
 obtain ⟨fl, ρ, hw, rfl, x5, x6, x7, x8, x9, rfl⟩ := h
 exact call_go (n := 6) (tp := [.l .next (lds T F x u [] x5 x6 x7 x8 x9)]) (b__law_led w (d + 1)) rfl (b__law_led_x w (d + 1)) rfl (by left) (P := WhilOK (G w) (d + 1) fi__law_led (c__law_led_261 w (d + 1)).x (l__law_led_261 w (d + 1)).xs (lds T F x u [rw3 T F false] none none none none none) .next (lds T F x u [] x5 x6 x7 x8 x9) /\ True) (by left) ⟨hw, trivial⟩
theorem led_fin {T F u : V} {x : List Nat} {x5 x6 x7 x8 x9 : Option O} : LW w d (lds T F x u [] x5 x6 x7 x8 x9) fun fl ρ => fl = .next /\ ∃ x5 x6 x7 x8 x9, ρ = lds T F x u [] x5 x6 x7 x8 x9 := whp_end false (tp := []) (ρ' := lds T F x u [] x5 x6 x7 x8 x9) (by left) (P := True) (by left) trivial ⟨rfl, _, _, _, _, _, rfl⟩
theorem ok_led (t v : Tree) (x : List Nat) (h : 4 * dp t + 4 * dp v + 9 < room) : CallOK (G w) (d + 2) 272 [tv t, tv (subT x v t), .str x, tv v] (.val (.bool true)) := led_end (led_sub t (by show 0 + _ + _ + _ < room; lia) fun J J J J J => led_fin) rfl
theorem ok_led0 {K : Nat} {t : Tree} (q : Qk K t) (v : Tree) (h : 4 * dp t + 4 * dp v + 9 < room) : CallOK (G w) (d + 2) 272 [tv t, tv t, .str z_, tv v] (.val (.bool true)) := by
 have := ok_led (w := w) (d := d) t v [] h
 rwa [sub_nil q] at this
theorem led_text (s : List Nat) (u : V) : CallOK (G w) (d + 2) 272 [.str s, .str s, .str z_, u] (.val (.bool true)) := led_end (x := z_) (led_s fun J J J J J => led_fin) rfl
end Mine.L09
end
section
namespace Mine.L09
variable {w : World} {d : Nat}
noncomputable def hd (t : Tree) : List Nat := Tree.casesOn t (fun J => z_num) (fun J => z_name) (fun J J => z_fun) (fun J J => z_call) (fun J J => z_plus) (fun J J => z_less) (fun J J J => z_if) (fun J J J => z_let)
noncomputable def tl (t : Tree) : List V := Tree.casesOn t (fun i => [.int i]) (fun x => [.str x]) (fun x b => [.str x, tv b]) (fun a b => [tv a, tv b]) (fun a b => [tv a, tv b]) (fun a b => [tv a, tv b]) (fun c a b => [tv c, tv a, tv b]) (fun x e b => [.str x, tv e, tv b])
theorem tv_hd (t : Tree) : tv t = .tup (.str (hd t) :: tl t) := by cases t <;> rfl
noncomputable abbrev vls : O := .val (.tup [.str z_num, .str z_fun])
theorem in_v (t : Tree) : InP false (.str (hd t)) vls (isV t) := by cases t <;> rfl
theorem ni_v (t : Tree) : InP true (.str (hd t)) vls (!isV t) := by cases t <;> rfl
theorem in_v' {t : Tree} {b : Bool} (h : isV t = b) : InP false (.str (hd t)) vls b := h ▸ in_v t
theorem ni_v' {t : Tree} {b : Bool} (h : isV t = b) : InP true (.str (hd t)) vls (!b) := h ▸ ni_v t
theorem where_fr (f : Fr) (x : Tree) (h : isV x = false) (hf : fok f) : CallOK (G w) (d + 1) 279 [tv (fill f x)] (.val (.int (pc f))) := by
 cases f with
 | call1 b =>
  show CallOK (G w) (d + 1) 279 [.tup [.str z_call, tv x, tv b]] _
  rw [tv_hd x]
  exact call_go (n := 0) (tp := [.b true]) (b__law_where w d) rfl (b__law_where_x w d) rfl (by left) (P := InP true (.str (hd x)) vls true /\ True) (by left) ⟨ni_v' h, trivial⟩
 | call2 a =>
  show CallOK (G w) (d + 1) 279 [.tup [.str z_call, tv a, tv x]] _
  rw [tv_hd a, tv_hd x]
  exact call_go (n := 0) (tp := [.b false, .b true]) (b__law_where w d) rfl (b__law_where_x w d) rfl (by left) (P := InP true (.str (hd x)) vls true /\ InP true (.str (hd a)) vls false /\ True) (by left) ⟨ni_v' h, ni_v' hf, trivial⟩
 | plus1 b =>
  show CallOK (G w) (d + 1) 279 [.tup [.str z_plus, tv x, tv b]] _
  rw [tv_hd x]
  exact call_go (n := 0) (tp := [.b true]) (b__law_where w d) rfl (b__law_where_x w d) rfl (by left) (P := InP true (.str (hd x)) vls true /\ True) (by left) ⟨ni_v' h, trivial⟩
 | plus2 a =>
  show CallOK (G w) (d + 1) 279 [.tup [.str z_plus, tv a, tv x]] _
  rw [tv_hd a, tv_hd x]
  exact call_go (n := 0) (tp := [.b false, .b true]) (b__law_where w d) rfl (b__law_where_x w d) rfl (by left) (P := InP true (.str (hd x)) vls true /\ InP true (.str (hd a)) vls false /\ True) (by left) ⟨ni_v' h, ni_v' hf, trivial⟩
 | less1 b =>
  show CallOK (G w) (d + 1) 279 [.tup [.str z_less, tv x, tv b]] _
  rw [tv_hd x]
  exact call_go (n := 0) (tp := [.b true]) (b__law_where w d) rfl (b__law_where_x w d) rfl (by left) (P := InP true (.str (hd x)) vls true /\ True) (by left) ⟨ni_v' h, trivial⟩
 | less2 a =>
  show CallOK (G w) (d + 1) 279 [.tup [.str z_less, tv a, tv x]] _
  rw [tv_hd a, tv_hd x]
  exact call_go (n := 0) (tp := [.b false, .b true]) (b__law_where w d) rfl (b__law_where_x w d) rfl (by left) (P := InP true (.str (hd x)) vls true /\ InP true (.str (hd a)) vls false /\ True) (by left) ⟨ni_v' h, ni_v' hf, trivial⟩
 | ite1 a b =>
  show CallOK (G w) (d + 1) 279 [.tup [.str z_if, tv x, tv a, tv b]] _
  rw [tv_hd x]
  exact call_go (n := 0) (tp := [.b true]) (b__law_where w d) rfl (b__law_where_x w d) rfl (by left) (P := InP true (.str (hd x)) vls true /\ True) (by left) ⟨ni_v' h, trivial⟩
 | lt2 y b =>
  show CallOK (G w) (d + 1) 279 [.tup [.str z_let, .str y, tv x, tv b]] _
  rw [tv_hd x]
  exact call_go (n := 0) (tp := [.b false]) (b__law_where w d) rfl (b__law_where_x w d) rfl (by left) (P := InP false (.str (hd x)) vls false /\ True) (by left) ⟨in_v' h, trivial⟩
theorem where_red (r : Tree) (h : Red r) : CallOK (G w) (d + 1) 279 [tv r] (.val (.int 0)) := by
 cases r with
 | num i => exact h.elim
 | name x => exact h.elim
 | fn x b => exact h.elim
 | call a b =>
  show CallOK (G w) (d + 1) 279 [.tup [.str z_call, tv a, tv b]] _
  rw [tv_hd a, tv_hd b]
  exact call_go (n := 0) (tp := [.b false, .b false]) (b__law_where w d) rfl (b__law_where_x w d) rfl (by left) (P := InP true (.str (hd b)) vls false /\ InP true (.str (hd a)) vls false /\ True) (by left) ⟨ni_v' h.2, ni_v' h.1, trivial⟩
 | plus a b =>
  show CallOK (G w) (d + 1) 279 [.tup [.str z_plus, tv a, tv b]] _
  rw [tv_hd a, tv_hd b]
  exact call_go (n := 0) (tp := [.b false, .b false]) (b__law_where w d) rfl (b__law_where_x w d) rfl (by left) (P := InP true (.str (hd b)) vls false /\ InP true (.str (hd a)) vls false /\ True) (by left) ⟨ni_v' h.2, ni_v' h.1, trivial⟩
 | less a b =>
  show CallOK (G w) (d + 1) 279 [.tup [.str z_less, tv a, tv b]] _
  rw [tv_hd a, tv_hd b]
  exact call_go (n := 0) (tp := [.b false, .b false]) (b__law_where w d) rfl (b__law_where_x w d) rfl (by left) (P := InP true (.str (hd b)) vls false /\ InP true (.str (hd a)) vls false /\ True) (by left) ⟨ni_v' h.2, ni_v' h.1, trivial⟩
 | ite c a b =>
  show CallOK (G w) (d + 1) 279 [.tup [.str z_if, tv c, tv a, tv b]] _
  rw [tv_hd c]
  exact call_go (n := 0) (tp := [.b false]) (b__law_where w d) rfl (b__law_where_x w d) rfl (by left) (P := InP true (.str (hd c)) vls false /\ True) (by left) ⟨ni_v' h, trivial⟩
 | lt y e b =>
  show CallOK (G w) (d + 1) 279 [.tup [.str z_let, .str y, tv e, tv b]] _
  rw [tv_hd e]
  exact call_go (n := 0) (tp := [.b true]) (b__law_where w d) rfl (b__law_where_x w d) rfl (by left) (P := InP false (.str (hd e)) vls true /\ True) (by left) ⟨in_v' h, trivial⟩
noncomputable def at_ (fs : List Fr) : Int := List.casesOn fs 0 fun f J => pc f
theorem where_plug {r : Tree} (h : Red r) (fs : List Fr) (hf : ∀ f, f ∈ fs -> fok f) : CallOK (G w) (d + 1) 279 [tv (plug fs r)] (.val (.int (at_ fs))) := by
 cases fs with
 | nil => exact where_red r h
 | cons f fs => exact where_fr f (plug fs r) (plug_nv h.nv fs) (hf f List.mem_cons_self)
abbrev RW (w : World) (d : Nat) (ρ ρ' : Loc) : Prop := WhilOK (G w) d fi__law_redex (c__law_redex_296 w d).x (l__law_redex_296 w d).xs ρ .next ρ'
noncomputable abbrev rds (T n : V) (a : Int) : Loc := [some (.val T), some (.val n), some (.val (.int a))]
theorem rd_turn {T : V} (f : Fr) (x : Tree) (j : Int) {ρ' : Loc} (h : CallOK (G w) d 279 [tv x] (.val (.int j))) (k : RW w d (rds T (tv x) j) ρ') : RW w d (rds T (tv (fill f x)) (pc f)) ρ' := by
 cases f <;> exact whil_go false (ρ' := rds T (tv x) j) (tp := [.r (.val (.int j))]) (by left) (P := CallOK (G w) d 279 [tv x] (.val (.int j)) /\ True) (by left) ⟨h, trivial⟩ k
theorem rd_loop {T : V} {r : Tree} (h : Red r) : ∀ fs : List Fr, (∀ f, f ∈ fs -> fok f) -> RW w (d + 1) (rds T (tv (plug fs r)) (at_ fs)) (rds T (tv r) 0)
 | [], _ => whil_end false (tp := []) (by left) (P := True) (by left) trivial
 | f :: fs, hf => rd_turn f (plug fs r) (at_ fs) (where_plug h fs fun g q => hf g (List.mem_cons_of_mem _ q)) (rd_loop h fs fun g q => hf g (List.mem_cons_of_mem _ q))
theorem ok_redex {r : Tree} (h : Red r) (fs : List Fr) (hf : ∀ f, f ∈ fs -> fok f) : CallOK (G w) (d + 2) 293 [tv (plug fs r)] (.val (tv r)) := by
 have h1 := where_plug (w := w) (d := d) h fs hf
 have h2 := rd_loop (w := w) (d := d) (T := tv (plug fs r)) h fs hf
 generalize at_ fs = j at *
 generalize plug fs r = q at *
 exact call_go (n := 2) (tp := [.r (.val (.int j)), .l .next (rds (tv q) (tv r) 0)]) (b__law_redex w (d + 1)) rfl (b__law_redex_x w (d + 1)) rfl (by left) (P := RW w (d + 1) (rds (tv q) (tv q) j) (rds (tv q) (tv r) 0) /\ CallOK (G w) (d + 1) 279 [tv q] (.val (.int j)) /\ True) (by left) ⟨h2, h1, trivial⟩
noncomputable abbrev pls : O := .val (.tup [.str z_plus, .str z_less])
theorem wr_call (x : List Nat) (b v : Tree) : CallOK (G w) (d + 1) 286 [tv (.call (.fn x b) v)] (.val (.str z_)) :=
 call_go (n := 0) (tp := [.b false, .b false, .b false, .b false]) (b__law_wrong w d) rfl (b__law_wrong_x w d) rfl (by left) (P := ((z_call == z_if) = false) /\ (false = false) /\ InP false (.str z_call) pls false /\ ((z_fun == z_num) = false) /\ True) (by left) ⟨rfl, rfl, rfl, rfl, trivial⟩
theorem wr_callb (i : Int) (v : Tree) : CallOK (G w) (d + 1) 286 [tv (.call (.num i) v)] (.val (.str z_function)) :=
 call_go (n := 0) (tp := [.b true]) (b__law_wrong w d) rfl (b__law_wrong_x w d) rfl (by left) (P := ((z_num == z_num) = true) /\ True) (by left) ⟨rfl, trivial⟩
theorem wr_plus (i j : Int) : CallOK (G w) (d + 1) 286 [tv (.plus (.num i) (.num j))] (.val (.str z_)) :=
 call_go (n := 0) (tp := [.b false, .b true, .b false, .b false, .b false]) (b__law_wrong w d) rfl (b__law_wrong_x w d) rfl (by left) (P := ((z_plus == z_if) = false) /\ (false = false) /\ InP false (.str z_fun) (.val (.tup [.str (z_num), .str (z_num)])) false /\ InP false (.str z_plus) pls true /\ ((z_plus == z_call) = false) /\ True) (by left) ⟨rfl, rfl, rfl, rfl, rfl, trivial⟩
theorem wr_plus2 (i : Int) (x : List Nat) (b : Tree) : CallOK (G w) (d + 1) 286 [tv (.plus (.num i) (.fn x b))] (.val (.str z_number)) :=
 call_go (n := 0) (tp := [.b false, .b true, .b true, .b true]) (b__law_wrong w d) rfl (b__law_wrong_x w d) rfl (by left) (P := (true = true) /\ InP false (.str z_fun) (.val (.tup [.str (z_num), .str (z_fun)])) true /\ InP false (.str z_plus) pls true /\ ((z_plus == z_call) = false) /\ True) (by left) ⟨rfl, rfl, rfl, rfl, trivial⟩
theorem wr_plus1n (x : List Nat) (b : Tree) (j : Int) : CallOK (G w) (d + 1) 286 [tv (.plus (.fn x b) (.num j))] (.val (.str z_number)) :=
 call_go (n := 0) (tp := [.b false, .b true, .b true, .b true]) (b__law_wrong w d) rfl (b__law_wrong_x w d) rfl (by left) (P := (true = true) /\ InP false (.str z_fun) (.val (.tup [.str (z_fun), .str (z_num)])) true /\ InP false (.str z_plus) pls true /\ ((z_plus == z_call) = false) /\ True) (by left) ⟨rfl, rfl, rfl, rfl, trivial⟩
theorem wr_plus1f (x : List Nat) (b : Tree) (y : List Nat) (e : Tree) : CallOK (G w) (d + 1) 286 [tv (.plus (.fn x b) (.fn y e))] (.val (.str z_number)) :=
 call_go (n := 0) (tp := [.b false, .b true, .b true, .b true]) (b__law_wrong w d) rfl (b__law_wrong_x w d) rfl (by left) (P := (true = true) /\ InP false (.str z_fun) (.val (.tup [.str (z_fun), .str (z_fun)])) true /\ InP false (.str z_plus) pls true /\ ((z_plus == z_call) = false) /\ True) (by left) ⟨rfl, rfl, rfl, rfl, trivial⟩
theorem wr_less (i j : Int) : CallOK (G w) (d + 1) 286 [tv (.less (.num i) (.num j))] (.val (.str z_)) :=
 call_go (n := 0) (tp := [.b false, .b true, .b false, .b false, .b false]) (b__law_wrong w d) rfl (b__law_wrong_x w d) rfl (by left) (P := ((z_less == z_if) = false) /\ (false = false) /\ InP false (.str z_fun) (.val (.tup [.str (z_num), .str (z_num)])) false /\ InP false (.str z_less) pls true /\ ((z_less == z_call) = false) /\ True) (by left) ⟨rfl, rfl, rfl, rfl, rfl, trivial⟩
theorem wr_less2 (i : Int) (x : List Nat) (b : Tree) : CallOK (G w) (d + 1) 286 [tv (.less (.num i) (.fn x b))] (.val (.str z_number)) :=
 call_go (n := 0) (tp := [.b false, .b true, .b true, .b true]) (b__law_wrong w d) rfl (b__law_wrong_x w d) rfl (by left) (P := (true = true) /\ InP false (.str z_fun) (.val (.tup [.str (z_num), .str (z_fun)])) true /\ InP false (.str z_less) pls true /\ ((z_less == z_call) = false) /\ True) (by left) ⟨rfl, rfl, rfl, rfl, trivial⟩
theorem wr_less1n (x : List Nat) (b : Tree) (j : Int) : CallOK (G w) (d + 1) 286 [tv (.less (.fn x b) (.num j))] (.val (.str z_number)) :=
 call_go (n := 0) (tp := [.b false, .b true, .b true, .b true]) (b__law_wrong w d) rfl (b__law_wrong_x w d) rfl (by left) (P := (true = true) /\ InP false (.str z_fun) (.val (.tup [.str (z_fun), .str (z_num)])) true /\ InP false (.str z_less) pls true /\ ((z_less == z_call) = false) /\ True) (by left) ⟨rfl, rfl, rfl, rfl, trivial⟩
theorem wr_less1f (x : List Nat) (b : Tree) (y : List Nat) (e : Tree) : CallOK (G w) (d + 1) 286 [tv (.less (.fn x b) (.fn y e))] (.val (.str z_number)) :=
 call_go (n := 0) (tp := [.b false, .b true, .b true, .b true]) (b__law_wrong w d) rfl (b__law_wrong_x w d) rfl (by left) (P := (true = true) /\ InP false (.str z_fun) (.val (.tup [.str (z_fun), .str (z_fun)])) true /\ InP false (.str z_less) pls true /\ ((z_less == z_call) = false) /\ True) (by left) ⟨rfl, rfl, rfl, rfl, trivial⟩
theorem wr_if (i : Int) (a b : Tree) : CallOK (G w) (d + 1) 286 [tv (.ite (.num i) a b)] (.val (.str z_)) :=
 call_go (n := 0) (tp := [.b false, .b false, .b false, .b false]) (b__law_wrong w d) rfl (b__law_wrong_x w d) rfl (by left) (P := ((z_num == z_fun) = false) /\ (false = false) /\ InP false (.str z_if) pls false /\ ((z_if == z_call) = false) /\ True) (by left) ⟨rfl, rfl, rfl, rfl, trivial⟩
theorem wr_ifb (x : List Nat) (b a c : Tree) : CallOK (G w) (d + 1) 286 [tv (.ite (.fn x b) a c)] (.val (.str z_number)) :=
 call_go (n := 0) (tp := [.b false, .b false, .b false, .b true]) (b__law_wrong w d) rfl (b__law_wrong_x w d) rfl (by left) (P := ((z_fun == z_fun) = true) /\ (false = false) /\ InP false (.str z_if) pls false /\ ((z_if == z_call) = false) /\ True) (by left) ⟨rfl, rfl, rfl, rfl, trivial⟩
theorem wr_let (x : List Nat) (e b : Tree) : CallOK (G w) (d + 1) 286 [tv (.lt x e b)] (.val (.str z_)) :=
 call_go (n := 0) (tp := [.b false, .b false, .b false, .b false]) (b__law_wrong w d) rfl (b__law_wrong_x w d) rfl (by left) (P := ((z_let == z_if) = false) /\ (false = false) /\ InP false (.str z_let) pls false /\ ((z_let == z_call) = false) /\ True) (by left) ⟨rfl, rfl, rfl, rfl, trivial⟩
theorem wrong_no {r r' : Tree} (h : Deed r r') : CallOK (G w) (d + 1) 286 [tv r] (.val (.str z_)) := by
 cases h with
 | call x b v h => exact wr_call x b v
 | lt x v b h => exact wr_let x v b
 | plus i j => exact wr_plus i j
 | less i j => exact wr_less i j
 | ite0 => exact wr_if _ _ _
 | ite1 => exact wr_if _ _ _
noncomputable def wrgOf (c : Addr) : List Nat := if c = 73 then z_number else z_function
theorem wrong_yes {r : Tree} {c : Addr} (h : Bad r c) : CallOK (G w) (d + 1) 286 [tv r] (.val (.str (wrgOf c))) := by
 have val : ∀ {t : Tree}, isV t = true -> (∃ i, t = .num i) \/ ∃ x b, t = .fn x b := fun {t} h => by
  cases t with
  | num i => exact .inl ⟨i, rfl⟩
  | fn x b => exact .inr ⟨x, b, rfl⟩
  | _ => cases h
 cases h with
 | call i v h => exact wr_callb i v
 | ite x b a c => exact wr_ifb x b a c
 | plus1 x b v h =>
  rcases val h with ⟨j, rfl⟩ | ⟨y, e, rfl⟩
  ·exact wr_plus1n x b j
  ·exact wr_plus1f x b y e
 | plus2 i x b => exact wr_plus2 i x b
 | less1 x b v h =>
  rcases val h with ⟨j, rfl⟩ | ⟨y, e, rfl⟩
  ·exact wr_less1n x b j
  ·exact wr_less1f x b y e
 | less2 i x b => exact wr_less2 i x b
theorem ok_done {K : Nat} {r r' : Tree} (h : Deed r r') (hq : Qk K r) (hz : 8 * dp r + 17 < room) : CallOK (G w) (d + 3) 300 [tv r, tv r'] (.val (.bool true)) := by
 have le := Nat.le_max_left
 have ri := Nat.le_max_right
 cases h with
 | call x b v h =>
  have hs : dp (.call (.fn x b) v) = max (dp b + 1) (dp v) + 1 := rfl
  have := le (dp b + 1) (dp v); have := ri (dp b + 1) (dp v)
  have k := ok_led (w := w) (d := d) b v x (by lia)
  exact call_go (n := 1) (tp := [.r (.val (.bool true))]) (b__law_done_right w (d + 2)) rfl (b__law_done_right_x w (d + 2)) rfl (by left) (P := CallOK (G w) (d + 2) 272 [tv b, tv (subT x v b), .str x, tv v] (.val (.bool true)) /\ True) (by left) ⟨k, trivial⟩
 | lt x v b h =>
  have hs : dp (.lt x v b) = max (dp v) (dp b) + 1 := rfl
  have := le (dp v) (dp b); have := ri (dp v) (dp b)
  have k := ok_led (w := w) (d := d) b v x (by lia)
  exact call_go (n := 1) (tp := [.r (.val (.bool true))]) (b__law_done_right w (d + 2)) rfl (b__law_done_right_x w (d + 2)) rfl (by left) (P := CallOK (G w) (d + 2) 272 [tv b, tv (subT x v b), .str x, tv v] (.val (.bool true)) /\ True) (by left) ⟨k, trivial⟩
 | plus i j =>
  have k := ok_led0 (w := w) (d := d) (K := 0) (t := .num (i + j)) trivial (.plus (.num i) (.num j)) (by show 4 * 1 + 4 * 2 + 9 < room; decide)
  exact call_go (n := 1) (tp := [.r (.val (.bool true))]) (b__law_done_right w (d + 2)) rfl (b__law_done_right_x w (d + 2)) rfl (by left) (P := CallOK (G w) (d + 2) 272 [tv (.num (i + j)), tv (.num (i + j)), .str z_, tv (.plus (.num i) (.num j))] (.val (.bool true)) /\ True) (by left) ⟨k, trivial⟩
 | less i j =>
  have k := ok_led0 (w := w) (d := d) (K := 0) (t := .num (i - j)) trivial (.less (.num i) (.num j)) (by show 4 * 1 + 4 * 2 + 9 < room; decide)
  exact call_go (n := 1) (tp := [.r (.val (.bool true))]) (b__law_done_right w (d + 2)) rfl (b__law_done_right_x w (d + 2)) rfl (by left) (P := CallOK (G w) (d + 2) 272 [tv (.num (i - j)), tv (.num (i - j)), .str z_, tv (.less (.num i) (.num j))] (.val (.bool true)) /\ True) (by left) ⟨k, trivial⟩
 | ite0 a =>
  have hs : dp (.ite (.num 0) a r') = max 1 (max (dp a) (dp r')) + 1 := rfl
  have := ri 1 (max (dp a) (dp r')); have := ri (dp a) (dp r')
  have k := ok_led0 (w := w) (d := d) hq.2.2 (.ite (.num 0) a r') (by lia)
  exact call_go (n := 1) (tp := [.b false, .r (.val (.bool true))]) (b__law_done_right w (d + 2)) rfl (b__law_done_right_x w (d + 2)) rfl (by left) (P := CallOK (G w) (d + 2) 272 [tv r', tv r', .str z_, tv (.ite (.num 0) a r')] (.val (.bool true)) /\ ((!((0 : Int) == 0)) = false) /\ True) (by left) ⟨k, rfl, trivial⟩
 | ite1 i a b hi =>
  have hs : dp (.ite (.num i) r' b) = max 1 (max (dp r') (dp b)) + 1 := rfl
  have := ri 1 (max (dp r') (dp b)); have := le (dp r') (dp b)
  have k := ok_led0 (w := w) (d := d) hq.2.1 (.ite (.num i) r' b) (by lia)
  exact call_go (n := 1) (tp := [.b true, .r (.val (.bool true))]) (b__law_done_right w (d + 2)) rfl (b__law_done_right_x w (d + 2)) rfl (by left) (P := CallOK (G w) (d + 2) 272 [tv r', tv r', .str z_, tv (.ite (.num i) r' b)] (.val (.bool true)) /\ ((!(i == 0)) = true) /\ True) (by left) ⟨k, by rw [beq_eq_false_iff_ne.mpr hi]; rfl, trivial⟩
noncomputable abbrev aps (T f n : V) (a : Int) (x4 : Option O) : Loc := [some (.val T), some (.val f), some (.val n), some (.val (.int a)), x4]
abbrev AW (w : World) (d : Nat) (ρ : Loc) (Φ : Fl -> Loc -> Prop) : Prop := WhP (c__law_apart_314 w d) (l__law_apart_314 w d) ρ Φ
abbrev AF (w : World) (d : Nat) (l : List V) (ρ ρ' : Loc) : Prop := ForOK (G w) d fi__law_apart (.Name "_law_k" (qp 317 12 18)) (l__law_apart_317 w d).xs l ρ .next ρ'
theorem ap_turn {K : Nat} {T : V} (f : Fr) (x x' : Tree) (j : Int) {x4 : Option O} {Φ : Fl -> Loc -> Prop} (hq : Qk K (fill f x)) (hz : 8 * dp (fill f x) + 17 < room) (h : CallOK (G w) (d + 2) 279 [tv x] (.val (.int j))) (k : ∀ x4, AW w (d + 2) (aps T (tv x') (tv x) j x4) Φ) : AW w (d + 2) (aps T (tv (fill f x')) (tv (fill f x)) (pc f) x4) Φ := by
 have le := Nat.le_max_left
 have ri := Nat.le_max_right
 cases f with
 | call1 b =>
  have hs : dp (.call x b) = max (dp x) (dp b) + 1 := rfl
  have hz : 8 * dp (.call x b) + 17 < room := hz
  have := le (dp x) (dp b); have := ri (dp x) (dp b)
  have hf : AF w (d + 2) [.int 0, .int 1, .int 2] (aps T (tv (.call x' b)) (tv (.call x b)) 1 x4) (aps T (tv (.call x' b)) (tv (.call x b)) 1 (some (.val (.int 2)))) := (for_go (i := 4) (ρ' := aps T (tv (.call x' b)) (tv (.call x b)) 1 (some (.val (.int 0)))) (tp := [.r (.val (.bool true))]) (by left) (by left) (P := CallOK (G w) (d + 2) 272 [V.str z_call, V.str z_call, .str z_, tv (.call x b)] (.val (.bool true)) /\ True) (by left) ⟨led_text _ _, trivial⟩ (for_go (i := 4) (ρ' := aps T (tv (.call x' b)) (tv (.call x b)) 1 (some (.val (.int 1)))) (tp := []) (by left) (by left) (P := True) (by left) trivial (for_go (i := 4) (ρ' := aps T (tv (.call x' b)) (tv (.call x b)) 1 (some (.val (.int 2)))) (tp := [.r (.val (.bool true))]) (by left) (by left) (P := CallOK (G w) (d + 2) 272 [tv b, tv b, .str z_, tv (.call x b)] (.val (.bool true)) /\ True) (by left) ⟨ok_led0 hq.2 (.call x b) (by lia), trivial⟩ for_nil)))
  exact whp_go false (tp := [.l .next (aps T (tv (.call x' b)) (tv (.call x b)) 1 (some (.val (.int 2)))), .r (.val (.int j))]) (ρ' := aps T (tv x') (tv x) j (some (.val (.int 2)))) (by left) (P := CallOK (G w) (d + 2) 279 [tv x] (.val (.int j)) /\ AF w (d + 2) [.int 0, .int 1, .int 2] (aps T (tv (.call x' b)) (tv (.call x b)) 1 x4) (aps T (tv (.call x' b)) (tv (.call x b)) 1 (some (.val (.int 2)))) /\ (3 <= 1000000) /\ True) (by left) ⟨h, hf, by decide, trivial⟩ (k _)
 | call2 a =>
  have hs : dp (.call a x) = max (dp a) (dp x) + 1 := rfl
  have hz : 8 * dp (.call a x) + 17 < room := hz
  have := le (dp a) (dp x); have := ri (dp a) (dp x)
  have hf : AF w (d + 2) [.int 0, .int 1, .int 2] (aps T (tv (.call a x')) (tv (.call a x)) 2 x4) (aps T (tv (.call a x')) (tv (.call a x)) 2 (some (.val (.int 2)))) := (for_go (i := 4) (ρ' := aps T (tv (.call a x')) (tv (.call a x)) 2 (some (.val (.int 0)))) (tp := [.r (.val (.bool true))]) (by left) (by left) (P := CallOK (G w) (d + 2) 272 [V.str z_call, V.str z_call, .str z_, tv (.call a x)] (.val (.bool true)) /\ True) (by left) ⟨led_text _ _, trivial⟩ (for_go (i := 4) (ρ' := aps T (tv (.call a x')) (tv (.call a x)) 2 (some (.val (.int 1)))) (tp := [.r (.val (.bool true))]) (by left) (by left) (P := CallOK (G w) (d + 2) 272 [tv a, tv a, .str z_, tv (.call a x)] (.val (.bool true)) /\ True) (by left) ⟨ok_led0 hq.1 (.call a x) (by lia), trivial⟩ (for_go (i := 4) (ρ' := aps T (tv (.call a x')) (tv (.call a x)) 2 (some (.val (.int 2)))) (tp := []) (by left) (by left) (P := True) (by left) trivial for_nil)))
  exact whp_go false (tp := [.l .next (aps T (tv (.call a x')) (tv (.call a x)) 2 (some (.val (.int 2)))), .r (.val (.int j))]) (ρ' := aps T (tv x') (tv x) j (some (.val (.int 2)))) (by left) (P := CallOK (G w) (d + 2) 279 [tv x] (.val (.int j)) /\ AF w (d + 2) [.int 0, .int 1, .int 2] (aps T (tv (.call a x')) (tv (.call a x)) 2 x4) (aps T (tv (.call a x')) (tv (.call a x)) 2 (some (.val (.int 2)))) /\ (3 <= 1000000) /\ True) (by left) ⟨h, hf, by decide, trivial⟩ (k _)
 | plus1 b =>
  have hs : dp (.plus x b) = max (dp x) (dp b) + 1 := rfl
  have hz : 8 * dp (.plus x b) + 17 < room := hz
  have := le (dp x) (dp b); have := ri (dp x) (dp b)
  have hf : AF w (d + 2) [.int 0, .int 1, .int 2] (aps T (tv (.plus x' b)) (tv (.plus x b)) 1 x4) (aps T (tv (.plus x' b)) (tv (.plus x b)) 1 (some (.val (.int 2)))) := (for_go (i := 4) (ρ' := aps T (tv (.plus x' b)) (tv (.plus x b)) 1 (some (.val (.int 0)))) (tp := [.r (.val (.bool true))]) (by left) (by left) (P := CallOK (G w) (d + 2) 272 [V.str z_plus, V.str z_plus, .str z_, tv (.plus x b)] (.val (.bool true)) /\ True) (by left) ⟨led_text _ _, trivial⟩ (for_go (i := 4) (ρ' := aps T (tv (.plus x' b)) (tv (.plus x b)) 1 (some (.val (.int 1)))) (tp := []) (by left) (by left) (P := True) (by left) trivial (for_go (i := 4) (ρ' := aps T (tv (.plus x' b)) (tv (.plus x b)) 1 (some (.val (.int 2)))) (tp := [.r (.val (.bool true))]) (by left) (by left) (P := CallOK (G w) (d + 2) 272 [tv b, tv b, .str z_, tv (.plus x b)] (.val (.bool true)) /\ True) (by left) ⟨ok_led0 hq.2 (.plus x b) (by lia), trivial⟩ for_nil)))
  exact whp_go false (tp := [.l .next (aps T (tv (.plus x' b)) (tv (.plus x b)) 1 (some (.val (.int 2)))), .r (.val (.int j))]) (ρ' := aps T (tv x') (tv x) j (some (.val (.int 2)))) (by left) (P := CallOK (G w) (d + 2) 279 [tv x] (.val (.int j)) /\ AF w (d + 2) [.int 0, .int 1, .int 2] (aps T (tv (.plus x' b)) (tv (.plus x b)) 1 x4) (aps T (tv (.plus x' b)) (tv (.plus x b)) 1 (some (.val (.int 2)))) /\ (3 <= 1000000) /\ True) (by left) ⟨h, hf, by decide, trivial⟩ (k _)
 | plus2 a =>
  have hs : dp (.plus a x) = max (dp a) (dp x) + 1 := rfl
  have hz : 8 * dp (.plus a x) + 17 < room := hz
  have := le (dp a) (dp x); have := ri (dp a) (dp x)
  have hf : AF w (d + 2) [.int 0, .int 1, .int 2] (aps T (tv (.plus a x')) (tv (.plus a x)) 2 x4) (aps T (tv (.plus a x')) (tv (.plus a x)) 2 (some (.val (.int 2)))) := (for_go (i := 4) (ρ' := aps T (tv (.plus a x')) (tv (.plus a x)) 2 (some (.val (.int 0)))) (tp := [.r (.val (.bool true))]) (by left) (by left) (P := CallOK (G w) (d + 2) 272 [V.str z_plus, V.str z_plus, .str z_, tv (.plus a x)] (.val (.bool true)) /\ True) (by left) ⟨led_text _ _, trivial⟩ (for_go (i := 4) (ρ' := aps T (tv (.plus a x')) (tv (.plus a x)) 2 (some (.val (.int 1)))) (tp := [.r (.val (.bool true))]) (by left) (by left) (P := CallOK (G w) (d + 2) 272 [tv a, tv a, .str z_, tv (.plus a x)] (.val (.bool true)) /\ True) (by left) ⟨ok_led0 hq.1 (.plus a x) (by lia), trivial⟩ (for_go (i := 4) (ρ' := aps T (tv (.plus a x')) (tv (.plus a x)) 2 (some (.val (.int 2)))) (tp := []) (by left) (by left) (P := True) (by left) trivial for_nil)))
  exact whp_go false (tp := [.l .next (aps T (tv (.plus a x')) (tv (.plus a x)) 2 (some (.val (.int 2)))), .r (.val (.int j))]) (ρ' := aps T (tv x') (tv x) j (some (.val (.int 2)))) (by left) (P := CallOK (G w) (d + 2) 279 [tv x] (.val (.int j)) /\ AF w (d + 2) [.int 0, .int 1, .int 2] (aps T (tv (.plus a x')) (tv (.plus a x)) 2 x4) (aps T (tv (.plus a x')) (tv (.plus a x)) 2 (some (.val (.int 2)))) /\ (3 <= 1000000) /\ True) (by left) ⟨h, hf, by decide, trivial⟩ (k _)
 | less1 b =>
  have hs : dp (.less x b) = max (dp x) (dp b) + 1 := rfl
  have hz : 8 * dp (.less x b) + 17 < room := hz
  have := le (dp x) (dp b); have := ri (dp x) (dp b)
  have hf : AF w (d + 2) [.int 0, .int 1, .int 2] (aps T (tv (.less x' b)) (tv (.less x b)) 1 x4) (aps T (tv (.less x' b)) (tv (.less x b)) 1 (some (.val (.int 2)))) := (for_go (i := 4) (ρ' := aps T (tv (.less x' b)) (tv (.less x b)) 1 (some (.val (.int 0)))) (tp := [.r (.val (.bool true))]) (by left) (by left) (P := CallOK (G w) (d + 2) 272 [V.str z_less, V.str z_less, .str z_, tv (.less x b)] (.val (.bool true)) /\ True) (by left) ⟨led_text _ _, trivial⟩ (for_go (i := 4) (ρ' := aps T (tv (.less x' b)) (tv (.less x b)) 1 (some (.val (.int 1)))) (tp := []) (by left) (by left) (P := True) (by left) trivial (for_go (i := 4) (ρ' := aps T (tv (.less x' b)) (tv (.less x b)) 1 (some (.val (.int 2)))) (tp := [.r (.val (.bool true))]) (by left) (by left) (P := CallOK (G w) (d + 2) 272 [tv b, tv b, .str z_, tv (.less x b)] (.val (.bool true)) /\ True) (by left) ⟨ok_led0 hq.2 (.less x b) (by lia), trivial⟩ for_nil)))
  exact whp_go false (tp := [.l .next (aps T (tv (.less x' b)) (tv (.less x b)) 1 (some (.val (.int 2)))), .r (.val (.int j))]) (ρ' := aps T (tv x') (tv x) j (some (.val (.int 2)))) (by left) (P := CallOK (G w) (d + 2) 279 [tv x] (.val (.int j)) /\ AF w (d + 2) [.int 0, .int 1, .int 2] (aps T (tv (.less x' b)) (tv (.less x b)) 1 x4) (aps T (tv (.less x' b)) (tv (.less x b)) 1 (some (.val (.int 2)))) /\ (3 <= 1000000) /\ True) (by left) ⟨h, hf, by decide, trivial⟩ (k _)
 | less2 a =>
  have hs : dp (.less a x) = max (dp a) (dp x) + 1 := rfl
  have hz : 8 * dp (.less a x) + 17 < room := hz
  have := le (dp a) (dp x); have := ri (dp a) (dp x)
  have hf : AF w (d + 2) [.int 0, .int 1, .int 2] (aps T (tv (.less a x')) (tv (.less a x)) 2 x4) (aps T (tv (.less a x')) (tv (.less a x)) 2 (some (.val (.int 2)))) := (for_go (i := 4) (ρ' := aps T (tv (.less a x')) (tv (.less a x)) 2 (some (.val (.int 0)))) (tp := [.r (.val (.bool true))]) (by left) (by left) (P := CallOK (G w) (d + 2) 272 [V.str z_less, V.str z_less, .str z_, tv (.less a x)] (.val (.bool true)) /\ True) (by left) ⟨led_text _ _, trivial⟩ (for_go (i := 4) (ρ' := aps T (tv (.less a x')) (tv (.less a x)) 2 (some (.val (.int 1)))) (tp := [.r (.val (.bool true))]) (by left) (by left) (P := CallOK (G w) (d + 2) 272 [tv a, tv a, .str z_, tv (.less a x)] (.val (.bool true)) /\ True) (by left) ⟨ok_led0 hq.1 (.less a x) (by lia), trivial⟩ (for_go (i := 4) (ρ' := aps T (tv (.less a x')) (tv (.less a x)) 2 (some (.val (.int 2)))) (tp := []) (by left) (by left) (P := True) (by left) trivial for_nil)))
  exact whp_go false (tp := [.l .next (aps T (tv (.less a x')) (tv (.less a x)) 2 (some (.val (.int 2)))), .r (.val (.int j))]) (ρ' := aps T (tv x') (tv x) j (some (.val (.int 2)))) (by left) (P := CallOK (G w) (d + 2) 279 [tv x] (.val (.int j)) /\ AF w (d + 2) [.int 0, .int 1, .int 2] (aps T (tv (.less a x')) (tv (.less a x)) 2 x4) (aps T (tv (.less a x')) (tv (.less a x)) 2 (some (.val (.int 2)))) /\ (3 <= 1000000) /\ True) (by left) ⟨h, hf, by decide, trivial⟩ (k _)
 | ite1 a b =>
  have hs : dp (.ite x a b) = max (dp x) (max (dp a) (dp b)) + 1 := rfl
  have hz : 8 * dp (.ite x a b) + 17 < room := hz
  have := ri (dp x) (max (dp a) (dp b)); have := le (dp a) (dp b); have := ri (dp a) (dp b)
  have hf : AF w (d + 2) [.int 0, .int 1, .int 2, .int 3] (aps T (tv (.ite x' a b)) (tv (.ite x a b)) 1 x4) (aps T (tv (.ite x' a b)) (tv (.ite x a b)) 1 (some (.val (.int 3)))) := (for_go (i := 4) (ρ' := aps T (tv (.ite x' a b)) (tv (.ite x a b)) 1 (some (.val (.int 0)))) (tp := [.r (.val (.bool true))]) (by left) (by left) (P := CallOK (G w) (d + 2) 272 [V.str z_if, V.str z_if, .str z_, tv (.ite x a b)] (.val (.bool true)) /\ True) (by left) ⟨led_text _ _, trivial⟩ (for_go (i := 4) (ρ' := aps T (tv (.ite x' a b)) (tv (.ite x a b)) 1 (some (.val (.int 1)))) (tp := []) (by left) (by left) (P := True) (by left) trivial (for_go (i := 4) (ρ' := aps T (tv (.ite x' a b)) (tv (.ite x a b)) 1 (some (.val (.int 2)))) (tp := [.r (.val (.bool true))]) (by left) (by left) (P := CallOK (G w) (d + 2) 272 [tv a, tv a, .str z_, tv (.ite x a b)] (.val (.bool true)) /\ True) (by left) ⟨ok_led0 hq.2.1 (.ite x a b) (by lia), trivial⟩ (for_go (i := 4) (ρ' := aps T (tv (.ite x' a b)) (tv (.ite x a b)) 1 (some (.val (.int 3)))) (tp := [.r (.val (.bool true))]) (by left) (by left) (P := CallOK (G w) (d + 2) 272 [tv b, tv b, .str z_, tv (.ite x a b)] (.val (.bool true)) /\ True) (by left) ⟨ok_led0 hq.2.2 (.ite x a b) (by lia), trivial⟩ for_nil))))
  exact whp_go false (tp := [.l .next (aps T (tv (.ite x' a b)) (tv (.ite x a b)) 1 (some (.val (.int 3)))), .r (.val (.int j))]) (ρ' := aps T (tv x') (tv x) j (some (.val (.int 3)))) (by left) (P := CallOK (G w) (d + 2) 279 [tv x] (.val (.int j)) /\ AF w (d + 2) [.int 0, .int 1, .int 2, .int 3] (aps T (tv (.ite x' a b)) (tv (.ite x a b)) 1 x4) (aps T (tv (.ite x' a b)) (tv (.ite x a b)) 1 (some (.val (.int 3)))) /\ (4 <= 1000000) /\ True) (by left) ⟨h, hf, by decide, trivial⟩ (k _)
 | lt2 y b =>
  have hs : dp (.lt y x b) = max (dp x) (dp b) + 1 := rfl
  have hz : 8 * dp (.lt y x b) + 17 < room := hz
  have := ri (dp x) (dp b)
  have hf : AF w (d + 2) [.int 0, .int 1, .int 2, .int 3] (aps T (tv (.lt y x' b)) (tv (.lt y x b)) 2 x4) (aps T (tv (.lt y x' b)) (tv (.lt y x b)) 2 (some (.val (.int 3)))) := (for_go (i := 4) (ρ' := aps T (tv (.lt y x' b)) (tv (.lt y x b)) 2 (some (.val (.int 0)))) (tp := [.r (.val (.bool true))]) (by left) (by left) (P := CallOK (G w) (d + 2) 272 [V.str z_let, V.str z_let, .str z_, tv (.lt y x b)] (.val (.bool true)) /\ True) (by left) ⟨led_text _ _, trivial⟩ (for_go (i := 4) (ρ' := aps T (tv (.lt y x' b)) (tv (.lt y x b)) 2 (some (.val (.int 1)))) (tp := [.r (.val (.bool true))]) (by left) (by left) (P := CallOK (G w) (d + 2) 272 [V.str y, V.str y, .str z_, tv (.lt y x b)] (.val (.bool true)) /\ True) (by left) ⟨led_text _ _, trivial⟩ (for_go (i := 4) (ρ' := aps T (tv (.lt y x' b)) (tv (.lt y x b)) 2 (some (.val (.int 2)))) (tp := []) (by left) (by left) (P := True) (by left) trivial (for_go (i := 4) (ρ' := aps T (tv (.lt y x' b)) (tv (.lt y x b)) 2 (some (.val (.int 3)))) (tp := [.r (.val (.bool true))]) (by left) (by left) (P := CallOK (G w) (d + 2) 272 [tv b, tv b, .str z_, tv (.lt y x b)] (.val (.bool true)) /\ True) (by left) ⟨ok_led0 hq.2.2 (.lt y x b) (by lia), trivial⟩ for_nil))))
  exact whp_go false (tp := [.l .next (aps T (tv (.lt y x' b)) (tv (.lt y x b)) 2 (some (.val (.int 3)))), .r (.val (.int j))]) (ρ' := aps T (tv x') (tv x) j (some (.val (.int 3)))) (by left) (P := CallOK (G w) (d + 2) 279 [tv x] (.val (.int j)) /\ AF w (d + 2) [.int 0, .int 1, .int 2, .int 3] (aps T (tv (.lt y x' b)) (tv (.lt y x b)) 2 x4) (aps T (tv (.lt y x' b)) (tv (.lt y x b)) 2 (some (.val (.int 3)))) /\ (4 <= 1000000) /\ True) (by left) ⟨h, hf, by decide, trivial⟩ (k _)
theorem ap_loop {K : Nat} {T : V} {r r' : Tree} (h : Red r) : ∀ (fs : List Fr) {x4 : Option O}, (∀ f, f ∈ fs -> fok f) -> Qk K (plug fs r) -> 8 * dp (plug fs r) + 17 < room -> AW w (d + 2) (aps T (tv (plug fs r')) (tv (plug fs r)) (at_ fs) x4) fun fl ρ => fl = .next /\ ∃ x4, ρ = aps T (tv r') (tv r) 0 x4
 | [], x4, _, _, _ => whp_end false (tp := []) (ρ' := aps T (tv r') (tv r) 0 x4) (by left) (P := True) (by left) trivial ⟨rfl, _, rfl⟩
 | f :: fs, x4, hf, hq, hz => by
  have h1 := fill_dp f (plug fs r)
  have hz : 8 * dp (fill f (plug fs r)) + 17 < room := hz
  exact ap_turn f (plug fs r) (plug fs r') (at_ fs) hq hz (where_plug h fs fun g q => hf g (List.mem_cons_of_mem _ q)) fun J => ap_loop h fs (fun g q => hf g (List.mem_cons_of_mem _ q)) (fill_q hq) (by lia)
theorem ok_apart {K : Nat} {r r' : Tree} (h : Deed r r') (fs : List Fr) (hf : ∀ f, f ∈ fs -> fok f) (hq : Qk K (plug fs r)) (hz : 8 * dp (plug fs r) + 17 < room) : CallOK (G w) (d + 4) 307 [tv (plug fs r), tv (plug fs r')] (.val (.bool true)) := by
 have hp := plug_dp fs r
 have h1 := where_plug (w := w) (d := d + 2) h.red fs hf
 have h3 := ok_done (w := w) (d := d) h (plug_q fs hq) (by lia)
 obtain ⟨fl, ρ, hw, rfl, x4, rfl⟩ := ap_loop (w := w) (d := d + 1) (T := tv (plug fs r)) (r' := r') h.red fs (x4 := none) hf hq hz
 generalize at_ fs = j at *
 generalize plug fs r = q at *
 generalize plug fs r' = q' at *
 exact call_go (n := 3) (tp := [.r (.val (.int j)), .l .next (aps (tv q) (tv r') (tv r) 0 x4), .r (.val (.bool true))]) (b__law_apart w (d + 3)) rfl (b__law_apart_x w (d + 3)) rfl (by left) (P := CallOK (G w) (d + 3) 300 [tv r, tv r'] (.val (.bool true)) /\ WhilOK (G w) (d + 3) fi__law_apart (c__law_apart_314 w (d + 3)).x (l__law_apart_314 w (d + 3)).xs (aps (tv q) (tv q') (tv q) j none) .next (aps (tv q) (tv r') (tv r) 0 x4) /\ CallOK (G w) (d + 3) 279 [tv q] (.val (.int j)) /\ True) (by left) ⟨h3, hw, h1, trivial⟩
end Mine.L09
end
section
namespace Mine.L09
variable {w : World}
def Pick (o : O) (i : Int) (v : O) : Prop := (subO o i).bind (fun v => some (O.val v)) = some v
theorem mod_cases (c : Int) (n : Nat) (hn : 0 < n) : ∃ k : Nat, k < n /\ c % (n : Int) = (k : Int) :=
 ⟨(c % (n : Int)).toNat, by have := Int.emod_lt_of_pos c (b := (n : Int)) (by lia); have := Int.emod_nonneg c (b := (n : Int)) (by lia); lia, by have := Int.emod_nonneg c (b := (n : Int)) (by lia); lia⟩
noncomputable def lt26 (i : Int) : Nat := letters.getD (i % 26).toNat 0
theorem letter (i : Int) : Pick (.val (.str z_az)) (i % 26) (.val (.str [lt26 i])) := by
 obtain ⟨k, hk, e1⟩ := mod_cases i 26 (by decide)
 have e1 : i % 26 = Int.ofNat k := e1
 have hl : k < letters.length := hk
 unfold Pick lt26; rw [e1]
 show ((letters[k]?).bind fun c => some (V.str [c])).bind (fun v => some (O.val v)) = some (O.val (V.str [letters.getD k 0]))
 rw [List.getElem?_eq_getElem hl]
 simp [hl]
theorem letter_in (i : Int) : letters.contains (lt26 i) = true := by
 obtain ⟨k, hk, e1⟩ := mod_cases i 26 (by decide)
 have e1 : i % 26 = Int.ofNat k := e1
 unfold lt26; rw [e1]
 have : ∀ k, k < 26 -> letters.contains (letters.getD k 0) = true := by decide +kernel
 exact this k hk
theorem words_len : ∀ w ∈ words, 2 <= w.length /\ w.length <= 4 := by decide
theorem name_of {z : List Nat} (h1 : 1 <= z.length) (h8 : z.length <= 8) (hw : words.any (· == z) = false) (hl : ∀ x ∈ z, letters.contains x = true) : isName z = true := by
 unfold isName; rw [hw, List.all_eq_true.mpr hl, decide_eq_true (by lia), decide_eq_true (by lia)]; rfl
theorem name_one {L : Nat} (h : letters.contains L = true) : isName [L] = true := by
 refine name_of (Nat.le_refl _) (by show 1 <= 8; lia) (List.any_eq_false.mpr fun w hw q => ?_) fun x hx => ?_
 ·have := (words_len w hw).1
  rw [eq_of_beq q] at this; simp at this
 ·cases List.mem_singleton.mp hx; exact h
theorem cut_l (r : List Nat) (n : Nat) : cut r none (some n) = r.take n := by unfold cut; rfl
theorem cut_r (r : List Nat) (n : Nat) : cut r (some n) none = r.drop n := by unfold cut; rfl
theorem cut_len (r : List Nat) (a b : Option Nat) : (cut r a b).length <= r.length := by
 unfold cut
 rw [List.length_drop]
 cases b with
 | none => exact Nat.sub_le _ _
 | some b => exact Nat.le_trans (Nat.sub_le _ _) (by rw [List.length_take]; exact Nat.min_le_right _ _)
section
variable {d : Nat}
theorem ok_cell (ns : List Int) (m : Nat) : ∃ c, CallOK (G w) (d + 1) 225 [.lst (ns.map .int), .int (Int.ofNat m)] (.val (.int c)) := by
 by_cases h : m < ns.length
 ·refine ⟨ns[m], call_go (n := 0) (tp := [.b true, .r (.val (.int ns[m]))]) (b__law_cell_at w d) rfl (b__law_cell_at_x w d) rfl (by left) (P := Pick (.val (.lst (ns.map .int))) (Int.ofNat m) (.val (.int ns[m])) /\ decide ((Int.ofNat m) < ((ns.map V.int).length : Int)) = true /\ True) (by left) ⟨?_, ?_, trivial⟩⟩
  ·show ((ns.map V.int)[m]?).bind _ = _
   rw [List.getElem?_map, List.getElem?_eq_getElem h]; rfl
  ·rw [List.length_map, decide_eq_true_eq]; exact Int.ofNat_lt.mpr h
 ·refine ⟨0, call_go (n := 0) (tp := [.b false]) (b__law_cell_at w d) rfl (b__law_cell_at_x w d) rfl (by left) (P := decide ((Int.ofNat m) < ((ns.map V.int).length : Int)) = false /\ True) (by left) ⟨?_, trivial⟩⟩
  rw [List.length_map, decide_eq_false_iff_not]; exact fun q => h (Int.ofNat_lt.mp q)
noncomputable abbrev nbs (c : Int) (r : List Nat) (x3 : Option O) : Loc := [some (.val (.int c)), some (.val (.str z_az)), some (.val (.str r)), x3, none, none]
noncomputable def com (q : Int) (n : Nat) : Int -> List Nat := @Nat.rec (fun J => Int -> List Nat) (fun J => []) (fun J f a => lt26 (q + 11 * a) :: f (a + 1)) n
theorem com_len (q : Int) : ∀ (n : Nat) (a : Int), (com q n a).length = n
 | 0, _ => rfl
 | n + 1, a => congrArg (· + 1) (com_len q n (a + 1))
theorem com_in (q : Int) : ∀ (n : Nat) (a : Int) (x : Nat), x ∈ com q n a -> letters.contains x = true
 | 0, _, _, h => by cases h
 | n + 1, a, x, h => by
  rcases List.mem_cons.mp (show x ∈ lt26 (q + 11 * a) :: com q n (a + 1) from h) with rfl | h
  ·exact letter_in _
  ·exact com_in q n (a + 1) x h
theorem nb_for (c : Int) : ∀ (n : Nat) (a : Int) (r : List Nat) (x3 : Option O), r.length + n <= 7 -> ∃ y3, ForOK (G w) d fi__law_name_by (.Name "_law_turn" (qp 181 8 17)) (l__law_name_by_181 w d).xs (rangeL a n) (nbs c r x3) .next (nbs c (r ++ com (c / 208) n a) y3)
 | 0, a, r, x3, h => ⟨x3, by show ForOK _ _ _ _ _ _ _ _ (nbs c (r ++ []) x3); rw [List.append_nil]; exact for_nil⟩
 | n + 1, a, r, x3, h => by
  have hl : (r ++ [lt26 (c / 208 + 11 * a)]).length = r.length + 1 := by simp
  obtain ⟨y3, h3⟩ := nb_for c n (a + 1) (r ++ [lt26 (c / 208 + 11 * a)]) (some (.val (.int a))) (by lia)
  have e : r ++ com (c / 208) (n + 1) a = r ++ [lt26 (c / 208 + 11 * a)] ++ com (c / 208) n (a + 1) := by rw [List.append_assoc]; rfl
  rw [e]
  exact ⟨y3, for_go (i := 3) (ρ' := nbs c (r ++ [lt26 (c / 208 + 11 * a)]) (some (.val (.int a)))) (tp := [.r (.val (.str [lt26 (c / 208 + 11 * a)]))]) (by left) (by left) (P := ((r ++ [lt26 (c / 208 + 11 * a)]).length <= room) /\ Pick (.val (.str z_az)) ((c / 208 + 11 * a) % 26) (.val (.str [lt26 (c / 208 + 11 * a)])) /\ ((0 : Int) < 26) /\ ((11 : Int).natAbs < 2 ^ 62 \/ a.natAbs < 2 ^ 62) /\ ((0 : Int) < 208 /\ (208 : Int) < 2 ^ 29) /\ True) (by left) ⟨by rw [hl]; show _ <= 1000000; lia, letter _, by decide, .inl (by decide), by decide, trivial⟩ h3⟩
noncomputable def nmW (r : List Nat) (k : Nat) (x : Nat) : List Nat := r.take k ++ [x] ++ r.drop k
noncomputable def nmR (r : List Nat) (k : Nat) (x : Nat) : List Nat := Bool.casesOn (words.any (· == nmW r k x)) (nmW r k x) [x]
noncomputable def rOf (c : Int) : List Nat := com (c / 208) (c / 26 % 8).toNat 0
noncomputable def kOf (c : Int) : Nat := (c / 208 % (((rOf c).length : Int) + 1)).toNat
theorem rOf_len (c : Int) : (rOf c).length <= 7 := by
 unfold rOf; rw [com_len]
 have := Int.emod_lt_of_pos (c / 26) (b := 8) (by decide)
 have := Int.emod_nonneg (c / 26) (b := 8) (by decide)
 lia
theorem nm_ok (c : Int) : isName (nmR (rOf c) (kOf c) (lt26 c)) = true := by
 have h7 := rOf_len c
 unfold nmR
 cases h : words.any (· == nmW (rOf c) (kOf c) (lt26 c)) with
 | true => exact name_one (letter_in c)
 | false =>
  refine name_of ?_ ?_ h fun x hx => ?_
  ·show 1 <= (nmW (rOf c) (kOf c) (lt26 c)).length; unfold nmW; simp only [List.length_append, List.length_singleton]; lia
  ·show (nmW (rOf c) (kOf c) (lt26 c)).length <= 8; unfold nmW; simp only [List.length_append, List.length_singleton, List.length_take, List.length_drop]; lia
  ·have hx : x ∈ nmW (rOf c) (kOf c) (lt26 c) := hx
   unfold nmW at hx
   rcases List.mem_append.mp hx with hx | hx
   ·rcases List.mem_append.mp hx with hx | hx
    ·exact com_in _ _ _ x (List.mem_of_mem_take hx)
    ·cases List.mem_singleton.mp hx; exact letter_in _
   ·exact com_in _ _ _ x (List.mem_of_mem_drop hx)
theorem ok_nb (c : Int) : CallOK (G w) (d + 1) 232 [.int c] (.val (.str (nmR (rOf c) (kOf c) (lt26 c)))) := by
 have h8 := Int.emod_lt_of_pos (c / 26) (b := 8) (by decide)
 have h80 := Int.emod_nonneg (c / 26) (b := 8) (by decide)
 have h1 := rOf_len c
 obtain ⟨y3, hf⟩ := nb_for (w := w) (d := d) c (c / 26 % 8 - 0).toNat 0 [] none (by show 0 + _ <= 7; lia)
 have e0 : ([] : List Nat) ++ com (c / 208) (c / 26 % 8 - 0).toNat 0 = rOf c := by unfold rOf; rw [List.nil_append, Int.sub_zero]
 rw [e0] at hf
 unfold kOf
 generalize rOf c = r at *
 have hw := letter c
 have a1 := Int.emod_lt_of_pos (c / 208) (b := (r.length : Int) + 1) (by lia)
 have a2 := Int.emod_nonneg (c / 208) (b := (r.length : Int) + 1) (by lia)
 have hat : 0 <= (c / 208 % ((r.length : Int) + 1)) /\ (c / 208 % ((r.length : Int) + 1)) <= 1000000 := ⟨a2, by lia⟩
 have c1 := cut_len r none (some (c / 208 % ((r.length : Int) + 1)).toNat)
 have c2 := cut_len r (some (c / 208 % ((r.length : Int) + 1)).toNat) none
 unfold nmR
 have e1 : nmW r (c / 208 % ((r.length : Int) + 1)).toNat (lt26 c) = (cut r none (some (c / 208 % ((r.length : Int) + 1)).toNat) ++ [lt26 c] ++ cut r (some (c / 208 % ((r.length : Int) + 1)).toNat) none) := by unfold nmW; rw [cut_l, cut_r]
 rw [e1]
 cases hb : words.any (· == (cut r none (some (c / 208 % ((r.length : Int) + 1)).toNat) ++ [lt26 c] ++ cut r (some (c / 208 % ((r.length : Int) + 1)).toNat) none)) with
 | false => exact call_go (n := 5) (tp := [.l .next (nbs c r y3), .r (.val (.str [lt26 c])), .b false]) (o := .val (.str (cut r none (some (c / 208 % ((r.length : Int) + 1)).toNat) ++ [lt26 c] ++ cut r (some (c / 208 % ((r.length : Int) + 1)).toNat) none))) (b__law_name_by w d) rfl (b__law_name_by_x w d) rfl (by left) (P := [z_num, z_name, z_fun, z_call, z_plus, z_less, z_if, z_let].any (fun t => t == (cut r none (some (c / 208 % ((r.length : Int) + 1)).toNat) ++ [lt26 c] ++ cut r (some (c / 208 % ((r.length : Int) + 1)).toNat) none)) = false /\ ((cut r none (some (c / 208 % ((r.length : Int) + 1)).toNat) ++ [lt26 c] ++ cut r (some (c / 208 % ((r.length : Int) + 1)).toNat) none).length <= room) /\ (0 <= (c / 208 % ((r.length : Int) + 1)) /\ (c / 208 % ((r.length : Int) + 1)) <= 1000000) /\ ((cut r none (some (c / 208 % ((r.length : Int) + 1)).toNat) ++ [lt26 c]).length <= room) /\ Pick (.val (.str z_az)) (c % 26) (.val (.str [lt26 c])) /\ ((0 : Int) < 26) /\ (0 <= (c / 208 % ((r.length : Int) + 1)) /\ (c / 208 % ((r.length : Int) + 1)) <= 1000000) /\ (0 < (r.length : Int) + 1) /\ ((0 : Int) < 208 /\ (208 : Int) < 2 ^ 29) /\ ForOK (G w) d fi__law_name_by (.Name "_law_turn" (qp 181 8 17)) (l__law_name_by_181 w d).xs (rangeL 0 (c / 26 % 8 - 0).toNat) (nbs c [] none) .next (nbs c r y3) /\ ((c / 26 % 8).natAbs <= 1000000) /\ ((0 : Int) < 8) /\ ((0 : Int) < 26 /\ (26 : Int) < 2 ^ 29) /\ True) (by left) ⟨hb, by simp only [List.length_append, List.length_singleton]; show _ <= 1000000; lia, hat, by simp only [List.length_append, List.length_singleton]; show _ <= 1000000; lia, hw, by decide, hat, by lia, by decide, hf, by lia, by decide, by decide, trivial⟩
 | true => exact call_go (n := 5) (tp := [.l .next (nbs c r y3), .r (.val (.str [lt26 c])), .b true, .r (.val (.str [lt26 c]))]) (o := .val (.str [lt26 c])) (b__law_name_by w d) rfl (b__law_name_by_x w d) rfl (by left) (P := Pick (.val (.str z_az)) (c % 26) (.val (.str [lt26 c])) /\ ((0 : Int) < 26) /\ [z_num, z_name, z_fun, z_call, z_plus, z_less, z_if, z_let].any (fun t => t == (cut r none (some (c / 208 % ((r.length : Int) + 1)).toNat) ++ [lt26 c] ++ cut r (some (c / 208 % ((r.length : Int) + 1)).toNat) none)) = true /\ ((cut r none (some (c / 208 % ((r.length : Int) + 1)).toNat) ++ [lt26 c] ++ cut r (some (c / 208 % ((r.length : Int) + 1)).toNat) none).length <= room) /\ (0 <= (c / 208 % ((r.length : Int) + 1)) /\ (c / 208 % ((r.length : Int) + 1)) <= 1000000) /\ ((cut r none (some (c / 208 % ((r.length : Int) + 1)).toNat) ++ [lt26 c]).length <= room) /\ Pick (.val (.str z_az)) (c % 26) (.val (.str [lt26 c])) /\ ((0 : Int) < 26) /\ (0 <= (c / 208 % ((r.length : Int) + 1)) /\ (c / 208 % ((r.length : Int) + 1)) <= 1000000) /\ (0 < (r.length : Int) + 1) /\ ((0 : Int) < 208 /\ (208 : Int) < 2 ^ 29) /\ ForOK (G w) d fi__law_name_by (.Name "_law_turn" (qp 181 8 17)) (l__law_name_by_181 w d).xs (rangeL 0 (c / 26 % 8 - 0).toNat) (nbs c [] none) .next (nbs c r y3) /\ ((c / 26 % 8).natAbs <= 1000000) /\ ((0 : Int) < 8) /\ ((0 : Int) < 26 /\ (26 : Int) < 2 ^ 29) /\ True) (by left) ⟨hw, by decide, hb, by simp only [List.length_append, List.length_singleton]; show _ <= 1000000; lia, hat, by simp only [List.length_append, List.length_singleton]; show _ <= 1000000; lia, hw, by decide, hat, by lia, by decide, hf, by lia, by decide, by decide, trivial⟩
end
end Mine.L09
end
section
namespace Mine.L09
variable {w : World} {d : Nat}
noncomputable abbrev gst (C N : V) (S : List V) (x3 x4 x5 x6 x7 x8 : Option O) : Loc := [some (.val C), some (.val N), some (.own S), x3, x4, x5, x6, x7, x8]
section
variable {x : List Nat}
theorem ok_join6 (a b : V) : CallOK (G w) (d + 1) 239 [.int 6, .str x, a, b] (.val (.tup [.str z_call, .tup [.str z_fun, .str x, a], b])) := call_go (n := 0) (tp := []) (b__law_joined w d) rfl (b__law_joined_x w d) rfl (by left) (P := True) (by left) trivial
theorem ok_join7 (a b : V) : CallOK (G w) (d + 1) 239 [.int 7, .str x, a, b] (.val (.tup [.str z_plus, a, b])) := call_go (n := 0) (tp := []) (b__law_joined w d) rfl (b__law_joined_x w d) rfl (by left) (P := True) (by left) trivial
theorem ok_join8 (a b : V) : CallOK (G w) (d + 1) 239 [.int 8, .str x, a, b] (.val (.tup [.str z_less, a, b])) := call_go (n := 0) (tp := []) (b__law_joined w d) rfl (b__law_joined_x w d) rfl (by left) (P := True) (by left) trivial
theorem ok_join9 (a b : V) : CallOK (G w) (d + 1) 239 [.int 9, .str x, a, b] (.val (.tup [.str z_if, a, b, .tup [.str z_name, .str x]])) := call_go (n := 0) (tp := []) (b__law_joined w d) rfl (b__law_joined_x w d) rfl (by left) (P := True) (by left) trivial
theorem ok_join10 (a b : V) : CallOK (G w) (d + 1) 239 [.int 10, .str x, a, b] (.val (.tup [.str z_let, .str x, a, b])) := call_go (n := 0) (tp := []) (b__law_joined w d) rfl (b__law_joined_x w d) rfl (by left) (P := True) (by left) trivial
end
abbrev TF (w : World) (d : Nat) (l : List V) (ρ : Loc) (fl : Fl) (ρ' : Loc) : Prop := ForOK (G w) (d + 1) fi__law_tree_by (.Name "_law_cell" (qp 200 8 17)) (l__law_tree_by_200 w (d + 1)).xs l ρ fl ρ'
def TT (w : World) (d : Nat) (C N : V) (c : Int) (S S' : List V) (x3 x4 x5 x6 x7 x8 : Option O) : Prop := ∃ y3 y4 y5 y6 y7 y8, ∀ l fl ρ', TF w d l (gst C N S' y3 y4 y5 y6 y7 y8) fl ρ' -> TF w d (.int c :: l) (gst C N S x3 x4 x5 x6 x7 x8) fl ρ'
section
variable {C N a b : V} {c : Int} {S : List V} {x y z : List Nat} {x3 x4 x5 x6 x7 x8 : Option O}
abbrev Bs (N : V) (c : Int) (x : List Nat) (k : Int) : Prop := ((0 : Int) < 7) /\ ((0 : Int) < 4 /\ (4 : Int) < 536870912) /\ Pick (.val N) (c / 12 % 4) (.val (.str x)) /\ ((0 : Int) < 4) /\ ((0 : Int) < 12 /\ (12 : Int) < 536870912) /\ (O.val (.int (c % 12)) = O.val (.int k)) /\ ((0 : Int) < 12) /\ True
theorem bs {k : Int} (hk : c % 12 = k) (hx : Pick (.val N) (c / 12 % 4) (.val (.str x))) : Bs N c x k := ⟨by decide, by decide, hx, by decide, by decide, by rw [hk], by decide, trivial⟩
noncomputable abbrev gs1 (C N : V) (S : List V) (c k : Int) (x : List Nat) (x8 : Option O) : Loc := gst C N S (some (.val (.int c))) (some (.val (.int k))) (some (.val (.int (c / 12)))) (some (.val (.str x))) (some (.val (.tup [.str z_num, .int (c / 12 / 4 % 7 - 3)]))) x8
theorem tb_0 (hk : c % 12 = 0) (hx : Pick (.val N) (c / 12 % 4) (.val (.str x))) (hS : S.length + 4 < room) : TT w d C N c (S) (.tup [.str z_name, .str x] :: S) x3 x4 x5 x6 x7 x8 :=
 ⟨_, _, _, _, _, _, fun l fl ρ' k => for_go (by left) (i := 3) (ρ' := gs1 C N (.tup [.str z_name, .str x] :: S) c 0 x x8) (tp := [.r (.val (.int 0)), .r (.val (.str x))]) (by left) (P := (S.length < room) /\ Bs N c x 0) (by left) ⟨by lia, bs hk hx⟩ k⟩
theorem tb_1n (hk : c % 12 = 1) (hx : Pick (.val N) (c / 12 % 4) (.val (.str x))) : TT w d C N c ([]) ([.tup [.str z_name, .str x]]) x3 x4 x5 x6 x7 x8 :=
 ⟨_, _, _, _, _, _, fun l fl ρ' k => for_go (by left) (i := 3) (ρ' := gs1 C N ([.tup [.str z_name, .str x]]) c 1 x x8) (tp := [.r (.val (.int 1)), .r (.val (.str x))]) (by left) (P := (([] : List V).length < room) /\ ((0 : Int) < 2) /\ Bs N c x 1) (by left) ⟨by decide, by decide, bs hk hx⟩ k⟩
theorem tb_3n (hk : c % 12 = 3) (hx : Pick (.val N) (c / 12 % 4) (.val (.str x))) : TT w d C N c ([]) ([.tup [.str z_name, .str x]]) x3 x4 x5 x6 x7 x8 :=
 ⟨_, _, _, _, _, _, fun l fl ρ' k => for_go (by left) (i := 3) (ρ' := gs1 C N ([.tup [.str z_name, .str x]]) c 3 x x8) (tp := [.r (.val (.int 3)), .r (.val (.str x))]) (by left) (P := (([] : List V).length < room) /\ ((0 : Int) < 2) /\ Bs N c x 3) (by left) ⟨by decide, by decide, bs hk hx⟩ k⟩
theorem tb_5n (hk : c % 12 = 5) (hx : Pick (.val N) (c / 12 % 4) (.val (.str x))) : TT w d C N c ([]) ([.tup [.str z_name, .str x]]) x3 x4 x5 x6 x7 x8 :=
 ⟨_, _, _, _, _, _, fun l fl ρ' k => for_go (by left) (i := 3) (ρ' := gs1 C N ([.tup [.str z_name, .str x]]) c 5 x x8) (tp := [.r (.val (.int 5)), .r (.val (.str x))]) (by left) (P := (([] : List V).length < room) /\ ((0 : Int) < 2) /\ Bs N c x 5) (by left) ⟨by decide, by decide, bs hk hx⟩ k⟩
theorem tb_7n (hk : c % 12 = 7) (hx : Pick (.val N) (c / 12 % 4) (.val (.str x))) : TT w d C N c ([]) ([.tup [.str z_name, .str x]]) x3 x4 x5 x6 x7 x8 :=
 ⟨_, _, _, _, _, _, fun l fl ρ' k => for_go (by left) (i := 3) (ρ' := gs1 C N ([.tup [.str z_name, .str x]]) c 7 x x8) (tp := [.r (.val (.int 7)), .r (.val (.str x))]) (by left) (P := (([] : List V).length < room) /\ ((0 : Int) < 2) /\ Bs N c x 7) (by left) ⟨by decide, by decide, bs hk hx⟩ k⟩
theorem tb_9n (hk : c % 12 = 9) (hx : Pick (.val N) (c / 12 % 4) (.val (.str x))) : TT w d C N c ([]) ([.tup [.str z_name, .str x]]) x3 x4 x5 x6 x7 x8 :=
 ⟨_, _, _, _, _, _, fun l fl ρ' k => for_go (by left) (i := 3) (ρ' := gs1 C N ([.tup [.str z_name, .str x]]) c 9 x x8) (tp := [.r (.val (.int 9)), .r (.val (.str x))]) (by left) (P := (([] : List V).length < room) /\ ((0 : Int) < 2) /\ Bs N c x 9) (by left) ⟨by decide, by decide, bs hk hx⟩ k⟩
theorem tb_11n (hk : c % 12 = 11) (hx : Pick (.val N) (c / 12 % 4) (.val (.str x))) : TT w d C N c ([]) ([.tup [.str z_name, .str x]]) x3 x4 x5 x6 x7 x8 :=
 ⟨_, _, _, _, _, _, fun l fl ρ' k => for_go (by left) (i := 3) (ρ' := gs1 C N ([.tup [.str z_name, .str x]]) c 11 x x8) (tp := [.r (.val (.int 11)), .r (.val (.str x))]) (by left) (P := (([] : List V).length < room) /\ ((0 : Int) < 2) /\ Bs N c x 11) (by left) ⟨by decide, by decide, bs hk hx⟩ k⟩
theorem tb_2n (hk : c % 12 = 2) (hx : Pick (.val N) (c / 12 % 4) (.val (.str x))) : TT w d C N c ([]) ([.tup [.str z_num, .int (c / 12 / 4 % 7 - 3)]]) x3 x4 x5 x6 x7 x8 :=
 ⟨_, _, _, _, _, _, fun l fl ρ' k => for_go (by left) (i := 3) (ρ' := gs1 C N ([.tup [.str z_num, .int (c / 12 / 4 % 7 - 3)]]) c 2 x x8) (tp := [.r (.val (.int 2)), .r (.val (.str x))]) (by left) (P := (([] : List V).length < room) /\ ((0 : Int) < 2) /\ Bs N c x 2) (by left) ⟨by decide, by decide, bs hk hx⟩ k⟩
theorem tb_4n (hk : c % 12 = 4) (hx : Pick (.val N) (c / 12 % 4) (.val (.str x))) : TT w d C N c ([]) ([.tup [.str z_num, .int (c / 12 / 4 % 7 - 3)]]) x3 x4 x5 x6 x7 x8 :=
 ⟨_, _, _, _, _, _, fun l fl ρ' k => for_go (by left) (i := 3) (ρ' := gs1 C N ([.tup [.str z_num, .int (c / 12 / 4 % 7 - 3)]]) c 4 x x8) (tp := [.r (.val (.int 4)), .r (.val (.str x))]) (by left) (P := (([] : List V).length < room) /\ ((0 : Int) < 2) /\ Bs N c x 4) (by left) ⟨by decide, by decide, bs hk hx⟩ k⟩
theorem tb_6n (hk : c % 12 = 6) (hx : Pick (.val N) (c / 12 % 4) (.val (.str x))) : TT w d C N c ([]) ([.tup [.str z_num, .int (c / 12 / 4 % 7 - 3)]]) x3 x4 x5 x6 x7 x8 :=
 ⟨_, _, _, _, _, _, fun l fl ρ' k => for_go (by left) (i := 3) (ρ' := gs1 C N ([.tup [.str z_num, .int (c / 12 / 4 % 7 - 3)]]) c 6 x x8) (tp := [.r (.val (.int 6)), .r (.val (.str x))]) (by left) (P := (([] : List V).length < room) /\ ((0 : Int) < 2) /\ Bs N c x 6) (by left) ⟨by decide, by decide, bs hk hx⟩ k⟩
theorem tb_8n (hk : c % 12 = 8) (hx : Pick (.val N) (c / 12 % 4) (.val (.str x))) : TT w d C N c ([]) ([.tup [.str z_num, .int (c / 12 / 4 % 7 - 3)]]) x3 x4 x5 x6 x7 x8 :=
 ⟨_, _, _, _, _, _, fun l fl ρ' k => for_go (by left) (i := 3) (ρ' := gs1 C N ([.tup [.str z_num, .int (c / 12 / 4 % 7 - 3)]]) c 8 x x8) (tp := [.r (.val (.int 8)), .r (.val (.str x))]) (by left) (P := (([] : List V).length < room) /\ ((0 : Int) < 2) /\ Bs N c x 8) (by left) ⟨by decide, by decide, bs hk hx⟩ k⟩
theorem tb_10n (hk : c % 12 = 10) (hx : Pick (.val N) (c / 12 % 4) (.val (.str x))) : TT w d C N c ([]) ([.tup [.str z_num, .int (c / 12 / 4 % 7 - 3)]]) x3 x4 x5 x6 x7 x8 :=
 ⟨_, _, _, _, _, _, fun l fl ρ' k => for_go (by left) (i := 3) (ρ' := gs1 C N ([.tup [.str z_num, .int (c / 12 / 4 % 7 - 3)]]) c 10 x x8) (tp := [.r (.val (.int 10)), .r (.val (.str x))]) (by left) (P := (([] : List V).length < room) /\ ((0 : Int) < 2) /\ Bs N c x 10) (by left) ⟨by decide, by decide, bs hk hx⟩ k⟩
theorem tb_1 (hk : c % 12 = 1) (hx : Pick (.val N) (c / 12 % 4) (.val (.str x))) (hS : S.length + 4 < room) : TT w d C N c (a :: S) (.tup [.str z_num, .int (c / 12 / 4 % 7 - 3)] :: a :: S) x3 x4 x5 x6 x7 x8 :=
 ⟨_, _, _, _, _, _, fun l fl ρ' k => for_go (by left) (i := 3) (ρ' := gs1 C N (.tup [.str z_num, .int (c / 12 / 4 % 7 - 3)] :: a :: S) c 1 x x8) (tp := [.r (.val (.int 1)), .r (.val (.str x))]) (by left) (P := ((a :: S).length < room) /\ Bs N c x 1) (by left) ⟨by rw [List.length_cons]; lia, bs hk hx⟩ k⟩
theorem tb_2 (hk : c % 12 = 2) (hx : Pick (.val N) (c / 12 % 4) (.val (.str x))) (hS : S.length + 4 < room) : TT w d C N c (a :: S) (.tup [.str z_num, .int (c / 12 % (2 * 1000000000000000000000000000000000000000000000000000000000000 - 1) - 1000000000000000000000000000000000000000000000000000000000000 + 1)] :: a :: S) x3 x4 x5 x6 x7 x8 :=
 ⟨_, _, _, _, _, _, fun l fl ρ' k => for_go (by left) (i := 3) (ρ' := gs1 C N (.tup [.str z_num, .int (c / 12 % (2 * 1000000000000000000000000000000000000000000000000000000000000 - 1) - 1000000000000000000000000000000000000000000000000000000000000 + 1)] :: a :: S) c 2 x x8) (tp := [.r (.val (.int 2)), .r (.val (.str x))]) (by left) (P := ((a :: S).length < room) /\ ((10 : Int) = 10 /\ (0 : Int) < 60 /\ (60 : Int) <= 100) /\ ((0 : Int) < 2 * 1000000000000000000000000000000000000000000000000000000000000 - 1) /\ ((2 : Int).natAbs < 4611686018427387904 \/ (1000000000000000000000000000000000000000000000000000000000000 : Int).natAbs < 4611686018427387904) /\ ((10 : Int) = 10 /\ (0 : Int) < 60 /\ (60 : Int) <= 100) /\ Bs N c x 2) (by left) ⟨by rw [List.length_cons]; lia, by decide, by decide, .inl (by decide), by decide, bs hk hx⟩ k⟩
theorem tb_3 (hk : c % 12 = 3) (hx : Pick (.val N) (c / 12 % 4) (.val (.str x))) : TT w d C N c (a :: S) (.tup [.str z_fun, .str x, a] :: S) x3 x4 x5 x6 x7 x8 :=
 ⟨_, _, _, _, _, _, fun l fl ρ' k => for_go (by left) (i := 3) (ρ' := gs1 C N (.tup [.str z_fun, .str x, a] :: S) c 3 x x8) (tp := [.r (.val (.int 3)), .r (.val (.str x))]) (by left) (P := Bs N c x 3) (by left) (bs hk hx) k⟩
theorem tb_4 (hk : c % 12 = 4) (hx : Pick (.val N) (c / 12 % 4) (.val (.str x))) : TT w d C N c (a :: S) (.tup [.str z_call, .tup [.str z_fun, .str x, a], .tup [.str z_num, .int (c / 12 / 4 % 7 - 3)]] :: S) x3 x4 x5 x6 x7 x8 :=
 ⟨_, _, _, _, _, _, fun l fl ρ' k => for_go (by left) (i := 3) (ρ' := gs1 C N (.tup [.str z_call, .tup [.str z_fun, .str x, a], .tup [.str z_num, .int (c / 12 / 4 % 7 - 3)]] :: S) c 4 x x8) (tp := [.r (.val (.int 4)), .r (.val (.str x))]) (by left) (P := Bs N c x 4) (by left) (bs hk hx) k⟩
theorem tb_5 (hk : c % 12 = 5) (hx : Pick (.val N) (c / 12 % 4) (.val (.str x))) (hy : Pick (.val N) (c / 12 / 4 % 4) (.val (.str y))) : TT w d C N c (a :: S) (.tup [.str z_let, .str x, a, .tup [.str z_call, .tup [.str z_name, .str x], .tup [.str z_name, .str y]]] :: S) x3 x4 x5 x6 x7 x8 :=
 ⟨_, _, _, _, _, _, fun l fl ρ' k => for_go (by left) (i := 3) (ρ' := gs1 C N (.tup [.str z_let, .str x, a, .tup [.str z_call, .tup [.str z_name, .str x], .tup [.str z_name, .str y]]] :: S) c 5 x x8) (tp := [.r (.val (.int 5)), .r (.val (.str x)), .r (.val (.str y))]) (by left) (P := (Pick (.val N) (c / 12 / 4 % 4) (.val (.str y))) /\ ((0 : Int) < 4) /\ ((0 : Int) < 4 /\ (4 : Int) < 536870912) /\ Bs N c x 5) (by left) ⟨hy, by decide, by decide, bs hk hx⟩ k⟩
theorem tb_11 (hk : c % 12 = 11) (hx : Pick (.val N) (c / 12 % 4) (.val (.str x))) (hS : S.length + 4 < room) (hy : Pick (.val N) (c / 12 / 4 % 4) (.val (.str y))) : TT w d C N c (a :: S) (.tup [.str z_fun, .str x, .tup [.str z_call, .tup [.str z_name, .str x], .tup [.str z_name, .str y]]] :: a :: S) x3 x4 x5 x6 x7 x8 :=
 ⟨_, _, _, _, _, _, fun l fl ρ' k => for_go (by left) (i := 3) (ρ' := gs1 C N (.tup [.str z_fun, .str x, .tup [.str z_call, .tup [.str z_name, .str x], .tup [.str z_name, .str y]]] :: a :: S) c 11 x x8) (tp := [.r (.val (.int 11)), .r (.val (.str x)), .r (.val (.str y))]) (by left) (P := ((a :: S).length < room) /\ (Pick (.val N) (c / 12 / 4 % 4) (.val (.str y))) /\ ((0 : Int) < 4) /\ ((0 : Int) < 4 /\ (4 : Int) < 536870912) /\ Bs N c x 11) (by left) ⟨by rw [List.length_cons]; lia, hy, by decide, by decide, bs hk hx⟩ k⟩
theorem tb_6o (hk : c % 12 = 6) (hx : Pick (.val N) (c / 12 % 4) (.val (.str x))) : TT w d C N c ([a]) ([.tup [.str z_plus, .tup [.str z_num, .int (c / 12 / 4 % 7 - 3)], a]]) x3 x4 x5 x6 x7 x8 :=
 ⟨_, _, _, _, _, _, fun l fl ρ' k => for_go (by left) (i := 3) (ρ' := gs1 C N ([.tup [.str z_plus, .tup [.str z_num, .int (c / 12 / 4 % 7 - 3)], a]]) c 6 x x8) (tp := [.r (.val (.int 6)), .r (.val (.str x))]) (by left) (P := Bs N c x 6) (by left) (bs hk hx) k⟩
theorem tb_6 (hk : c % 12 = 6) (hx : Pick (.val N) (c / 12 % 4) (.val (.str x))) : TT w d C N c (b :: a :: S) (.tup [.str z_call, .tup [.str z_fun, .str x, a], b] :: S) x3 x4 x5 x6 x7 x8 :=
 ⟨_, _, _, _, _, _, fun l fl ρ' k => for_go (by left) (i := 3) (ρ' := gs1 C N (.tup [.str z_call, .tup [.str z_fun, .str x, a], b] :: S) c 6 x (some (.val b))) (tp := [.r (.val (.int 6)), .r (.val (.str x)), .r (.val (.tup [.str z_call, .tup [.str z_fun, .str x, a], b]))]) (by left) (P := (CallOK (G w) (d + 1) 239 [.int 6, .str x, a, b] (.val (.tup [.str z_call, .tup [.str z_fun, .str x, a], b]))) /\ Bs N c x 6) (by left) ⟨ok_join6 a b, bs hk hx⟩ k⟩
theorem tb_7o (hk : c % 12 = 7) (hx : Pick (.val N) (c / 12 % 4) (.val (.str x))) : TT w d C N c ([a]) ([.tup [.str z_plus, .tup [.str z_num, .int (c / 12 / 4 % 7 - 3)], a]]) x3 x4 x5 x6 x7 x8 :=
 ⟨_, _, _, _, _, _, fun l fl ρ' k => for_go (by left) (i := 3) (ρ' := gs1 C N ([.tup [.str z_plus, .tup [.str z_num, .int (c / 12 / 4 % 7 - 3)], a]]) c 7 x x8) (tp := [.r (.val (.int 7)), .r (.val (.str x))]) (by left) (P := Bs N c x 7) (by left) (bs hk hx) k⟩
theorem tb_7 (hk : c % 12 = 7) (hx : Pick (.val N) (c / 12 % 4) (.val (.str x))) : TT w d C N c (b :: a :: S) (.tup [.str z_plus, a, b] :: S) x3 x4 x5 x6 x7 x8 :=
 ⟨_, _, _, _, _, _, fun l fl ρ' k => for_go (by left) (i := 3) (ρ' := gs1 C N (.tup [.str z_plus, a, b] :: S) c 7 x (some (.val b))) (tp := [.r (.val (.int 7)), .r (.val (.str x)), .r (.val (.tup [.str z_plus, a, b]))]) (by left) (P := (CallOK (G w) (d + 1) 239 [.int 7, .str x, a, b] (.val (.tup [.str z_plus, a, b]))) /\ Bs N c x 7) (by left) ⟨ok_join7 a b, bs hk hx⟩ k⟩
theorem tb_8o (hk : c % 12 = 8) (hx : Pick (.val N) (c / 12 % 4) (.val (.str x))) : TT w d C N c ([a]) ([.tup [.str z_plus, .tup [.str z_num, .int (c / 12 / 4 % 7 - 3)], a]]) x3 x4 x5 x6 x7 x8 :=
 ⟨_, _, _, _, _, _, fun l fl ρ' k => for_go (by left) (i := 3) (ρ' := gs1 C N ([.tup [.str z_plus, .tup [.str z_num, .int (c / 12 / 4 % 7 - 3)], a]]) c 8 x x8) (tp := [.r (.val (.int 8)), .r (.val (.str x))]) (by left) (P := Bs N c x 8) (by left) (bs hk hx) k⟩
theorem tb_8 (hk : c % 12 = 8) (hx : Pick (.val N) (c / 12 % 4) (.val (.str x))) : TT w d C N c (b :: a :: S) (.tup [.str z_less, a, b] :: S) x3 x4 x5 x6 x7 x8 :=
 ⟨_, _, _, _, _, _, fun l fl ρ' k => for_go (by left) (i := 3) (ρ' := gs1 C N (.tup [.str z_less, a, b] :: S) c 8 x (some (.val b))) (tp := [.r (.val (.int 8)), .r (.val (.str x)), .r (.val (.tup [.str z_less, a, b]))]) (by left) (P := (CallOK (G w) (d + 1) 239 [.int 8, .str x, a, b] (.val (.tup [.str z_less, a, b]))) /\ Bs N c x 8) (by left) ⟨ok_join8 a b, bs hk hx⟩ k⟩
theorem tb_9o (hk : c % 12 = 9) (hx : Pick (.val N) (c / 12 % 4) (.val (.str x))) : TT w d C N c ([a]) ([.tup [.str z_plus, .tup [.str z_num, .int (c / 12 / 4 % 7 - 3)], a]]) x3 x4 x5 x6 x7 x8 :=
 ⟨_, _, _, _, _, _, fun l fl ρ' k => for_go (by left) (i := 3) (ρ' := gs1 C N ([.tup [.str z_plus, .tup [.str z_num, .int (c / 12 / 4 % 7 - 3)], a]]) c 9 x x8) (tp := [.r (.val (.int 9)), .r (.val (.str x))]) (by left) (P := Bs N c x 9) (by left) (bs hk hx) k⟩
theorem tb_9 (hk : c % 12 = 9) (hx : Pick (.val N) (c / 12 % 4) (.val (.str x))) : TT w d C N c (b :: a :: S) (.tup [.str z_if, a, b, .tup [.str z_name, .str x]] :: S) x3 x4 x5 x6 x7 x8 :=
 ⟨_, _, _, _, _, _, fun l fl ρ' k => for_go (by left) (i := 3) (ρ' := gs1 C N (.tup [.str z_if, a, b, .tup [.str z_name, .str x]] :: S) c 9 x (some (.val b))) (tp := [.r (.val (.int 9)), .r (.val (.str x)), .r (.val (.tup [.str z_if, a, b, .tup [.str z_name, .str x]]))]) (by left) (P := (CallOK (G w) (d + 1) 239 [.int 9, .str x, a, b] (.val (.tup [.str z_if, a, b, .tup [.str z_name, .str x]]))) /\ Bs N c x 9) (by left) ⟨ok_join9 a b, bs hk hx⟩ k⟩
theorem tb_10o (hk : c % 12 = 10) (hx : Pick (.val N) (c / 12 % 4) (.val (.str x))) : TT w d C N c ([a]) ([.tup [.str z_plus, .tup [.str z_num, .int (c / 12 / 4 % 7 - 3)], a]]) x3 x4 x5 x6 x7 x8 :=
 ⟨_, _, _, _, _, _, fun l fl ρ' k => for_go (by left) (i := 3) (ρ' := gs1 C N ([.tup [.str z_plus, .tup [.str z_num, .int (c / 12 / 4 % 7 - 3)], a]]) c 10 x x8) (tp := [.r (.val (.int 10)), .r (.val (.str x))]) (by left) (P := Bs N c x 10) (by left) (bs hk hx) k⟩
theorem tb_10 (hk : c % 12 = 10) (hx : Pick (.val N) (c / 12 % 4) (.val (.str x))) : TT w d C N c (b :: a :: S) (.tup [.str z_let, .str x, a, b] :: S) x3 x4 x5 x6 x7 x8 :=
 ⟨_, _, _, _, _, _, fun l fl ρ' k => for_go (by left) (i := 3) (ρ' := gs1 C N (.tup [.str z_let, .str x, a, b] :: S) c 10 x (some (.val b))) (tp := [.r (.val (.int 10)), .r (.val (.str x)), .r (.val (.tup [.str z_let, .str x, a, b]))]) (by left) (P := (CallOK (G w) (d + 1) 239 [.int 10, .str x, a, b] (.val (.tup [.str z_let, .str x, a, b]))) /\ Bs N c x 10) (by left) ⟨ok_join10 a b, bs hk hx⟩ k⟩
end
end Mine.L09
end
section
namespace Mine.L09
variable {w : World} {d : Nat}
theorem pick4 {N : List (List Nat)} (hN : N.length = 4) (i : Int) : ∃ x, x ∈ N /\ Pick (.val (.lst (N.map .str))) (i % 4) (.val (.str x)) := by
 obtain ⟨k, hk, e⟩ := mod_cases i 4 (by decide)
 have e : i % 4 = Int.ofNat k := e
 have h : k < N.length := by lia
 refine ⟨N[k], List.getElem_mem h, ?_⟩
 rw [e]
 unfold Pick
 show ((N.map V.str)[k]?).bind (fun v => some (O.val v)) = some (O.val (V.str N[k]))
 rw [List.getElem?_map, List.getElem?_eq_getElem h]; rfl
structure OKt (N : List (List Nat)) (t : Tree) : Prop where
 g : gd t
 f : ∀ y, FV t y -> y ∈ N
theorem num_small (c : Int) : numI (c / 12 / 4 % 7 - 3) = true := by
 have h1 := Int.emod_nonneg (c / 12 / 4) (b := 7) (by decide)
 have h2 := Int.emod_lt_of_pos (c / 12 / 4) (b := 7) (by decide)
 unfold numI great
 rw [Bool.and_eq_true, decide_eq_true_eq, decide_eq_true_eq]; lia
theorem num_big (c : Int) : numI (c / 12 % (2 * 1000000000000000000000000000000000000000000000000000000000000 - 1) - 1000000000000000000000000000000000000000000000000000000000000 + 1) = true := by
 have h1 := Int.emod_nonneg (c / 12) (b := 2 * 1000000000000000000000000000000000000000000000000000000000000 - 1) (by decide)
 have h2 := Int.emod_lt_of_pos (c / 12) (b := 2 * 1000000000000000000000000000000000000000000000000000000000000 - 1) (by decide)
 unfold numI great
 rw [Bool.and_eq_true, decide_eq_true_eq, decide_eq_true_eq]; lia
section
variable {N : List (List Nat)} {x y : List Nat} {a b c : Tree}
theorem OKt.num {i : Int} (h : numI i = true) : OKt N (.num i) := ⟨h, fun J q => q.elim⟩
theorem OKt.name (h : isName x = true) (hx : x ∈ N) : OKt N (.name x) := ⟨h, fun y q => by cases (show y = x from q); exact hx⟩
theorem OKt.fn (h : isName x = true) (ha : OKt N a) : OKt N (.fn x a) := ⟨⟨h, ha.g⟩, fun y q => ha.f y q.1⟩
theorem OKt.call (ha : OKt N a) (hb : OKt N b) : OKt N (.call a b) := ⟨⟨ha.g, hb.g⟩, fun y q => q.elim (ha.f y) (hb.f y)⟩
theorem OKt.plus (ha : OKt N a) (hb : OKt N b) : OKt N (.plus a b) := ⟨⟨ha.g, hb.g⟩, fun y q => q.elim (ha.f y) (hb.f y)⟩
theorem OKt.less (ha : OKt N a) (hb : OKt N b) : OKt N (.less a b) := ⟨⟨ha.g, hb.g⟩, fun y q => q.elim (ha.f y) (hb.f y)⟩
theorem OKt.ite (hc : OKt N c) (ha : OKt N a) (hb : OKt N b) : OKt N (.ite c a b) := ⟨⟨hc.g, ha.g, hb.g⟩, fun y q => q.elim (hc.f y) fun q => q.elim (ha.f y) (hb.f y)⟩
theorem OKt.lt (h : isName x = true) (ha : OKt N a) (hb : OKt N b) : OKt N (.lt x a b) := ⟨⟨h, ha.g, hb.g⟩, fun y q => q.elim (ha.f y) fun q => hb.f y q.1⟩
end
theorem tb_step {N : List (List Nat)} (hN : N.length = 4) (hn : ∀ x, x ∈ N -> isName x = true) {C : V} (c : Int) (ts : List Tree) (h : ∀ t, t ∈ ts -> OKt N t) (hs : szL ts <= 1000) (x3 x4 x5 x6 x7 x8 : Option O) :
  ∃ ts' : List Tree, TT w d C (.lst (N.map .str)) c (ts.map tv) (ts'.map tv) x3 x4 x5 x6 x7 x8 /\ (∀ t, t ∈ ts' -> OKt N t) /\ szL ts' + ts'.length <= szL ts + ts.length + 5 := by
 obtain ⟨x, hx, px⟩ := pick4 hN (c / 12)
 obtain ⟨y, hy, py⟩ := pick4 hN (c / 12 / 4)
 have nx := hn x hx
 have ny := hn y hy
 have sm := OKt.num (N := N) (num_small c)
 have bg := OKt.num (N := N) (num_big c)
 have hlen := len_sz ts
 have := room_big
 have all : ∀ {t : Tree} {r : List Tree}, OKt N t -> (∀ u, u ∈ r -> OKt N u) -> ∀ u, u ∈ t :: r -> OKt N u := fun ht hr u q => (List.mem_cons.mp q).elim (fun e => e ▸ ht) (hr u)
 have nil : ∀ u, u ∈ ([] : List Tree) -> OKt N u := fun u q => by cases q
 obtain ⟨k, hk, e⟩ := mod_cases c 12 (by decide)
 have hm : (ts.map tv).length + 4 < room := by rw [List.length_map]; lia
 by_cases k0 : k = 0
 ·subst k0; exact ⟨.name x :: ts, tb_0 e px hm, all (.name nx hx) h, by show 1 + szL ts + _ <= _; simp only [List.length_cons]; lia⟩
 cases ts with
 | nil =>
  have odd : ∀ {S : TT w d C (.lst (N.map .str)) c [] [tv (.name x)] x3 x4 x5 x6 x7 x8}, ∃ ts' : List Tree, TT w d C (.lst (N.map .str)) c [] (ts'.map tv) x3 x4 x5 x6 x7 x8 /\ (∀ t, t ∈ ts' -> OKt N t) /\ szL ts' + ts'.length <= szL [] + ([] : List Tree).length + 5 := fun {S} => ⟨[.name x], S, all (.name nx hx) nil, by show 1 + 0 + 1 <= 0 + 0 + 5; lia⟩
  have even : ∀ {S : TT w d C (.lst (N.map .str)) c [] [tv (.num (c / 12 / 4 % 7 - 3))] x3 x4 x5 x6 x7 x8}, ∃ ts' : List Tree, TT w d C (.lst (N.map .str)) c [] (ts'.map tv) x3 x4 x5 x6 x7 x8 /\ (∀ t, t ∈ ts' -> OKt N t) /\ szL ts' + ts'.length <= szL [] + ([] : List Tree).length + 5 := fun {S} => ⟨[.num _], S, all sm nil, by show 1 + 0 + 1 <= 0 + 0 + 5; lia⟩
  match k, hk, k0, e with
  | 1, _, _, e => exact odd (S := tb_1n e px)
  | 2, _, _, e => exact even (S := tb_2n e px)
  | 3, _, _, e => exact odd (S := tb_3n e px)
  | 4, _, _, e => exact even (S := tb_4n e px)
  | 5, _, _, e => exact odd (S := tb_5n e px)
  | 6, _, _, e => exact even (S := tb_6n e px)
  | 7, _, _, e => exact odd (S := tb_7n e px)
  | 8, _, _, e => exact even (S := tb_8n e px)
  | 9, _, _, e => exact odd (S := tb_9n e px)
  | 10, _, _, e => exact even (S := tb_10n e px)
  | 11, _, _, e => exact odd (S := tb_11n e px)
 | cons a r =>
  have ha := h a List.mem_cons_self
  have hr : ∀ u, u ∈ r -> OKt N u := fun u q => h u (List.mem_cons_of_mem _ q)
  have hm' : (r.map tv).length + 4 < room := by rw [List.map_cons, List.length_cons] at hm; lia
  have es : szL (a :: r) = sz a + szL r := rfl
  have one : r = [] -> ∀ {S : TT w d C (.lst (N.map .str)) c [tv a] [tv (.plus (.num (c / 12 / 4 % 7 - 3)) a)] x3 x4 x5 x6 x7 x8}, ∃ ts' : List Tree, TT w d C (.lst (N.map .str)) c ((a :: r).map tv) (ts'.map tv) x3 x4 x5 x6 x7 x8 /\ (∀ t, t ∈ ts' -> OKt N t) /\ szL ts' + ts'.length <= szL (a :: r) + (a :: r).length + 5 := fun hr0 {S} => by
   subst hr0
   exact ⟨[.plus (.num _) a], S, all (.plus sm ha) nil, by show (1 + sz a + 1) + 0 + 1 <= sz a + 0 + 1 + 5; lia⟩
  match k, hk, k0, e with
  | 1, _, _, e => exact ⟨.num _ :: a :: r, tb_1 e px hm', all sm h, by show 1 + szL (a :: r) + _ <= _; simp only [List.length_cons]; lia⟩
  | 2, _, _, e => exact ⟨.num _ :: a :: r, tb_2 e px hm', all bg h, by show 1 + szL (a :: r) + _ <= _; simp only [List.length_cons]; lia⟩
  | 3, _, _, e => exact ⟨.fn x a :: r, tb_3 e px, all (.fn nx ha) hr, by show (sz a + 1) + szL r + _ <= _; simp only [List.length_cons]; lia⟩
  | 4, _, _, e => exact ⟨.call (.fn x a) (.num _) :: r, tb_4 e px, all (.call (.fn nx ha) sm) hr, by show ((sz a + 1) + 1 + 1) + szL r + _ <= _; simp only [List.length_cons]; lia⟩
  | 5, _, _, e => exact ⟨.lt x a (.call (.name x) (.name y)) :: r, tb_5 e px py, all (.lt nx ha (.call (.name nx hx) (.name ny hy))) hr, by show (sz a + (1 + 1 + 1) + 1) + szL r + _ <= _; simp only [List.length_cons]; lia⟩
  | 11, _, _, e => exact ⟨.fn x (.call (.name x) (.name y)) :: a :: r, tb_11 e px hm' py, all (.fn nx (.call (.name nx hx) (.name ny hy))) h, by show ((1 + 1 + 1) + 1) + szL (a :: r) + _ <= _; simp only [List.length_cons]; lia⟩
  | 6, _, _, e =>
   cases r with
   | nil => exact one rfl (S := tb_6o e px)
   | cons b r => exact ⟨.call (.fn x b) a :: r, tb_6 e px, all (.call (.fn nx (hr b List.mem_cons_self)) ha) fun u q => hr u (List.mem_cons_of_mem _ q), by have : szL (b :: r) = sz b + szL r := rfl; show ((sz b + 1) + sz a + 1) + szL r + _ <= _; simp only [List.length_cons]; lia⟩
  | 7, _, _, e =>
   cases r with
   | nil => exact one rfl (S := tb_7o e px)
   | cons b r => exact ⟨.plus b a :: r, tb_7 e px, all (.plus (hr b List.mem_cons_self) ha) fun u q => hr u (List.mem_cons_of_mem _ q), by have : szL (b :: r) = sz b + szL r := rfl; show (sz b + sz a + 1) + szL r + _ <= _; simp only [List.length_cons]; lia⟩
  | 8, _, _, e =>
   cases r with
   | nil => exact one rfl (S := tb_8o e px)
   | cons b r => exact ⟨.less b a :: r, tb_8 e px, all (.less (hr b List.mem_cons_self) ha) fun u q => hr u (List.mem_cons_of_mem _ q), by have : szL (b :: r) = sz b + szL r := rfl; show (sz b + sz a + 1) + szL r + _ <= _; simp only [List.length_cons]; lia⟩
  | 9, _, _, e =>
   cases r with
   | nil => exact one rfl (S := tb_9o e px)
   | cons b r => exact ⟨.ite b a (.name x) :: r, tb_9 e px, all (.ite (hr b List.mem_cons_self) ha (.name nx hx)) fun u q => hr u (List.mem_cons_of_mem _ q), by have : szL (b :: r) = sz b + szL r := rfl; show (sz b + sz a + 1 + 1) + szL r + _ <= _; simp only [List.length_cons]; lia⟩
  | 10, _, _, e =>
   cases r with
   | nil => exact one rfl (S := tb_10o e px)
   | cons b r => exact ⟨.lt x b a :: r, tb_10 e px, all (.lt nx (hr b List.mem_cons_self) ha) fun u q => hr u (List.mem_cons_of_mem _ q), by have : szL (b :: r) = sz b + szL r := rfl; show (sz b + sz a + 1) + szL r + _ <= _; simp only [List.length_cons]; lia⟩
end Mine.L09
end
section
namespace Mine.L09
variable {w : World} {d : Nat} {N : List (List Nat)} {C : V}
theorem tb_for (hN : N.length = 4) (hn : ∀ x, x ∈ N -> isName x = true) : ∀ (cs : List Int) (ts : List Tree) (x3 x4 x5 x6 x7 x8 : Option O), (∀ t, t ∈ ts -> OKt N t) -> szL ts + ts.length + 5 * cs.length <= 1000 →
  ∃ (ts' : List Tree) (y3 y4 y5 y6 y7 y8 : Option O), TF w d (cs.map .int) (gst C (.lst (N.map .str)) (ts.map tv) x3 x4 x5 x6 x7 x8) .next (gst C (.lst (N.map .str)) (ts'.map tv) y3 y4 y5 y6 y7 y8) /\ (∀ t, t ∈ ts' -> OKt N t) /\ szL ts' + ts'.length <= szL ts + ts.length + 5 * cs.length
 | [], ts, x3, x4, x5, x6, x7, x8, h, hs => ⟨ts, x3, x4, x5, x6, x7, x8, for_nil, h, by lia⟩
 | c :: cs, ts, x3, x4, x5, x6, x7, x8, h, hs => by
  rw [List.length_cons] at hs
  obtain ⟨ts1, ⟨y3, y4, y5, y6, y7, y8, k⟩, h1, s1⟩ := tb_step (w := w) (d := d) hN hn (C := C) c ts h (by lia) x3 x4 x5 x6 x7 x8
  obtain ⟨ts2, z3, z4, z5, z6, z7, z8, k2, h2, s2⟩ := tb_for hN hn cs ts1 y3 y4 y5 y6 y7 y8 h1 (by lia)
  exact ⟨ts2, z3, z4, z5, z6, z7, z8, k _ _ _ k2, h2, by rw [List.length_cons]; lia⟩
abbrev TWh (w : World) (d : Nat) (ρ ρ' : Loc) : Prop := WhilOK (G w) (d + 1) fi__law_tree_by (c__law_tree_by_224 w (d + 1)).x (l__law_tree_by_224 w (d + 1)).xs ρ .next ρ'
theorem tb_wh (hN : N.length = 4) (hn : ∀ x, x ∈ N -> isName x = true) : ∀ (ts : List Tree) (b : Tree) (x3 x4 x5 x6 x7 x8 : Option O), (∀ t, t ∈ b :: ts -> OKt N t) -> ∃ (t : Tree) (y8 : Option O), TWh w d (gst C (.lst (N.map .str)) ((b :: ts).map tv) x3 x4 x5 x6 x7 x8) (gst C (.lst (N.map .str)) [tv t] x3 x4 x5 x6 x7 y8) /\ OKt N t /\ sz t <= szL (b :: ts) + ts.length
 | [], b, x3, x4, x5, x6, x7, x8, h => ⟨b, x8, whil_end true (tp := [.b false]) (by left) (P := (decide ((([tv b] : List V).length : Int) > 1) = false) /\ True) (by left) ⟨by simp, trivial⟩, h b List.mem_cons_self, by show sz b <= sz b + 0 + 0; lia⟩
 | a :: r, b, x3, x4, x5, x6, x7, x8, h => by
  obtain ⟨x, hx, px⟩ := pick4 hN ((((a :: r).map tv).length : Nat) : Int)
  have ha := h a (List.mem_cons_of_mem _ List.mem_cons_self)
  have hb := h b List.mem_cons_self
  obtain ⟨t, y8, k, k1, k2⟩ := tb_wh hN hn r (.lt x a b) x3 x4 x5 x6 x7 (some (.val (tv b))) fun u q => (List.mem_cons.mp q).elim (fun e => e ▸ .lt (hn x hx) ha hb) fun q => h u (List.mem_cons_of_mem _ (List.mem_cons_of_mem _ q))
  have e1 : szL (Tree.lt x a b :: r) = (sz a + sz b + 1) + szL r := rfl
  have e2 : szL (b :: a :: r) = sz b + (sz a + szL r) := rfl
  refine ⟨t, y8, whil_go true (ρ := gst C (.lst (N.map .str)) ((b :: a :: r).map tv) x3 x4 x5 x6 x7 x8) (ρ' := gst C (.lst (N.map .str)) ((Tree.lt x a b :: r).map tv) x3 x4 x5 x6 x7 (some (.val (tv b)))) (tp := [.b true, .r (.val (.str x))]) (by left) (P := Pick (.val (.lst (N.map .str))) ((((a :: r).map tv).length : Int) % 4) (.val (.str x)) /\ ((0 : Int) < 4) /\ (decide ((((b :: a :: r).map tv).length : Int) > 1) = true) /\ True) (by left) ⟨px, by decide, ?_, trivial⟩ k, k1, by rw [List.length_cons]; lia⟩
  rw [decide_eq_true_eq, List.length_map, List.length_cons, List.length_cons]; lia
theorem tb_nil {x3 x4 x5 x6 x7 x8 : Option O} : TWh w d (gst C (.lst (N.map .str)) [] x3 x4 x5 x6 x7 x8) (gst C (.lst (N.map .str)) [] x3 x4 x5 x6 x7 x8) :=
 whil_end true (tp := [.b false]) (by left) (P := (decide ((([] : List V).length : Int) > 1) = false) /\ True) (by left) ⟨by decide, trivial⟩
theorem ok_tree (hN : N.length = 4) (hn : ∀ x, x ∈ N -> isName x = true) (cs : List Int) (hc : cs.length <= 45) : ∃ t : Tree, OKt N t /\ sz t <= 230 /\ CallOK (G w) (d + 2) 246 [.lst (cs.map .int), .lst (N.map .str)] (.val (tv t)) := by
 obtain ⟨ts, y3, y4, y5, y6, y7, y8, k1, h1, s1⟩ := tb_for (w := w) (d := d) (C := .lst (cs.map .int)) hN hn cs [] none none none none none none (fun J q => by cases q) (by show 0 + 0 + 5 * cs.length <= 1000; lia)
 have s1 : szL ts + ts.length <= 0 + 0 + 5 * cs.length := s1
 cases ts with
 | nil =>
  refine ⟨.num 0, .num (by left), by show 1 <= 230; lia, ?_⟩
  exact call_go (n := 7) (tp := [.l .next (gst (.lst (cs.map .int)) (.lst (N.map .str)) [] y3 y4 y5 y6 y7 y8), .l .next (gst (.lst (cs.map .int)) (.lst (N.map .str)) [] y3 y4 y5 y6 y7 y8)]) (b__law_tree_by w (d + 1)) rfl (b__law_tree_by_x w (d + 1)) rfl (by left)
   (P := TWh w d (gst (.lst (cs.map .int)) (.lst (N.map .str)) [] y3 y4 y5 y6 y7 y8) (gst (.lst (cs.map .int)) (.lst (N.map .str)) [] y3 y4 y5 y6 y7 y8) /\ TF w d (cs.map .int) (gst (.lst (cs.map .int)) (.lst (N.map .str)) [] none none none none none none) .next (gst (.lst (cs.map .int)) (.lst (N.map .str)) [] y3 y4 y5 y6 y7 y8) /\ True) (by left) ⟨tb_nil, k1, trivial⟩
 | cons b ts =>
  obtain ⟨t, z8, k2, h2, s2⟩ := tb_wh (w := w) (d := d) (C := .lst (cs.map .int)) hN hn ts b y3 y4 y5 y6 y7 y8 h1
  rw [List.length_cons] at s1
  refine ⟨t, h2, by lia, ?_⟩
  exact call_go (n := 7) (tp := [.l .next (gst (.lst (cs.map .int)) (.lst (N.map .str)) ((b :: ts).map tv) y3 y4 y5 y6 y7 y8), .l .next (gst (.lst (cs.map .int)) (.lst (N.map .str)) [tv t] y3 y4 y5 y6 y7 z8)]) (b__law_tree_by w (d + 1)) rfl (b__law_tree_by_x w (d + 1)) rfl (by left)
   (P := TWh w d (gst (.lst (cs.map .int)) (.lst (N.map .str)) ((b :: ts).map tv) y3 y4 y5 y6 y7 y8) (gst (.lst (cs.map .int)) (.lst (N.map .str)) [tv t] y3 y4 y5 y6 y7 z8) /\ TF w d (cs.map .int) (gst (.lst (cs.map .int)) (.lst (N.map .str)) [] none none none none none none) .next (gst (.lst (cs.map .int)) (.lst (N.map .str)) ((b :: ts).map tv) y3 y4 y5 y6 y7 y8) /\ True) (by left) ⟨k2, k1, trivial⟩
end Mine.L09
end
section
namespace Mine.L09
variable {w : World} {d : Nat}
noncomputable abbrev hst (T : V) (x : List Nat) (K : List V) (x3 : Option O) : Loc := [some (.val T), some (.val (.str x)), some (.own K), x3]
abbrev HW (w : World) (d : Nat) (T : V) (x : List Nat) (K : List V) (x3 : Option O) (P : Prop) : Prop := WhP (c__law_has_232 w d) (l__law_has_232 w d) (hst T x K x3) fun fl ρ' => fl = .ret (.val (.bool true)) \/ (fl = .next /\ ∃ x3, ρ' = hst T x [] x3) /\ P
theorem hw_mono {T : V} {x : List Nat} {K : List V} {x3 : Option O} {P Q : Prop} (h : HW w d T x K x3 P) (k : P -> Q) : HW w d T x K x3 Q := by
 obtain ⟨fl, ρ, a, b⟩ := h
 exact ⟨fl, ρ, a, b.imp id fun q => ⟨q.1, k q.2⟩⟩
section
variable {T A B C : V} {x y : List Nat} {K : List V} {x3 : Option O} {P : Prop}
theorem hs_num (k : ∀ x3, HW w d T x (K) x3 P) : HW w d T x (.tup [.str z_num, A] :: K) x3 P := whp_go false (tp := [.b false, .b false]) (ρ' := hst T x (K) (some (.val (.tup [.str z_num, A])))) (by left) (P := ((false : Bool) = false) /\ ((z_num == z_name) = false) /\ True) (by left) ⟨rfl, by decide, trivial⟩ (k _)
theorem hs_name (h : (y == x) = false) (k : ∀ x3, HW w d T x (K) x3 P) : HW w d T x (.tup [.str z_name, .str y] :: K) x3 P := whp_go false (tp := [.b false, .b false]) (ρ' := hst T x (K) (some (.val (.tup [.str z_name, .str y])))) (by left) (P := ((false : Bool) = false) /\ ((y == x) = false) /\ True) (by left) ⟨rfl, h, trivial⟩ (k _)
theorem hs_fn0 (h : (y == x) = true) (k : ∀ x3, HW w d T x (K) x3 P) : HW w d T x (.tup [.str z_fun, .str y, A] :: K) x3 P := whp_go false (tp := [.b false, .b false]) (ρ' := hst T x (K) (some (.val (.tup [.str z_fun, .str y, A])))) (by left) (P := ((!y == x) = false) /\ ((z_fun == z_name) = false) /\ True) (by left) ⟨by rw [h]; rfl, by decide, trivial⟩ (k _)
theorem hs_fn1 (h : (y == x) = false) (hK : K.length + 4 < room) (k : ∀ x3, HW w d T x (A :: K) x3 P) : HW w d T x (.tup [.str z_fun, .str y, A] :: K) x3 P := whp_go false (tp := [.b false, .b true]) (ρ' := hst T x (A :: K) (some (.val (.tup [.str z_fun, .str y, A])))) (by left) (P := (K.length < room) /\ ((!y == x) = true) /\ ((z_fun == z_name) = false) /\ True) (by left) ⟨by lia, by rw [h]; rfl, by decide, trivial⟩ (k _)
theorem hs_let0 (h : (y == x) = true) (hK : K.length + 4 < room) (k : ∀ x3, HW w d T x (A :: K) x3 P) : HW w d T x (.tup [.str z_let, .str y, A, B] :: K) x3 P := whp_go false (tp := [.b false, .b false]) (ρ' := hst T x (A :: K) (some (.val (.tup [.str z_let, .str y, A, B])))) (by left) (P := ((!y == x) = false) /\ (K.length < room) /\ ((z_let == z_name) = false) /\ True) (by left) ⟨by rw [h]; rfl, by lia, by decide, trivial⟩ (k _)
theorem hs_let1 (h : (y == x) = false) (hK : K.length + 4 < room) (k : ∀ x3, HW w d T x (B :: A :: K) x3 P) : HW w d T x (.tup [.str z_let, .str y, A, B] :: K) x3 P := whp_go false (tp := [.b false, .b true]) (ρ' := hst T x (B :: A :: K) (some (.val (.tup [.str z_let, .str y, A, B])))) (by left) (P := ((A :: K).length < room) /\ ((!y == x) = true) /\ (K.length < room) /\ ((z_let == z_name) = false) /\ True) (by left) ⟨by rw [List.length_cons]; lia, by rw [h]; rfl, by lia, by decide, trivial⟩ (k _)
theorem hs_call (hK : K.length + 4 < room) (k : ∀ x3, HW w d T x (B :: A :: K) x3 P) : HW w d T x (.tup [.str z_call, A, B] :: K) x3 P := whp_go false (tp := [.b false, .b false]) (ρ' := hst T x (B :: A :: K) (some (.val (.tup [.str z_call, A, B])))) (by left) (P := (([A, B] : List V).length + K.length < room) /\ ((0 : Int) <= 1 /\ (1 : Int) <= 1000000) /\ ((false : Bool) = false) /\ ((z_call == z_name) = false) /\ True) (by left) ⟨by simp only [List.length_cons, List.length_nil]; lia, by decide, rfl, by decide, trivial⟩ (k _)
theorem hs_plus (hK : K.length + 4 < room) (k : ∀ x3, HW w d T x (B :: A :: K) x3 P) : HW w d T x (.tup [.str z_plus, A, B] :: K) x3 P := whp_go false (tp := [.b false, .b false]) (ρ' := hst T x (B :: A :: K) (some (.val (.tup [.str z_plus, A, B])))) (by left) (P := (([A, B] : List V).length + K.length < room) /\ ((0 : Int) <= 1 /\ (1 : Int) <= 1000000) /\ ((false : Bool) = false) /\ ((z_plus == z_name) = false) /\ True) (by left) ⟨by simp only [List.length_cons, List.length_nil]; lia, by decide, rfl, by decide, trivial⟩ (k _)
theorem hs_less (hK : K.length + 4 < room) (k : ∀ x3, HW w d T x (B :: A :: K) x3 P) : HW w d T x (.tup [.str z_less, A, B] :: K) x3 P := whp_go false (tp := [.b false, .b false]) (ρ' := hst T x (B :: A :: K) (some (.val (.tup [.str z_less, A, B])))) (by left) (P := (([A, B] : List V).length + K.length < room) /\ ((0 : Int) <= 1 /\ (1 : Int) <= 1000000) /\ ((false : Bool) = false) /\ ((z_less == z_name) = false) /\ True) (by left) ⟨by simp only [List.length_cons, List.length_nil]; lia, by decide, rfl, by decide, trivial⟩ (k _)
theorem hs_if (hK : K.length + 4 < room) (k : ∀ x3, HW w d T x (C :: B :: A :: K) x3 P) : HW w d T x (.tup [.str z_if, A, B, C] :: K) x3 P := whp_go false (tp := [.b false, .b false]) (ρ' := hst T x (C :: B :: A :: K) (some (.val (.tup [.str z_if, A, B, C])))) (by left) (P := (([A, B, C] : List V).length + K.length < room) /\ ((0 : Int) <= 1 /\ (1 : Int) <= 1000000) /\ ((false : Bool) = false) /\ ((z_if == z_name) = false) /\ True) (by left) ⟨by simp only [List.length_cons, List.length_nil]; lia, by decide, rfl, by decide, trivial⟩ (k _)
theorem hs_yes (h : (y == x) = true) : HW w d T x (.tup [.str z_name, .str y] :: K) x3 P := ⟨_, _, whil_ret false (tp := [.b true]) (o := .val (.bool true)) (ρ' := hst T x K (some (.val (.tup [.str z_name, .str y])))) (by left) (P := ((y == x) = true) /\ True) (by left) ⟨h, trivial⟩, .inl rfl⟩
theorem hs_end : HW w d T x [] x3 True := whp_end false (tp := []) (ρ' := hst T x [] x3) (by left) (P := True) (by left) trivial (.inr ⟨⟨rfl, _, rfl⟩, trivial⟩)
end
def NoF (x : List Nat) (ts : List Tree) : Prop := @List.rec Tree (fun J => Prop) True (fun t J r => ¬ FV t x /\ r) ts
theorem has_all {T : V} {x : List Nat} : ∀ (n : Nat) (ts : List Tree) (x3 : Option O), szL ts <= n -> szL ts + 4 < room -> HW w d T x (ts.map tv) x3 (NoF x ts)
 | _, [], x3, _, _ => hs_end
 | 0, t :: ts, _, h, _ => by
  have h : sz t + szL ts <= 0 := h
  have := sz_pos t
  lia
 | n + 1, t :: ts, x3, h, hr => by
  have h : sz t + szL ts <= n + 1 := h
  have hr : sz t + szL ts + 4 < room := hr
  have hl := len_sz ts
  have hK : (ts.map tv).length + 4 < room := by rw [List.length_map]; lia
  cases t with
  | num i => exact hs_num fun x3 => hw_mono (has_all n ts x3 (by have : sz (.num i) = 1 := rfl; lia) (by lia)) fun q => ⟨fun p => p, q⟩
  | name y =>
   cases e : (y == x) with
   | true => exact hs_yes e
   | false => exact hs_name e fun x3 => hw_mono (has_all n ts x3 (by have : sz (.name y) = 1 := rfl; lia) (by lia)) fun q => ⟨fun p => by cases (show x = y from p); simp at e, q⟩
  | fn y b =>
   have hs : sz (.fn y b) = sz b + 1 := rfl
   cases e : (y == x) with
   | true => exact hs_fn0 e fun x3 => hw_mono (has_all n ts x3 (by lia) (by lia)) fun q => ⟨fun p => p.2 (eq_of_beq e).symm, q⟩
   | false => exact hs_fn1 e hK fun x3 => hw_mono (has_all n (b :: ts) x3 (by show sz b + szL ts <= n; lia) (by show sz b + szL ts + 4 < room; lia)) fun q => ⟨fun p => q.1 p.1, q.2⟩
  | call a b =>
   have hs : sz (.call a b) = sz a + sz b + 1 := rfl
   exact hs_call hK fun x3 => hw_mono (has_all n (b :: a :: ts) x3 (by show sz b + (sz a + szL ts) <= n; lia) (by show sz b + (sz a + szL ts) + 4 < room; lia)) fun q => ⟨fun p => p.elim q.2.1 q.1, q.2.2⟩
  | plus a b =>
   have hs : sz (.plus a b) = sz a + sz b + 1 := rfl
   exact hs_plus hK fun x3 => hw_mono (has_all n (b :: a :: ts) x3 (by show sz b + (sz a + szL ts) <= n; lia) (by show sz b + (sz a + szL ts) + 4 < room; lia)) fun q => ⟨fun p => p.elim q.2.1 q.1, q.2.2⟩
  | less a b =>
   have hs : sz (.less a b) = sz a + sz b + 1 := rfl
   exact hs_less hK fun x3 => hw_mono (has_all n (b :: a :: ts) x3 (by show sz b + (sz a + szL ts) <= n; lia) (by show sz b + (sz a + szL ts) + 4 < room; lia)) fun q => ⟨fun p => p.elim q.2.1 q.1, q.2.2⟩
  | ite c a b =>
   have hs : sz (.ite c a b) = sz c + sz a + sz b + 1 := rfl
   exact hs_if hK fun x3 => hw_mono (has_all n (b :: a :: c :: ts) x3 (by show sz b + (sz a + (sz c + szL ts)) <= n; lia) (by show sz b + (sz a + (sz c + szL ts)) + 4 < room; lia)) fun q => ⟨fun p => p.elim q.2.2.1 fun p => p.elim q.2.1 q.1, q.2.2.2⟩
  | lt y a b =>
   have hs : sz (.lt y a b) = sz a + sz b + 1 := rfl
   cases e : (y == x) with
   | true => exact hs_let0 e hK fun x3 => hw_mono (has_all n (a :: ts) x3 (by show sz a + szL ts <= n; lia) (by show sz a + szL ts + 4 < room; lia)) fun q => ⟨fun p => p.elim q.1 fun p => p.2 (eq_of_beq e).symm, q.2⟩
   | false => exact hs_let1 e hK fun x3 => hw_mono (has_all n (b :: a :: ts) x3 (by show sz b + (sz a + szL ts) <= n; lia) (by show sz b + (sz a + szL ts) + 4 < room; lia)) fun q => ⟨fun p => p.elim q.2.1 fun p => q.1 p.1, q.2.2⟩
theorem ok_has (t : Tree) (x : List Nat) (h : sz t + 4 < room) : ∃ b : Bool, CallOK (G w) (d + 1) 253 [tv t, .str x] (.val (.bool b)) /\ (b = false -> ¬ FV t x) := by
 obtain ⟨fl, ρ, hw, hh⟩ := has_all (w := w) (d := d) (T := tv t) (x := x) (sz t + 0) [t] none (Nat.le_refl _) (by show sz t + 0 + 4 < room; lia)
 rcases hh with rfl | ⟨⟨rfl, x3, rfl⟩, q⟩
 ·refine ⟨true, ?_, fun q => by cases q⟩
  exact call_go (n := 2) (tp := [.l (.ret (.val (.bool true))) ρ]) (b__law_has w d) rfl (b__law_has_x w d) rfl (by left) (P := WhilOK (G w) d fi__law_has (c__law_has_232 w d).x (l__law_has_232 w d).xs (hst (tv t) x [tv t] none) (.ret (.val (.bool true))) ρ /\ True) (by left) ⟨hw, trivial⟩
 ·refine ⟨false, ?_, fun J => q.1⟩
  exact call_go (n := 2) (tp := [.l .next (hst (tv t) x [] x3)]) (b__law_has w d) rfl (b__law_has_x w d) rfl (by left) (P := WhilOK (G w) d fi__law_has (c__law_has_232 w d).x (l__law_has_232 w d).xs (hst (tv t) x [tv t] none) .next (hst (tv t) x [] x3) /\ True) (by left) ⟨hw, trivial⟩
end Mine.L09
end
section
namespace Mine.L09
variable {w : World} {d : Nat} {N : List (List Nat)} {C : V}
noncomputable abbrev cst (C N : V) (f s : Int) (T : V) (x3 x6 x7 : Option O) : Loc := [some (.val C), some (.val (.int f)), some (.val (.int s)), x3, some (.val N), some (.val T), x6, x7, none]
abbrev CF (w : World) (d : Nat) (l : List V) (ρ : Loc) (fl : Fl) (ρ' : Loc) : Prop := ForOK (G w) (d + 2) fi__law_closed_by (.Name "_law_k" (qp 248 8 14)) (l__law_closed_by_248 w (d + 2)).xs l ρ fl ρ'
theorem y_name : isName z_y = true := by decide +kernel
noncomputable def wor (s : Int) (i : Nat) : Tree := if i = 0 then .num (s % 4 - 1) else if i = 1 then .fn z_y (.name z_y) else .fn z_y (.plus (.name z_y) (.num 1))
theorem wor_ok (s : Int) (i : Nat) : gd (wor s i) /\ sz (wor s i) <= 4 /\ (∀ y, ¬ FV (wor s i) y) := by
 have h1 := Int.emod_nonneg s (b := 4) (by decide)
 have h2 := Int.emod_lt_of_pos s (b := 4) (by decide)
 unfold wor
 split
 ·refine ⟨?_, by show 1 <= 4; lia, fun y h => h⟩
  show numI (s % 4 - 1) = true
  unfold numI great
  rw [Bool.and_eq_true, decide_eq_true_eq, decide_eq_true_eq]; lia
 ·split
  ·exact ⟨⟨y_name, y_name⟩, by show 1 + 1 <= 4; lia, fun y h => h.2 h.1⟩
  ·refine ⟨⟨y_name, y_name, by show numI 1 = true; decide +kernel⟩, by show 1 + 1 + 1 + 1 <= 4; lia, fun y h => ?_⟩
   rcases h.1 with q | q
   ·exact h.2 q
   ·exact q
theorem ltS {P : Nat -> Prop} {n : Nat} (a : P 0) (b : ∀ k, k < n -> P (k + 1)) : ∀ k, k < n + 1 -> P k
 | 0, _ => a
 | k + 1, h => b k (Nat.lt_of_succ_lt_succ h)
theorem lt0 {P : Nat -> Prop} (k : Nat) (h : k < 0) : P k := absurd h (Nat.not_lt_zero k)
theorem cb_step (hN : N.length = 4) (hn : ∀ x, x ∈ N -> isName x = true) {f s : Int} {t : Tree} {k : Nat} (hk : k < 4) (g : gd t) (hs : sz t <= 400) (hf : ∀ y, FV t y -> y ∈ N.drop k) (x3 x6 x7 : Option O) :
  ∃ (t' : Tree) (y3 y6 y7 : Option O), (∀ l fl ρ', CF w d l (cst C (.lst (N.map .str)) f s (tv t') y3 y6 y7) fl ρ' -> CF w d (.int (Int.ofNat k) :: l) (cst C (.lst (N.map .str)) f s (tv t) x3 x6 x7) fl ρ') /\ gd t' /\ sz t' <= sz t + 5 /\ ∀ y, FV t' y -> y ∈ N.drop (k + 1) := by
 have hk' : k < N.length := by lia
 have pk : Pick (.val (.lst (N.map .str))) (Int.ofNat k) (.val (.str N[k])) := by
  unfold Pick
  show ((N.map V.str)[k]?).bind (fun v => some (O.val v)) = some (O.val (V.str N[k]))
  rw [List.getElem?_map, List.getElem?_eq_getElem hk']; rfl
 obtain ⟨b, hw, hb⟩ := ok_has (w := w) (d := d + 1) t N[k] (by have := room_big; lia)
 have hd : N.drop k = N[k] :: N.drop (k + 1) := List.drop_eq_getElem_cons hk'
 cases b with
 | false =>
  refine ⟨t, (some (.val (.int (Int.ofNat k)))), x6, x7, fun l fl ρ' kk => for_go (by left) (i := 3) (ρ' := cst C (.lst (N.map .str)) f s (tv t) (some (.val (.int (Int.ofNat k)))) x6 x7) (tp := [.r (.val (.str N[k])), .r (.val (.bool false))]) (by left) (P := CallOK (G w) (d + 2) 253 [tv t, .str N[k]] (.val (.bool false)) /\ Pick (.val (.lst (N.map .str))) (Int.ofNat k) (.val (.str N[k])) /\ True) (by left) ⟨hw, pk, trivial⟩ kk, g, by lia, fun y hy => ?_⟩
  have := hf y hy
  rw [hd] at this
  rcases List.mem_cons.mp this with e | e
  ·rw [e] at hy; exact absurd hy (hb rfl)
  ·exact e
 | true =>
  obtain ⟨q, hq, hq0, hq1⟩ := (show ∀ k, k < 4 -> ∃ q : Int, Pick (.val (.lst [.int 1, .int 3, .int 9, .int 27])) (Int.ofNat k) (.val (.int q)) /\ 0 < q /\ q < 536870912 from ltS ⟨1, rfl, by decide, by decide⟩ <| ltS ⟨3, rfl, by decide, by decide⟩ <| ltS ⟨9, rfl, by decide, by decide⟩ <| ltS ⟨27, rfl, by decide, by decide⟩ <| lt0) k hk
  obtain ⟨i, hi, ei⟩ := mod_cases (s / 4 / q) 3 (by decide)
  have pw : Pick (.own [tv (.fn z_y (.plus (.name z_y) (.num 1))), tv (.fn z_y (.name z_y)), tv (.num (s % 4 - 1))]) (s / 4 / q % 3) (.val (tv (wor s i))) := by
   have ei : s / 4 / q % 3 = Int.ofNat i := ei
   rw [ei]
   exact (show ∀ i, i < 3 -> Pick (.own [tv (.fn z_y (.plus (.name z_y) (.num 1))), tv (.fn z_y (.name z_y)), tv (.num (s % 4 - 1))]) (Int.ofNat i) (.val (tv (wor s i))) from ltS rfl <| ltS rfl <| ltS rfl lt0) i hi
  obtain ⟨o1, o2, o3⟩ := wor_ok s i
  refine ⟨.lt N[k] (wor s i) t, (some (.val (.int (Int.ofNat k)))), _, _, fun l fl ρ' kk => for_go (by left) (i := 3) (ρ' := cst C (.lst (N.map .str)) f s (tv (.lt N[k] (wor s i) t)) (some (.val (.int (Int.ofNat k)))) (some (.val (.int (s / 4 / q % 3)))) (some (.own [tv (.fn z_y (.plus (.name z_y) (.num 1))), tv (.fn z_y (.name z_y)), tv (.num (s % 4 - 1))]))) (tp := [.r (.val (.str N[k])), .r (.val (.bool true)), .r (.val (.int q)), .r (.val (.str N[k])), .r (.val (tv (wor s i)))]) (by left)
   (P := Pick (.own [tv (.fn z_y (.plus (.name z_y) (.num 1))), tv (.fn z_y (.name z_y)), tv (.num (s % 4 - 1))]) (s / 4 / q % 3) (.val (tv (wor s i))) /\ Pick (.val (.lst (N.map .str))) (Int.ofNat k) (.val (.str N[k])) /\ (([tv (.fn z_y (.name z_y)), tv (.num (s % 4 - 1))] : List V).length < room) /\ ((0 : Int) < 4) /\ ((0 : Int) < 3) /\ (0 < q /\ q < 536870912) /\ Pick (.val (.lst [.int 1, .int 3, .int 9, .int 27])) (Int.ofNat k) (.val (.int q)) /\ ((0 : Int) < 4 /\ (4 : Int) < 536870912) /\ CallOK (G w) (d + 2) 253 [tv t, .str N[k]] (.val (.bool true)) /\ Pick (.val (.lst (N.map .str))) (Int.ofNat k) (.val (.str N[k])) /\ True) (by left) ⟨pw, pk, by show 2 < room; have := room_big; lia, by decide, by decide, ⟨hq0, hq1⟩, hq, by decide, hw, pk, trivial⟩ kk, ⟨hn _ (List.getElem_mem hk'), o1, g⟩, by show sz (wor s i) + sz t + 1 <= _; lia, fun y hy => ?_⟩
  rcases hy with hy | ⟨hy, hne⟩
  ·exact (o3 y hy).elim
  ·have := hf y hy
   rw [hd] at this
   exact (List.mem_cons.mp this).resolve_left hne
theorem cb_all (hN : N.length = 4) (hn : ∀ x, x ∈ N -> isName x = true) {f s : Int} : ∀ (n k : Nat) (t : Tree) (x3 x6 x7 : Option O), k + n = 4 -> gd t -> sz t <= 230 + 5 * k -> (∀ y, FV t y -> y ∈ N.drop k) →
  ∃ (t' : Tree) (y3 y6 y7 : Option O), CF w d (rangeL (Int.ofNat k) n) (cst C (.lst (N.map .str)) f s (tv t) x3 x6 x7) .next (cst C (.lst (N.map .str)) f s (tv t') y3 y6 y7) /\ gd t' /\ sz t' <= 250 /\ ∀ y, ¬ FV t' y
 | 0, k, t, x3, x6, x7, h, g, hs, hf => ⟨t, x3, x6, x7, for_nil, g, by lia, fun y hy => by
   have := hf y hy
   rw [List.drop_eq_nil_of_le (by lia)] at this; cases this⟩
 | n + 1, k, t, x3, x6, x7, h, g, hs, hf => by
  obtain ⟨t1, y3, y6, y7, k1, g1, s1, f1⟩ := cb_step (w := w) (d := d) (C := C) hN hn (f := f) (s := s) (k := k) (by lia) g (by lia) hf x3 x6 x7
  obtain ⟨t2, z3, z6, z7, k2, r⟩ := cb_all hN hn (f := f) (s := s) n (k + 1) t1 y3 y6 y7 (by lia) g1 (by lia) f1
  exact ⟨t2, z3, z6, z7, k1 _ _ _ k2, r⟩
noncomputable def nmc (f k : Int) : List Nat := nmR (rOf (f - f % 26 + (f + 7 * k) % 26)) (kOf (f - f % 26 + (f + 7 * k) % 26)) (lt26 (f - f % 26 + (f + 7 * k) % 26))
noncomputable def nms (f : Int) : List (List Nat) := [nmc f 0, nmc f 1, nmc f 2, nmc f 3]
theorem nms_name (f : Int) : ∀ x, x ∈ nms f -> isName x = true := fun x h => by
 unfold nms at h
 simp only [List.mem_cons, List.not_mem_nil, or_false] at h
 rcases h with rfl | rfl | rfl | rfl <;> exact nm_ok _
theorem cb_names {S : V} {f s : Int} : CompL (G w) (d + 1) (fi__law_closed_by.inner s__law_closed_by_246_17 "_law_k" 8) (e__law_closed_by_246_17 w (d + 1)).x 8 [some (.val S), some (.val (.int f)), some (.val (.int s)), none, none, none, none, none, none] [.int 0, .int 1, .int 2, .int 3] ((nms f).map .str) :=
 comp_go (o := .val (.str (nmc f 0))) (tp := [.r (.val (.str (nmc f 0)))]) (by left) (P := CallOK (G w) (d + 1) 232 [.int (f - f % 26 + (f + 7 * 0) % 26)] (.val (.str (nmc f 0))) /\ ((0 : Int) < 26) /\ ((7 : Int).natAbs < 2 ^ 62 \/ (0 : Int).natAbs < 2 ^ 62) /\ ((0 : Int) < 26) /\ True) (by left) ⟨ok_nb _, by decide, .inl (by decide), by decide, trivial⟩ (comp_go (o := .val (.str (nmc f 1))) (tp := [.r (.val (.str (nmc f 1)))]) (by left) (P := CallOK (G w) (d + 1) 232 [.int (f - f % 26 + (f + 7 * 1) % 26)] (.val (.str (nmc f 1))) /\ ((0 : Int) < 26) /\ ((7 : Int).natAbs < 2 ^ 62 \/ (1 : Int).natAbs < 2 ^ 62) /\ ((0 : Int) < 26) /\ True) (by left) ⟨ok_nb _, by decide, .inl (by decide), by decide, trivial⟩ (comp_go (o := .val (.str (nmc f 2))) (tp := [.r (.val (.str (nmc f 2)))]) (by left) (P := CallOK (G w) (d + 1) 232 [.int (f - f % 26 + (f + 7 * 2) % 26)] (.val (.str (nmc f 2))) /\ ((0 : Int) < 26) /\ ((7 : Int).natAbs < 2 ^ 62 \/ (2 : Int).natAbs < 2 ^ 62) /\ ((0 : Int) < 26) /\ True) (by left) ⟨ok_nb _, by decide, .inl (by decide), by decide, trivial⟩ (comp_go (o := .val (.str (nmc f 3))) (tp := [.r (.val (.str (nmc f 3)))]) (by left) (P := CallOK (G w) (d + 1) 232 [.int (f - f % 26 + (f + 7 * 3) % 26)] (.val (.str (nmc f 3))) /\ ((0 : Int) < 26) /\ ((7 : Int).natAbs < 2 ^ 62 \/ (3 : Int).natAbs < 2 ^ 62) /\ ((0 : Int) < 26) /\ True) (by left) ⟨ok_nb _, by decide, .inl (by decide), by decide, trivial⟩ (comp_nil))))
theorem ok_closed (ns : List Int) : ∃ T : Tree, gd T /\ sz T <= 250 /\ cl T /\ CallOK (G w) (d + 3) 258 [.lst (ns.map .int)] (.val (tv T)) := by
 obtain ⟨f, hc0⟩ := ok_cell (w := w) (d := d + 1) ns 0
 obtain ⟨s, hc1⟩ := ok_cell (w := w) (d := d + 1) ns 1
 obtain ⟨c, hc2⟩ := ok_cell (w := w) (d := d + 1) ns 2
 obtain ⟨q, hq, hq0, hq1⟩ : ∃ q : Nat, Pick (.val (.lst [.int 45, .int 16])) (c % 2) (.val (.int (Int.ofNat q))) /\ 0 <= q /\ q <= 45 := by
  obtain ⟨i, hi, ei⟩ := mod_cases c 2 (by decide)
  have ei : c % 2 = Int.ofNat i := ei
  rw [ei]
  exact (show ∀ i, i < 2 -> ∃ q : Nat, Pick (.val (.lst [.int 45, .int 16])) (Int.ofNat i) (.val (.int (Int.ofNat q))) /\ 0 <= q /\ q <= 45 from ltS ⟨45, rfl, by decide, by decide⟩ <| ltS ⟨16, rfl, by decide, by decide⟩ lt0) i hi
 have e : (cut (ns.map V.int) (some 3) (some (3 + q))).reverse.reverse = ((ns.drop 3).take q).map .int := by
  rw [List.reverse_reverse]
  unfold cut
  simp [List.map_take, List.map_drop, List.drop_take]
 have hN : (nms f).length = 4 := rfl
 obtain ⟨t, ht, hz, k1⟩ := ok_tree (w := w) (d := d) hN (nms_name f) ((ns.drop 3).take q) (by rw [List.length_take]; lia)
 rw [<- e] at k1
 obtain ⟨T, y3, y6, y7, k2, g, hs, hf⟩ := cb_all (w := w) (d := d) (C := .lst (ns.map .int)) hN (nms_name f) (f := f) (s := s) 4 0 t none none none rfl ht.g (by lia) (fun y hy => by rw [List.drop_zero]; exact ht.f y hy)
 refine ⟨T, g, hs, hf, ?_⟩
 exact call_go (n := 8) (tp := [.r (.val (.int f)), .r (.val (.int s)), .vs ((nms f).map .str), .r (.val (.int c)), .r (.val (.int (Int.ofNat q))), .r (.val (tv t)), .l .next (cst (.lst (ns.map .int)) (.lst ((nms f).map .str)) f s (tv T) y3 y6 y7)]) (b__law_closed_by w (d + 2)) rfl (b__law_closed_by_x w (d + 2)) rfl (by left)
  (P := CF w d (rangeL 0 4) (cst (.lst (ns.map .int)) (.lst ((nms f).map .str)) f s (tv t) none none none) .next (cst (.lst (ns.map .int)) (.lst ((nms f).map .str)) f s (tv T) y3 y6 y7) /\ ((4 : Int).natAbs <= 1000000) /\ CallOK (G w) (d + 2) 246 [.lst (cut (ns.map V.int) (some 3) (some ((3 : Int) + Int.ofNat q).toNat)).reverse.reverse, .lst ((nms f).map .str)] (.val (tv t)) /\ ((0 : Int) <= 3 /\ (3 : Int) <= 1000000) /\ ((0 : Int) <= 3 + Int.ofNat q /\ (3 : Int) + Int.ofNat q <= 1000000) /\ Pick (.val (.lst [.int 45, .int 16])) (c % 2) (.val (.int (Int.ofNat q))) /\ ((0 : Int) < 2) /\ CallOK (G w) (d + 2) 225 [.lst (ns.map .int), .int 2] (.val (.int c)) /\ (CompL (G w) (d + 2) (fi__law_closed_by.inner s__law_closed_by_246_17 "_law_k" 8) (e__law_closed_by_246_17 w (d + 2)).x 8 [some (.val (.lst (ns.map .int))), some (.val (.int f)), some (.val (.int s)), none, none, none, none, none, none] [.int 0, .int 1, .int 2, .int 3] ((nms f).map .str) /\ 4 <= 1000000) /\ ((4 : Int).natAbs <= 1000000) /\ CallOK (G w) (d + 2) 225 [.lst (ns.map .int), .int 1] (.val (.int s)) /\ CallOK (G w) (d + 2) 225 [.lst (ns.map .int), .int 0] (.val (.int f)) /\ True) (by left) ⟨k2, by decide, k1, by decide, ⟨by lia, by lia⟩, hq, by decide, hc2, ⟨cb_names, by decide⟩, by decide, hc1, hc0, trivial⟩
end Mine.L09
end
section
namespace Mine.L09
variable {w : World} {d : Nat}
theorem ok_asked {t : Tree} {m : Int} (g : gd t) (hs : sz t <= 400) (hf : fr t [] [] = []) (h0 : 0 <= m) (h1 : m <= 1000) : CallOK (G w) (d + 4) 162 [tv t, .int m] (.val .none) := by
 have k1 := ok_need (w := w) (d := d) g hs
 have k2 := ok_free (w := w) (d := d + 1) t (by have := room_big; lia)
 rw [hf] at k2
 exact call_end (n := 0) (ρ' := [some (.val (tv t)), some (.val (.int m))]) (tp := [.r (.val (tv t)), .r (.own []), .r (.val (.bool true)), .b true, .b false]) (b_need w (d + 3)) rfl (b_need_x w (d + 3)) rfl (by left) (P := (!decide (m <= 1000)) = false /\ decide (0 <= m) = true /\ CallOK (G w) (d + 3) 127 [.int m] (.val (.bool true)) /\ CallOK (G w) (d + 3) 155 [tv t] (.own []) /\ CallOK (G w) (d + 3) 148 [tv t] (.val (tv t)) /\ True) (by left)
  ⟨by rw [decide_eq_true h1]; rfl, decide_eq_true h0, ok_whole (d + 2) m, k2, k1, trivial⟩
inductive Chn (t0 : Tree) : List Tree -> Prop where
 | one : Chn t0 [t0]
 | cons {t t' : Tree} {r : List Tree} (h : Chn t0 (t :: r)) (s : St t t') : Chn t0 (t' :: t :: r)
theorem Chn.j {K : Nat} {t0 : Tree} (j0 : Jt K 0 t0) : ∀ {ts : List Tree}, Chn t0 ts -> ∀ {t : Tree} {r : List Tree}, ts = t :: r -> Jt K r.length t := by
 intro ts h
 induction h with
 | one => intro t r e; cases e; exact j0
 | cons h s ih => intro t r e; cases e; exact s.keeps (ih rfl)
theorem Chn.reach {m : Int} {K : Loc -> Prop} {T : V} {t0 : Tree} (hK : ∀ ρ ρ', Trn (c_steps_168 w (d + 4)) (l_steps_168 w (d + 4)) ρ ρ' -> K ρ' -> K ρ) {N : Nat} (j0 : Jt N 0 t0) (hN : N <= 250) (hm : m <= 25) : ∀ {ts : List Tree}, Chn t0 ts -> (ts.length : Int) <= m + 1 -> K (tst T m (ts.map tv)) -> K (tst T m [tv t0]) := by
 intro ts h
 induction h with
 | one => intro _ k; exact k
 | @cons t t' r h s ih =>
  intro hl k
  rw [List.length_cons, List.length_cons] at hl
  have j := h.j j0 rfl
  have hd : dp t <= 250 * 26 := Nat.le_trans j.d (Nat.mul_le_mul hN (by lia))
  have := room_big
  refine ih (by rw [List.length_cons]; lia) (hK _ _ (steps_turn (F := r.map tv) s (by lia) (by rw [List.length_map]; lia) (by rw [List.length_map]; lia)) k)
section
variable {t0 t : Tree} {r : List Tree} {m : Int} {N : Nat}
theorem all_ok (hq : CallOK (G w) (d + 4) 162 [tv t0, .int m] (.val .none)) (j0 : Jt N 0 t0) (hN : N <= 250) (hm : m <= 25) (h : Chn t0 (t :: r)) (hv : isV t = true) (hl : (r.length : Int) <= m) : CallOK (G w) (d + 5) 218 [tv t0, .int m] (.own ((t :: r).map tv)) := by
 have h0 := ok_value (w := w) (d := d + 3) t
 rw [hv] at h0
 have h1 : TW2 w (d + 4) (tst (tv t0) m [tv t0]) (tst (tv t0) m ((t :: r).map tv)) := h.reach (K := fun ρ => TW2 w (d + 4) ρ (tst (tv t0) m ((t :: r).map tv))) (fun J J a k => a.wh k) j0 hN hm (by rw [List.length_cons]; lia) (whil_end false (tp := [.r (.val (.bool true))]) (by left) (P := CallOK (G w) (d + 4) 183 [tv t] (.val (.bool true)) /\ True) (by left) ⟨h0, trivial⟩)
 exact call_go (n := 1) (tp := [.r (.val .none), .l .next (tst (tv t0) m ((t :: r).map tv))]) (b_steps w (d + 4)) rfl (b_steps_x w (d + 4)) rfl (by left) (P := TW2 w (d + 4) (tst (tv t0) m [tv t0]) (tst (tv t0) m ((t :: r).map tv)) /\ CallOK (G w) (d + 4) 162 [tv t0, .int m] (.val .none) /\ True) (by left) ⟨h1, hq, trivial⟩
theorem all_r {c : Addr} (hq : CallOK (G w) (d + 4) 162 [tv t0, .int m] (.val .none)) (j0 : Jt N 0 t0) (hN : N <= 250) (hm : m <= 25) (h : Chn t0 (t :: r)) (hl : (r.length : Int) <= m) (hb : WhErr (G w) (d + 4) fi_steps c (c_steps_168 w (d + 4)).x (l_steps_168 w (d + 4)).xs (tst (tv t0) m ((t :: r).map tv))) : RCall (G w) (d + 5) c 218 [tv t0, .int m] := by
 have h1 := h.reach (w := w) (d := d) (T := tv t0) (K := fun ρ => WhErr (G w) (d + 4) fi_steps c (c_steps_168 w (d + 4)).x (l_steps_168 w (d + 4)).xs ρ) (fun J J a k => a.whe k) j0 hN hm (by rw [List.length_cons]; lia) hb
 exact rcallz_go (n := 1) (ρ' := tst (tv t0) m [tv t0]) (tp := [.r (.val .none)]) (r_steps w (d + 4) c) rfl (r_steps_x w (d + 4) c) rfl (by left) (P := WhErr (G w) (d + 4) fi_steps c (c_steps_168 w (d + 4)).x (l_steps_168 w (d + 4)).xs (tst (tv t0) m [tv t0]) /\ CallOK (G w) (d + 4) 162 [tv t0, .int m] (.val .none) /\ True) (by left) ⟨h1, hq, trivial⟩
theorem all_dry (hq : CallOK (G w) (d + 4) 162 [tv t0, .int m] (.val .none)) (j0 : Jt N 0 t0) (hN : N <= 250) (hm : m <= 25) (h : Chn t0 (t :: r)) (hv : isV t = false) (hl : (r.length : Int) = m) : RCall (G w) (d + 5) 97 218 [tv t0, .int m] := by
 have h0 := ok_value (w := w) (d := d + 3) t
 rw [hv] at h0
 refine all_r hq j0 hN hm h (by lia) ?_
 have := whz_now (c := c_steps_168 w (d + 4)) (r_steps_turn w (d + 4)) false (ρ := tst (tv t0) m (tv t :: r.map tv)) (ρ' := tst (tv t0) m (tv t :: r.map tv)) (tp := [.r (.val (.bool false)), .b true]) (by left) (P := (decide (Int.ofNat (tv t :: r.map tv).length > m) = true) /\ CallOK (G w) (d + 4) 183 [tv t] (.val (.bool false)) /\ True) (by left) ⟨decide_eq_true (by rw [List.length_cons, List.length_map]; show ((r.length + 1 : Nat) : Int) > m; lia), h0, trivial⟩
 rw [r_steps_turn_x] at this
 exact this
theorem all_bad {c : Addr} (hq : CallOK (G w) (d + 4) 162 [tv t0, .int m] (.val .none)) (j0 : Jt N 0 t0) (hN : N <= 250) (hm : m <= 25) (h : Chn t0 (t :: r)) (hb : StB t c) (hl : (r.length : Int) + 1 <= m) : RCall (G w) (d + 5) c 218 [tv t0, .int m] := by
 have h0 := ok_value (w := w) (d := d + 3) t
 rw [hb.nv] at h0
 have j := h.j j0 rfl
 have hd : dp t <= 250 * 26 := Nat.le_trans j.d (Nat.mul_le_mul hN (by lia))
 have hr := room_big
 refine all_r hq j0 hN hm h (by lia) ?_
 have := whz_now (c := c_steps_168 w (d + 4)) (r_steps_step w (d + 4) c) false (ρ := tst (tv t0) m (tv t :: r.map tv)) (ρ' := tst (tv t0) m (tv t :: r.map tv)) (tp := [.r (.val (.bool false)), .b false]) (by left) (P := RCall (G w) (d + 4) c 211 [tv t] /\ (decide (Int.ofNat (tv t :: r.map tv).length > m) = false) /\ CallOK (G w) (d + 4) 183 [tv t] (.val (.bool false)) /\ True) (by left) ⟨hb.r (by lia), decide_eq_false (by rw [List.length_cons, List.length_map]; show ¬ ((r.length + 1 : Nat) : Int) > m; lia), h0, trivial⟩
 rw [r_steps_step_x] at this
 exact this
end
theorem moUp (w : World) : MoUp (G0 w) := by
 intro C B m k
 have m : More C := m
 have ag : Ag (Wh C.h) C.h (Wh B) B := ⟨fun a ⟨o, q⟩ => ⟨o, k a o q⟩, fun a ⟨o, q⟩ => (k a o q).trans q.symm⟩
 have gv : ∀ {x : Str} {v : V}, GVal C x v -> GVal { C with h := B } x v := fun ⟨v', h1, h2⟩ => ⟨v', h1, h2.ag ag⟩
 have ex : ∀ {x : Str} {c : Addr}, ExOk C x c -> ExOk { C with h := B } x c := fun e => ⟨e.mg, e.obj.more k⟩
 exact ⟨gv m.words, gv m.letters, gv m.deeds, let ⟨a, kws, h1, ⟨o, es, ep, y, r⟩, h3⟩ := m.lens; ⟨a, kws, h1, ⟨o, es, ep, k _ _ y, r⟩, h3⟩, gv m.most, gv m.great, ex m.xNum, ex m.xFun, ex m.xDry, m.cls, m.ek, m.kit, m.kitV, m.exm⟩
theorem moUp1 (w : World) : MoUp (G w) := moUp w
noncomputable def wOf (c : Addr) : List Nat := if c = 97 then z_dry else wrgOf c
theorem words_73 : CallOK (G0 w) (d + 1) 314 [.exc 73] (.val (.str z_number)) := call_go (n := 1) (tp := []) (b__law_words w d) rfl (b__law_words_x w d) rfl (by left) (P := ((z_ ++ z_number).length <= room) /\ True) (by left) ⟨by decide, trivial⟩
theorem words_85 : CallOK (G0 w) (d + 1) 314 [.exc 85] (.val (.str z_function)) := call_go (n := 1) (tp := []) (b__law_words w d) rfl (b__law_words_x w d) rfl (by left) (P := ((z_ ++ z_function).length <= room) /\ True) (by left) ⟨by decide, trivial⟩
theorem words_97 : CallOK (G0 w) (d + 1) 314 [.exc 97] (.val (.str z_dry)) := call_go (n := 1) (tp := []) (b__law_words w d) rfl (b__law_words_x w d) rfl (by left) (P := ((z_ ++ z_dry).length <= room) /\ True) (by left) ⟨by decide, trivial⟩
theorem ok_words {c : Addr} (h : c ∈ four) : CallOK (G0 w) (d + 1) 314 [.exc c] (.val (.str (wOf c))) := by
 unfold four at h
 simp only [List.mem_cons, List.not_mem_nil, or_false] at h
 rcases h with rfl | rfl | rfl
 ·exact words_73
 ·exact words_85
 ·exact words_97
theorem mill {c : Addr} (h : c ∈ four) {fi : FI} {np : Pos} (hn : fi.isGlob "MillError" = true) : Asks (G0 w) fi c (.Name "MillError" np) := asks_name (c' := 24) hn fun C m => by
 have m : More C := m
 exact ⟨m.cls _ _ rfl, (m.exm c h "MillError" 24 List.mem_cons_self).trans rfl⟩
section
variable {t u : V} {c : Addr}
theorem stepped_ok {v : V} (h : CallOK (G w) d 211 [t] (.val v)) : CCall (G w) (d + 1) 321 [t] v :=
 ccall_ok (call_go (n := 1) (tp := [.r (.val v)]) (b__law_stepped w d) rfl (b__law_stepped_x w d) rfl (by left) (P := CallOK (G w) d 211 [t] (.val v) /\ True) (by left) ⟨h, trivial⟩)
theorem stepped_r (hc : c ∈ four) (h : RCall (G w) (d + 1) c 211 [t]) : CCall (G w) (d + 2) 321 [t] (.str (wOf c)) := by
 have hs : ExsG (G0 w) (d + 1) fi__law_stepped (y__law_stepped_338 w (d + 1)).xs [some (.val t), some (.val (.exc c))] (.ret (.val (.str (wOf c)))) [some (.val t), some (.val (.exc c))] :=
  (y__law_stepped_338 w (d + 1)).eo.run (tp := [.r (.val (.str (wOf c)))]) (by left) (P := CallOK (G0 w) (d + 1) 314 [.exc c] (.val (.str (wOf c))) /\ True) (by left) ⟨ok_words hc, trivial⟩
 refine ccall_of (n := 1) (f := fd__law_stepped) rfl rfl ?_
 rw [b__law_stepped_p w (d + 1)]
 exact exc_tryAs (G := G0 w) (y := "step") (n := "_law_e") (i := 1) (a := 211) (r := r__law_stepped_337_15 w (d + 1)) (tp := []) (ρ1 := [some (.val t), none]) rfl (moUp w) one_ret (by left) (by left) (P := True) (by left) trivial h (mill hc (by left)) (by left) hs
theorem allow_ok {o : O} (h : CallOK (G w) d 218 [t, u] o) (l : List V) (ho : o = .own l) : CallOK (G w) (d + 1) 328 [t, u] o := by
 subst ho
 exact call_go (n := 1) (tp := [.r (.own l)]) (b__law_all w d) rfl (b__law_all_x w d) rfl (by left) (P := CallOK (G w) d 218 [t, u] (.own l) /\ True) (by left) ⟨h, trivial⟩
theorem allow_r (hc : c ∈ four) (h : RCall (G w) (d + 1) c 218 [t, u]) : CCall (G w) (d + 2) 328 [t, u] (.str (wOf c)) := by
 have hs : ExsG (G0 w) (d + 1) fi__law_all (y__law_all_343 w (d + 1)).xs [some (.val t), some (.val u), some (.val (.exc c))] (.ret (.val (.str (wOf c)))) [some (.val t), some (.val u), some (.val (.exc c))] :=
  (y__law_all_343 w (d + 1)).eo.run (tp := [.r (.val (.str (wOf c)))]) (by left) (P := CallOK (G0 w) (d + 1) 314 [.exc c] (.val (.str (wOf c))) /\ True) (by left) ⟨ok_words hc, trivial⟩
 refine ccall_of (n := 1) (f := fd__law_all) rfl rfl ?_
 rw [b__law_all_p w (d + 1)]
 exact exc_tryAs (G := G0 w) (y := "steps") (n := "_law_e") (i := 2) (a := 218) (r := r__law_all_342_15 w (d + 1)) (tp := []) (ρ1 := [some (.val t), some (.val u), none]) rfl (moUp w) one_ret (by left) (by left) (P := True) (by left) trivial h (mill hc (by left)) (by left) hs
end
end Mine.L09
end
section
namespace Mine.L09
variable {w : World}
noncomputable def bA1 (w : World) (d : Nat) : List Stmt := (x_law_355 w d).x :: [(.Break (qp 356 12 17))]
noncomputable def bA (w : World) (d : Nat) : List Stmt := (.If (t_law_353_15 w d).x [(x_law_354 w d).x] [] ⟨353,12,354,28⟩) :: bA1 w d
noncomputable def bB (w : World) (d : Nat) : List Stmt := [(.Break (qp 358 12 17))]
noncomputable def bC1 (w : World) (d : Nat) : List Stmt := (x_law_363 w d).x :: [(.Break (qp 364 12 17))]
noncomputable def bC (w : World) (d : Nat) : List Stmt := (.If (t_law_361_15 w d).x [(x_law_362 w d).x] [] ⟨361,12,362,28⟩) :: bC1 w d
noncomputable def w6 (w : World) (d : Nat) : List Stmt := (x_law_367 w d).x :: []
noncomputable def w5 (w : World) (d : Nat) : List Stmt := (.If (t_law_365_11 w d).x [(x_law_366 w d).x] [] ⟨365,8,366,24⟩) :: w6 w d
noncomputable def w4 (w : World) (d : Nat) : List Stmt := (.If (t_law_360_11 w d).x (bC w d) [] ⟨360,8,364,17⟩) :: w5 w d
noncomputable def w3 (w : World) (d : Nat) : List Stmt := (x_law_359 w d).x :: w4 w d
noncomputable def w2 (w : World) (d : Nat) : List Stmt := (.If (t_law_357_11 w d).x (bB w d) [] ⟨357,8,358,17⟩) :: w3 w d
noncomputable def w1 (w : World) (d : Nat) : List Stmt := (.If (t_law_352_11 w d).x (bA w d) [] ⟨352,8,356,17⟩) :: w2 w d
noncomputable def w0 (w : World) (d : Nat) : List Stmt := (.Assign [.Name "_law_found" (qp 351 8 18)] (.Call (.Name "_law_stepped" (qp 351 21 33)) (r_law_351_21 w d).xs [] (qp 351 21 49)) (qp 351 8 49)) :: w1 w d
noncomputable def tE (w : World) (d : Nat) : List Stmt := [(.Return (some (.BoolOp .Or [(t_law_376_11 w d).x, (.Compare (.Call (.Name "_law_all" (qp 376 35 43)) (r_law_376_35 w d).xs [] (qp 376 35 75)) [.Eq] [.Constant (.str "dry") 0 (qp 376 79 84)] (qp 376 35 84))] (qp 376 11 84))) (qp 376 4 84))]
noncomputable def tD (w : World) (d : Nat) : List Stmt := (x_law_373 w d).x :: tE w d
noncomputable def tC (w : World) (d : Nat) : List Stmt := (.If (t_law_371_7 w d).x [(x_law_372 w d).x] [] ⟨371,4,372,20⟩) :: tD w d
noncomputable def tB (w : World) (d : Nat) : List Stmt := (.If (t_law_369_7 w d).x [(x_law_370 w d).x] [] ⟨369,4,370,72⟩) :: tC w d
noncomputable def tA (w : World) (d : Nat) : List Stmt := (.Assign [.Name "_law_whole" (qp 368 4 14)] (.Call (.Name "_law_all" (qp 368 17 25)) (r_law_368_17 w d).xs [] (qp 368 17 47)) (qp 368 4 47)) :: tB w d
theorem law_q (w : World) (d : Nat) : fd_law.st = (x_law_346 w d).x :: (x_law_347 w d).x :: (x_law_348 w d).x :: (x_law_349 w d).x :: (.While (t_law_350_10 w d).x (w0 w d) [] ⟨350,4,367,37⟩) :: tA w d := b_law_p w d
noncomputable abbrev lw (S T : V) (m : Int) (L : List V) (e : List Nat) (x5 x6 x7 x8 : Option O) : Loc := [some (.val S), some (.val T), some (.val (.int m)), some (.own L), some (.val (.str e)), x5, x6, x7, x8]
section
variable {S T : V} {m : Int} {t : Tree} {F : List V} {e : List Nat} {x5 x6 x7 x8 : Option O} {u : V} {fl : Flow} {ρ2 : Loc}
theorem row0 (hu : CCall (G w) 9 321 [tv t] u) (h : RowC (G w) 9 fi_law (w1 w 9) (lw S T m (tv t :: F) e (some (.val u)) x6 x7 x8) fl ρ2) : RowC (G w) 9 fi_law (w0 w 9) (lw S T m (tv t :: F) e x5 x6 x7 x8) fl ρ2 := by
 unfold w0
 exact row_asgC (i := 5) (by left) rfl (ev_cc (wk_refl _) (y := "_law_stepped") (a := 321) (r := r_law_351_21 w 9) (vs := [tv t]) (ρ1 := lw S T m (tv t :: F) e x5 x6 x7 x8) (tp := []) (moUp1 w) (by left) (by left) (P := True) (by left) trivial hu) h
theorem t352 (t : Tree) : out (bd ((t_law_352_11 w 9).tr ⟨lw S T m (tv t :: F) e x5 x6 x7 x8, [], []⟩) fun t σ => dec false t σ) = some (isV t, lw S T m (tv t :: F) e x5 x6 x7 x8, []) := by cases t <;> kernel_rfl
theorem t352o (t : Tree) : All (obs (bd ((t_law_352_11 w 9).tr ⟨lw S T m (tv t :: F) e x5 x6 x7 x8, [], []⟩) fun t σ => dec false t σ)) = True := by cases t <;> kernel_rfl
theorem row1 (hv : isV t = false) (h : RowC (G w) 9 fi_law (w2 w 9) (lw S T m (tv t :: F) e x5 x6 x7 x8) fl ρ2) : RowC (G w) 9 fi_law (w1 w 9) (lw S T m (tv t :: F) e x5 x6 x7 x8) fl ρ2 := by
 unfold w1
 exact row_if (t_law_352_11 w 9) false (isV t) (t352 t) (t352o t) trivial (fun q => by rw [hv] at q; cases q) fun J => ⟨rfl, h⟩
theorem turn_val (hv : isV t = true) : RowC (G w) 9 fi_law (w0 w 9) (lw S T m (tv t :: F) e x5 x6 x7 x8) .brk (lw S T m (tv t :: F) z_ (some (.val .none)) x6 x7 x8) := by
 refine row0 (stepped_ok (d := 8) (step_val (d := 6) hv)) ?_
 unfold w1
 refine row_if (t_law_352_11 w 9) false (isV t) (t352 t) (t352o t) trivial (fun J => ⟨rfl, ?_⟩) fun q => by rw [hv] at q; cases q
 unfold bA
 refine row_if (t_law_353_15 w 9) false false (ρ1 := lw S T m (tv t :: F) e (some (.val .none)) x6 x7 x8) (tp := []) (by left) (P := True) (by left) trivial (fun q => nomatch q) fun J => ⟨rfl, ?_⟩
 unfold bA1
 exact row_go (x_law_355 w 9) (ρ1 := lw S T m (tv t :: F) z_ (some (.val .none)) x6 x7 x8) (tp := []) (by left) (P := True) (by left) trivial row_brk
theorem row2 {b : Bool} (hl : (Int.ofNat (tv t :: F).length == m + 1) = b) (h1 : b = true -> fl = .brk /\ ρ2 = lw S T m (tv t :: F) e x5 x6 x7 x8) (h0 : b = false -> RowC (G w) 9 fi_law (w3 w 9) (lw S T m (tv t :: F) e x5 x6 x7 x8) fl ρ2) : RowC (G w) 9 fi_law (w2 w 9) (lw S T m (tv t :: F) e x5 x6 x7 x8) fl ρ2 := by
 unfold w2
 exact row_if (t_law_357_11 w 9) true b (ρ1 := lw S T m (tv t :: F) e x5 x6 x7 x8) (tp := [.b b]) (by left) (P := ((Int.ofNat (tv t :: F).length == m + 1) = b) /\ True) (by left) ⟨hl, trivial⟩ (fun q => ⟨(h1 q).1, by rw [(h1 q).2]; exact row_brk⟩) fun q => ⟨rfl, h0 q⟩
theorem turn_dry (hv : isV t = false) (hu : CCall (G w) 9 321 [tv t] u) (hl : (F.length : Int) = m) : RowC (G w) 9 fi_law (w0 w 9) (lw S T m (tv t :: F) e x5 x6 x7 x8) .brk (lw S T m (tv t :: F) e (some (.val u)) x6 x7 x8) :=
 row0 hu (row1 hv (row2 (b := true) (by rw [beq_iff_eq, List.length_cons]; show ((F.length + 1 : Nat) : Int) = m + 1; lia) (fun J => ⟨rfl, rfl⟩) fun q => nomatch q))
theorem row3 {r : Tree} {z : List Nat} (hr : CallOK (G w) 9 293 [tv t] (.val (tv r))) (hz : CallOK (G w) 9 286 [tv r] (.val (.str z))) (h : RowC (G w) 9 fi_law (w4 w 9) (lw S T m (tv t :: F) e x5 (some (.val (.str z))) x7 x8) fl ρ2) : RowC (G w) 9 fi_law (w3 w 9) (lw S T m (tv t :: F) e x5 x6 x7 x8) fl ρ2 := by
 unfold w3
 exact row_go (x_law_359 w 9) (ρ1 := lw S T m (tv t :: F) e x5 (some (.val (.str z))) x7 x8) (tp := [.r (.val (tv r)), .r (.val (.str z))]) (by left) (P := CallOK (G w) 9 286 [tv r] (.val (.str z)) /\ CallOK (G w) 9 293 [tv t] (.val (tv r)) /\ True) (by left) ⟨hz, hr, trivial⟩ h
theorem nlen (hl : (F.length : Int) < m) : (Int.ofNat (tv t :: F).length == m + 1) = false := by
 rw [beq_eq_false_iff_ne, List.length_cons]; show ((F.length + 1 : Nat) : Int) ≠ m + 1; lia
theorem bad4_73 : RowC (G w) 9 fi_law (w4 w 9) (lw S T m (tv t :: F) e (some (.val (.str z_number))) (some (.val (.str z_number))) x7 x8) .brk (lw S T m (tv t :: F) z_number (some (.val (.str z_number))) (some (.val (.str z_number))) x7 x8) := by
 unfold w4
 refine row_if (t_law_360_11 w 9) false true (ρ1 := lw S T m (tv t :: F) e (some (.val (.str z_number))) (some (.val (.str z_number))) x7 x8) (tp := []) (by left) (P := True) (by left) trivial (fun J => ⟨rfl, ?_⟩) fun q => nomatch q
 unfold bC
 refine row_if (t_law_361_15 w 9) false false (ρ1 := lw S T m (tv t :: F) e (some (.val (.str z_number))) (some (.val (.str z_number))) x7 x8) (tp := []) (by left) (P := True) (by left) trivial (fun q => nomatch q) fun J => ⟨rfl, ?_⟩
 unfold bC1
 exact row_go (x_law_363 w 9) (ρ1 := lw S T m (tv t :: F) z_number (some (.val (.str z_number))) (some (.val (.str z_number))) x7 x8) (tp := []) (by left) (P := True) (by left) trivial row_brk
theorem bad4_85 : RowC (G w) 9 fi_law (w4 w 9) (lw S T m (tv t :: F) e (some (.val (.str z_function))) (some (.val (.str z_function))) x7 x8) .brk (lw S T m (tv t :: F) z_function (some (.val (.str z_function))) (some (.val (.str z_function))) x7 x8) := by
 unfold w4
 refine row_if (t_law_360_11 w 9) false true (ρ1 := lw S T m (tv t :: F) e (some (.val (.str z_function))) (some (.val (.str z_function))) x7 x8) (tp := []) (by left) (P := True) (by left) trivial (fun J => ⟨rfl, ?_⟩) fun q => nomatch q
 unfold bC
 refine row_if (t_law_361_15 w 9) false false (ρ1 := lw S T m (tv t :: F) e (some (.val (.str z_function))) (some (.val (.str z_function))) x7 x8) (tp := []) (by left) (P := True) (by left) trivial (fun q => nomatch q) fun J => ⟨rfl, ?_⟩
 unfold bC1
 exact row_go (x_law_363 w 9) (ρ1 := lw S T m (tv t :: F) z_function (some (.val (.str z_function))) (some (.val (.str z_function))) x7 x8) (tp := []) (by left) (P := True) (by left) trivial row_brk
theorem turn_bad {c : Addr} (hb : StB t c) (hc : c = 73 \/ c = 85) (hz : 4 * dp t < room) (hl : (F.length : Int) < m) : RowC (G w) 9 fi_law (w0 w 9) (lw S T m (tv t :: F) e x5 x6 x7 x8) .brk (lw S T m (tv t :: F) (wOf c) (some (.val (.str (wOf c)))) (some (.val (.str (wOf c)))) x7 x8) := by
 have hu : CCall (G w) 9 321 [tv t] (.str (wOf c)) := stepped_r (d := 7) (by rcases hc with rfl | rfl <;> decide) (hb.r (d := 4) hz)
 refine row0 hu (row1 hb.nv (row2 (b := false) (nlen hl) (fun q => nomatch q) fun J => ?_))
 obtain ⟨fs, r, h1, h2, rfl⟩ := hb
 refine row3 (ok_redex (d := 7) h2.red fs h1) (wrong_yes (d := 8) h2) ?_
 rcases hc with rfl | rfl
 ·exact bad4_73
 ·exact bad4_85
theorem turn_step {K : Nat} {t' : Tree} (s : St t t') (hq : Qk K t) (hz : 8 * dp t + 17 < room) (hl : (F.length : Int) < m) (hF : F.length < 1000) : RowC (G w) 9 fi_law (w0 w 9) (lw S T m (tv t :: F) e x5 x6 x7 x8) .next (lw S T m (tv t' :: tv t :: F) e (some (.val (tv t'))) (some (.val (.str z_))) x7 x8) := by
 have hr0 := room_big
 refine row0 (stepped_ok (d := 8) (s.ok (d := 4) (by lia))) (row1 s.nv (row2 (b := false) (nlen hl) (fun q => nomatch q) fun J => ?_))
 obtain ⟨fs, r, r', h1, h2, rfl, rfl⟩ := s
 refine row3 (ok_redex (d := 7) h2.red fs h1) (wrong_no (d := 8) h2) ?_
 have ha := ok_apart (w := w) (d := 5) h2 fs h1 hq hz
 generalize plug fs r = t at *
 generalize plug fs r' = t' at *
 unfold w4
 refine row_if (t_law_360_11 w 9) false false (ρ1 := lw S T m (tv t :: F) e (some (.val (tv t'))) (some (.val (.str z_))) x7 x8) (tp := []) (by left) (P := True) (by left) trivial (fun q => nomatch q) fun J => ⟨rfl, ?_⟩
 unfold w5
 refine row_if (t_law_365_11 w 9) false false (ρ1 := lw S T m (tv t :: F) e (some (.val (tv t'))) (some (.val (.str z_))) x7 x8) (tp := [.r (.val (.bool true))]) (by left) (P := CallOK (G w) 9 307 [tv t, tv t'] (.val (.bool true)) /\ True) (by left) ⟨ha, trivial⟩ (fun q => nomatch q) fun J => ⟨rfl, ?_⟩
 unfold w6
 exact row_go (x_law_367 w 9) (ρ1 := lw S T m (tv t' :: tv t :: F) e (some (.val (tv t'))) (some (.val (.str z_))) x7 x8) (tp := []) (by left) (P := ((tv t :: F).length < room) /\ True) (by left) ⟨by rw [List.length_cons]; lia, trivial⟩ row_nil
end
end Mine.L09
end
section
namespace Mine.L09
section
variable {G : Gl} {d : Nat} {fi : FI} {ρ ρ1 : Loc} {x : Expr}
theorem ev_eq {m : List Nat} {ms : Str} {k : Nat} {p p' : Pos} (h : EvC G d fi x ρ (.str m) ρ1) (hm : (ms == ⟨m.toArray⟩) = true) (hk : (PyData.strOk ⟨m.toArray⟩ && Nat.ble m.length 1000) = true) : EvC G d fi (.Compare x [.Eq] [.Constant (.str ms) k p] p') ρ (.bool true) ρ1 := by
 have := ev_cmp (k := k) (p := p) (p' := p') false h hm hk
 rwa [beq_self_eq_true] at this
end
variable {w : World}
theorem dp_sz (t : Tree) : dp t <= sz t := by
 induction t with
 | num i => exact Nat.le_refl _
 | name x => exact Nat.le_refl _
 | fn x b h => exact Nat.succ_le_succ h
 | call a b h1 h2 => exact Nat.succ_le_succ (mx (Nat.le_trans h1 (Nat.le_add_right _ _)) (Nat.le_trans h2 (Nat.le_add_left _ _)))
 | plus a b h1 h2 => exact Nat.succ_le_succ (mx (Nat.le_trans h1 (Nat.le_add_right _ _)) (Nat.le_trans h2 (Nat.le_add_left _ _)))
 | less a b h1 h2 => exact Nat.succ_le_succ (mx (Nat.le_trans h1 (Nat.le_add_right _ _)) (Nat.le_trans h2 (Nat.le_add_left _ _)))
 | ite c a b h1 h2 h3 => exact Nat.succ_le_succ (show max (dp c) (max (dp a) (dp b)) <= sz c + sz a + sz b from mx (by lia) (mx (by lia) (by lia)))
 | lt x a b h1 h2 => exact Nat.succ_le_succ (mx (Nat.le_trans h1 (Nat.le_add_right _ _)) (Nat.le_trans h2 (Nat.le_add_left _ _)))
def Fin (t0 : Tree) (m : Int) (t : Tree) (r : List Tree) (e : List Nat) : Prop := Chn t0 (t :: r) /\ ((e = z_ /\ isV t = true /\ (r.length : Int) <= m) \/ (e = z_dry /\ isV t = false /\ (r.length : Int) = m) \/ ∃ c, (c = 73 \/ c = 85) /\ e = wOf c /\ StB t c /\ (r.length : Int) + 1 <= m)
section
variable {S T : V} {m : Int} {t0 : Tree} {N : Nat}
theorem tst350 {t : Tree} {F : List V} (h : (F.length : Int) <= m) : (decide (Int.ofNat (tv t :: F).length <= m + 1) = true) /\ True := ⟨decide_eq_true (by rw [List.length_cons]; show ((F.length + 1 : Nat) : Int) <= m + 1; lia), trivial⟩
theorem loop (j0 : Jt N 0 t0) (hN : N <= 250) (hm : m <= 25) : ∀ (n : Nat) (t : Tree) (r : List Tree) (x5 x6 : Option O), Chn t0 (t :: r) -> (r.length : Int) + n = m -> ∃ (t' : Tree) (r' : List Tree) (e : List Nat) (y5 y6 : Option O), WhC (G w) 9 fi_law (t_law_350_10 w 9).x (w0 w 9) (lw S T m ((t :: r).map tv) z_dry x5 x6 none none) (lw S T m ((t' :: r').map tv) e y5 y6 none none) /\ Fin t0 m t' r' e := by
 intro n
 induction n with
 | zero =>
  intro t r x5 x6 h hl
  have j := h.j j0 rfl
  have hd : dp t <= 250 * 26 := Nat.le_trans j.d (Nat.mul_le_mul hN (by lia))
  have hr := room_big
  have hl' : ((r.map tv).length : Int) = m := by rw [List.length_map]; lia
  have hle : ((r.map tv).length : Int) <= m := by lia
  cases hv : isV t with
  | true => exact ⟨t, r, z_, _, _, whc_brk (t_law_350_10 w 9) true (ρ1 := lw S T m ((t :: r).map tv) z_dry x5 x6 none none) (tp := [.b true]) (by left) (by left) (tst350 (t := t) (F := r.map tv) (m := m) hle) (turn_val (F := r.map tv) hv), h, .inl ⟨rfl, hv, by lia⟩⟩
  | false =>
   obtain ⟨u, hu⟩ : ∃ u, CCall (G w) 9 321 [tv t] u := by
    rcases goes j.c hv with ⟨t', s⟩ | ⟨c, hb, hc⟩
    ·exact ⟨_, stepped_ok (d := 8) (s.ok (d := 4) (by lia))⟩
    ·exact ⟨_, stepped_r (d := 7) (c := c) (by rcases hc with rfl | rfl <;> decide) (hb.r (d := 4) (by lia))⟩
   exact ⟨t, r, z_dry, _, _, whc_brk (t_law_350_10 w 9) true (ρ1 := lw S T m ((t :: r).map tv) z_dry x5 x6 none none) (tp := [.b true]) (by left) (by left) (tst350 (t := t) (F := r.map tv) (m := m) hle) (turn_dry (F := r.map tv) hv hu hl'), h, .inr (.inl ⟨rfl, hv, by lia⟩)⟩
 | succ n ih =>
  intro t r x5 x6 h hl
  have j := h.j j0 rfl
  have hd : dp t <= 250 * 26 := Nat.le_trans j.d (Nat.mul_le_mul hN (by lia))
  have hr := room_big
  have hl' : ((r.map tv).length : Int) < m := by rw [List.length_map]; lia
  have hle : ((r.map tv).length : Int) <= m := by lia
  cases hv : isV t with
  | true => exact ⟨t, r, z_, _, _, whc_brk (t_law_350_10 w 9) true (ρ1 := lw S T m ((t :: r).map tv) z_dry x5 x6 none none) (tp := [.b true]) (by left) (by left) (tst350 (t := t) (F := r.map tv) (m := m) hle) (turn_val (F := r.map tv) hv), h, .inl ⟨rfl, hv, by lia⟩⟩
  | false =>
   rcases goes j.c hv with ⟨t', s⟩ | ⟨c, hb, hc⟩
   ·obtain ⟨t2, r2, e, y5, y6, k, f⟩ := ih t' (t :: r) (some (.val (tv t'))) (some (.val (.str z_))) (.cons h s) (by rw [List.length_cons]; lia)
    exact ⟨t2, r2, e, y5, y6, whc_go (t_law_350_10 w 9) true (ρ1 := lw S T m ((t :: r).map tv) z_dry x5 x6 none none) (tp := [.b true]) (by left) (by left) (tst350 (t := t) (F := r.map tv) (m := m) hle) (turn_step (F := r.map tv) s j.q (by lia) hl' (by rw [List.length_map]; lia)) k, f⟩
   ·exact ⟨t, r, wOf c, _, _, whc_brk (t_law_350_10 w 9) true (ρ1 := lw S T m ((t :: r).map tv) z_dry x5 x6 none none) (tp := [.b true]) (by left) (by left) (tst350 (t := t) (F := r.map tv) (m := m) hle) (turn_bad (F := r.map tv) hb hc (by lia) hl'), h, .inr (.inr ⟨c, hc, rfl, hb, by lia⟩)⟩
theorem fin_dry {L : List V} {x5 x6 : Option O} (h : CCall (G w) 9 328 [T, .int m] (.str z_dry)) : ExsC (G w) 9 fi_law (tA w 9) (lw S T m L z_dry x5 x6 none none) (.bool true) := by
 unfold tA
 refine exc_asgC (i := 7) (by left) rfl (ev_cc (wk_refl _) (y := "_law_all") (a := 328) (r := r_law_368_17 w 9) (vs := [T, .int m]) (ρ1 := lw S T m L z_dry x5 x6 none none) (tp := []) (moUp1 w) (by left) (by left) (P := True) (by left) trivial h) ?_
 unfold tB
 refine exc_if (c := t_law_369_7 w 9) (f := false) (b := true) (ρ1 := lw S T m L z_dry x5 x6 (some (.val (.str z_dry))) none) (tp := []) (wk_refl _) (by left) (P := True) (by left) trivial (fun J => ?_) fun q => nomatch q
 exact exc_end ((lCons (x_law_370 w 9) lNil).eo.run (tp := []) (ρ' := lw S T m L z_dry x5 x6 (some (.val (.str z_dry))) none) (by left) (P := True) (by left) trivial)
theorem fin_number {L : List V} {x5 x6 : Option O} (h : CCall (G w) 9 328 [T, .int m] (.str z_number)) : ExsC (G w) 9 fi_law (tA w 9) (lw S T m L z_number x5 x6 none none) (.bool true) := by
 unfold tA
 refine exc_asgC (i := 7) (by left) rfl (ev_cc (wk_refl _) (y := "_law_all") (a := 328) (r := r_law_368_17 w 9) (vs := [T, .int m]) (ρ1 := lw S T m L z_number x5 x6 none none) (tp := []) (moUp1 w) (by left) (by left) (P := True) (by left) trivial h) ?_
 unfold tB
 refine exc_if (c := t_law_369_7 w 9) (f := false) (b := true) (ρ1 := lw S T m L z_number x5 x6 (some (.val (.str z_number))) none) (tp := []) (wk_refl _) (by left) (P := True) (by left) trivial (fun J => ?_) fun q => nomatch q
 exact exc_end ((lCons (x_law_370 w 9) lNil).eo.run (tp := []) (ρ' := lw S T m L z_number x5 x6 (some (.val (.str z_number))) none) (by left) (P := True) (by left) trivial)
theorem fin_function {L : List V} {x5 x6 : Option O} (h : CCall (G w) 9 328 [T, .int m] (.str z_function)) : ExsC (G w) 9 fi_law (tA w 9) (lw S T m L z_function x5 x6 none none) (.bool true) := by
 unfold tA
 refine exc_asgC (i := 7) (by left) rfl (ev_cc (wk_refl _) (y := "_law_all") (a := 328) (r := r_law_368_17 w 9) (vs := [T, .int m]) (ρ1 := lw S T m L z_function x5 x6 none none) (tp := []) (moUp1 w) (by left) (by left) (P := True) (by left) trivial h) ?_
 unfold tB
 refine exc_if (c := t_law_369_7 w 9) (f := false) (b := true) (ρ1 := lw S T m L z_function x5 x6 (some (.val (.str z_function))) none) (tp := []) (wk_refl _) (by left) (P := True) (by left) trivial (fun J => ?_) fun q => nomatch q
 exact exc_end ((lCons (x_law_370 w 9) lNil).eo.run (tp := []) (ρ' := lw S T m L z_function x5 x6 (some (.val (.str z_function))) none) (by left) (P := True) (by left) trivial)
end
noncomputable def x368 (w : World) (d : Nat) : SS (G w) d fi_law := sAsg "_law_whole" 7 (eCall "_law_all" 328 (r_law_368_17 w d) (qp 368 17 25) (qp 368 17 47) (by left)) (qp 368 4 14) (qp 368 4 47) (by left)
noncomputable def x376 (w : World) (d : Nat) : SS (G w) d fi_law := sRet (eBop (bCons false (t_law_376_11 w d) (bLast .Or (eEq (eCall "_law_all" 328 (r_law_376_35 w d) (qp 376 35 43) (qp 376 35 75) (by left)) (eStr "dry" z_dry 0 (qp 376 79 84) z_dry_e z_dry_k) (qp 376 35 84)))) (qp 376 11 84)) (qp 376 4 84)
theorem x368_x (w : World) (d : Nat) : tA w d = (x368 w d).x :: tB w d := by left
theorem x376_x (w : World) (d : Nat) : tE w d = (lCons (x376 w d) lNil).xs := by left
section
variable {S : V} {m : Int} {t0 : Tree} {N : Nat} {x5 x6 : Option O}
theorem Chn.q (j0 : Jt N 0 t0) {ts : List Tree} (h : Chn t0 ts) : ∀ t, t ∈ ts -> Qk N t /\ dp t <= N * ts.length := by
 induction h with
 | one => intro t q; cases List.mem_singleton.mp q; exact ⟨j0.q, j0.d⟩
 | @cons t1 t' r h s ih =>
  intro t q
  have e : (t' :: t1 :: r).length = (t1 :: r).length + 1 := rfl
  rcases List.mem_cons.mp q with rfl | q
  ·have j := s.keeps (h.j j0 rfl); exact ⟨j.q, j.d⟩
  ·exact ⟨(ih t q).1, Nat.le_trans (ih t q).2 (Nat.mul_le_mul_left _ (by rw [e]; exact Nat.le_succ _))⟩
abbrev EF (w : World) (l : List V) (ρ ρ' : Loc) : Prop := ForOK (G w) 9 fi_law (.Name "_law_k" (qp 373 8 14)) (l_law_373 w 9).xs l ρ .next ρ'
theorem ef_all {ts : List Tree} (hq : ∀ t, t ∈ ts -> CallOK (G w) 9 272 [tv t, tv t, .str z_, tv t0] (.val (.bool true))) : ∀ (n k : Nat) (x8 : Option O), k + n = ts.length -> ∃ y8, EF w (rangeL (Int.ofNat k) n) (lw S (tv t0) m (ts.map tv) z_ x5 x6 (some (.own (ts.map tv))) x8) (lw S (tv t0) m (ts.map tv) z_ x5 x6 (some (.own (ts.map tv))) y8)
 | 0, k, x8, _ => ⟨x8, for_nil⟩
 | n + 1, k, x8, h => by
  obtain ⟨y8, hk⟩ := ef_all hq n (k + 1) (some (.val (.int (Int.ofNat k)))) (by lia)
  have hk' : k < ts.reverse.length := by rw [List.length_reverse]; lia
  have hm : ts.reverse[k] ∈ ts := List.mem_reverse.mp (List.getElem_mem hk')
  have pk : Pick (.own (ts.map tv)) (Int.ofNat k) (.val (tv ts.reverse[k])) := by
   unfold Pick
   show ((ts.map tv).reverse[k]?).bind (fun v => some (O.val v)) = some (O.val (tv ts.reverse[k]))
   rw [<- List.map_reverse, List.getElem?_map, List.getElem?_eq_getElem hk']; rfl
  have hc := hq _ hm
  generalize ts.reverse[k] = t at *
  exact ⟨y8, for_go (by left) (i := 8) (ρ' := lw S (tv t0) m (ts.map tv) z_ x5 x6 (some (.own (ts.map tv))) (some (.val (.int (Int.ofNat k))))) (tp := [.r (.val (tv t)), .r (.val (tv t)), .r (.val (.bool true))]) (by left) (P := CallOK (G w) 9 272 [tv t, tv t, .str z_, tv t0] (.val (.bool true)) /\ Pick (.own (ts.map tv)) (Int.ofNat k) (.val (tv t)) /\ Pick (.own (ts.map tv)) (Int.ofNat k) (.val (tv t)) /\ True) (by left) ⟨hc, pk, pk, trivial⟩ hk⟩
theorem fin_val {t : Tree} {r : List Tree} (hq : ∀ m : Int, 0 <= m -> m <= 25 -> CallOK (G w) 7 162 [tv t0, .int m] (.val .none)) (j0 : Jt N 0 t0) (hN : N <= 250) (h0 : 0 <= m) (hm : m <= 25) (h : Chn t0 (t :: r)) (hv : isV t = true) (hl : (r.length : Int) <= m) : ExsC (G w) 9 fi_law (tA w 9) (lw S (tv t0) m ((t :: r).map tv) z_ x5 x6 none none) (.bool true) := by
 have hr := room_big
 have ha : CallOK (G w) 9 328 [tv t0, .int m] (.own ((t :: r).map tv)) := allow_ok (d := 8) (all_ok (d := 3) (hq m h0 hm) j0 hN hm h hv hl) _ rfl
 have hq' := h.q j0
 have d0 : dp t0 <= 250 := Nat.le_trans j0.d (by rw [Nat.zero_add, Nat.mul_one]; exact hN)
 obtain ⟨y8, hf⟩ := ef_all (w := w) (S := S) (m := m) (x5 := x5) (x6 := x6) (t0 := t0) (ts := t :: r) (fun u q => ok_led0 (d := 7) (hq' u q).1 t0 (by
  have : dp u <= 250 * 26 := Nat.le_trans (hq' u q).2 (Nat.mul_le_mul hN (by rw [List.length_cons]; lia))
  lia)) (t :: r).length 0 none (Nat.zero_add _)
 have hd : ∀ t1 r1, r = t1 :: r1 -> CCall (G w) 9 328 [tv t0, .int (Int.ofNat ((t :: r).map tv).length - 2)] (.str z_dry) := fun t1 r1 e => by
  subst e
  have e1 : Int.ofNat ((t :: t1 :: r1).map tv).length - 2 = (r1.length : Int) := by rw [List.length_map, List.length_cons, List.length_cons]; show ((r1.length + 1 + 1 : Nat) : Int) - 2 = r1.length; lia
  rw [e1]
  rw [List.length_cons] at hl
  cases h with
  | cons h s => exact allow_r (d := 7) (c := 97) (by decide) (all_dry (d := 3) (hq _ (by lia) (by lia)) j0 hN (by lia) h s.nv rfl)
 have hlen : ((t :: r).map tv).length = (t :: r).length := List.length_map ..
 have hb : ((t :: r).map tv).length <= 1000000 := by rw [hlen, List.length_cons]; lia
 have hone : (Int.ofNat ((t :: r).map tv).length == 1) = (r.isEmpty) := by
  rw [hlen]
  cases r with
  | nil => rfl
  | cons a b => rw [beq_eq_false_iff_ne.mpr]; rfl; rw [List.length_cons, List.length_cons]; show ((b.length + 1 + 1 : Nat) : Int) ≠ 1; lia
 rw [<- hlen] at hf
 have hLr : r = [] -> (t :: r).map tv = [tv t] := fun e => by rw [e]; rfl
 generalize (t :: r).map tv = L at *
 rw [x368_x]
 refine exc_go (a := x368 w 9) (ρ1 := lw S (tv t0) m L z_ x5 x6 (some (.own L)) none) (tp := [.r (.own L)]) (by left) (P := CallOK (G w) 9 328 [tv t0, .int m] (.own L) /\ True) (by left) ⟨ha, trivial⟩ ?_
 unfold tB
 refine exc_if (c := t_law_369_7 w 9) (f := false) (b := false) (ρ1 := lw S (tv t0) m L z_ x5 x6 (some (.own L)) none) (tp := []) (wk_refl _) (by left) (P := True) (by left) trivial (fun q => nomatch q) fun J => ⟨rfl, ?_⟩
 unfold tC
 refine exc_if (c := t_law_371_7 w 9) (f := true) (b := false) (ρ1 := lw S (tv t0) m L z_ x5 x6 (some (.own L)) none) (tp := [.b false]) (wk_refl _) (by left) (P := ((!(Int.ofNat L.length == Int.ofNat L.length)) = false) /\ True) (by left) ⟨by rw [beq_self_eq_true]; rfl, trivial⟩ (fun q => nomatch q) fun J => ⟨rfl, ?_⟩
 unfold tD
 refine exc_go (a := x_law_373 w 9) (ρ1 := lw S (tv t0) m L z_ x5 x6 (some (.own L)) y8) (tp := [.l .next (lw S (tv t0) m L z_ x5 x6 (some (.own L)) y8)]) (by left) (P := EF w (rangeL 0 (Int.ofNat L.length - 0).toNat) (lw S (tv t0) m L z_ x5 x6 (some (.own L)) none) (lw S (tv t0) m L z_ x5 x6 (some (.own L)) y8) /\ ((Int.ofNat L.length).natAbs <= 1000000) /\ True) (by left) ⟨by rw [Int.sub_zero]; exact hf, hb, trivial⟩ ?_
 cases r with
 | nil =>
  rw [hLr rfl, x376_x]
  exact exc_end ((lCons (x376 w 9) lNil).eo.run (tp := []) (ρ' := lw S (tv t0) m [tv t] z_ x5 x6 (some (.own [tv t])) y8) (by left) (P := True) (by left) trivial)
 | cons t1 r1 =>
  unfold tE
  have hd := hd t1 r1 rfl
  exact exc_retC (ev_bop (wk_refl _) (op := .Or) (b := t_law_376_11 w 9) (o := .val (.bool (Int.ofNat L.length == 1))) (ρ1 := lw S (tv t0) m L z_ x5 x6 (some (.own L)) y8) (tp := []) (by left) (P := True) (by left) trivial (by rw [hone]; rfl) (ev_eq (m := z_dry) (ev_cc (wk_refl _) (y := "_law_all") (a := 328) (r := r_law_376_35 w 9) (vs := [tv t0, .int (Int.ofNat L.length - 2)]) (ρ1 := lw S (tv t0) m L z_ x5 x6 (some (.own L)) y8) (tp := []) (moUp1 w) (by left) (by left) (P := True) (by left) trivial hd) (by left) (by left)))
end
theorem law_ok (ns : List Int) : CCall (G w) 10 335 [.lst (ns.map .int)] (.bool true) := by
 obtain ⟨t0, g, hs, hc, h1⟩ := ok_closed (w := w) (d := 6) ns
 obtain ⟨c, h2⟩ := ok_cell (w := w) (d := 8) ns 2
 obtain ⟨q, hp, q0, q1⟩ : ∃ q : Int, Pick (.val (.lst [.int 13, .int 25])) (c % 2) (.val (.int q)) /\ 0 < q /\ q <= 25 := by
  obtain ⟨i, hi, ei⟩ := mod_cases c 2 (by decide)
  have ei : c % 2 = Int.ofNat i := ei
  rw [ei]
  exact (show ∀ i, i < 2 -> ∃ q : Int, Pick (.val (.lst [.int 13, .int 25])) (Int.ofNat i) (.val (.int q)) /\ 0 < q /\ q <= 25 from ltS ⟨13, rfl, by decide, by decide⟩ <| ltS ⟨25, rfl, by decide, by decide⟩ lt0) i hi
 have m0 := Int.emod_nonneg (c / 2) (b := q) (by lia)
 have m1 := Int.emod_lt_of_pos (c / 2) (b := q) q0
 have hfr : fr t0 [] [] = [] := List.eq_nil_iff_forall_not_mem.mpr fun y hy => by
  rw [mem_fr] at hy
  rcases hy with hy | hy
  ·cases hy
  ·exact hc y hy.1
 have hq : ∀ m : Int, 0 <= m -> m <= 25 -> CallOK (G w) 7 162 [tv t0, .int m] (.val .none) := fun m a b => ok_asked (d := 3) g (by lia) hfr a (by lia)
 have hds : dp t0 <= 250 := Nat.le_trans (dp_sz t0) hs
 have j0 : Jt 250 0 t0 := ⟨hc, Qk_of g hds, by rw [Nat.zero_add, Nat.mul_one]; exact hds⟩
 refine ccall_of (n := 8) (f := fd_law) rfl rfl ?_
 rw [law_q w 9]
 generalize ns.map V.int = S at *
 refine @exc_go (G w) 9 fi_law (x_law_346 w 9) _ [some (.val (.lst S)), some (.val (tv t0)), none, none, none, none, none, none, none] _ _ [.r (.val (tv t0))] (CallOK (G w) 9 258 [.lst S] (.val (tv t0)) /\ True) (by left) (by left) ⟨h1, trivial⟩ ?_
 refine @exc_go (G w) 9 fi_law (x_law_347 w 9) _ [some (.val (.lst S)), some (.val (tv t0)), some (.val (.int (c / 2 % q))), none, none, none, none, none, none] _ _ [.r (.val (.int c)), .r (.val (.int c)), .r (.val (.int q))] ((0 < q) /\ Pick (.val (.lst [.int 13, .int 25])) (c % 2) (.val (.int q)) /\ ((0 : Int) < 2) /\ CallOK (G w) 9 225 [.lst S, .int (Int.ofNat 2)] (.val (.int c)) /\ ((0 : Int) < 2 /\ (2 : Int) < 536870912) /\ CallOK (G w) 9 225 [.lst S, .int (Int.ofNat 2)] (.val (.int c)) /\ True) (by left) (by left) ⟨q0, hp, by decide, h2, by decide, h2, trivial⟩ ?_
 have hm : c / 2 % q <= 25 := by lia
 generalize c / 2 % q = m at *
 refine @exc_go (G w) 9 fi_law (x_law_348 w 9) _ [some (.val (.lst S)), some (.val (tv t0)), some (.val (.int m)), some (.own [tv t0]), none, none, none, none, none] _ _ [] True (by left) (by left) trivial ?_
 refine @exc_go (G w) 9 fi_law (x_law_349 w 9) _ (lw (.lst S) (tv t0) m ([t0].map tv) z_dry none none none none) _ _ [] True (by left) (by left) trivial ?_
 obtain ⟨t, r, e, y5, y6, hw, hf⟩ := loop (w := w) (S := .lst S) (T := tv t0) j0 (Nat.le_refl _) hm m.toNat t0 [] none none .one (by show (0 : Int) + m.toNat = m; lia)
 refine exc_whl hw ?_
 obtain ⟨ch, hf⟩ := hf
 rcases hf with ⟨rfl, hv, hl⟩ | ⟨rfl, hv, hl⟩ | ⟨c, hc, rfl, hb, hl⟩
 ·exact fin_val hq j0 (Nat.le_refl _) m0 hm ch hv hl
 ·exact fin_dry (allow_r (d := 7) (c := 97) (by decide) (all_dry (d := 3) (hq m m0 hm) j0 (Nat.le_refl _) hm ch hv hl))
 ·have hr := all_bad (d := 3) (hq m m0 hm) j0 (Nat.le_refl _) hm ch hb hl
  rcases hc with rfl | rfl
  ·exact fin_number (allow_r (d := 7) (c := 73) (by decide) hr)
  ·exact fin_function (allow_r (d := 7) (c := 85) (by decide) hr)
end Mine.L09
end
section
open PySem PySem.W PyProof.Rows
namespace Mine.L09
theorem look_in {n : Str} {c : Addr} : ∀ {l : List (Str × Addr)}, l.lookup n = some c -> (n, c) ∈ l
 | [], h => nomatch h
 | (m, a) :: l, h => by
  rw [List.lookup_cons] at h
  cases q : n == m with
  | true => rw [q] at h; cases h; rw [beq_iff_eq.mp q]; exact List.mem_cons_self
  | false => rw [q] at h; exact List.mem_cons_of_mem _ (look_in h)
theorem mem_four {c : Addr} (h : c ∈ four) : c = 73 \/ c = 85 \/ c = 97 := by simpa [four] using h
theorem all2 {f : Addr -> Addr -> Bool} (h : (four.all fun c => clsT.all fun q => f c q.2) = true) : ∀ c, c ∈ four -> ∀ (n : Str) (t : Addr), (n, t) ∈ clsT -> f c t = true := fun c hc n t ht => List.all_eq_true.mp (List.all_eq_true.mp h c hc) (n, t) ht
theorem mo_of {w : World} {K : Params -> Frag} (P : Params) (C : Cx) (hK : C.K = K P) (hP : C.w.params = P) (X : C.K.In C.h) (hm : ∀ x, C.mg x = nsFind (topOf (K P)) x)
  (c_n1 : nsFind (topOf (K P)) "WORDS" = some (.ref 112)) (c_words : tupAt (K P) 112 words = true) (c_letters : strAt (K P) "LETTERS" letters = true) (c_deeds : intAt (K P) "MOST_DEEDS" 1000 = true) (c_n2 : nsFind (topOf (K P)) "LENGTHS" = some (.ref 113))
  (c_lens : dicAt (K P) 113 lens = true) (c_hash : hashesAt (K P) 113 = lens.map (fun kv => PyData.keyHash P ⟨kv.1.toArray⟩)) (c_most : intAt (K P) "MOST_NODES" 400 = true) (c_great : intAt (K P) "GREAT" great = true)
  (c_e73 : nsFind (topOf (K P)) "NoNumber" = some (.ref 73)) (c_k73 : clsAt (K P) 73 (.ref 24 :: mroV) "ValueError.__new__" = true) (c_x73 : ExK (K P) 73) (c_e85 : nsFind (topOf (K P)) "NoFunction" = some (.ref 85)) (c_k85 : clsAt (K P) 85 (.ref 24 :: mroV) "ValueError.__new__" = true) (c_x85 : ExK (K P) 85) (c_e97 : nsFind (topOf (K P)) "Dry" = some (.ref 97)) (c_k97 : clsAt (K P) 97 (.ref 24 :: mroV) "ValueError.__new__" = true) (c_x97 : ExK (K P) 97) (c_mi : clsAt (K P) 24 mroV "ValueError.__new__" = true)
  (c_cls : (clsT.all fun q => nsFind (topOf (K P)) q.1 == some (.ref q.2)) = true) (c_kit : (four.all fun c => clsT.all fun q => kitOne (K P) (.ref c) (.ref q.2) == some (xSub c q.2)) = true) (c_kv : (four.all fun c => kitOne (K P) (.ref c) (.type "ValueError") == some true) = true) (c_exm : (four.all fun c => clsT.all fun q => exmOne (K P) (.ref c) (.ref q.2) == some (xSub c q.2)) = true) : (G w).mo C := by
 rw [hK] at X
 subst hP
 exact More.mk (gval_tup X hm c_n1 c_words) (gval_str hm c_letters z_az_k) (gval_int hm c_deeds) (gdic_ok X hm c_n2 c_lens c_hash (by decide +kernel)) (gval_int hm c_most) (gval_int hm c_great) (ex_ok X hm c_e73 c_k73 c_mi) (ex_ok X hm c_e85 c_k85 c_mi) (ex_ok X hm c_e97 c_k97 c_mi)
  (fun n c h => (hm n).trans (beq_iff_eq.mp (List.all_eq_true.mp c_cls (n, c) (look_in h))))
  (fun c h => by rw [hK]; rcases mem_four h with rfl | rfl | rfl; exact c_x73; exact c_x85; exact c_x97)
  (fun c h n t ht => by rw [hK]; exact beq_iff_eq.mp (all2 (f := fun c t => kitOne (K C.w.params) (.ref c) (.ref t) == some (xSub c t)) c_kit c h n t ht))
  (fun c h => by rw [hK]; exact beq_iff_eq.mp (List.all_eq_true.mp c_kv c h))
  (fun c h n t ht => by rw [hK]; exact beq_iff_eq.mp (all2 (f := fun c t => exmOne (K C.w.params) (.ref c) (.ref t) == some (xSub c t)) c_exm c h n t ht))
end Mine.L09
namespace Mine
open Mine.L09
def fin.tw2415902012162501839:=Nat
def fin.tw11587955951900863698:=Nat
def fin.tw17717364068325071970:=Nat
def fin.tw4312942655851389009:=Nat
def fin.tw5943015340162610155:=Nat
def fin.tw15688172546075569117:=Nat
def fin.tw4209717502836232480:=Nat
def fin.tw876206183137641144:=Nat
def fin.tw11454252539852477091:=Nat
def fin.tw13337293482115323266:=Nat
def fin.tw16175276709679454751:=Nat
def fin.tw7976502392129159676:=Nat
def fin.tw16229209127682248589:=Nat
def fin.tw2512408688544751470:=Nat
def fin.tw17896612028031085017:=Nat
def fin.tw3955986520655104412:=Nat
def fin.tw428092273266315144:=Nat
def fin.tw5805905742469029177:=Nat
def fin.tw16906536467411238026:=Nat
def fin.tw6671992857765853949:=Nat
def fin.tw1625080806587739848:=Nat
def fin.tw3199103547748192838:=Nat
def fin.tw544173102793226557:=Nat
def fin.tw4928979718650693569:=Nat
def fin.tw13491076748231791703:=Nat
def fin.tw17416127249078093707:=Nat
def fin.tw13199158710529813207:=Nat
def fin.tw16252508478716706905:=Nat
def fin.tw9001875181463519149:=Nat
def fin.tw10852849658779182186:=Nat
def fin.tw18295790063311454060:=Nat
def fin.tw15309079848183770524:=Nat
def fin.tw3112429581023547943:=Nat
def fin.tw17130245016438642246:=Nat
def fin.tw2462912638960843985:=Nat
def fin.tw17123178472405020103:=Nat
def fin.tw16237762584071213788:=Nat
def fin.tw4769821431679368130:=Nat
def fin.tw16205109500356779066:=Nat
def fin.tw3599858809825778643:=Nat
def fin.tw3105451386036433885:=Nat
def fin.tw16934629359412608497:=Nat
def fin.tw1560641971993327685:=Nat
def fin.tw10936777179133785780:=Nat
def fin.tw9725021084223525626:=Nat
def fin.tw3598329298470268980:=Nat
def fin.tw14333544728242365436:=Nat
def fin.tw14347400895652799225:=Nat
def fin.tw4171678462856256454:=Nat
def fin.tw7547296005191728479:=Nat
def fin.tw3974152918291533672:=Nat
def fin.tw1921391257341544841:=Nat
def fin.tw15583698165555649274:=Nat
def fin.tw2264883102434479264:=Nat
def fin.tw11192643925408225281:=Nat
def fin.tw2910385600587045654:=Nat
def fin.tw15564276425815640635:=Nat
def fin.tw6449190631224713292:=Nat
def fin.tw9218923581257491847:=Nat
def fin.tw9363291351745731410:=Nat
def fin.tw14679806638718605512:=Nat
def fin.tw4326780796455107134:=Nat
def fin.tw4719063310657182621:=Nat
def fin.tw10683609927848735152:=Nat
def fin.tw8416529770105884409:=Nat
def fin.tw3810570522144960214:=Nat
def fin.tw6144012678527597917:=Nat
def fin.tw6498334528663615478:=Nat
def fin.tw8643116662766533202:=Nat
def fin.tw15201286185872193147:=Nat
def fin.tw9746214513668125432:=Nat
def fin.tw4040260094072895976:=Nat
def fin.tw4218790737952374519:=Nat
def fin.tw7613945582906998725:=Nat
def fin.tw4924110625330727750:=Nat
def fin.tw7613857476909055813:=Nat
def fin.tw18105942590061964161:=Nat
def fin.tw12135189313929291683:=Nat
def fin.tw17570709534508481193:=Nat
def fin.tw17041991840579044601:=Nat
def fin.tw7890596953891613788:=Nat
def fin.tw8119881530291889089:=Nat
def fin.tw3222278782482380304:=Nat
def fin.tw17698704350827878285:=Nat
def fin.tw5071919506433949198:=Nat
def fin.tw16806057482300977146:=Nat
def fin.tw8272817396058243321:=Nat
def fin.tw12751662967071866640:=Nat
def fin.tw5486226609284752418:=Nat
def fin.tw15675102808854859970:=Nat
def fin.tw17662344363894024548:=Nat
def fin.tw2305881189932309285:=Nat
def fin.tw6435670951450185984:=Nat
def fin.tw12284014389350100970:=Nat
def fin.tw11293339424137598113:=Nat
def fin.tw3404873503106905745:=Nat
def fin.tw15399907426655090358:=Nat
def fin.tw6707113841082798463:=Nat
def fin.tw17861066769153400444:=Nat
def fin.tw8025084765662995669:=Nat
def fin.tw111200028466390044:=Nat
def fin.tw4768634762848416435:=Nat
def fin.tw17656766251404061198:=Nat
def fin.tw8330952907988395303:=Nat
def fin.tw16256441300576474876:=Nat
def fin.tw12105171945263650130:=Nat
def fin.tw17067295170570645592:=Nat
def fin.tw10829458402184033698:=Nat
def fin.tw14166196953294261902:=Nat
def fin.tw12740692763255036000:=Nat
def fin.tw12550770813317053977:=Nat
def fin.tw7000300075881102575:=Nat
def fin.tw16502652511500755:=Nat
def fin.tw8919302590299486024:=Nat
def fin.tw4598667867955821814:=Nat
def fin.tw16115155874713506467:=Nat
def fin.tw5098551885099359569:=Nat
def fin.tw6531376189190222733:=Nat
def fin.tw12180539936304867106:=Nat
def fin.tw18373065035072037172:=Nat
def fin.tw11897717083992391400:=Nat
def fin.tw9722632081671974098:=Nat
def fin.tw2824846461999071874:=Nat
def fin.tw3314143786362844604:=Nat
def fin.tw15741700470354863883:=Nat
def fin.tw17821466097196317003:=Nat
def fin.tw10599938827571368224:=Nat
def fin.tw8408514402456403777:=Nat
def fin.tw8352470293576582857:=Nat
def fin.tw14568449535678555946:=Nat
def fin.tw10147658903529517814:=Nat
def fin.tw10567028658651823492:=Nat
def fin.tw7282745182861764756:=Nat
def fin.tw13177410634674063896:=Nat
def fin.tw16109372258727991565:=Nat
def fin.tw10391319463526535247:=Nat
def fin.tw16540275574145912595:=Nat
def fin.tw5320702786494000081:=Nat
def fin.tw6207176494656529804:=Nat
def fin.tw1635022588487117616:=Nat
def fin.tw2242104933262866289:=Nat
def fin.tw7845872953664198349:=Nat
def fin.tw6381419901266130222:=Nat
def fin.tw12567809125941998234:=Nat
def fin.tw14210890002308233579:=Nat
def fin.tw3343445320678177929:=Nat
def fin.tw18082680734076937219:=Nat
def fin.tw744865244796547220:=Nat
def fin.tw17260493314774615805:=Nat
def fin.tw7522001649326652513:=Nat
def fin.tw8947099994592609211:=Nat
def fin.tw1012361349325877821:=Nat
def fin.tw7055459427971326715:=Nat
def fin.tw12291753297600562012:=Nat
def fin.tw4640724917100965312:=Nat
def fin.tw18195182924450695511:=Nat
def fin.tw10329872625359487480:=Nat
def fin.tw14139026862911339306:=Nat
def fin.tw6454446336052903152:=Nat
def fin.tw18255404467826089762:=Nat
def fin.tw13815853411582834384:=Nat
def fin.tw15852077949545257360:=Nat
def fin.tw4759752924163587094:=Nat
def fin.tw799341379326975648:=Nat
def fin.tw17204297501091165112:=Nat
def fin.tw17743408960866722510:=Nat
def fin.tw15344004072050561172:=Nat
def fin.tw5102460946473063141:=Nat
def fin.tw8656503046869711584:=Nat
def fin.tw2617349483901765261:=Nat
def fin.tw6508024398460485763:=Nat
def fin.tw13516622038369049944:=Nat
def fin.tw13870153662132920491:=Nat
def fin.tw2236755162388048479:=Nat
def fin.tw6968583824967984638:=Nat
def fin.tw8289400949097046189:=Nat
def fin.tw2976117146107443816:=Nat
def fin.tw10751089155417173751:=Nat
def fin.tw2086631506510373192:=Nat
def fin.tw904038334739938222:=Nat
def fin.tw17719728818120068181:=Nat
def fin.tw14109310954907245088:=Nat
def fin.tw12649782002744950493:=Nat
def fin.tw17449020081951674710:=Nat
def fin.tw7451905468542833597:=Nat
def fin.tw15205425988870721313:=Nat
def fin.tw17974384156558142227:=Nat
def fin.tw2608567993692976607:=Nat
def fin.tw4950403968356008110:=Nat
def fin.tw891787732878383699:=Nat
def fin.tw17637551073024348614:=Nat
def fin.tw4170516301191304579:=Nat
def fin.tw17347454772498655404:=Nat
def fin.tw6232080684201472732:=Nat
def fin.tw9357874355931990178:=Nat
def fin.tw16307707646766795581:=Nat
def fin.tw5796354222422608987:=Nat
def fin.tw9735714214384596553:=Nat
def fin.tw4879674094562380441:=Nat
def fin.tw999798209818781672:=Nat
def fin.tw17869975865946814897:=Nat
def fin.tw4394748929261556779:=Nat
def fin.tw2367325634123391141:=Nat
def fin.tw7321584467024264148:=Nat
def fin.tw5734618986648460908:=Nat
def fin.tw13383306551100868464:=Nat
def fin.tw14574801432027512755:=Nat
def fin.tw13162651487661262736:=Nat
def fin.tw13294311002278339166:=Nat
def fin.tw5615129895364139138:=Nat
def fin.tw3173534031939492945:=Nat
def fin.tw16196181902256332553:=Nat
def fin.tw7803649310394182010:=Nat
def fin.tw6566618420281934:=Nat
def fin.tw3459265974087741279:=Nat
def fin.tw9113340658982188547:=Nat
def fin.tw16275787546110486726:=Nat
def fin.tw18387650150990424433:=Nat
def fin.tw10383673109516279431:=Nat
def fin.tw1982079694162106894:=Nat
def fin.tw7072226402447830129:=Nat
def fin.tw8018989035897545986:=Nat
def fin.tw12494888245299231016:=Nat
def fin.tw8590288500278120515:=Nat
def fin.tw11336253725339858928:=Nat
def fin.tw13929302177132474383:=Nat
def fin.tw16656299143469825513:=Nat
def fin.tw12962497063298326498:=Nat
def fin.tw757079261281740938:=Nat
def fin.tw5293390819737331289:=Nat
def fin.tw2594973731251379454:=Nat
def fin.tw16496857829328116044:=Nat
def fin.tw17971676594858020690:=Nat
def fin.tw12977279227502587607:=Nat
def fin.tw15373703851562958014:=Nat
def fin.tw5402249366112354979:=Nat
def fin.tw17801579834951734752:=Nat
def fin.tw9544026089342320630:=Nat
def fin.tw11040825799340251285:=Nat
def fin.tw15989303212955285315:=Nat
def fin.tw15832999045522443761:=Nat
def fin.tw11615019562542576733:=Nat
def fin.tw251868834278440796:=Nat
def fin.tw8559517257967667466:=Nat
def fin.tw7470013935711676318:=Nat
def fin.tw3125960719983571848:=Nat
def fin.tw6956187926921108005:=Nat
def fin.tw1963134401048803436:=Nat
def fin.tw8383268338085895543:=Nat
def fin.tw3812028171767442716:=Nat
def fin.tw10671828304227620169:=Nat
def fin.tw7783950685163080668:=Nat
def fin.tw12829507556594621215:=Nat
def fin.tw5901363791540438844:=Nat
def fin.tw3456623496861543869:=Nat
def fin.tw3762306804915933987:=Nat
def fin.tw13066358836101814915:=Nat
def fin.tw10196768644732416780:=Nat
def fin.tw4898026214463823928:=Nat
def fin.tw11151619158091525091:=Nat
def fin.tw12118000046449163591:=Nat
def fin.tw17963964198891936676:=Nat
def fin.tw17784850919643140607:=Nat
def fin.tw14814673180317915700:=Nat
def fin.tw7284238750084343041:=Nat
def fin.tw1535588207084551279:=Nat
def fin.tw5678346346211369953:=Nat
def fin.tw7039413970001822932:=Nat
def fin.tw8750026160782262943:=Nat
def fin.tw17164383140453370395:=Nat
def fin.tw12448240930570709186:=Nat
def fin.tw4868334931027891882:=Nat
def fin.tw13423622936843584764:=Nat
def fin.tw2537931557510868981:=Nat
def fin.tw3810338749695602999:=Nat
def fin.tw3817654288837886093:=Nat
def fin.tw11466478281803324712:=Nat
def fin.tw15815952407149668801:=Nat
def fin.tw7684487725183542926:=Nat
def fin.tw13724452099449386491:=Nat
def fin.tw3268265519342814607:=Nat
def fin.tw16401934584784274106:=Nat
def fin.tw8341379788284533268:=Nat
def fin.tw8269367382603917829:=Nat
def fin.tw7675655780812522254:=Nat
def fin.tw14560573928864763818:=Nat
def fin.tw480829909506669009:=Nat
def fin.tw16530489862217454893:=Nat
def fin.tw1666694428299288667:=Nat
def fin.tw12996517811204074000:=Nat
def fin.tw9260378047223084069:=Nat
def fin.tw10116851871014915495:=Nat
def fin.tw10070804522480449196:=Nat
def fin.tw4570111826955561243:=Nat
def fin.tw17362494058136835672:=Nat
def fin.tw5647864574477489665:=Nat
def fin.tw14517287926952318261:=Nat
def fin.tw7249652514872940865:=Nat
def fin.tw6567050819087999508:=Nat
def fin.tw11414674201277728305:=Nat
def fin.tw13925877587632400325:=Nat
def fin.tw11298980531735778240:=Nat
def fin.tw9187085834234608273:=Nat
def fin.tw11953781441336167498:=Nat
def fin.tw1397303283331804279:=Nat
def fin.tw16570786720924097770:=Nat
def fin.tw1014637456484912126:=Nat
def fin.tw10925335251469727208:=Nat
def fin.tw2866121171748074186:=Nat
def fin.tw9806666330580929782:=Nat
def fin.tw8415677887826043230:=Nat
def fin.tw3004984022683251337:=Nat
def fin.tw1613116972386908190:=Nat
def fin.tw8399098705505230059:=Nat
def fin.tw5897612983314593646:=Nat
def fin.tw5776136370200156792:=Nat
def fin.tw17243792726441971503:=Nat
def fin.tw8668149382578428375:=Nat
def fin.tw4754365596532378047:=Nat
def fin.tw16285329926789087883:=Nat
def fin.tw4788878847521262168:=Nat
def fin.tw13467322939085005891:=Nat
def fin.tw10875463905939285979:=Nat
def fin.tw14245171486683049214:=Nat
def fin.tw10242451874928486539:=Nat
def fin.tw12869217540446652890:=Nat
def fin.tw1819255440876223710:=Nat
def fin.tw17197158672614542318:=Nat
def fin.tw216489041496292469:=Nat
def fin.tw11273041486466551846:=Nat
def fin.tw6455845175183424153:=Nat
def fin.tw12876116671307685997:=Nat
set_option maxHeartbeats 8000000 in
set_option Elab.async true in
theorem fin : PySem.Challenge.rw_uf010023_09.Holds := by
 w_on; o_law; k_head
 case hw => w_witness2
 refine joinC G 335 10 rfl rfl (fun J => rfl) (fun w => by left) (by decide) (hpos := fun w => by left) (fun w P => ⟨?top, ?fn, ?bn, ?isi, .cons ?a0 ?b0 (.cons ?a1 ?b1 (.cons ?a2 ?b2 (.cons ?a3 ?b3 (.cons ?a4 ?b4 (.cons ?a5 ?b5 (.cons ?a6 ?b6 (.cons ?a7 ?b7 (.cons ?a8 ?b8 (.cons ?a9 ?b9 (.cons ?a10 ?b10 (.cons ?a11 ?b11 (.cons ?a12 ?b12 (.cons ?a13 ?b13 (.cons ?a14 ?b14 (.cons ?a15 ?b15 (.cons ?a16 ?b16 (.cons ?a17 ?b17 (.cons ?a18 ?b18 (.cons ?a19 ?b19 (.cons ?a20 ?b20 (.cons ?a21 ?b21 (.cons ?a22 ?b22 (.cons ?a23 ?b23 (.cons ?a24 ?b24 (.cons ?a25 ?b25 (.cons ?a26 ?b26 (.cons ?a27 ?b27 (.cons ?a28 ?b28 (.cons ?a29 ?b29 (.cons ?a30 ?b30 (.cons ?a31 ?b31 (.nil)))))))))))))))))))))))))))))))), ?cl, ?me⟩) (fun w P C hK hP X hm => mo_of P C hK hP X hm ?n1 ?words ?letters ?deeds ?n2 ?lens ?hash ?most ?great ?e73 ?k73 ⟨?x73a, ?x73b, ?x73c, ?x73d, ?x73e, ?x73f⟩ ?e85 ?k85 ⟨?x85a, ?x85b, ?x85c, ?x85d, ?x85e, ?x85f⟩ ?e97 ?k97 ⟨?x97a, ?x97b, ?x97c, ?x97d, ?x97e, ?x97f⟩ ?mi ?cls ?kit ?kv ?exm) (fun w ns J => law_ok ns)
 all_goals kernel_rfl
end Mine
end
theorem PySem.Challenge.cw_uf010023_09_holds : PySem.Challenge.rw_uf010023_09.Holds :=
 Mine.fin
