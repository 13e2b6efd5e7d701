import PyProof.Rows.All
import Wide.All
import OpenK.AllK
import Wide.FinOn
import HandS.ForMost
import HandS.Codes
import HandS.Walk
import HandS.Star
import HandS.Flow
import HandS.Style
import HandS.IsInst
import HandS.Conv
import HandS.More
import HandS.DictComp
import PySem.Challenge.RW_guessedandkept_k04_whole_dumps_of_drawn
set_option Elab.async false
set_option linter.all false
set_option maxRecDepth 100000
set_option maxHeartbeats 4000000
namespace K4
open PySem L2
/-! ### the text by places -/
def top (i : Nat) : Stmt := PySem.Challenge.pw_guessedandkept_k04_whole_dumps_of_drawn.main.body.getD i (.Pass ⟨0, 0, 0, 0⟩)
def inCls (s : Stmt) (j : Nat) : Stmt := (C8.clsBody s).getD j (.Pass ⟨0, 0, 0, 0⟩)
abbrev sSmall : Stmt := top 6
abbrev cDump : Stmt := top 9
abbrev sDInit : Stmt := inCls cDump 0
abbrev sDText : Stmt := inCls cDump 1
abbrev sDOpen : Stmt := inCls cDump 2
abbrev sDBetw : Stmt := inCls cDump 3
abbrev sDPlain : Stmt := inCls cDump 4
abbrev sDumped : Stmt := top 10
abbrev sIsWorld : Stmt := top 11
abbrev sFits : Stmt := top 12
abbrev sRefs : Stmt := top 14
abbrev sReached : Stmt := top 15
abbrev sMovedV : Stmt := top 16
abbrev sMoved : Stmt := top 17
abbrev cWorld : Stmt := top 19
abbrev sWInit : Stmt := inCls cWorld 0
abbrev sSlotOf : Stmt := inCls cWorld 1
abbrev sOwner : Stmt := inCls cWorld 2
abbrev sNames : Stmt := inCls cWorld 4
abbrev sGrown : Stmt := inCls cWorld 5
abbrev sNote : Stmt := inCls cWorld 6
abbrev sPutCell : Stmt := inCls cWorld 7
abbrev sCell : Stmt := inCls cWorld 8
abbrev sNewObj : Stmt := inCls cWorld 9
abbrev sNewList : Stmt := inCls cWorld 10
abbrev sNewClo : Stmt := inCls cWorld 11
abbrev sStore : Stmt := inCls cWorld 13
abbrev sGrow : Stmt := inCls cWorld 14
abbrev sAppend : Stmt := inCls cWorld 18
abbrev sShapeOf : Stmt := inCls cWorld 22
abbrev sPut : Stmt := inCls cWorld 25
abbrev sDraws : Stmt := top 21
abbrev sMix : Stmt := top 22
abbrev sCells : Stmt := top 23
abbrev sLet : Stmt := top 24
abbrev sLWorld : Stmt := top 25
abbrev sLDump : Stmt := top 26
abbrev sLDumps : Stmt := top 27
abbrev sLayers : Stmt := top 28
abbrev sAt : Stmt := top 29
abbrev sLaw : Stmt := top 30
def nameOf : Stmt → Str
  | .FunctionDef (name := n) .. => n
  | .ClassDef (name := n) .. => n
  | _ => "?"
example : [sSmall, cDump, sDInit, sDText, sDOpen, sDBetw, sDPlain, sDumped, sIsWorld, sFits, sRefs, sReached, sMovedV, sMoved].map nameOf = (["is_small", "Dump", "__init__", "text", "opened", "between", "plain", "dumped", "is_world", "fits", "refs_of", "reached", "moved_value", "moved"] : List Str) := by decide +kernel
example : [cWorld, sWInit, sSlotOf, sOwner, sNames, sGrown, sNote, sPutCell, sCell, sNewObj, sNewList, sNewClo, sStore, sGrow, sAppend, sShapeOf, sPut].map nameOf = (["World", "__init__", "slot_of", "owner", "names_of", "grown", "note", "put_cell", "cell", "new_object", "new_list", "new_closure", "store", "grow", "append", "shape_of", "put"] : List Str) := by decide +kernel
example : [sDraws, sMix, sCells, sLet, sLWorld, sLDump, sLDumps, sLayers, sAt, sLaw].map nameOf = (["_law_draws", "_law_mix", "_law_cells", "_law_let", "_law_world", "_law_dump", "_law_dumps", "_law_layers", "_law_at", "law"] : List Str) := by decide +kernel
end K4

namespace K4
open PySem PySem.Spec PyProof.Rows L2
/-! ### values -/
inductive Vl where
  | int (n : Int) | txt (s : Str) | null | bool (b : Bool) | fn (n : Int) | ref (a : Int)
  deriving DecidableEq
def enc : Vl → List V
  | .int n => [.str "int", .int n]
  | .txt s => [.str "text", .str s]
  | .null => [.str "null"]
  | .bool b => [.str "bool", .bl b]
  | .fn n => [.str "fun", .int n]
  | .ref a => [.str "ref", .int a]
def tag : Vl → Str
  | .int _ => "int" | .txt _ => "text" | .null => "null" | .bool _ => "bool" | .fn _ => "fun" | .ref _ => "ref"
def pay : Vl → V
  | .int n => .int n | .txt s => .str s | .null => .str "null" | .bool b => .bl b | .fn n => .int n | .ref a => .int a
theorem enc0 (v : Vl) : (enc v)[0]? = some (.str (tag v)) := by cases v <;> rfl
theorem enc1 (v : Vl) (h : v ≠ .null) : (enc v)[1]? = some (pay v) := by cases v <;> first | rfl | exact absurd rfl h
theorem encL (v : Vl) : (enc v)[(enc v).length - 1]? = some (pay v) := by cases v <;> rfl
theorem enc_len (v : Vl) : 1 ≤ (enc v).length ∧ (enc v).length ≤ 2 := by cases v <;> simp [enc]
theorem tag_ne {x y : Str} (h : (x == y) = false) : x ≠ y := fun e => by subst e; rw [beq_self_eq_true] at h; cases h
theorem tag_ref (v : Vl) : (tag v = "ref") ↔ ∃ a, v = .ref a := by
  cases v with
  | ref a => exact ⟨fun _ => ⟨_, rfl⟩, fun _ => rfl⟩
  | int _ => exact ⟨fun h => absurd h (by show ¬ (("int" : Str) = "ref"); decide +kernel), fun ⟨a, h⟩ => by cases h⟩
  | txt _ => exact ⟨fun h => absurd h (by show ¬ (("text" : Str) = "ref"); decide +kernel), fun ⟨a, h⟩ => by cases h⟩
  | null => exact ⟨fun h => absurd h (by show ¬ (("null" : Str) = "ref"); decide +kernel), fun ⟨a, h⟩ => by cases h⟩
  | bool _ => exact ⟨fun h => absurd h (by show ¬ (("bool" : Str) = "ref"); decide +kernel), fun ⟨a, h⟩ => by cases h⟩
  | fn _ => exact ⟨fun h => absurd h (by show ¬ (("fun" : Str) = "ref"); decide +kernel), fun ⟨a, h⟩ => by cases h⟩
def isRef : Vl → Bool
  | .ref _ => true
  | _ => false
theorem dec_ref (v : Vl) : decide (V.str (tag v) = V.str "ref") = isRef v := by
  cases v <;> first | rfl | decide +kernel
def isSm : Vl → Bool
  | .int n => decide (-32768 ≤ n) && decide (n ≤ 32767)
  | _ => false
theorem dec_int' (v : Vl) : decide (V.str (tag v) = V.str "int") = (match v with | .int _ => true | _ => false) := by
  cases v <;> first | rfl | decide +kernel
def VAt (H : Hp) (p : Addr) (v : Vl) : Prop := H p = some (.tup (enc v))
def VsAt (H : Hp) (ps : List Addr) (vs : List Vl) : Prop := Paired (VAt H) ps vs
/-- a list of values stands at l -/
def LV (H : Hp) (l : Addr) (vs : List Vl) : Prop := ∃ ps : List Addr, H l = some (.lst (ps.map V.ref)) ∧ VsAt H ps vs
theorem VAt.same {H H' : Hp} {p : Addr} {v : Vl} (s : Same H H') (h : VAt H p v) : VAt H' p v := s _ _ h
theorem VsAt.same {H H' : Hp} {ps : List Addr} {vs : List Vl} (s : Same H H') (h : VsAt H ps vs) : VsAt H' ps vs := Paired.mono (fun _ _ h => VAt.same s h) h
theorem LV.same {H H' : Hp} {l : Addr} {vs : List Vl} (s : Same H H') (h : LV H l vs) : LV H' l vs := by
  obtain ⟨ps, a, b⟩ := h
  exact ⟨ps, s _ _ a, b.same s⟩
theorem same_new {H : Hp} {p : Addr} (h : H p = none) (o : HO) : Same H (upd H p o) := fun b u q => by rw [upd_ne (ne_of_none q h)]; exact q
theorem Same.new {H H1 : Hp} {p : Addr} (s : Same H H1) (h : H1 p = none) (o : HO) : Same H (upd H1 p o) := s.trans (same_new h o)
section
variable {α β : Type} {F : α → β → Prop}
theorem pair_get : ∀ {xs : List α} {ys : List β} {i : Nat} {y : β}, Paired F xs ys → ys[i]? = some y → ∃ x, xs[i]? = some x ∧ F x y
  | _, _, _, _, .nil, h => by simp at h
  | _, _, 0, _, .cons r _, h => by
    have e := Option.some.inj h
    subst e
    exact ⟨_, rfl, r⟩
  | _, _, i + 1, y, .cons _ t, h => pair_get (i := i) t h
theorem pair_getL : ∀ {xs : List α} {ys : List β} {i : Nat} {x : α}, Paired F xs ys → xs[i]? = some x → ∃ y, ys[i]? = some y ∧ F x y
  | _, _, _, _, .nil, h => by simp at h
  | _, _, 0, _, .cons r _, h => by
    have e := Option.some.inj h
    subst e
    exact ⟨_, rfl, r⟩
  | _, _, i + 1, y, .cons _ t, h => pair_getL (i := i) t h
theorem pair_app : ∀ {xs xs' : List α} {ys ys' : List β}, Paired F xs ys → Paired F xs' ys' → Paired F (xs ++ xs') (ys ++ ys')
  | _, _, _, _, .nil, h => h
  | _, _, _, _, .cons r t, h => .cons r (pair_app t h)
theorem pair_rev : ∀ {xs : List α} {ys : List β}, Paired F xs ys → Paired F xs.reverse ys.reverse
  | _, _, .nil => .nil
  | _, _, .cons r t => by rw [List.reverse_cons, List.reverse_cons]; exact pair_app (pair_rev t) (.cons r .nil)
theorem pair_take : ∀ {xs : List α} {ys : List β} (n : Nat), Paired F xs ys → Paired F (xs.take n) (ys.take n)
  | _, _, 0, _ => .nil
  | _, _, _ + 1, .nil => .nil
  | _, _, n + 1, .cons r t => .cons r (pair_take n t)
theorem pair_drop : ∀ {xs : List α} {ys : List β} (n : Nat), Paired F xs ys → Paired F (xs.drop n) (ys.drop n)
  | _, _, 0, h => h
  | _, _, _ + 1, .nil => .nil
  | _, _, n + 1, .cons _ t => pair_drop n t
end
theorem map_get {xs : List Addr} {i : Nat} {x : Addr} (h : xs[i]? = some x) : (xs.map V.ref)[i]? = some (.ref x) := by rw [List.getElem?_map, h]; rfl
theorem map_getI {xs : List Addr} {i : Nat} {y : V} (h : (xs.map V.ref)[i]? = some y) : ∃ x, y = .ref x ∧ xs[i]? = some x := by
  rw [List.getElem?_map] at h
  cases e : xs[i]? with
  | none => rw [e] at h; cases h
  | some x => rw [e] at h; exact ⟨x, (Option.some.inj h).symm, rfl⟩
/-- the item of a list of values -/
theorem VsAt.item {H : Hp} {ps : List Addr} {vs : List Vl} {i : Nat} {y : V} (h : VsAt H ps vs) (e : (ps.map V.ref)[i]? = some y) : ∃ p v, y = .ref p ∧ ps[i]? = some p ∧ vs[i]? = some v ∧ VAt H p v := by
  obtain ⟨p, rfl, e'⟩ := map_getI e
  obtain ⟨v, ev, hv⟩ := pair_getL h e'
  exact ⟨p, v, rfl, e', ev, hv⟩
/-- the tuple at p is read -/
theorem VAt.sq {K : PySem.W.Frag} {H : Hp} {p : Addr} {v : Vl} (h : VAt H p v) : SqT K H p (enc v) := SqT.of h
theorem at0 {v : Vl} : atI (enc v) 0 = some (.str (tag v)) := atI_nat (j := 0) (enc0 v)
theorem at1 {v : Vl} (h : v ≠ .null) : atI (enc v) 1 = some (pay v) := atI_nat (j := 1) (enc1 v h)
theorem small2 {n : Nat} (h : n ≤ 1000) : n ≤ sizeLine := Nat.le_of_lt (small1000 h)
/-! ### what is kept of a heap but for the objects O -/
def Kp (O : Addr → Prop) (H H' : Hp) : Prop := ∀ b o, H b = some o → ¬ O b → H' b = some o
theorem Same.kp {O : Addr → Prop} {H H' : Hp} (s : Same H H') : Kp O H H' := fun b o e _ => s b o e
theorem Kp.trans {O O' : Addr → Prop} {H H1 H2 : Hp} (a : Kp O H H1) (b : Kp O' H1 H2) (sub : ∀ x, O' x → O x ∨ H x = none) : Kp O H H2 := fun x o e hx =>
  b x o (a x o e hx) fun m => (sub x m).elim hx fun z => by rw [e] at z; cases z
theorem Kp.mono {O O' : Addr → Prop} {H H' : Hp} (a : Kp O H H') (h : ∀ x, O x → O' x) : Kp O' H H' := fun x o e hx => a x o e fun z => hx (h x z)
theorem kp_upd {O : Addr → Prop} {H H' : Hp} {b : Addr} {o : HO} (a : Kp O H H') (h : O b) : Kp O H (upd H' b o) := fun x u e hx => by
  rw [upd_ne (fun z => by subst z; exact hx h)]
  exact a x u e hx
theorem kp_new {O : Addr → Prop} {H H' : Hp} {b : Addr} {o : HO} (a : Kp O H H') (h : H b = none) : Kp O H (upd H' b o) := fun x u e hx => by
  rw [upd_ne (fun z => by subst z; rw [h] at e; cases e)]
  exact a x u e hx
theorem iteTb {c : Bool} {A B : Prop} (h : c = true) (a : A) : if c = true then A else B := by rw [if_pos h]; exact a
theorem iteFb {c : Bool} {A B : Prop} (h : c = false) (b : B) : if c = true then A else B := by rw [h]; exact iteF b
theorem dget {H : Hp} {t : Addr} {kvs : List (Key × V)} {k : Key} {v : V} (ht : H t = some (.dK kvs)) (e : valV kvs k = some v) : DGet H t (kV k) (some v) := by
  have z := DGet.k (k := k) ht
  rw [e] at z
  exact z
/-! ### texts that are numbers -/
theorem kV_inl (i : Int) : kV (Sum.inl i) = V.int i := rfl
/-! ### the module's facts -/
structure DefT (K : PySem.W.Frag) (mg : Str → Option Value) (x : Str) (st : Stmt) (ps : List Str) : Prop where
  ex : ∃ f fd, C8.Def K mg x st f fd ∧ Binds K fd ps []
structure MetT (K : PySem.W.Frag) (C : Addr) (m qual : Str) (st : Stmt) (ps : List Str) : Prop where
  ex : ∃ f fd, Meth K C m f ∧ C8.Fun K m qual st f fd ∧ Binds K fd ps []
structure MakT (K : PySem.W.Frag) (mg : Str → Option Value) (C : Addr) (x qual : Str) (st : Stmt) (ps : List Str) : Prop where
  ex : ∃ f fd, Mk K C f ∧ mg x = some (.ref C) ∧ C8.Fun K "__init__" qual st f fd ∧ Binds K fd ps []
section
variable {P : Program} {w : World} {K : PySem.W.Frag} {mg : Str → Option Value} {base : Heap}
theorem cal1 {x : Str} {st : Stmt} {N ps : List Str} {k : Nat} {sp : Sp} (D : DefT K mg x st ps) (S : FnScope N ps (C8.fnScope st)) (len : ∀ vs H Q E, sp vs H Q E → vs.length = ps.length)
    (hbody : ∀ (f : Addr) (cdv : Value) (A : Around) (outer : List Env) (s : Shared) (H : Hp) (vs : List V) (Q : VK) (E : XK), Room k (A.deeper (envOfC x (C8.fnScope st) s.heap.objs.size f cdv)) → sp vs H Q E →
      ∃ t, PSs (cxOf C8.CX0 P w K mg base N x (C8.fnScope st) f cdv A outer s H E).nox (C8.fnBody st) t ∧ t { nx := fun _ H' => Q .non H', rt := Q } (start N vs) H) : C8.Cal P w K mg base (k + 1) x sp [] := by
  obtain ⟨f, fd, D, b⟩ := D.ex
  exact C8.cal0 D b .nil S len (hbody f)
theorem met1 {m qual : Str} {C : Addr} {st : Stmt} {N ps : List Str} {k : Nat} {sp : Sp} (c : Cls K C) (D : MetT K C m qual st ps) (S : FnScope N ps (C8.fnScope st)) (len : ∀ vs H Q E, sp vs H Q E → vs.length = ps.length)
    (hbody : ∀ (f : Addr) (cdv : Value) (A : Around) (outer : List Env) (s : Shared) (H : Hp) (vs : List V) (Q : VK) (E : XK), Room k (A.deeper (envOfC qual (C8.fnScope st) s.heap.objs.size f cdv)) → sp vs H Q E →
      ∃ t, PSs (cxOf C8.CX0 P w K mg base N qual (C8.fnScope st) f cdv A outer s H E).nox (C8.fnBody st) t ∧ t { nx := fun _ H' => Q .non H', rt := Q } (start N vs) H) : C8.Met P w K mg base (k + 1) C m sp [] := by
  obtain ⟨f, fd, M, D, b⟩ := D.ex
  exact C8.met0 c M D b S len (hbody f)
theorem mak1 {x qual : Str} {C : Addr} {st : Stmt} {N ps : List Str} {k : Nat} {sp : Sp} (D : MakT K mg C x qual st ps) (S : FnScope N ps (C8.fnScope st)) (len : ∀ vs H Q E, sp vs H Q E → vs.length = ps.length)
    (hbody : ∀ (f : Addr) (cdv : Value) (A : Around) (outer : List Env) (s : Shared) (H : Hp) (vs : List V) (Q : VK) (E : XK), Room k (A.deeper (envOfC qual (C8.fnScope st) s.heap.objs.size f cdv)) → sp vs H Q E →
      ∃ t, PSs (cxOf C8.CX0 P w K mg base N qual (C8.fnScope st) f cdv A outer s H E).nox (C8.fnBody st) t ∧ t { nx := fun _ H' => Q .non H', rt := Q } (start N vs) H) : C8.Mak P w K mg base (k + 1) x C sp [] := by
  obtain ⟨f, fd, M, hm, D, b⟩ := D.ex
  exact C8.mak0 M hm D b .nil S len (hbody f)
end

/-- what the walks ask of the module as the top has made it -/
structure Txt (K : PySem.W.Frag) (mg : Str → Option Value) (CW CD : Addr) : Prop where
  cW : Cls K CW
  cD : Cls K CD
  nSh : NoAttr K CW "shapes"
  nKi : NoAttr K CW "kinds"
  nCh : NoAttr K CW "children"
  nWi : NoAttr K CW "widened"
  nCe : NoAttr K CW "cells"
  nFr : NoAttr K CW "fresh"
  nPr : NoAttr K CW "printed"
  nDw : NoAttr K CD "world"
  nDm : NoAttr K CD "met"
  zLen : mg "len" = none
  zRange : mg "range" = none
  zInt : mg "int" = none
  zStr : mg "str" = none
  zList : mg "list" = none
  zAbs : mg "abs" = none
  zMin : mg "min" = none
  zEnum : mg "enumerate" = none
  zIsi : mg "isinstance" = none
  zAll : mg "all" = none
  zSorted : mg "sorted" = none
  zSum : mg "sum" = none
  zDict : mg "dict" = none
  gLeast : ∃ u, mg "LEAST_SMALL" = some u ∧ RelV (.int (-32768)) u
  gMost : ∃ u, mg "MOST_SMALL" = some u ∧ RelV (.int 32767) u
  dSmall : DefT K mg "is_small" sSmall ["value"]
  kDump : MakT K mg CD "Dump" "Dump.__init__" sDInit ["self", "world"]
  mText : MetT K CD "text" "Dump.text" sDText ["self", "value"]
  mOpen : MetT K CD "opened" "Dump.opened" sDOpen ["self", "value"]
  mBetw : MetT K CD "between" "Dump.between" sDBetw ["self", "values", "names"]
  mPlain : MetT K CD "plain" "Dump.plain" sDPlain ["self", "value"]
  dDumped : DefT K mg "dumped" sDumped ["world", "values"]
  dIsWorld : DefT K mg "is_world" sIsWorld ["world"]
  dFits : DefT K mg "fits" sFits ["world", "cell"]
  dRefs : DefT K mg "refs_of" sRefs ["values"]
  dReached : DefT K mg "reached" sReached ["world", "roots"]
  dMovedV : DefT K mg "moved_value" sMovedV ["value", "table"]
  dMoved : DefT K mg "moved" sMoved ["world", "roots"]
  kWorld : MakT K mg CW "World" "World.__init__" sWInit ["self"]
  mSlotOf : MetT K CW "slot_of" "World.slot_of" sSlotOf ["self", "shape", "name"]
  mOwner : MetT K CW "owner" "World.owner" sOwner ["self", "shape", "k"]
  mNames : MetT K CW "names_of" "World.names_of" sNames ["self", "shape"]
  mGrown : MetT K CW "grown" "World.grown" sGrown ["self", "shape", "name", "value"]
  mNote : MetT K CW "note" "World.note" sNote ["self", "shape", "value"]
  mPutCell : ∃ f fd, Meth K CW "put_cell" f ∧ L2.Fun K "put_cell" "World.put_cell" sPutCell f fd
  mCell : MetT K CW "cell" "World.cell" sCell ["self", "value"]
  mNewObj : MetT K CW "new_object" "World.new_object" sNewObj ["self"]
  mNewList : MetT K CW "new_list" "World.new_list" sNewList ["self", "values"]
  mNewClo : MetT K CW "new_closure" "World.new_closure" sNewClo ["self", "function", "values"]
  mStore : MetT K CW "store" "World.store" sStore ["self", "value", "k", "told"]
  mGrow : MetT K CW "grow" "World.grow" sGrow ["self", "value", "shape", "told"]
  mAppend : MetT K CW "append" "World.append" sAppend ["self", "value", "told"]
  mShapeOf : MetT K CW "shape_of" "World.shape_of" sShapeOf ["self", "value"]
  mPut : MetT K CW "put" "World.put" sPut ["self", "value", "name", "told"]
  dDraws : DefT K mg "_law_draws" sDraws ["script"]
  dMix : DefT K mg "_law_mix" sMix ["draws", "k", "many"]
  dCells : DefT K mg "_law_cells" sCells ["draws"]
  dLet : DefT K mg "_law_let" sLet ["cells"]
  dLWorld : DefT K mg "_law_world" sLWorld ["cells", "order", "more"]
  dLDump : DefT K mg "_law_dump" sLDump ["cells", "value", "met"]
  dLDumps : DefT K mg "_law_dumps" sLDumps ["cells", "roots"]
  dLayers : DefT K mg "_law_layers" sLayers ["cells", "roots"]
  dAt : DefT K mg "_law_at" sAt ["table", "roots"]
theorem ixT (K : PySem.W.Frag) {X : Cx} (h : X.K = K := by rfl) : IxR X (rIxT K) := h ▸ ix_tup
theorem ixL (K : PySem.W.Frag) {X : Cx} (h : X.K = K := by rfl) : IxR X (rIxL K) := h ▸ ix_list
theorem pe_fldK (K : PySem.W.Frag) {X : Cx} {e : Expr} {f : Str} {ta : TE} {pos : Pos} (he : PE X e ta) (hb : attributeBase e f X.env (eval e X.env) = eval e X.env) (h : X.K = K := by rfl) : PE X (.Attribute e f pos) (tFld K ta f) := h ▸ pe_fld he hb
theorem pe_gi {X : Cx} {x : Str} {i : Int} {pos : Pos} (h : ∃ u, X.mg x = some u ∧ RelV (.int i) u) (hg : Gl X x := by rfl) (hd : (x == ("__debug__" : Str)) = false := by decide) : PE X (.Name x pos) (tC (.int i)) := by
  obtain ⟨u, h, r⟩ := h
  exact pe_glob hg h r hd
end K4

namespace K4
open PySem PySem.Spec PyProof.Rows L2
/-! ### cells, and what a dump is -/
inductive Kd | lst | obj | clo
  deriving DecidableEq
structure Cl where
  kind : Kd
  f : Int
  vs : List Vl
def nm (i : Nat) : Str := ⟨#[112 + i]⟩
inductive It | s (x : Str) | v (x : Vl)
def plain : Vl → Str
  | .txt s => ("'" : Str) ++ s ++ "'"
  | .bool b => if b then "true" else "false"
  | .fn n => ("fun " : Str) ++ toString n ++ "()"
  | .null => "null"
  | .int n => toString n
  | .ref _ => ""
def sep (k : Nat) : Str := if k > 0 then ", " else ""
def nmOf (nms : List Str) (k : Nat) : Str := if nms.length > 0 then nms.getD k "" ++ ": " else ""
def betw (nms : List Str) : Nat → List Vl → List It
  | _, [] => []
  | k, v :: r => .s (sep k ++ nmOf nms k) :: .v v :: betw nms (k + 1) r
def names (n : Nat) : List Str := (List.range n).map nm
def nmsOf (c : Cl) : List Str := match c.kind with
  | .obj => names c.vs.length
  | _ => []
def opener (c : Cl) : Str := match c.kind with
  | .lst => "["
  | .obj => "{"
  | .clo => ("fun " : Str) ++ toString c.f ++ "("
def closer (c : Cl) : Str := match c.kind with
  | .lst => "]"
  | .obj => "}"
  | .clo => ")"
def pieces (c : Cl) : List It := .s (opener c) :: (betw (nmsOf c) 0 c.vs ++ [.s (closer c)])
def ixOf (a : Int) : List Int → Nat
  | [] => 0
  | b :: r => if b = a then 0 else ixOf a r + 1
def opn (g : Int → Option Cl) (v : Vl) (met : List Int) : Option (List It × List Int) := match v with
  | .ref a => if a ∈ met then some ([.s (("#" : Str) ++ toString ((ixOf a met : Nat) : Int))], met) else (g a).map fun c => (pieces c, met ++ [a])
  | v => some ([.s (plain v)], met)
abbrev cod (x : Str) : List Nat := TL.tl x
/-- what stands on the stack, the cells met so far, the signs that come of it, the cells met behind it; n turns -/
inductive Dmp (g : Int → Option Cl) : Nat → List It → List Int → List Nat → List Int → Prop
  | nil {m} : Dmp g 0 [] m [] m
  | s {n x r m cs m'} : Dmp g n r m cs m' → Dmp g (n + 1) (.s x :: r) m (cod x ++ cs) m'
  | v {n v r m its m1 cs m'} : opn g v m = some (its, m1) → Dmp g n (its ++ r) m1 cs m' → Dmp g (n + 1) (.v v :: r) m cs m'
section
variable {g : Int → Option Cl}
theorem Dmp.fun {n : Nat} {its : List It} {m cs m'} (d : Dmp g n its m cs m') : ∀ {n2 cs2 m2}, Dmp g n2 its m cs2 m2 → n = n2 ∧ cs = cs2 ∧ m' = m2 := by
  induction d with
  | nil => intro n2 cs2 m2 e; cases e; exact ⟨rfl, rfl, rfl⟩
  | s _ ih =>
    intro n2 cs2 m2 e
    cases e with
    | s e =>
      obtain ⟨a, b, c⟩ := ih e
      subst a b c
      exact ⟨rfl, rfl, rfl⟩
  | v o _ ih =>
    intro n2 cs2 m2 e
    cases e with
    | v o2 e =>
      rw [o] at o2
      cases o2
      obtain ⟨a, b, c⟩ := ih e
      subst a b c
      exact ⟨rfl, rfl, rfl⟩
theorem Dmp.app {n : Nat} {a : List It} {m cs m1} (d : Dmp g n a m cs m1) : ∀ {k b cs2 m2}, Dmp g k b m1 cs2 m2 → Dmp g (n + k) (a ++ b) m (cs ++ cs2) m2 := by
  induction d with
  | nil => intro k b cs2 m2 e; rw [Nat.zero_add]; exact e
  | s _ ih =>
    intro k b cs2 m2 e
    rw [Nat.add_right_comm, List.append_assoc]
    exact .s (ih e)
  | v o _ ih =>
    intro k b cs2 m2 e
    rw [Nat.add_right_comm]
    refine .v o ?_
    show Dmp g _ (_ ++ (_ ++ b)) _ _ _
    rw [← List.append_assoc]
    exact ih e
theorem Dmp.one {x : Str} {m : List Int} : Dmp g 1 [.s x] m (cod x) m := by
  have h : Dmp g 1 [.s x] m (cod x ++ []) m := .s .nil
  rw [List.append_nil] at h
  exact h
end
/-! ### the same cells under other numbers -/
def Vl.re (t : Int → Int) : Vl → Vl
  | .ref a => .ref (t a)
  | v => v
def Cl.re (t : Int → Int) (c : Cl) : Cl := ⟨c.kind, c.f, c.vs.map (Vl.re t)⟩
def It.re (t : Int → Int) : It → It
  | .v z => .v (z.re t)
  | .s z => .s z
theorem betw_re (t : Int → Int) (nms : List Str) : ∀ (k : Nat) (vs : List Vl), betw nms k (vs.map (Vl.re t)) = (betw nms k vs).map (It.re t)
  | _, [] => rfl
  | k, v :: r => by
    have ih := betw_re t nms (k + 1) r
    simp only [List.map_cons, betw, It.re, ih]
theorem pieces_re (t : Int → Int) (c : Cl) : pieces (c.re t) = (pieces c).map (It.re t) := by
  have e1 : nmsOf (c.re t) = nmsOf c := by
    unfold nmsOf Cl.re
    cases c.kind <;> first | rfl | (show names (c.vs.map (Vl.re t)).length = names c.vs.length; rw [List.length_map])
  have e2 : opener (c.re t) = opener c := by
    unfold opener Cl.re
    cases c.kind <;> rfl
  have e3 : closer (c.re t) = closer c := by
    unfold closer Cl.re
    cases c.kind <;> rfl
  unfold pieces
  rw [e1, e2, e3]
  show It.s _ :: (betw _ 0 (c.vs.map (Vl.re t)) ++ _) = _
  simp only [betw_re, List.map_cons, List.map_append, It.re, List.map_nil]
theorem ixOf_re {t : Int → Int} {S : Int → Prop} (inj : ∀ a b, S a → S b → t a = t b → a = b) {a : Int} (ha : S a) : ∀ {m : List Int}, (∀ b ∈ m, S b) → ixOf (t a) (m.map t) = ixOf a m
  | [], _ => rfl
  | b :: r, h => by
    have hb := h b List.mem_cons_self
    have ih := ixOf_re inj ha (m := r) fun c hc => h c (List.mem_cons_of_mem _ hc)
    show (if t b = t a then 0 else ixOf (t a) (r.map t) + 1) = if b = a then 0 else ixOf a r + 1
    rw [ih]
    by_cases e : b = a
    · subst e
      rw [if_pos rfl, if_pos rfl]
    · rw [if_neg e, if_neg fun z => e (inj b a hb ha z)]
/-- g2 has the cells of g under the numbers t -/
structure Iso (g g2 : Int → Option Cl) (t : Int → Int) : Prop where
  inj : ∀ a b, (g a).isSome = true → (g b).isSome = true → t a = t b → a = b
  im : ∀ a c, g a = some c → g2 (t a) = some (c.re t)
  cl : ∀ a c, g a = some c → ∀ b, Vl.ref b ∈ c.vs → (g b).isSome = true
def InS (g : Int → Option Cl) : It → Prop
  | .v (.ref b) => (g b).isSome = true
  | _ => True
theorem betw_in {g : Int → Option Cl} {nms : List Str} : ∀ {k : Nat} {vs : List Vl}, (∀ b, Vl.ref b ∈ vs → (g b).isSome = true) → ∀ i ∈ betw nms k vs, InS g i
  | _, [], _, i, hi => by cases hi
  | k, v :: r, h, i, hi => by
    rcases List.mem_cons.mp hi with e | hi
    · subst e; exact True.intro
    rcases List.mem_cons.mp hi with e | hi
    · subst e
      cases v with
      | ref b => exact h b List.mem_cons_self
      | _ => exact True.intro
    · exact betw_in (fun b hb => h b (List.mem_cons_of_mem _ hb)) i hi
theorem pieces_in {g : Int → Option Cl} {c : Cl} (h : ∀ b, Vl.ref b ∈ c.vs → (g b).isSome = true) : ∀ i ∈ pieces c, InS g i := by
  intro i hi
  rcases List.mem_cons.mp hi with e | hi
  · subst e; exact True.intro
  rcases List.mem_append.mp hi with hi | hi
  · exact betw_in h i hi
  · rw [List.mem_singleton.mp hi]; exact True.intro
theorem opn_cases {g : Int → Option Cl} {v : Vl} {m : List Int} {its m1} (h : opn g v m = some (its, m1)) :
    (∃ a, v = .ref a ∧ a ∈ m ∧ its = [.s (("#" : Str) ++ toString ((ixOf a m : Nat) : Int))] ∧ m1 = m) ∨ (∃ a c, v = .ref a ∧ a ∉ m ∧ g a = some c ∧ its = pieces c ∧ m1 = m ++ [a]) ∨ (isRef v = false ∧ its = [.s (plain v)] ∧ m1 = m) := by
  cases v with
  | ref a =>
    unfold opn at h
    simp only at h
    split at h
    · rename_i hm
      cases h
      exact .inl ⟨a, rfl, hm, rfl, rfl⟩
    · rename_i hm
      obtain ⟨c, hc, e⟩ := Option.map_eq_some_iff.mp h
      cases e
      exact .inr (.inl ⟨a, c, rfl, hm, hc, rfl, rfl⟩)
  | int _ => cases h; exact .inr (.inr ⟨rfl, rfl, rfl⟩)
  | txt _ => cases h; exact .inr (.inr ⟨rfl, rfl, rfl⟩)
  | null => cases h; exact .inr (.inr ⟨rfl, rfl, rfl⟩)
  | bool _ => cases h; exact .inr (.inr ⟨rfl, rfl, rfl⟩)
  | fn _ => cases h; exact .inr (.inr ⟨rfl, rfl, rfl⟩)
theorem opn_ref_met {g : Int → Option Cl} {a : Int} {m : List Int} (h : a ∈ m) : opn g (.ref a) m = some ([.s (("#" : Str) ++ toString ((ixOf a m : Nat) : Int))], m) := by
  unfold opn
  exact if_pos h
theorem opn_ref_new {g : Int → Option Cl} {a : Int} {m : List Int} {c : Cl} (h : a ∉ m) (e : g a = some c) : opn g (.ref a) m = some (pieces c, m ++ [a]) := by
  unfold opn
  simp only [if_neg h, e]
  rfl
theorem opn_plain {g : Int → Option Cl} {v : Vl} {m : List Int} (h : isRef v = false) : opn g v m = some ([.s (plain v)], m) := by
  cases v with
  | ref a => cases h
  | _ => rfl
theorem opn_in {g g2 : Int → Option Cl} {t : Int → Int} (I : Iso g g2 t) {v : Vl} {m its m1} (h : opn g v m = some (its, m1)) (hm : ∀ b ∈ m, (g b).isSome = true) : (∀ i ∈ its, InS g i) ∧ ∀ b ∈ m1, (g b).isSome = true := by
  rcases opn_cases h with ⟨a, rfl, _, rfl, rfl⟩ | ⟨a, c, rfl, _, hc, rfl, rfl⟩ | ⟨_, rfl, rfl⟩
  · exact ⟨fun i hi => by rw [List.mem_singleton.mp hi]; exact True.intro, hm⟩
  · refine ⟨pieces_in (I.cl a c hc), fun b hb => ?_⟩
    rcases List.mem_append.mp hb with hb | hb
    · exact hm b hb
    · rw [List.mem_singleton.mp hb, hc]; rfl
  · exact ⟨fun i hi => by rw [List.mem_singleton.mp hi]; exact True.intro, hm⟩
theorem opn_re {g g2 : Int → Option Cl} {t : Int → Int} (I : Iso g g2 t) {v : Vl} {m its m1} (h : opn g v m = some (its, m1)) (hm : ∀ b ∈ m, (g b).isSome = true) (hv : InS g (.v v)) : opn g2 (v.re t) (m.map t) = some (its.map (It.re t), m1.map t) := by
  rcases opn_cases h with ⟨a, rfl, ha, rfl, rfl⟩ | ⟨a, c, rfl, ha, hc, rfl, rfl⟩ | ⟨hr, rfl, rfl⟩
  · rw [show (Vl.ref a).re t = .ref (t a) from rfl, opn_ref_met (List.mem_map.mpr ⟨a, ha, rfl⟩), ixOf_re (S := fun b => (g b).isSome = true) I.inj hv hm]
    rfl
  · have hn : t a ∉ m.map t := fun z => by
      obtain ⟨b, hb, e⟩ := List.mem_map.mp z
      exact ha (I.inj b a (hm b hb) hv e ▸ hb)
    rw [show (Vl.ref a).re t = .ref (t a) from rfl, opn_ref_new hn (I.im a c hc), pieces_re, List.map_append]
    rfl
  · have e : v.re t = v := by cases v <;> first | rfl | cases hr
    rw [e, opn_plain hr]
    rfl
theorem Dmp.re {g g2 : Int → Option Cl} {t : Int → Int} (I : Iso g g2 t) {n its m cs m'} (d : Dmp g n its m cs m') : (∀ b ∈ m, (g b).isSome = true) → (∀ i ∈ its, InS g i) → Dmp g2 n (its.map (It.re t)) (m.map t) cs (m'.map t) ∧ ∀ b ∈ m', (g b).isSome = true := by
  induction d with
  | nil => intro hm _; exact ⟨.nil, hm⟩
  | s _ ih =>
    intro hm hi
    obtain ⟨a, b⟩ := ih hm fun i h => hi i (List.mem_cons_of_mem _ h)
    exact ⟨.s a, b⟩
  | v o _ ih =>
    intro hm hi
    obtain ⟨h1, h2⟩ := opn_in I o hm
    obtain ⟨a, b⟩ := ih h2 fun i h => (List.mem_append.mp h).elim (h1 i) fun h => hi i (List.mem_cons_of_mem _ h)
    rw [List.map_append] at a
    exact ⟨.v (opn_re I o hm (hi _ List.mem_cons_self)) a, b⟩
/-! ### sizes -/
def vnum : Vl → Int
  | .int n => n
  | .fn n => n
  | _ => 0
structure vOk (v : Vl) : Prop where
  len : (cod (plain v)).length ≤ 40
  num : (vnum v).natAbs < 2 ^ 60
  cps : (cod (plain v)).all (fun c => decide (c < 1114112)) = true
structure cOk (c : Cl) : Prop where
  fb : c.f.natAbs < 2 ^ 60
  le : c.vs.length ≤ 4
  vs : ∀ v ∈ c.vs, vOk v
  op : (cod (opener c)).length ≤ 40
  opc : (cod (opener c)).all (fun c => decide (c < 1114112)) = true
def wt : List It → Nat
  | [] => 0
  | .s x :: r => (cod x).length + 1 + wt r
  | .v _ :: r => 50 + wt r
theorem wt_app : ∀ a b : List It, wt (a ++ b) = wt a + wt b
  | [], b => by show wt b = 0 + wt b; omega
  | .s x :: r, b => by show (cod x).length + 1 + wt (r ++ b) = (cod x).length + 1 + wt r + wt b; rw [wt_app r b]; omega
  | .v x :: r, b => by show 50 + wt (r ++ b) = 50 + wt r + wt b; rw [wt_app r b]; omega
theorem wt_len : ∀ a : List It, a.length ≤ wt a
  | [] => Nat.le_refl _
  | .s x :: r => by have := wt_len r; show r.length + 1 ≤ (cod x).length + 1 + wt r; omega
  | .v x :: r => by have := wt_len r; show r.length + 1 ≤ 50 + wt r; omega
theorem cod_len (x : Str) : (cod x).length = x.length := by
  show x.cps.toList.length = x.cps.size
  exact Array.length_toList
theorem sep_len (k : Nat) : (cod (sep k)).length ≤ 2 := by
  unfold sep
  split <;> decide +kernel
theorem names_len {n k : Nat} : (cod ((names n).getD k "")).length ≤ 1 := by
  by_cases h : k < n
  · have e : (names n).getD k "" = nm k := by
      unfold names
      rw [List.getD_eq_getElem?_getD, List.getElem?_map, List.getElem?_range h]
      rfl
    rw [e]
    exact Nat.le_refl 1
  · have e : (names n).getD k "" = "" := by
      unfold names
      rw [List.getD_eq_getElem?_getD, List.getElem?_eq_none (by rw [List.length_map, List.length_range]; omega)]
      rfl
    rw [e]
    exact Nat.zero_le _
theorem nmOf_len (c : Cl) (k : Nat) : (cod (nmOf (nmsOf c) k)).length ≤ 3 := by
  unfold nmOf
  split
  · show (TL.tl _).length ≤ 3
    rw [TL.tl_append, List.length_append]
    have h1 : (cod ((nmsOf c).getD k "")).length ≤ 1 := by
      unfold nmsOf
      cases c.kind with
      | obj => exact names_len
      | lst => exact Nat.zero_le _
      | clo => exact Nat.zero_le _
    have h2 : (cod (": " : Str)).length = 2 := by decide +kernel
    have h2' : (TL.tl (": " : Str)).length = 2 := h2
    have h1' : (TL.tl ((nmsOf c).getD k "")).length ≤ 1 := h1
    omega
  · exact Nat.zero_le _
theorem betw_wt (c : Cl) : ∀ (k : Nat) (vs : List Vl), wt (betw (nmsOf c) k vs) ≤ 60 * vs.length
  | _, [] => Nat.le_refl _
  | k, v :: r => by
    have ih := betw_wt c (k + 1) r
    show (cod (sep k ++ nmOf (nmsOf c) k)).length + 1 + (50 + wt (betw (nmsOf c) (k + 1) r)) ≤ 60 * (r.length + 1)
    have e : (cod (sep k ++ nmOf (nmsOf c) k)).length = (cod (sep k)).length + (cod (nmOf (nmsOf c) k)).length := by
      show (TL.tl _).length = _
      rw [TL.tl_append, List.length_append]
    have h1 := sep_len k
    have h2 := nmOf_len c k
    omega
theorem closer_len (c : Cl) : (cod (closer c)).length ≤ 1 := by
  unfold closer
  cases c.kind <;> decide +kernel
theorem pieces_wt {c : Cl} (h : cOk c) : wt (pieces c) ≤ 300 := by
  show (cod (opener c)).length + 1 + wt (betw (nmsOf c) 0 c.vs ++ [.s (closer c)]) ≤ 300
  rw [wt_app]
  have h1 := betw_wt c 0 c.vs
  have h2 := closer_len c
  have h3 : wt [.s (closer c)] = (cod (closer c)).length + 1 + 0 := rfl
  have h4 := h.le
  have h5 := h.op
  omega
/-- a graph of at most N cells of that kind -/
structure Gok (g : Int → Option Cl) (N : Nat) : Prop where
  n : N ≤ 100
  ok : ∀ a c, g a = some c → cOk c
  le : ∀ m : List Int, m.Nodup → (∀ b ∈ m, (g b).isSome = true) → m.length ≤ N
structure Mok (g : Int → Option Cl) (m : List Int) : Prop where
  nd : m.Nodup
  dom : ∀ b ∈ m, (g b).isSome = true
def iOk : It → Prop
  | .v z => vOk z
  | .s _ => True
theorem ixOf_lt {a : Int} : ∀ {m : List Int}, a ∈ m → ixOf a m < m.length
  | [], h => by cases h
  | b :: r, h => by
    show (if b = a then 0 else ixOf a r + 1) < r.length + 1
    by_cases e : b = a
    · rw [if_pos e]; omega
    · rw [if_neg e]
      rcases List.mem_cons.mp h with z | z
      · exact absurd z.symm e
      · have := ixOf_lt z; omega
theorem num_len : ∀ k < 100, (cod (("#" : Str) ++ toString ((k : Nat) : Int))).length ≤ 40 := by decide +kernel
theorem betw_ok {nms : List Str} : ∀ {k : Nat} {vs : List Vl}, (∀ v ∈ vs, vOk v) → ∀ i ∈ betw nms k vs, iOk i
  | _, [], _, i, hi => by cases hi
  | k, v :: r, h, i, hi => by
    rcases List.mem_cons.mp hi with e | hi
    · subst e; exact True.intro
    rcases List.mem_cons.mp hi with e | hi
    · subst e; exact h v List.mem_cons_self
    · exact betw_ok (fun b hb => h b (List.mem_cons_of_mem _ hb)) i hi
theorem opn_ok {g : Int → Option Cl} {N : Nat} (G : Gok g N) {v : Vl} {m its m1} (h : opn g v m = some (its, m1)) (hv : vOk v) (M : Mok g m) :
    wt its + 400 * (N - m1.length) ≤ 49 + 400 * (N - m.length) ∧ Mok g m1 ∧ ∀ i ∈ its, iOk i := by
  have hm := G.le m M.nd M.dom
  have hN := G.n
  rcases opn_cases h with ⟨a, rfl, ha, rfl, rfl⟩ | ⟨a, c, rfl, ha, hc, rfl, rfl⟩ | ⟨hr, rfl, rfl⟩
  · refine ⟨?_, M, fun i hi => by rw [List.mem_singleton.mp hi]; exact True.intro⟩
    have := num_len (ixOf a m1) (by have := ixOf_lt ha; omega)
    show (cod _).length + 1 + 0 + _ ≤ _
    omega
  · have M1 : Mok g (m ++ [a]) := by
      refine ⟨?_, fun b hb => ?_⟩
      · exact nd_snoc M.nd ha
      · rcases List.mem_append.mp hb with hb | hb
        · exact M.dom b hb
        · rw [List.mem_singleton.mp hb, hc]; rfl
    have h1 := G.le _ M1.nd M1.dom
    refine ⟨?_, M1, fun i hi => ?_⟩
    · have := pieces_wt (G.ok a c hc)
      rw [List.length_append, List.length_singleton] at h1 ⊢
      omega
    · rcases List.mem_cons.mp hi with e | hi
      · subst e; exact True.intro
      rcases List.mem_append.mp hi with hi | hi
      · exact betw_ok (G.ok a c hc).vs i hi
      · rw [List.mem_singleton.mp hi]; exact True.intro
  · refine ⟨?_, M, fun i hi => by rw [List.mem_singleton.mp hi]; exact True.intro⟩
    have : (cod (plain v)).length ≤ 40 := hv.len
    show (cod _).length + 1 + 0 + _ ≤ _
    omega
theorem Dmp.size {g : Int → Option Cl} {N : Nat} (G : Gok g N) {n its m cs m'} (d : Dmp g n its m cs m') : Mok g m → (∀ i ∈ its, iOk i) → cs.length + 400 * (N - m'.length) ≤ wt its + 400 * (N - m.length) ∧ Mok g m' := by
  induction d with
  | nil => intro M _; exact ⟨by show 0 + _ ≤ 0 + _; omega, M⟩
  | s _ ih =>
    intro M hi
    obtain ⟨a, b⟩ := ih M fun i h => hi i (List.mem_cons_of_mem _ h)
    refine ⟨?_, b⟩
    rw [List.length_append]
    show _ ≤ (cod _).length + 1 + wt _ + _
    omega
  | v o _ ih =>
    intro M hi
    obtain ⟨h1, h2, h3⟩ := opn_ok G o (hi _ List.mem_cons_self) M
    obtain ⟨a, b⟩ := ih h2 fun i h => (List.mem_append.mp h).elim (h3 i) fun h => hi i (List.mem_cons_of_mem _ h)
    refine ⟨?_, b⟩
    rw [wt_app] at a
    show _ ≤ 50 + wt _ + _
    omega
/-! ### the signs are signs -/
abbrev asc (l : List Nat) : Prop := l.all (fun c => decide (c < 1114112)) = true
theorem asc_app {a b : List Nat} (h : asc a) (h' : asc b) : asc (a ++ b) := by
  show (a ++ b).all _ = true
  rw [List.all_append, h, h']
  rfl
def iAsc : It → Prop
  | .v z => vOk z
  | .s x => asc (cod x)
theorem num_asc : ∀ k < 100, asc (cod (("#" : Str) ++ toString ((k : Nat) : Int))) := by decide +kernel
theorem sep_asc (k : Nat) : asc (cod (sep k)) := by
  unfold sep
  split <;> decide +kernel
theorem names_asc {n k : Nat} (h : n ≤ 4) : asc (cod ((names n).getD k "")) := by
  by_cases hk : k < n
  · have e : (names n).getD k "" = nm k := by
      unfold names
      rw [List.getD_eq_getElem?_getD, List.getElem?_map, List.getElem?_range hk]
      rfl
    rw [e]
    show [112 + k].all _ = true
    rw [List.all_cons, decide_eq_true (by omega)]
    rfl
  · have e : (names n).getD k "" = "" := by
      unfold names
      rw [List.getD_eq_getElem?_getD, List.getElem?_eq_none (by rw [List.length_map, List.length_range]; omega)]
      rfl
    rw [e]
    rfl
theorem nmOf_asc {c : Cl} (h : c.vs.length ≤ 4) (k : Nat) : asc (cod (nmOf (nmsOf c) k)) := by
  unfold nmOf
  split
  · show asc (TL.tl _)
    rw [TL.tl_append]
    refine asc_app ?_ (by decide +kernel)
    unfold nmsOf
    cases c.kind with
    | obj => exact names_asc h
    | lst => rfl
    | clo => rfl
  · rfl
theorem betw_asc {nms : List Str} (h : ∀ k, asc (cod (nmOf nms k))) : ∀ {k : Nat} {vs : List Vl}, (∀ v ∈ vs, vOk v) → ∀ i ∈ betw nms k vs, iAsc i
  | _, [], _, i, hi => by cases hi
  | k, v :: r, hv, i, hi => by
    rcases List.mem_cons.mp hi with e | hi
    · subst e
      show asc (TL.tl _)
      rw [TL.tl_append]
      exact asc_app (sep_asc k) (h k)
    rcases List.mem_cons.mp hi with e | hi
    · subst e; exact hv v List.mem_cons_self
    · exact betw_asc h (fun b hb => hv b (List.mem_cons_of_mem _ hb)) i hi
theorem closer_asc (c : Cl) : asc (cod (closer c)) := by
  unfold closer
  cases c.kind <;> decide +kernel
theorem opn_asc {g : Int → Option Cl} {N : Nat} (G : Gok g N) {v : Vl} {m its m1} (h : opn g v m = some (its, m1)) (hv : vOk v) (M : Mok g m) : ∀ i ∈ its, iAsc i := by
  have hm := G.le m M.nd M.dom
  have hN := G.n
  rcases opn_cases h with ⟨a, rfl, ha, rfl, rfl⟩ | ⟨a, c, rfl, ha, hc, rfl, rfl⟩ | ⟨hr, rfl, rfl⟩
  · intro i hi
    rw [List.mem_singleton.mp hi]
    exact num_asc _ (by have := ixOf_lt ha; omega)
  · have ok := G.ok a c hc
    intro i hi
    rcases List.mem_cons.mp hi with e | hi
    · subst e; exact ok.opc
    rcases List.mem_append.mp hi with hi | hi
    · exact betw_asc (nmOf_asc ok.le) ok.vs i hi
    · rw [List.mem_singleton.mp hi]
      exact closer_asc c
  · intro i hi
    rw [List.mem_singleton.mp hi]
    exact hv.cps
theorem Dmp.asc {g : Int → Option Cl} {N : Nat} (G : Gok g N) {n its m cs m'} (d : Dmp g n its m cs m') : Mok g m → (∀ i ∈ its, iOk i) → (∀ i ∈ its, iAsc i) → asc cs := by
  induction d with
  | nil => intro _ _ _; rfl
  | s _ ih =>
    intro M hi ha
    exact asc_app (ha _ List.mem_cons_self) (ih M (fun i h => hi i (List.mem_cons_of_mem _ h)) fun i h => ha i (List.mem_cons_of_mem _ h))
  | v o _ ih =>
    intro M hi ha
    obtain ⟨h1, h2, h3⟩ := opn_ok G o (hi _ List.mem_cons_self) M
    have h4 := opn_asc G o (hi _ List.mem_cons_self) M
    exact ih h2 (fun i h => (List.mem_append.mp h).elim (h3 i) fun h => hi i (List.mem_cons_of_mem _ h)) fun i h => (List.mem_append.mp h).elim (h4 i) fun h => ha i (List.mem_cons_of_mem _ h)
/-! ### rows of values -/
inductive Dmps (g : Int → Option Cl) : List Vl → List Int → List (List Nat) → List Int → Prop
  | nil {m} : Dmps g [] m [] m
  | cons {n v r m cs m1 css m'} : Dmp g n [.v v] m cs m1 → Dmps g r m1 css m' → Dmps g (v :: r) m (cs :: css) m'
theorem Dmps.fun {g : Int → Option Cl} {vs m css m'} (d : Dmps g vs m css m') : ∀ {css2 m2}, Dmps g vs m css2 m2 → css = css2 ∧ m' = m2 := by
  induction d with
  | nil => intro css2 m2 e; cases e; exact ⟨rfl, rfl⟩
  | cons h _ ih =>
    intro css2 m2 e
    cases e with
    | cons h2 e =>
      obtain ⟨_, b, c⟩ := h.fun h2
      subst b c
      obtain ⟨x, y⟩ := ih e
      subst x y
      exact ⟨rfl, rfl⟩
theorem Dmps.re {g g2 : Int → Option Cl} {t : Int → Int} (I : Iso g g2 t) {vs m css m'} (d : Dmps g vs m css m') : (∀ b ∈ m, (g b).isSome = true) → (∀ b, Vl.ref b ∈ vs → (g b).isSome = true) → Dmps g2 (vs.map (Vl.re t)) (m.map t) css (m'.map t) := by
  induction d with
  | nil => intro _ _; exact .nil
  | @cons n v r m cs m1 css m' h _ ih =>
    intro hm hv
    have hi : ∀ i ∈ [It.v v], InS g i := fun i hi => by
      rw [List.mem_singleton.mp hi]
      cases v with
      | ref b => exact hv b List.mem_cons_self
      | _ => exact True.intro
    obtain ⟨a, b⟩ := h.re I hm hi
    exact .cons a (ih b fun b hb => hv b (List.mem_cons_of_mem _ hb))
theorem Dmps.len {g : Int → Option Cl} {vs m css m'} (d : Dmps g vs m css m') : css.length = vs.length := by
  induction d with
  | nil => rfl
  | cons _ _ ih => rw [List.length_cons, List.length_cons, ih]
end K4

namespace K4
open PySem PySem.Spec PyProof.Rows L2
/-! ### a world in the heap -/
structure WA where
  p : Addr
  sh : Addr
  ki : Addr
  ch : Addr
  wi : Addr
  ce : Addr
structure Row where
  a : Int
  c : Cl
  cl : Addr
  vl : Addr
structure WS where
  ki : List Bool
  wid : List V
  rows : List Row
  fr : Int
def wl (A : WA) (fr : Int) (pr : V) (g : Str) : Option V :=
  if g = "shapes" then some (.ref A.sh) else if g = "kinds" then some (.ref A.ki) else if g = "children" then some (.ref A.ch) else if g = "widened" then some (.ref A.wi) else
  if g = "cells" then some (.ref A.ce) else if g = "fresh" then some (.int fr) else if g = "printed" then some pr else none
section
variable {A : WA} {fr : Int} {pr : V}
theorem wl_sh : wl A fr pr "shapes" = some (.ref A.sh) := by unfold wl; rw [if_pos rfl]
theorem wl_ki : wl A fr pr "kinds" = some (.ref A.ki) := by unfold wl; rw [if_neg (by decide +kernel), if_pos rfl]
theorem wl_ch : wl A fr pr "children" = some (.ref A.ch) := by unfold wl; rw [if_neg (by decide +kernel), if_neg (by decide +kernel), if_pos rfl]
theorem wl_wi : wl A fr pr "widened" = some (.ref A.wi) := by unfold wl; rw [if_neg (by decide +kernel), if_neg (by decide +kernel), if_neg (by decide +kernel), if_pos rfl]
theorem wl_ce : wl A fr pr "cells" = some (.ref A.ce) := by unfold wl; rw [if_neg (by decide +kernel), if_neg (by decide +kernel), if_neg (by decide +kernel), if_neg (by decide +kernel), if_pos rfl]
theorem wl_fr : wl A fr pr "fresh" = some (.int fr) := by unfold wl; rw [if_neg (by decide +kernel), if_neg (by decide +kernel), if_neg (by decide +kernel), if_neg (by decide +kernel), if_neg (by decide +kernel), if_pos rfl]
def wnames : List Str := ["shapes", "kinds", "children", "widened", "cells", "fresh", "printed"]
theorem wl_no {g : Str} (h : wnames.all (fun x => decide (g ≠ x)) = true) : wl A fr pr g = none := by
  have k : ∀ x ∈ wnames, g ≠ x := fun x hx => of_decide_eq_true (List.all_eq_true.mp h x hx)
  unfold wl
  rw [if_neg (k _ (by simp [wnames])), if_neg (k _ (by simp [wnames])), if_neg (k _ (by simp [wnames])), if_neg (k _ (by simp [wnames])), if_neg (k _ (by simp [wnames])), if_neg (k _ (by simp [wnames])), if_neg (k _ (by simp [wnames]))]
theorem wl_put_fr {fr' : Int} (g : Str) : (if g = "fresh" then some (V.int fr') else wl A fr pr g) = wl A fr' pr g := by
  by_cases e : g = "fresh"
  · subst e
    rw [if_pos rfl, wl_fr]
  · rw [if_neg e]
    unfold wl
    split <;> first | rfl | (split <;> first | rfl | (split <;> first | rfl | (split <;> first | rfl | (split <;> first | rfl | rw [if_neg e, if_neg e]))))
theorem wl_put_ce {c' : Addr} (g : Str) : (if g = "cells" then some (V.ref c') else wl A fr pr g) = wl { A with ce := c' } fr pr g := by
  by_cases e : g = "cells"
  · subst e
    rw [if_pos rfl, wl_ce]
  · rw [if_neg e]
    unfold wl
    split <;> first | rfl | (split <;> first | rfl | (split <;> first | rfl | (split <;> first | rfl | rw [if_neg e, if_neg e])))
end
def shT : Nat → List V
  | 0 => [.non, .non, .int (-1)]
  | i + 1 => [.int (i : Int), .str (nm i), .int (i : Int)]
def ShAt (H : Hp) (sh : Addr) (m : Nat) : Prop := ∃ qs : List Addr, H sh = some (.lst (qs.map V.ref)) ∧ qs.length = m + 1 ∧ ∀ (i : Nat) (q : Addr), qs[i]? = some q → H q = some (.tup (shT i))
def kS (b : Bool) : V := .str (if b then "small" else "any")
def kiV (ks : List Bool) : List V := .str "any" :: ks.map kS
def chK (m : Nat) : List (List Key × V) := (List.range m).map fun (i : Nat) => ([Sum.inl (i : Int), Sum.inr (nm i)], V.int ((i : Int) + 1))
def ceK (rows : List Row) : List (Key × V) := rows.map fun r => (Sum.inl r.a, V.ref r.cl)
def head (c : Cl) (vl : Addr) : List V := match c.kind with
  | .lst => [.str "list", .ref vl]
  | .obj => [.str "object", .int (c.vs.length : Int), .ref vl]
  | .clo => [.str "closure", .int c.f, .ref vl]
structure RowAt (H : Hp) (r : Row) : Prop where
  cl : H r.cl = some (.lst (head r.c r.vl))
  vl : LV H r.vl r.c.vs
def hdl (A : WA) : List Addr := [A.p, A.sh, A.ki, A.ch, A.wi, A.ce]
def Own (A : WA) (rows : List Row) (b : Addr) : Prop := b ∈ hdl A ∨ ∃ r ∈ rows, b = r.cl ∨ b = r.vl
/-- what is read of shapes and kinds -/
structure WV (C : Addr) (H : Hp) (A : WA) (ks : List Bool) : Prop where
  ob : ∃ dx fs pr fr, H A.p = some (.ins C dx fs) ∧ fs.length ≤ 20 ∧ ∀ g, fs.lookup g = wl A fr pr g
  sh : ShAt H A.sh ks.length
  ki : H A.ki = some (.lst (kiV ks))
  m5 : ks.length ≤ 5
structure WorldAt (C : Addr) (H : Hp) (A : WA) (S : WS) : Prop where
  ob : ∃ dx fs pr, H A.p = some (.ins C dx fs) ∧ fs.length ≤ 20 ∧ ∀ g, fs.lookup g = wl A S.fr pr g
  sh : ShAt H A.sh S.ki.length
  ki : H A.ki = some (.lst (kiV S.ki))
  ch : H A.ch = some (.dT (chK S.ki.length))
  wi : H A.wi = some (.lst S.wid)
  ce : H A.ce = some (.dK (ceK S.rows))
  rw : ∀ r ∈ S.rows, RowAt H r
  hd : (hdl A).Nodup
  rs : ∀ r ∈ S.rows, r.cl ∉ hdl A ∧ r.vl ∉ hdl A ∧ r.cl ≠ r.vl
  rr : ∀ r ∈ S.rows, ∀ r' ∈ S.rows, r.a ≠ r'.a → r.cl ≠ r'.cl ∧ r.cl ≠ r'.vl ∧ r.vl ≠ r'.vl
  an : (S.rows.map (·.a)).Nodup
  fr : 0 ≤ S.fr ∧ ∀ r ∈ S.rows, 0 ≤ r.a ∧ r.a < S.fr
  m5 : S.ki.length ≤ 5
  wk : S.wid.length + S.ki.count true ≤ S.ki.length
  rn : S.rows.length ≤ 200
  kk : ∀ r ∈ S.rows, r.c.kind = .obj → r.c.vs.length ≤ S.ki.length ∧ ∀ (k : Nat) (v : Vl), r.c.vs[k]? = some v → S.ki[k]? = some true → isSm v = true
theorem WorldAt.wv {C : Addr} {H : Hp} {A : WA} {S : WS} (W : WorldAt C H A S) : WV C H A S.ki := by
  obtain ⟨dx, fs, pr, h1, h2, h3⟩ := W.ob
  exact ⟨⟨dx, fs, pr, S.fr, h1, h2, h3⟩, W.sh, W.ki, W.m5⟩
theorem ShAt.same {H H' : Hp} {sh : Addr} {m : Nat} (s : Same H H') (h : ShAt H sh m) : ShAt H' sh m := by
  obtain ⟨qs, a, b, c⟩ := h
  exact ⟨qs, s _ _ a, b, fun i q e => s _ _ (c i q e)⟩
theorem RowAt.same {H H' : Hp} {r : Row} (s : Same H H') (h : RowAt H r) : RowAt H' r := ⟨s _ _ h.cl, h.vl.same s⟩
theorem WV.same {C : Addr} {H H' : Hp} {A : WA} {ks : List Bool} (s : Same H H') (W : WV C H A ks) : WV C H' A ks := by
  obtain ⟨dx, fs, pr, fr, h1, h2, h3⟩ := W.ob
  exact ⟨⟨dx, fs, pr, fr, s _ _ h1, h2, h3⟩, W.sh.same s, s _ _ W.ki, W.m5⟩
theorem WorldAt.same {C : Addr} {H H' : Hp} {A : WA} {S : WS} (s : Same H H') (W : WorldAt C H A S) : WorldAt C H' A S := by
  obtain ⟨dx, fs, pr, h1, h2, h3⟩ := W.ob
  exact ⟨⟨dx, fs, pr, s _ _ h1, h2, h3⟩, W.sh.same s, s _ _ W.ki, s _ _ W.ch, s _ _ W.wi, s _ _ W.ce, fun r hr => (W.rw r hr).same s, W.hd, W.rs, W.rr, W.an, W.fr, W.m5, W.wk, W.rn, W.kk⟩
/-- no tuple among these -/
def NT (O : Addr → Prop) (H : Hp) : Prop := ∀ b, O b → ∀ xs, H b ≠ some (.tup xs)
theorem WorldAt.nt {C : Addr} {H : Hp} {A : WA} {S : WS} (W : WorldAt C H A S) : NT (Own A S.rows) H := by
  intro b hb xs e
  rcases hb with hb | ⟨r, hr, hb⟩
  · obtain ⟨dx, fs, pr, h1, _⟩ := W.ob
    obtain ⟨qs, h2, _⟩ := W.sh
    simp only [hdl, List.mem_cons, List.not_mem_nil, or_false] at hb
    rcases hb with rfl | rfl | rfl | rfl | rfl | rfl
    · rw [h1] at e; cases e
    · rw [h2] at e; cases e
    · rw [W.ki] at e; cases e
    · rw [W.ch] at e; cases e
    · rw [W.wi] at e; cases e
    · rw [W.ce] at e; cases e
  · have R := W.rw r hr
    obtain ⟨ps, h1, _⟩ := R.vl
    rcases hb with rfl | rfl
    · rw [R.cl] at e; cases e
    · rw [h1] at e; cases e
theorem VAt.kp {O : Addr → Prop} {H H' : Hp} {p : Addr} {v : Vl} (n : NT O H) (k : Kp O H H') (h : VAt H p v) : VAt H' p v := k _ _ h fun z => n p z _ h
theorem VsAt.kp {O : Addr → Prop} {H H' : Hp} {ps : List Addr} {vs : List Vl} (n : NT O H) (k : Kp O H H') (h : VsAt H ps vs) : VsAt H' ps vs := Paired.mono (fun _ _ h => VAt.kp n k h) h
theorem LV.kp {O : Addr → Prop} {H H' : Hp} {l : Addr} {vs : List Vl} (n : NT O H) (k : Kp O H H') (hl : ¬ O l) (h : LV H l vs) : LV H' l vs := by
  obtain ⟨ps, a, b⟩ := h
  exact ⟨ps, k _ _ a hl, b.kp n k⟩
theorem ShAt.kp {O : Addr → Prop} {H H' : Hp} {sh : Addr} {m : Nat} (n : NT O H) (k : Kp O H H') (hl : ¬ O sh) (h : ShAt H sh m) : ShAt H' sh m := by
  obtain ⟨qs, a, b, c⟩ := h
  exact ⟨qs, k _ _ a hl, b, fun i q e => k _ _ (c i q e) fun z => n q z _ (c i q e)⟩
theorem RowAt.kp {O : Addr → Prop} {H H' : Hp} {r : Row} (n : NT O H) (k : Kp O H H') (h1 : ¬ O r.cl) (h2 : ¬ O r.vl) (h : RowAt H r) : RowAt H' r := ⟨k _ _ h.cl h1, h.vl.kp n k h2⟩
/-- the row of an address -/
theorem row_val {rows : List Row} (nd : (rows.map (·.a)).Nodup) : ∀ {r : Row}, r ∈ rows → valV (ceK rows) (Sum.inl r.a : Key) = some (V.ref r.cl) := by
  induction rows with
  | nil => intro r h; cases h
  | cons x l ih =>
    intro r h
    obtain ⟨n1, n2⟩ := List.nodup_cons.mp nd
    by_cases e : x.a = r.a
    · have ex : x = r := by
        rcases List.mem_cons.mp h with z | z
        · exact z.symm
        · exact absurd (List.mem_map.mpr ⟨r, z, e.symm⟩) n1
      subst ex
      exact valV_pos (p := ((Sum.inl x.a : Key), V.ref x.cl)) rfl
    · rcases List.mem_cons.mp h with z | z
      · exact absurd (congrArg (·.a) z).symm e
      · show valV (((Sum.inl x.a : Key), V.ref x.cl) :: ceK l) _ = _
        rw [valV_neg (fun z => e (Sum.inl.inj z))]
        exact ih n2 z
theorem row_none {rows : List Row} {a : Int} (h : ∀ r ∈ rows, r.a ≠ a) : valV (ceK rows) (Sum.inl a : Key) = none := by
  induction rows with
  | nil => rfl
  | cons x l ih =>
    show valV (((Sum.inl x.a : Key), V.ref x.cl) :: ceK l) _ = _
    rw [valV_neg (fun z => h x List.mem_cons_self (Sum.inl.inj z))]
    exact ih fun r hr => h r (List.mem_cons_of_mem _ hr)
/-- the graph of a world -/
def gr (rows : List Row) (a : Int) : Option Cl := (rows.find? fun r => decide (r.a = a)).map (·.c)
theorem gr_some {rows : List Row} {a : Int} {c : Cl} (h : gr rows a = some c) : ∃ r ∈ rows, r.a = a ∧ r.c = c := by
  obtain ⟨r, hr, e⟩ := Option.map_eq_some_iff.mp h
  have z := List.find?_some hr
  exact ⟨r, List.mem_of_find?_eq_some hr, of_decide_eq_true z, e⟩
theorem gr_of {rows : List Row} (nd : (rows.map (·.a)).Nodup) : ∀ {r : Row}, r ∈ rows → gr rows r.a = some r.c := by
  induction rows with
  | nil => intro r h; cases h
  | cons x l ih =>
    intro r h
    obtain ⟨n1, n2⟩ := List.nodup_cons.mp nd
    unfold gr
    by_cases e : x.a = r.a
    · have ex : x = r := by
        rcases List.mem_cons.mp h with z | z
        · exact z.symm
        · exact absurd (List.mem_map.mpr ⟨r, z, e.symm⟩) n1
      subst ex
      rw [List.find?_cons_of_pos (by simp)]
      rfl
    · rcases List.mem_cons.mp h with z | z
      · exact absurd (congrArg (·.a) z).symm e
      · rw [List.find?_cons_of_neg (by simp [e])]
        exact ih n2 z
end K4

namespace K4
open PySem PySem.Spec PyProof.Rows L2
section
variable {P : Program} {w : World} {K : PySem.W.Frag} {mg : Str → Option Value} {base : Heap} {CW CD : Addr}
/-! ### is_small -/
def spSmall : Sp := fun vs H Q _ => ∃ p v, vs = [.ref p] ∧ VAt H p v ∧ Q (.bl (isSm v)) H
theorem scSmall : FnScope ["value"] ["value"] (C8.fnScope sSmall) := C8.fnScope_by (by decide +kernel)
theorem ok_small (T : Txt K mg CW CD) : C8.Cal P w K mg base 1 "is_small" spSmall [] := by
  refine cal1 T.dSmall scSmall (fun vs H Q E h => ?_) fun f cdv A outer s H vs Q E hr h => ?_
  · obtain ⟨p, v, rfl, _⟩ := h
    rfl
  obtain ⟨p, v, rfl, hv, q⟩ := h
  refine ⟨_, pss_one (ps_ret (pe_and (pe_cmpR op_eq (pe_ix ix_tup (pv 0) pe_int (fun _ _ => rfl)) pe_str (nomark _)) (pe_one (pe_chain op_le op_le (pe_gi T.gLeast) (pe_ix ix_tup (pv 0) pe_int (fun _ _ => rfl)) (pe_gi T.gMost))))), ?_⟩
  refine ⟨_, rfl, p, _, _, _, rfl, rfl, hv.sq, at0, rfl, _, rfl, ?_⟩
  rw [dec_int' v]
  cases v with
  | int n =>
    refine iteT ?_
    refine ⟨_, rfl, p, _, _, _, rfl, rfl, hv.sq, at1 (by intro e; cases e), _, _, rfl, rfl, _, rfl, ?_⟩
    cases e : decide ((-32768 : Int) ≤ n) with
    | false =>
      refine iteF ?_
      have z : isSm (.int n) = false := by simp only [isSm, e, Bool.false_and]
      rw [z] at q
      exact q
    | true =>
      refine iteT ⟨_, _, rfl, rfl, ?_⟩
      have z : isSm (.int n) = decide (n ≤ 32767) := by simp only [isSm, e, Bool.true_and]
      rw [z] at q
      exact q
  | txt _ => exact iteF q
  | null => exact iteF q
  | bool _ => exact iteF q
  | fn _ => exact iteF q
  | ref _ => exact iteF q
/-! ### moved_value -/
def spMovedV : Sp := fun vs H Q _ => ∃ p v t kvs, vs = [.ref p, .ref t] ∧ VAt H p v ∧ H t = some (.dK kvs) ∧
  (∀ a, v = .ref a → ∃ b, valV kvs (Sum.inl a) = some (.int b) ∧ ∀ r, H r = none → Q (.ref r) (upd H r (.tup (enc (.ref b))))) ∧ (isRef v = false → Q (.ref p) H)
theorem scMovedV : FnScope ["value", "table"] ["value", "table"] (C8.fnScope sMovedV) := C8.fnScope_by (by decide +kernel)
theorem ok_movedV (T : Txt K mg CW CD) : C8.Cal P w K mg base 1 "moved_value" spMovedV [] := by
  refine cal1 T.dMovedV scMovedV (fun vs H Q E h => ?_) fun f cdv A outer s H vs Q E hr h => ?_
  · obtain ⟨p, v, t, kvs, rfl, _⟩ := h
    rfl
  obtain ⟨p, v, t, kvs, rfl, hv, ht, q1, q2⟩ := h
  have hu := hu_of hr
  refine ⟨_, pss_one (ps_ret (pe_ifExp (pt_cmpR op_eq (pe_ix ix_tup (pv 0) pe_int (fun _ _ => rfl)) pe_str (nomark _))
    (pe_tup (pa_cons pe_str (pa_cons (pe_dget hu (pv 1) (pe_ix ix_tup (pv 0) pe_int (fun _ _ => rfl)) (fun _ _ => rfl)) pa_nil))) (pv 0))), ?_⟩
  refine ⟨_, rfl, p, _, _, _, rfl, rfl, hv.sq, at0, rfl, _, rfl, ?_⟩
  rw [dec_ref v]
  cases v with
  | ref a =>
    obtain ⟨b, e, q⟩ := q1 a rfl
    exact iteT ⟨_, rfl, _, rfl, p, _, _, _, rfl, rfl, hv.sq, at1 (by intro e; cases e), t, V.int b, rfl, dget (k := Sum.inl a) ht e, by show 2 ≤ sizeLine; decide, fun r hr => q r hr⟩
  | txt _ => exact iteF ⟨_, rfl, q2 rfl⟩
  | null => exact iteF ⟨_, rfl, q2 rfl⟩
  | bool _ => exact iteF ⟨_, rfl, q2 rfl⟩
  | fn _ => exact iteF ⟨_, rfl, q2 rfl⟩
  | int _ => exact iteF ⟨_, rfl, q2 rfl⟩
/-! ### refs_of -/
def refs : List Vl → List Int
  | [] => []
  | .ref a :: r => a :: refs r
  | _ :: r => refs r
theorem refs_app : ∀ (a b : List Vl), refs (a ++ b) = refs a ++ refs b
  | [], _ => rfl
  | .ref x :: r, b => by show x :: refs (r ++ b) = x :: (refs r ++ refs b); rw [refs_app r b]
  | .int _ :: r, b => refs_app r b
  | .txt _ :: r, b => refs_app r b
  | .null :: r, b => refs_app r b
  | .bool _ :: r, b => refs_app r b
  | .fn _ :: r, b => refs_app r b
theorem refs_len : ∀ (a : List Vl), (refs a).length ≤ a.length
  | [] => Nat.le_refl _
  | .ref x :: r => Nat.succ_le_succ (refs_len r)
  | .int _ :: r => Nat.le_succ_of_le (refs_len r)
  | .txt _ :: r => Nat.le_succ_of_le (refs_len r)
  | .null :: r => Nat.le_succ_of_le (refs_len r)
  | .bool _ :: r => Nat.le_succ_of_le (refs_len r)
  | .fn _ :: r => Nat.le_succ_of_le (refs_len r)
def spRefs : Sp := fun vs H Q _ => ∃ l xs, vs = [.ref l] ∧ LV H l xs ∧ xs.length ≤ 1000 ∧ ∀ r H', Same H H' → H r = none → H' r = some (.lst ((refs xs).map V.int)) → Q (.ref r) H'
theorem scRefs : FnScope ["values", "value"] ["values"] (C8.fnScope sRefs) := C8.fnScope_by (by decide +kernel)
theorem take_snoc {α : Type} {xs : List α} {i : Nat} {x : α} (h : xs[i]? = some x) : xs.take (i + 1) = xs.take i ++ [x] := by
  rw [List.take_add_one, h]; rfl
theorem ok_refs (T : Txt K mg CW CD) : C8.Cal P w K mg base 1 "refs_of" spRefs [] := by
  refine cal1 T.dRefs scRefs (fun vs H Q E h => ?_) fun f cdv A outer s H vs Q E hr h => ?_
  · obtain ⟨l, xs, rfl, _⟩ := h
    rfl
  obtain ⟨l, xs, rfl, ⟨ps, hl, hv⟩, hn, q⟩ := h
  refine ⟨_, pss_one (ps_ret (pe_lc (own := [("value", 1)]) (g := gName 1) rfl scRefs.nd (pi_list (pv 0)) (blkOk_by (N := ["values", "value"]) (sc := C8.fnScope sRefs) (by decide +kernel)) (fun _ _ _ _ _ => pg_name (i := 1) scRefs.nd rfl (Or.inl rfl))
    (fun _ _ _ _ _ => pts_one (pt_cmpR op_eq (pe_ix (ixT K) (pv 1) pe_int (fun _ _ => rfl)) pe_str (nomark _))) (fun _ _ _ _ _ => pe_ix (ixT K) (pv 1) pe_int (fun _ _ => rfl)))), ?_⟩
  refine ⟨_, rfl, l, rfl, ⟨_, SqL.of hl⟩, fun D hD => ?_⟩
  have len : (ps.map V.ref).length = xs.length := by rw [List.length_map, hv.length]
  refine lc_list (K := K) (a := l) (xs := ps.map V.ref) (fun i H1 => Same H H1 ∧ H1 D = some (.lst ((refs (xs.take i)).map V.int))) ⟨same_new hD _, upd_same⟩ (fun i H1 _ h => SqL.of (h.1 _ _ hl)) ?_ ?_
  · rintro i x H1 hi ⟨hs, hd⟩
    obtain ⟨p, v, rfl, _, ev, hp⟩ := hv.item hi
    have hp1 : VAt H1 p v := hp.same hs
    refine ⟨rfl, _, rfl, p, _, _, _, rfl, rfl, hp1.sq, at0, rfl, _, rfl, ?_⟩
    rw [dec_ref v]
    have et := take_snoc ev
    cases v with
    | ref a =>
      refine iteT ⟨_, rfl, p, _, _, _, rfl, rfl, hp1.sq, at1 (by intro e; cases e), _, hd, ?_, ?_⟩
      · rw [List.length_map]
        have := refs_len (xs.take i)
        have := List.length_take (i := i) (l := xs)
        exact small1000 (by omega)
      · refine ⟨?_, ?_⟩
        · intro b o e
          rw [upd_ne (fun z => by subst z; rw [hD] at e; cases e)]
          exact hs b o e
        · rw [upd_same, et, refs_app, List.map_append]
          rfl
    | txt _ => refine iteF ⟨hs, ?_⟩; rw [hd, et, refs_app]; show _ = some (HO.lst ((refs (xs.take i) ++ []).map V.int)); rw [List.append_nil]
    | null => refine iteF ⟨hs, ?_⟩; rw [hd, et, refs_app]; show _ = some (HO.lst ((refs (xs.take i) ++ []).map V.int)); rw [List.append_nil]
    | bool _ => refine iteF ⟨hs, ?_⟩; rw [hd, et, refs_app]; show _ = some (HO.lst ((refs (xs.take i) ++ []).map V.int)); rw [List.append_nil]
    | fn _ => refine iteF ⟨hs, ?_⟩; rw [hd, et, refs_app]; show _ = some (HO.lst ((refs (xs.take i) ++ []).map V.int)); rw [List.append_nil]
    | int _ => refine iteF ⟨hs, ?_⟩; rw [hd, et, refs_app]; show _ = some (HO.lst ((refs (xs.take i) ++ []).map V.int)); rw [List.append_nil]
  · rintro H1 ⟨hs, hd⟩
    rw [len, List.take_length] at hd
    exact q D H1 hs hD hd
end
end K4

namespace K4
open PySem PySem.Spec PyProof.Rows L2
section
variable {P : Program} {w : World} {K : PySem.W.Frag} {mg : Str → Option Value} {base : Heap} {CW CD : Addr}
/-! ### World.cell -/
def spCell (C : Addr) : Sp := fun vs H Q _ => ∃ A q a kvs cl, vs = [.ref A.p, .ref q] ∧ (∃ dx fs pr fr, H A.p = some (.ins C dx fs) ∧ ∀ g, fs.lookup g = wl A fr pr g) ∧ VAt H q (.ref a) ∧ Rd H A.ce (.dK kvs) ∧ valV kvs (Sum.inl a) = some cl ∧ Q cl H
theorem scCell : FnScope ["self", "value"] ["self", "value"] (C8.fnScope sCell) := C8.fnScope_by (by decide +kernel)
theorem dgetR {H : Hp} {t : Addr} {kvs : List (Key × V)} {k : Key} {v : V} (ht : Rd H t (.dK kvs)) (e : valV kvs k = some v) : DGet H t (kV k) (some v) := .inl ⟨kvs, k, ht, rfl, e.symm⟩
theorem ok_cell (T : Txt K mg CW CD) : C8.Met P w K mg base 1 CW "cell" (spCell CW) [] := by
  refine met1 T.cW T.mCell scCell (fun vs H Q E h => ?_) fun f cdv A outer s H vs Q E hr h => ?_
  · obtain ⟨_, _, _, _, _, rfl, _⟩ := h
    rfl
  obtain ⟨A, q, a, kvs, cl, rfl, ⟨dx, fs, pr, fr, h1, h2⟩, hq, hc, hv, k⟩ := h
  have hu := hu_of hr
  refine ⟨_, pss_one (ps_ret (pe_dget hu (pe_fld (pv 0) rfl) (pe_ix ix_tup (pv 1) pe_int (fun _ _ => rfl)) (fun _ _ => rfl))), ?_⟩
  exact ⟨_, rfl, A.p, CW, dx, fs, _, rfl, h1, T.cW, T.nCe, (h2 _).trans wl_ce, _, rfl, q, _, _, _, rfl, rfl, hq.sq, at1 (by intro e; cases e), A.ce, cl, rfl, dgetR (k := Sum.inl a) hc hv, k⟩
/-! ### World.owner -/
theorem shT_get {H : Hp} {A : WA} {m i : Nat} (h : ShAt H A.sh m) (hi : i ≤ m) : ∃ (qs : List Addr) (q : Addr), H A.sh = some (.lst (qs.map V.ref)) ∧ atI (qs.map V.ref) (i : Int) = some (.ref q) ∧ H q = some (.tup (shT i)) := by
  obtain ⟨qs, a, b, c⟩ := h
  have hl : i < qs.length := by omega
  refine ⟨qs, qs[i], a, atI_nat (map_get (List.getElem?_eq_getElem hl)), c i _ (List.getElem?_eq_getElem hl)⟩
theorem shT2 (i : Nat) : atI (shT i) 2 = some (.int ((i : Int) - 1)) := by
  cases i with
  | zero => rfl
  | succ i =>
    have e : (((i + 1 : Nat) : Int) - 1) = (i : Int) := by omega
    rw [e]
    rfl
def spOwner (C : Addr) : Sp := fun vs H Q _ => ∃ A ks, ∃ i k : Nat, vs = [.ref A.p, .int (i : Int), .int (k : Int)] ∧ WV C H A ks ∧ i ≤ ks.length ∧ k < i ∧ Q (.int ((k : Int) + 1)) H
theorem scOwner : FnScope ["self", "shape", "k", "here"] ["self", "shape", "k"] (C8.fnScope sOwner) := C8.fnScope_by (by decide +kernel)
theorem ok_owner (T : Txt K mg CW CD) : C8.Met P w K mg base 1 CW "owner" (spOwner CW) [] := by
  refine met1 T.cW T.mOwner scOwner (fun vs H Q E h => ?_) fun f cdv A outer s H vs Q E hr h => ?_
  · obtain ⟨_, _, _, _, rfl, _⟩ := h
    rfl
  obtain ⟨A, ks, i, k, rfl, W, hi, hk, q⟩ := h
  obtain ⟨dx, fs, pr, fr, h1, _, h2⟩ := W.ob
  refine ⟨_, pss_cons (ps_set (i := 3) scOwner.nd rfl (Or.inl rfl) (pv 1))
    (pss_cons (ps_while PassesOwn.never (pt_cmpR op_ne (pe_ix ix_tup (pe_ix ix_list (pe_fld (pv 0) rfl) (pv 3) (fun _ _ => rfl)) pe_int (fun _ _ => rfl)) (pv 2) (nomark _))
      (pss_one (ps_set (i := 3) scOwner.nd rfl (Or.inl rfl) (pe_ix ix_tup (pe_ix ix_list (pe_fld (pv 0) rfl) (pv 3) (fun _ _ => rfl)) pe_int (fun _ _ => rfl)))))
    (pss_one (ps_ret (pv 3)))), ?_⟩
  refine ⟨_, rfl, fun m σ H1 => ∃ j : Nat, m = j ∧ j ≤ ks.length ∧ k < j ∧ H1 = H ∧ σ = [some (.ref A.p), some (.int (i : Int)), some (.int (k : Int)), some (.int (j : Int))], ⟨i, i, rfl, hi, hk, rfl, rfl⟩, ?_⟩
  rintro m σ H1 ⟨j, rfl, hj, hkj, rfl, rfl⟩
  obtain ⟨qs, q', g1, g2, g3⟩ := shT_get W.sh hj
  refine ⟨_, rfl, A.p, CW, dx, fs, _, rfl, h1, T.cW, T.nSh, (h2 _).trans wl_sh, _, rfl, A.sh, _, _, _, rfl, rfl, SqL.of g1, g2, q', _, _, _, rfl, rfl, SqT.of g3, shT2 _, _, rfl, rfl, _, rfl, ?_⟩
  by_cases e : m = k + 1
  · subst e
    have e2 : (((k + 1 : Nat) : Int) - 1) = (k : Int) := by omega
    rw [e2, decide_eq_true rfl]
    refine iteF ⟨_, rfl, ?_⟩
    have e3 : ((k + 1 : Nat) : Int) = (k : Int) + 1 := by omega
    rw [e3]
    exact q
  · have ne : ¬ (V.int ((m : Int) - 1) = V.int (k : Int)) := fun z => by
      injection z with z
      omega
    rw [decide_eq_false ne]
    refine iteT ⟨fun σ' H' => H' = H1 ∧ σ' = [some (.ref A.p), some (.int (i : Int)), some (.int (k : Int)), some (.int ((m - 1 : Nat) : Int))], fun σ' H' ⟨e1, e2⟩ => ⟨m - 1, by omega, m - 1, rfl, by omega, by omega, e1, e2⟩, ?_⟩
    obtain ⟨j, rfl⟩ : ∃ j, m = j + 1 := ⟨m - 1, by omega⟩
    refine ⟨_, rfl, A.p, CW, dx, fs, _, rfl, h1, T.cW, T.nSh, (h2 _).trans wl_sh, _, rfl, A.sh, _, _, _, rfl, rfl, SqL.of g1, g2, q', _, _, V.int (j : Int), rfl, rfl, SqT.of g3, rfl, rfl, ?_⟩
    rw [Nat.add_sub_cancel]
    rfl
/-! ### World.names_of -/
theorem names_get {i j : Nat} (h : j < i) : (names i)[j]? = some (nm j) := by
  unfold names
  rw [List.getElem?_map, List.getElem?_range h]
  rfl
theorem names_length (i : Nat) : (names i).length = i := by unfold names; rw [List.length_map, List.length_range]
theorem drop_step {α : Type} {l : List α} {j : Nat} {x : α} (h : l[j]? = some x) : l.drop j = x :: l.drop (j + 1) := by
  obtain ⟨h1, rfl⟩ := List.getElem?_eq_some_iff.mp h
  exact List.drop_eq_getElem_cons h1
theorem shT1 (j : Nat) : atI (shT (j + 1)) 1 = some (.str (nm j)) := rfl
theorem shT0 (j : Nat) : atI (shT (j + 1)) 0 = some (.int (j : Int)) := rfl
def spNames (C : Addr) : Sp := fun vs H Q _ => ∃ A ks, ∃ i : Nat, vs = [.ref A.p, .int (i : Int)] ∧ WV C H A ks ∧ i ≤ ks.length ∧ ∀ l H', Same H H' → H l = none → H' l = some (.lst ((names i).map V.str)) → Q (.ref l) H'
theorem scNames : FnScope ["self", "shape", "found", "here"] ["self", "shape"] (C8.fnScope sNames) := C8.fnScope_by (by decide +kernel)
theorem ok_names (T : Txt K mg CW CD) : C8.Met P w K mg base 1 CW "names_of" (spNames CW) [] := by
  refine met1 T.cW T.mNames scNames (fun vs H Q E h => ?_) fun f cdv A outer s H vs Q E hr h => ?_
  · obtain ⟨_, _, _, rfl, _⟩ := h
    rfl
  obtain ⟨A, ks, i, rfl, W, hi, q⟩ := h
  obtain ⟨dx, fs, pr, fr, h1, _, h2⟩ := W.ob
  refine ⟨_, pss_cons (ps_set (i := 2) scNames.nd rfl (Or.inl rfl) (pe_lst pa_nil))
    (pss_cons (ps_set (i := 3) scNames.nd rfl (Or.inl rfl) (pv 1))
    (pss_cons (ps_while PassesOwn.never (pt_cmpR op_gt (pv 3) pe_int (nomark _))
      (pss_cons (ps_expr (pe_bm PySem.F.plainAttrs_list PySem.F.slot_list_append PySem.F.type_list_append mt_append (pv 2) (pa_cons (pe_ix ix_tup (pe_ix ix_list (pe_fld (pv 0) rfl) (pv 3) (fun _ _ => rfl)) pe_int (fun _ _ => rfl)) pa_nil)))
      (pss_one (ps_set (i := 3) scNames.nd rfl (Or.inl rfl) (pe_ix ix_tup (pe_ix ix_list (pe_fld (pv 0) rfl) (pv 3) (fun _ _ => rfl)) pe_int (fun _ _ => rfl))))))
    (pss_one (ps_ret (pe_revL (pv 2)))))), ?_⟩
  refine ⟨by show 0 ≤ sizeLine; decide, fun F hF => ?_⟩
  refine ⟨_, rfl, fun m σ H1 => ∃ j : Nat, m = j ∧ j ≤ i ∧ Same H H1 ∧ H1 F = some (.lst (((names i).drop j).reverse.map V.str)) ∧ σ = [some (.ref A.p), some (.int (i : Int)), some (.ref F), some (.int (j : Int))],
    ⟨i, i, rfl, Nat.le_refl _, same_new hF _, ?_, rfl⟩, ?_⟩
  · rw [List.drop_eq_nil_of_le (by rw [names_length]; exact Nat.le_refl _)]
    exact upd_same
  rintro m σ H1 ⟨j, rfl, hj, hs, hF1, rfl⟩
  have W1 := W.same hs
  have h1' := hs _ _ h1
  obtain ⟨qs, q', g1, g2, g3⟩ := shT_get W1.sh (Nat.le_trans hj hi)
  refine ⟨_, rfl, _, _, rfl, rfl, _, rfl, ?_⟩
  cases m with
  | zero =>
    refine iteF ⟨_, rfl, F, _, rfl, SqL.of hF1, fun l hl => ?_⟩
    refine q l _ (Same.new hs hl _) (L2.Same.free hs hl) ?_
    rw [upd_same, List.drop_zero, ← List.map_reverse, List.reverse_reverse]
  | succ j =>
    have e : decide ((0 : Int) < ((j + 1 : Nat) : Int)) = true := decide_eq_true (by omega)
    show if decide ((0 : Int) < ((j + 1 : Nat) : Int)) = true then _ else _
    rw [e]
    refine iteT ⟨fun σ' H' => Same H H' ∧ H' F = some (.lst (((names i).drop j).reverse.map V.str)) ∧ σ' = [some (.ref A.p), some (.int (i : Int)), some (.ref F), some (.int (j : Int))], fun σ' H' ⟨e1, e2, e3⟩ => ⟨j, by omega, j, rfl, by omega, e1, e2, e3⟩, ?_⟩
    have lens : (((names i).drop (j + 1)).reverse.map V.str).length < sizeLine := by
      rw [List.length_map, List.length_reverse, List.length_drop, names_length]
      exact small1000 (by have := W.m5; omega)
    refine ⟨_, rfl, .inl ⟨rfl, _, SqL.of hF1⟩, _, rfl, A.p, CW, dx, fs, _, rfl, h1', T.cW, T.nSh, (h2 _).trans wl_sh, _, rfl, A.sh, _, _, _, rfl, rfl, SqL.of g1, g2, q', _, _, V.str (nm j), rfl, rfl, SqT.of g3, shT1 j, F, _, _, rfl, rfl, hF1, lens, ?_⟩
    have hs2 : Same H (upd H1 F (.lst (((names i).drop (j + 1)).reverse.map V.str ++ [V.str (nm j)]))) := fun b o e => by
      rw [upd_ne (ne_of_none e hF)]
      exact hs b o e
    have W2 := W.same hs2
    obtain ⟨qs2, q2, k1, k2, k3⟩ := shT_get W2.sh (Nat.le_trans hj hi)
    refine ⟨_, rfl, A.p, CW, dx, fs, _, rfl, hs2 _ _ h1, T.cW, T.nSh, (h2 _).trans wl_sh, _, rfl, A.sh, _, _, _, rfl, rfl, SqL.of k1, k2, q2, _, _, V.int (j : Int), rfl, rfl, SqT.of k3, shT0 j, hs2, ?_, rfl⟩
    rw [upd_same, drop_step (names_get (show j < i by omega)), List.reverse_cons, List.map_append]
    rfl
/-! ### World.slot_of, of a name that is not there -/
theorem nm_inj {a b : Nat} (h : nm a = nm b) : a = b := by
  have e : (#[112 + a] : Array Nat) = #[112 + b] := congrArg Str.cps h
  have e2 : [112 + a] = [112 + b] := congrArg Array.toList e
  injection e2 with e3 _
  omega
def spSlotOf (C : Addr) : Sp := fun vs H Q _ => ∃ A ks, ∃ i : Nat, vs = [.ref A.p, .int (i : Int), .str (nm i)] ∧ WV C H A ks ∧ i ≤ ks.length ∧ Q .non H
theorem scSlotOf : FnScope ["self", "shape", "name", "here", "parent", "other", "slot"] ["self", "shape", "name"] (C8.fnScope sSlotOf) := C8.fnScope_by (by decide +kernel)
theorem ok_slotOf (T : Txt K mg CW CD) : C8.Met P w K mg base 1 CW "slot_of" (spSlotOf CW) [] := by
  refine met1 T.cW T.mSlotOf scSlotOf (fun vs H Q E h => ?_) fun f cdv A outer s H vs Q E hr h => ?_
  · obtain ⟨_, _, _, rfl, _⟩ := h
    rfl
  obtain ⟨A, ks, i, rfl, W, hi, q⟩ := h
  obtain ⟨dx, fs, pr, fr, h1, _, h2⟩ := W.ob
  refine ⟨_, pss_cons (ps_set (i := 3) scSlotOf.nd rfl (Or.inl rfl) (pv 1))
    (pss_cons (ps_while PassesOwn.never (pt_cmpR op_gt (pv 3) pe_int (nomark _))
      (pss_cons (ps_asg (pe_ix ix_list (pe_fld (pv 0) rfl) (pv 3) (fun _ _ => rfl)) (pg_tup rfl (pgs_cons (pg_name (i := 4) scSlotOf.nd rfl (.inl rfl)) (pgs_cons (pg_name (i := 5) scSlotOf.nd rfl (.inl rfl)) (pgs_cons (pg_name (i := 6) scSlotOf.nd rfl (.inl rfl)) pgs_nil)))))
      (pss_cons (ps_if (pt_cmpR op_eq (pv 5) (pv 2) (nomark _)) (pss_one (ps_ret (pv 6))) pss_nil)
      (pss_one (ps_set (i := 3) scSlotOf.nd rfl (Or.inl rfl) (pv 4))))))
    (pss_one (ps_ret pe_non))), ?_⟩
  refine ⟨_, rfl, fun m σ H1 => ∃ j : Nat, m = j ∧ j ≤ i ∧ H1 = H ∧ ∃ x y z, σ = [some (.ref A.p), some (.int (i : Int)), some (.str (nm i)), some (.int (j : Int)), x, y, z], ⟨i, i, rfl, Nat.le_refl _, rfl, none, none, none, rfl⟩, ?_⟩
  rintro m σ H1 ⟨j, rfl, hj, rfl, x, y, z, rfl⟩
  obtain ⟨qs, q', g1, g2, g3⟩ := shT_get W.sh (Nat.le_trans hj hi)
  refine ⟨_, rfl, _, _, rfl, rfl, _, rfl, ?_⟩
  cases m with
  | zero => exact iteF q
  | succ j =>
    have e : decide ((0 : Int) < ((j + 1 : Nat) : Int)) = true := decide_eq_true (by omega)
    show if decide ((0 : Int) < ((j + 1 : Nat) : Int)) = true then _ else _
    rw [e]
    refine iteT ⟨fun σ' H' => H' = H1 ∧ ∃ x y z, σ' = [some (.ref A.p), some (.int (i : Int)), some (.str (nm i)), some (.int (j : Int)), x, y, z], fun σ' H' ⟨e1, x, y, z, e3⟩ => ⟨j, by omega, j, rfl, by omega, e1, x, y, z, e3⟩, ?_⟩
    refine ⟨_, rfl, A.p, CW, dx, fs, _, rfl, h1, T.cW, T.nSh, (h2 _).trans wl_sh, _, rfl, A.sh, _, _, _, rfl, rfl, SqL.of g1, g2, q', _, rfl, SqT.of g3, rfl, _, _, rfl, _, _, rfl, _, _, rfl, rfl, ?_⟩
    refine ⟨_, rfl, _, rfl, rfl, _, rfl, ?_⟩
    have ne : ¬ (V.str (nm j) = V.str (nm i)) := fun z => by
      injection z with z
      have := nm_inj z
      omega
    rw [decide_eq_false ne]
    refine iteF ⟨_, rfl, rfl, _, _, _, rfl⟩
/-! ### World.shape_of, of an object -/
def spShapeOf (C : Addr) : Sp := fun vs H Q _ => ∃ A S q r, vs = [.ref A.p, .ref q] ∧ WorldAt C H A S ∧ r ∈ S.rows ∧ VAt H q (.ref r.a) ∧ r.c.kind = .obj ∧ Q (.int (r.c.vs.length : Int)) H
theorem scShapeOf : FnScope ["self", "value"] ["self", "value"] (C8.fnScope sShapeOf) := C8.fnScope_by (by decide +kernel)
theorem ok_shapeOf (T : Txt K mg CW CD) : C8.Met P w K mg base 2 CW "shape_of" (spShapeOf CW) [] := by
  refine met1 T.cW T.mShapeOf scShapeOf (fun vs H Q E h => ?_) fun f cdv A outer s H vs Q E hr h => ?_
  · obtain ⟨_, _, _, _, rfl, _⟩ := h
    rfl
  obtain ⟨A, S, q, r, rfl, W, hrow, hq, hk, k⟩ := h
  obtain ⟨dx, fs, pr, h1, _, h2⟩ := W.ob
  refine ⟨_, pss_cons (ps_if (PW.pt (pw_and (pt_cmpR op_eq (pe_ix ix_tup (pv 1) pe_int (fun _ _ => rfl)) pe_str (nomark _)) (pw_and1 (pt_cmpR op_eq (pe_ix ix_list (C8.pe_mt (ok_cell T) hr (by decide) (pv 0) (pa_cons (pv 1) pa_nil)) pe_int (fun _ _ => rfl)) pe_str (nomark _)))))
      (pss_one (ps_ret (pe_ix ix_list (C8.pe_mt (ok_cell T) hr (by decide) (pv 0) (pa_cons (pv 1) pa_nil)) pe_int (fun _ _ => rfl)))) pss_nil)
    (pss_one (ps_ret pe_non)), ?_⟩
  have hcl := (W.rw r hrow).cl
  have hh : head r.c r.vl = [.str "object", .int (r.c.vs.length : Int), .ref r.vl] := by unfold head; rw [hk]
  rw [hh] at hcl
  refine ⟨_, rfl, q, _, _, _, rfl, rfl, hq.sq, at0, rfl, _, rfl, ?_⟩
  rw [dec_ref]
  refine iteT ⟨_, rfl, A.p, dx, fs, rfl, h1, (h2 _).trans (wl_no (by decide +kernel)), _, rfl, A, q, r.a, _, _, rfl, ⟨dx, fs, pr, S.fr, h1, h2⟩, hq, .inl W.ce, row_val W.an hrow, r.cl, _, _, V.str "object", rfl, rfl, SqL.of hcl, rfl, rfl, _, rfl, ?_⟩
  rw [decide_eq_true rfl]
  exact iteT ⟨_, rfl, A.p, dx, fs, rfl, h1, (h2 _).trans (wl_no (by decide +kernel)), _, rfl, A, q, r.a, _, _, rfl, ⟨dx, fs, pr, S.fr, h1, h2⟩, hq, .inl W.ce, row_val W.an hrow, r.cl, _, _, _, rfl, rfl, SqL.of hcl, rfl, k⟩
end
end K4

namespace K4
open PySem PySem.Spec PyProof.Rows L2
/-! ### apartness of a world's objects -/
structure Ap (A : WA) : Prop where
  psh : A.p ≠ A.sh
  pki : A.p ≠ A.ki
  pch : A.p ≠ A.ch
  pwi : A.p ≠ A.wi
  pce : A.p ≠ A.ce
  shki : A.sh ≠ A.ki
  shch : A.sh ≠ A.ch
  shwi : A.sh ≠ A.wi
  shce : A.sh ≠ A.ce
  kich : A.ki ≠ A.ch
  kiwi : A.ki ≠ A.wi
  kice : A.ki ≠ A.ce
  chwi : A.ch ≠ A.wi
  chce : A.ch ≠ A.ce
  wice : A.wi ≠ A.ce
theorem ap_of {A : WA} (h : (hdl A).Nodup) : Ap A := by
  unfold hdl at h
  simp only [List.nodup_cons, List.mem_cons, List.not_mem_nil, or_false, not_or] at h
  obtain ⟨⟨a1, a2, a3, a4, a5⟩, ⟨b1, b2, b3, b4⟩, ⟨c1, c2, c3⟩, ⟨d1, d2⟩, e1, _⟩ := h
  exact ⟨a1, a2, a3, a4, a5, b1, b2, b3, b4, c1, c2, c3, d1, d2, e1⟩
structure NotH (A : WA) (b : Addr) : Prop where
  p : b ≠ A.p
  sh : b ≠ A.sh
  ki : b ≠ A.ki
  ch : b ≠ A.ch
  wi : b ≠ A.wi
  ce : b ≠ A.ce
theorem notH_of {A : WA} {b : Addr} (h : b ∉ hdl A) : NotH A b := by
  unfold hdl at h
  simp only [List.mem_cons, List.not_mem_nil, or_false, not_or] at h
  obtain ⟨a, b, c, d, e, f⟩ := h
  exact ⟨a, b, c, d, e, f⟩
theorem hdl_of {A : WA} {b : Addr} (h : NotH A b) : b ∉ hdl A := by
  unfold hdl
  simp only [List.mem_cons, List.not_mem_nil, or_false, not_or]
  exact ⟨h.p, h.sh, h.ki, h.ch, h.wi, h.ce⟩
theorem own_p {A : WA} {rows : List Row} : Own A rows A.p := .inl (by simp [hdl])
theorem own_sh {A : WA} {rows : List Row} : Own A rows A.sh := .inl (by simp [hdl])
theorem own_ki {A : WA} {rows : List Row} : Own A rows A.ki := .inl (by simp [hdl])
theorem own_ch {A : WA} {rows : List Row} : Own A rows A.ch := .inl (by simp [hdl])
theorem own_wi {A : WA} {rows : List Row} : Own A rows A.wi := .inl (by simp [hdl])
theorem own_ce {A : WA} {rows : List Row} : Own A rows A.ce := .inl (by simp [hdl])
/-- a world stays where other objects change -/
theorem WorldAt.kpO {C : Addr} {H H' : Hp} {A : WA} {S : WS} {O : Addr → Prop} (W : WorldAt C H A S) (nt : NT O H) (k : Kp O H H') (dj : ∀ b, O b → ¬ Own A S.rows b) : WorldAt C H' A S := by
  obtain ⟨dx, fs, pr, h1, h2, h3⟩ := W.ob
  have no : ∀ b, Own A S.rows b → ¬ O b := fun b h z => dj b z h
  exact ⟨⟨dx, fs, pr, k _ _ h1 (no _ own_p), h2, h3⟩, W.sh.kp nt k (no _ own_sh), k _ _ W.ki (no _ own_ki), k _ _ W.ch (no _ own_ch), k _ _ W.wi (no _ own_wi), k _ _ W.ce (no _ own_ce),
    fun r hr => (W.rw r hr).kp nt k (no _ (.inr ⟨r, hr, .inl rfl⟩)) (no _ (.inr ⟨r, hr, .inr rfl⟩)), W.hd, W.rs, W.rr, W.an, W.fr, W.m5, W.wk, W.rn, W.kk⟩
/-- kinds and widened alone are other lists -/
theorem WorldAt.kinds {C : Addr} {H H' : Hp} {A : WA} {S : WS} (W : WorldAt C H A S) {ks : List Bool} {wd : List V} (k : Kp (fun b => b = A.ki ∨ b = A.wi) H H') (e1 : H' A.ki = some (.lst (kiV ks))) (e2 : H' A.wi = some (.lst wd))
    (len : ks.length = S.ki.length) (wk : wd.length + ks.count true ≤ ks.length) (le : ∀ j : Nat, ks[j]? = some true → S.ki[j]? = some true) : WorldAt C H' A { S with ki := ks, wid := wd } := by
  have ap := ap_of W.hd
  have nt : NT (fun b => b = A.ki ∨ b = A.wi) H := fun b hb => W.nt b (hb.elim (fun z => z ▸ own_ki) fun z => z ▸ own_wi)
  obtain ⟨dx, fs, pr, h1, h2, h3⟩ := W.ob
  refine ⟨⟨dx, fs, pr, k _ _ h1 (fun z => z.elim ap.pki ap.pwi), h2, h3⟩, ?_, e1, ?_, e2, k _ _ W.ce (fun z => z.elim ap.kice.symm ap.wice.symm), fun r hr => ?_, W.hd, W.rs, W.rr, W.an, W.fr, ?_, wk, W.rn, fun r hr hk => ?_⟩
  · show ShAt H' A.sh ks.length
    rw [len]
    exact W.sh.kp nt k (fun z => z.elim ap.shki ap.shwi)
  · show H' A.ch = some (.dT (chK ks.length))
    rw [len]
    exact k _ _ W.ch (fun z => z.elim ap.kich.symm ap.chwi)
  · obtain ⟨r1, r2, _⟩ := W.rs r hr
    have n1 := notH_of r1
    have n2 := notH_of r2
    exact (W.rw r hr).kp nt k (fun z => z.elim n1.ki n1.wi) (fun z => z.elim n2.ki n2.wi)
  · show ks.length ≤ 5
    rw [len]
    exact W.m5
  · obtain ⟨a, b⟩ := W.kk r hr hk
    exact ⟨by show _ ≤ ks.length; rw [len]; exact a, fun j v hv ht => b j v hv (le j ht)⟩
section
variable {P : Program} {w : World} {K : PySem.W.Frag} {mg : Str → Option Value} {base : Heap} {CW CD : Addr}
/-! ### World.note -/
theorem kiV_get {ks : List Bool} {j : Nat} {b : Bool} (h : ks[j]? = some b) : atI (kiV ks) ((j : Int) + 1) = some (kS b) := by
  have e : ((j : Int) + 1) = ((j + 1 : Nat) : Int) := by omega
  rw [e]
  refine atI_nat ?_
  show (ks.map kS)[j]? = _
  rw [List.getElem?_map, h]
  rfl
theorem dec_small (b : Bool) : decide (kS b = V.str "small") = b := by
  cases b
  · exact decide_eq_false (by show ¬ (V.str "any" = V.str "small"); intro z; injection z with z; exact absurd z (by decide +kernel))
  · exact decide_eq_true rfl
theorem ixN_nat {n : Nat} {j : Nat} (h : j < n) : ixN n (j : Int) = some j := by
  have z := atI_nat (xs := List.range n) (j := j) (v := j) (by rw [List.getElem?_range h])
  unfold atI at z
  rw [List.length_range] at z
  cases e : ixN n (j : Int) with
  | none => rw [e] at z; cases z
  | some i =>
    rw [e] at z
    have z : (List.range n)[i]? = some j := z
    obtain ⟨_, z2⟩ := List.getElem?_eq_some_iff.mp z
    rw [List.getElem_range] at z2
    rw [z2]
theorem kiV_set (ks : List Bool) (j : Nat) : (kiV ks).set (j + 1) (V.str "any") = kiV (ks.set j false) := by
  show V.str "any" :: (ks.map kS).set j (V.str "any") = V.str "any" :: (ks.set j false).map kS
  rw [List.map_set]
  rfl
theorem count_set : ∀ {ks : List Bool} {j : Nat}, ks[j]? = some true → (ks.set j false).count true + 1 = ks.count true
  | [], _, h => by simp at h
  | b :: r, 0, h => by
    have e := Option.some.inj h
    subst e
    show (false :: r).count true + 1 = (true :: r).count true
    simp
  | b :: r, j + 1, h => by
    have ih := count_set (ks := r) (j := j) h
    show (b :: r.set j false).count true + 1 = (b :: r).count true
    rw [List.count_cons, List.count_cons]
    omega
theorem set_self {α : Type} : ∀ {l : List α} {j : Nat} {x : α}, l[j]? = some x → l.set j x = l
  | [], _, _, h => by simp at h
  | b :: r, 0, x, h => by
    have e := Option.some.inj h
    subst e
    rfl
  | b :: r, j + 1, x, h => by
    show b :: r.set j x = b :: r
    rw [set_self (l := r) (j := j) h]
def spNote (C : Addr) : Sp := fun vs H Q _ => ∃ A S q v b, ∃ j : Nat, vs = [.ref A.p, .int ((j : Int) + 1), .ref q] ∧ WorldAt C H A S ∧ S.ki[j]? = some b ∧ VAt H q v ∧
  ∀ H' wd, WorldAt C H' A { S with ki := S.ki.set j (b && isSm v), wid := wd } → Kp (fun b => b = A.ki ∨ b = A.wi) H H' → Q .non H'
theorem scNote : FnScope ["self", "shape", "value"] ["self", "shape", "value"] (C8.fnScope sNote) := C8.fnScope_by (by decide +kernel)
theorem ok_note (T : Txt K mg CW CD) : C8.Met P w K mg base 2 CW "note" (spNote CW) [] := by
  refine met1 T.cW T.mNote scNote (fun vs H Q E h => ?_) fun f cdv A outer s H vs Q E hr h => ?_
  · obtain ⟨_, _, _, _, _, _, rfl, _⟩ := h
    rfl
  obtain ⟨A, S, q, v, b, j, rfl, W, hb, hq, k⟩ := h
  obtain ⟨dx, fs, pr, h1, hl, h2⟩ := W.ob
  have ap := ap_of W.hd
  have jl : j < S.ki.length := (List.getElem?_eq_some_iff.mp hb).1
  refine ⟨_, pss_one (ps_if (PW.pt (pw_and (pt_cmpR op_eq (pe_ix ix_list (pe_fld (pv 0) rfl) (pv 1) (fun _ _ => rfl)) pe_str (nomark _)) (pw_and1 (pt_not (pt_val (C8.pe_c (ok_small T) hr (by decide) rfl (pa_cons (pv 2) pa_nil)))))))
      (pss_cons (ps_asg pe_str (pg_sub (pe_fld (pv 0) rfl) (pv 1) set_list))
        (pss_one (ps_expr (pe_bm PySem.F.plainAttrs_list PySem.F.slot_list_append PySem.F.type_list_append mt_append (pe_fld (pv 0) rfl) (pa_cons (pv 1) pa_nil))))) pss_nil), ?_⟩
  refine ⟨_, rfl, A.p, CW, dx, fs, _, rfl, h1, T.cW, T.nKi, (h2 _).trans wl_ki, _, rfl, A.ki, _, _, _, rfl, rfl, SqL.of W.ki, kiV_get hb, ?_, _, rfl, ?_⟩
  · cases b <;> rfl
  rw [dec_small]
  have keep : ∀ c, b = c → c = (b && isSm v) → Q .non H := fun c e1 e2 => by
    refine k H S.wid ?_ fun b o e _ => e
    have e3 : S.ki.set j (b && isSm v) = S.ki := set_self (by rw [hb, ← e2, e1])
    rw [e3]
    exact W
  cases hbb : b with
  | false =>
    subst hbb
    exact iteF (keep false rfl rfl)
  | true =>
    subst hbb
    refine iteT ⟨_, rfl, q, v, rfl, hq, _, rfl, ?_⟩
    cases hs : isSm v with
    | true => exact iteF (keep true rfl (by rw [hs]; rfl))
    | false =>
      refine iteT ⟨_, rfl, A.p, CW, dx, fs, _, rfl, h1, T.cW, T.nKi, (h2 _).trans wl_ki, _, rfl, A.ki, _, _, j + 1, rfl, rfl, W.ki, ?_, ?_⟩
      · have e : ((j : Int) + 1) = ((j + 1 : Nat) : Int) := by omega
        rw [e]
        refine ixN_nat ?_
        show j + 1 < (S.ki.map kS).length + 1
        rw [List.length_map]
        omega
      rw [kiV_set]
      have wl : S.wid.length + S.ki.count true ≤ S.ki.length := W.wk
      have m5 := W.m5
      have cs := count_set hb
      have g1 : ∀ x, x ≠ A.ki → (upd H A.ki (.lst (kiV (S.ki.set j false)))) x = H x := fun x hx => upd_ne hx
      refine ⟨_, rfl, A.p, CW, dx, fs, _, rfl, (g1 _ ap.pki).trans h1, T.cW, T.nWi, (h2 _).trans wl_wi, .inl ⟨rfl, _, SqL.of ((g1 _ ap.kiwi.symm).trans W.wi)⟩, _, rfl, A.wi, _, _, rfl, rfl, (g1 _ ap.kiwi.symm).trans W.wi, small1000 (by omega), ?_⟩
      refine k _ (S.wid ++ [.int ((j : Int) + 1)]) ?_ (kp_upd (kp_upd (fun b o e _ => e) (.inl rfl)) (.inr rfl))
      rw [hs]
      show WorldAt CW _ A { S with ki := S.ki.set j false, wid := S.wid ++ [.int ((j : Int) + 1)] }
      refine W.kinds (kp_upd (kp_upd (fun b o e _ => e) (.inl rfl)) (.inr rfl)) (by rw [upd_ne ap.kiwi, upd_same]) upd_same (List.length_set ..) ?_ fun i hi => ?_
      · rw [List.length_append, List.length_singleton, List.length_set]
        omega
      · by_cases e : j = i
        · subst e
          rw [List.getElem?_set_self jl] at hi
          cases hi
        · rw [List.getElem?_set_ne e] at hi
          exact hi
/-! ### World.grown -/
theorem valV_app {κ : Type} [DecidableEq κ] (k : κ) : ∀ (l r : List (κ × V)), valV (l ++ r) k = (valV l k).or (valV r k)
  | [], r => rfl
  | p :: l, r => by
    by_cases e : p.1 = k
    · rw [List.cons_append, valV_pos e, valV_pos e]
      rfl
    · rw [List.cons_append, valV_neg e, valV_neg e]
      exact valV_app k l r
theorem chK_succ (m : Nat) : chK (m + 1) = chK m ++ [([Sum.inl (m : Int), Sum.inr (nm m)], V.int ((m : Int) + 1))] := by
  unfold chK
  rw [List.range_succ, List.map_append]
  rfl
theorem chK_len (m : Nat) : (chK m).length = m := by unfold chK; rw [List.length_map, List.length_range]
abbrev keyOf (i : Nat) : List Key := [Sum.inl (i : Int), Sum.inr (nm i)]
theorem keyOf_ne {i j : Nat} (h : i ≠ j) : keyOf i ≠ keyOf j := fun z => by
  injection z with z _
  injection z with z
  omega
theorem chK_none {i : Nat} : ∀ {m : Nat}, m ≤ i → valV (chK m) (keyOf i) = none
  | 0, _ => rfl
  | m + 1, h => by
    rw [chK_succ, valV_app, chK_none (m := m) (by omega), valV_neg (fun z => keyOf_ne (by omega) z)]
    rfl
theorem chK_some {i : Nat} : ∀ {m : Nat}, i < m → valV (chK m) (keyOf i) = some (.int ((i : Int) + 1))
  | m + 1, h => by
    rw [chK_succ, valV_app]
    by_cases e : i < m
    · rw [chK_some e]
      rfl
    · have e' : i = m := by omega
      subst e'
      rw [chK_none (Nat.le_refl _), valV_pos rfl]
      rfl
theorem WorldAt.grown {C : Addr} {H H' : Hp} {A : WA} {S : WS} (W : WorldAt C H A S) {b : Bool} (k : Kp (fun b => b = A.sh ∨ b = A.ki ∨ b = A.ch) H H') (e1 : H' A.ki = some (.lst (kiV (S.ki ++ [b])))) (e2 : ShAt H' A.sh (S.ki.length + 1))
    (e3 : H' A.ch = some (.dT (chK (S.ki.length + 1)))) (m5 : S.ki.length < 5) : WorldAt C H' A { S with ki := S.ki ++ [b] } := by
  have ap := ap_of W.hd
  have nt : NT (fun b => b = A.sh ∨ b = A.ki ∨ b = A.ch) H := fun b hb => W.nt b (by rcases hb with rfl | rfl | rfl <;> first | exact own_sh | exact own_ki | exact own_ch)
  obtain ⟨dx, fs, pr, h1, h2, h3⟩ := W.ob
  have len : (S.ki ++ [b]).length = S.ki.length + 1 := by rw [List.length_append, List.length_singleton]
  refine ⟨⟨dx, fs, pr, k _ _ h1 ?_, h2, h3⟩, ?_, e1, ?_, k _ _ W.wi ?_, k _ _ W.ce ?_, fun r hr => ?_, W.hd, W.rs, W.rr, W.an, W.fr, ?_, ?_, W.rn, fun r hr hk => ?_⟩
  · rintro (z | z | z) <;> first | exact ap.psh z | exact ap.pki z | exact ap.pch z
  · show ShAt H' A.sh (S.ki ++ [b]).length
    rw [len]
    exact e2
  · show H' A.ch = some (.dT (chK (S.ki ++ [b]).length))
    rw [len]
    exact e3
  · rintro (z | z | z) <;> first | exact ap.shwi z.symm | exact ap.kiwi z.symm | exact ap.chwi z.symm
  · rintro (z | z | z) <;> first | exact ap.shce z.symm | exact ap.kice z.symm | exact ap.chce z.symm
  · obtain ⟨r1, r2, _⟩ := W.rs r hr
    have n1 := notH_of r1
    have n2 := notH_of r2
    refine (W.rw r hr).kp nt k ?_ ?_
    · rintro (z | z | z) <;> first | exact n1.sh z | exact n1.ki z | exact n1.ch z
    · rintro (z | z | z) <;> first | exact n2.sh z | exact n2.ki z | exact n2.ch z
  · show (S.ki ++ [b]).length ≤ 5
    omega
  · show S.wid.length + (S.ki ++ [b]).count true ≤ (S.ki ++ [b]).length
    have := W.wk
    have : [b].count true ≤ 1 := by cases b <;> decide
    rw [List.count_append]
    omega
  · obtain ⟨x, y⟩ := W.kk r hr hk
    refine ⟨by show _ ≤ (S.ki ++ [b]).length; omega, fun j v hv ht => y j v hv ?_⟩
    have hj : j < r.c.vs.length := (List.getElem?_eq_some_iff.mp hv).1
    have ht : (S.ki ++ [b])[j]? = some true := ht
    rw [List.getElem?_append_left (by omega)] at ht
    exact ht
def grK (ks : List Bool) (i : Nat) (v : Vl) : List Bool := if i < ks.length then ks else ks ++ [isSm v]
def spGrown (C : Addr) : Sp := fun vs H Q _ => ∃ A S q v, ∃ i : Nat, vs = [.ref A.p, .int (i : Int), .str (nm i), .ref q] ∧ WorldAt C H A S ∧ VAt H q v ∧ i ≤ S.ki.length ∧ i < 5 ∧
  ∀ H', WorldAt C H' A { S with ki := grK S.ki i v } → Kp (fun b => b = A.sh ∨ b = A.ki ∨ b = A.ch) H H' → Q (.int ((i : Int) + 1)) H'
theorem scGrown : FnScope ["self", "shape", "name", "value", "key"] ["self", "shape", "name", "value"] (C8.fnScope sGrown) := C8.fnScope_by (by decide +kernel)
theorem ok_grown (T : Txt K mg CW CD) : C8.Met P w K mg base 2 CW "grown" (spGrown CW) [] := by
  refine met1 T.cW T.mGrown scGrown (fun vs H Q E h => ?_) fun f cdv A outer s H vs Q E hr h => ?_
  · obtain ⟨_, _, _, _, _, rfl, _⟩ := h
    rfl
  obtain ⟨A, S, q, v, i, rfl, W, hq, hi, h5, k⟩ := h
  obtain ⟨dx, fs, pr, h1, hl, h2⟩ := W.ob
  have ap := ap_of W.hd
  have hu := hu_of hr
  refine ⟨_, pss_cons (ps_set (i := 4) scGrown.nd rfl (Or.inl rfl) (pe_tup (pa_cons (pv 1) (pa_cons (pv 2) pa_nil))))
    (pss_cons (ps_if (pt_cmp (pc_dnotin hu (pv 4) (pe_fld (pv 0) rfl)))
      (pss_cons (ps_dput hu (pe_fld (pv 0) rfl) (pv 4) (pe_callB call_len_seq rfl T.zLen PySem.boot_len (pa_cons (pe_fld (pv 0) rfl) pa_nil)) rfl)
      (pss_cons (ps_expr (pe_bm PySem.F.plainAttrs_list PySem.F.slot_list_append PySem.F.type_list_append mt_append (pe_fld (pv 0) rfl) (pa_cons (pe_tup (pa_cons (pv 1) (pa_cons (pv 2) (pa_cons (pe_op op_add (pe_ix ix_tup (pe_ix ix_list (pe_fld (pv 0) rfl) (pv 1) (fun _ _ => rfl)) pe_int (fun _ _ => rfl)) pe_int) pa_nil)))) pa_nil)))
      (pss_one (ps_expr (pe_bm PySem.F.plainAttrs_list PySem.F.slot_list_append PySem.F.type_list_append mt_append (pe_fld (pv 0) rfl) (pa_cons (pe_ifExp (pt_val (C8.pe_c (ok_small T) hr (by decide) rfl (pa_cons (pv 3) pa_nil))) pe_str pe_str) pa_nil)))))) pss_nil)
    (pss_one (ps_ret (pe_dget hu (pe_fld (pv 0) rfl) (pv 4) (fun _ _ => rfl))))), ?_⟩
  refine ⟨_, rfl, _, rfl, by show 2 ≤ sizeLine; decide, fun t ht => ?_⟩
  have s1 : Same H (upd H t (.tup [V.int (i : Int), V.str (nm i)])) := same_new ht _
  have W1 := W.same s1
  have t1 : (upd H t (.tup [V.int (i : Int), V.str (nm i)])) t = some (.tup ((keyOf i).map kV)) := upd_same
  show ∃ v, _
  refine ⟨_, rfl, _, rfl, A.p, CW, dx, fs, _, rfl, s1 _ _ h1, T.cW, T.nCh, (h2 _).trans wl_ch, A.ch, _, rfl, DGet.t (k := keyOf i) W1.ch t1, _, rfl, ?_⟩
  by_cases e : i < S.ki.length
  · rw [chK_some e]
    refine iteF ⟨_, rfl, A.p, CW, dx, fs, _, rfl, s1 _ _ h1, T.cW, T.nCh, (h2 _).trans wl_ch, _, rfl, A.ch, .int ((i : Int) + 1), rfl, ?_, ?_⟩
    · have z := DGet.t (k := keyOf i) W1.ch t1
      rw [chK_some e] at z
      exact z
    · refine k _ ?_ (Same.kp s1)
      unfold grK
      rw [if_pos e]
      exact W1
  · have ei : i = S.ki.length := by omega
    subst ei
    rw [chK_none (Nat.le_refl _)]
    obtain ⟨qs, g1, g2, g3⟩ := W1.sh
    have lq : (qs.map V.ref).length = S.ki.length + 1 := by rw [List.length_map, g2]
    refine iteT ⟨_, rfl, A.p, CW, dx, fs, _, rfl, s1 _ _ h1, T.cW, T.nSh, (h2 _).trans wl_sh, A.sh, _, rfl, .inl (SqL.of g1), _, rfl, A.p, CW, dx, fs, _, rfl, s1 _ _ h1, T.cW, T.nCh, (h2 _).trans wl_ch, _, rfl, A.ch, _, rfl, DPut.t (k := keyOf S.ki.length) W1.ch t1 (by rw [chK_len]; exact small1000 (by omega)), ?_⟩
    rw [putK_new _ (chK_none (Nat.le_refl _)), lq]
    have ec : chK S.ki.length ++ [(keyOf S.ki.length, V.int ((S.ki.length + 1 : Nat) : Int))] = chK (S.ki.length + 1) := by
      rw [chK_succ]
      rfl
    rw [ec]
    have tne : ∀ o, H t = none → ∀ b, H b = some o → b ≠ t := fun o e b hb z => by subst z; rw [e] at hb; cases hb
    generalize eH1 : upd H t (.tup [V.int (S.ki.length : Int), V.str (nm S.ki.length)]) = H1 at *
    generalize eH2 : upd H1 A.ch (.dT (chK (S.ki.length + 1))) = H2
    have n2 : ∀ x, x ≠ A.ch → H2 x = H1 x := fun x hx => by rw [← eH2, upd_ne hx]
    have c2 : H2 A.ch = some (.dT (chK (S.ki.length + 1))) := by rw [← eH2, upd_same]
    have tch : t ≠ A.ch := fun z => by rw [z, W1.ch] at t1; cases t1
    have h12 : H2 A.p = some (.ins CW dx fs) := (n2 _ ap.pch).trans (s1 _ _ h1)
    obtain ⟨q', k1, k2⟩ : ∃ q', qs[S.ki.length]? = some q' ∧ H1 q' = some (.tup (shT S.ki.length)) := ⟨qs[S.ki.length], List.getElem?_eq_getElem (by omega), g3 _ _ (List.getElem?_eq_getElem (by omega))⟩
    have q'ch : q' ≠ A.ch := fun z => by rw [z, W1.ch] at k2; cases k2
    have e3 : ((S.ki.length : Int) - 1 + 1) = (S.ki.length : Int) := by omega
    refine ⟨_, rfl, A.p, CW, dx, fs, _, rfl, h12, T.cW, T.nSh, (h2 _).trans wl_sh, .inl ⟨rfl, _, SqL.of ((n2 _ ap.shch).trans g1)⟩, _, rfl, _, rfl, _, rfl, A.p, CW, dx, fs, _, rfl, h12, T.cW, T.nSh, (h2 _).trans wl_sh, _, rfl, A.sh, _, _, _, rfl, rfl, SqL.of ((n2 _ ap.shch).trans g1), atI_nat (map_get k1), q', _, _, _, rfl, rfl, SqT.of ((n2 _ q'ch).trans k2), shT2 _, _, _, rfl, rfl, ?_⟩
    refine ⟨by show 3 ≤ sizeLine; decide, fun u hu' => ?_⟩
    let H3 : Hp := upd H2 u (.tup [V.int (S.ki.length : Int), V.str (nm S.ki.length), V.int ((S.ki.length : Int) - 1 + 1)])
    have s3 : Same H2 H3 := same_new hu' _
    have g13 := s3 _ _ ((n2 _ ap.shch).trans g1)
    refine ⟨A.sh, _, _, rfl, rfl, g13, by rw [lq]; exact small1000 (by omega), ?_⟩
    let H4 : Hp := upd H3 A.sh (.lst (qs.map V.ref ++ [V.ref u]))
    have n4 : ∀ x, x ≠ A.sh → H4 x = H3 x := fun x hx => upd_ne hx
    have h14 : H4 A.p = some (.ins CW dx fs) := (n4 _ ap.psh).trans (s3 _ _ h12)
    have ki4 : H4 A.ki = some (.lst (kiV S.ki)) := (n4 _ ap.shki.symm).trans (s3 _ _ ((n2 _ ap.kich).trans W1.ki))
    have nt := W.nt
    have q4 : VAt H4 q v := by
      have a1 : q ≠ A.ch := fun z => by have z2 := W.ch; rw [← z, hq] at z2; cases z2
      have a2 : q ≠ A.sh := fun z => by obtain ⟨qs', z2, _⟩ := W.sh; rw [← z, hq] at z2; cases z2
      show H4 q = _
      rw [n4 _ a2]
      refine s3 _ _ ?_
      rw [n2 _ a1]
      exact s1 _ _ hq
    refine ⟨_, rfl, A.p, CW, dx, fs, _, rfl, h14, T.cW, T.nKi, (h2 _).trans wl_ki, .inl ⟨rfl, _, SqL.of ki4⟩, _, rfl, q, v, rfl, q4, _, rfl, ?_⟩
    have lk : (kiV S.ki).length < sizeLine := by
      show (S.ki.map kS).length + 1 < sizeLine
      rw [List.length_map]
      exact small1000 (by omega)
    have keep : Kp (fun b => b = A.sh ∨ b = A.ki ∨ b = A.ch) H H4 := fun b o e hb => by
      rw [n4 _ (fun z => hb (.inl z))]
      refine s3 _ _ ?_
      rw [n2 _ (fun z => hb (.inr (.inr z)))]
      exact s1 _ _ e
    have fin : ∀ b : Bool, isSm v = b → WorldAt CW (upd H4 A.ki (.lst (kiV S.ki ++ [kS b]))) A { S with ki := S.ki ++ [b] } ∧ (upd H4 A.ki (.lst (kiV S.ki ++ [kS b]))) t = some (.tup ((keyOf S.ki.length).map kV)) ∧ (upd H4 A.ki (.lst (kiV S.ki ++ [kS b]))) A.p = some (.ins CW dx fs) := fun b hb => by
      refine ⟨?_, ?_, ?_⟩
      · refine W.grown (kp_upd keep (.inr (.inl rfl))) ?_ ?_ ?_ h5
        · rw [upd_same]
          show some (HO.lst (V.str "any" :: (S.ki.map kS ++ [kS b]))) = some (HO.lst (V.str "any" :: (S.ki ++ [b]).map kS))
          rw [List.map_append]
          rfl
        · refine ⟨qs ++ [u], ?_, ?_, fun i q2 hq2 => ?_⟩
          · rw [upd_ne ap.shki]
            show (upd H3 A.sh _) A.sh = _
            rw [upd_same, List.map_append]
            rfl
          · rw [List.length_append, g2]
            rfl
          · by_cases e : i < S.ki.length + 1
            · rw [List.getElem?_append_left (by omega)] at hq2
              have z := g3 _ _ hq2
              have z1 : q2 ≠ A.ki := fun z2 => by rw [z2, W1.ki] at z; cases z
              have z2 : q2 ≠ A.sh := fun z2 => by rw [z2, g1] at z; cases z
              have z3 : q2 ≠ A.ch := fun z2 => by rw [z2, W1.ch] at z; cases z
              rw [upd_ne z1, n4 _ z2]
              refine s3 _ _ ?_
              rw [n2 _ z3]
              exact z
            · rw [List.getElem?_append_right (by omega)] at hq2
              have il : i - qs.length = 0 := by
                have := (List.getElem?_eq_some_iff.mp hq2).1
                rw [List.length_singleton] at this
                omega
              rw [il] at hq2
              have e5 : u = q2 := Option.some.inj hq2
              subst e5
              have e6 : i = S.ki.length + 1 := by omega
              subst e6
              have hu3 : H3 u = some (.tup (shT (S.ki.length + 1))) := by
                show (upd H2 u _) u = _
                rw [upd_same, e3]
                rfl
              have z1 : u ≠ A.ki := fun z2 => by
                have z := s3 _ _ ((n2 _ ap.kich).trans W1.ki)
                rw [← z2, hu3] at z
                cases z
              have z2 : u ≠ A.sh := fun z2 => by
                rw [← z2, hu3] at g13
                cases g13
              rw [upd_ne z1, n4 _ z2]
              exact hu3
        · rw [upd_ne ap.kich.symm, n4 _ ap.shch.symm]
          exact s3 _ _ c2
      · have z1 : t ≠ A.ki := fun z => by have z2 := W1.ki; rw [← z, t1] at z2; cases z2
        have z2 : t ≠ A.sh := fun z => by rw [← z, t1] at g1; cases g1
        rw [upd_ne z1, n4 _ z2]
        refine s3 _ _ ?_
        rw [n2 _ tch]
        exact t1
      · rw [upd_ne ap.pki]
        exact h14
    have last : ∀ b : Bool, isSm v = b → ∀ H5, WorldAt CW H5 A { S with ki := S.ki ++ [b] } → Kp (fun b => b = A.sh ∨ b = A.ki ∨ b = A.ch) H H5 → H5 t = some (.tup ((keyOf S.ki.length).map kV)) → DGet H5 A.ch (.ref t) (some (.int ((S.ki.length : Int) + 1))) ∧ Q (.int ((S.ki.length : Int) + 1)) H5 := fun b hb H5 w5 k5 t5 => by
      refine ⟨?_, k H5 ?_ k5⟩
      · have z := DGet.t (k := keyOf S.ki.length) w5.ch t5
        have e : chK (S.ki ++ [b]).length = chK (S.ki.length + 1) := by rw [List.length_append, List.length_singleton]
        have z : DGet H5 A.ch (.ref t) (valV (chK (S.ki ++ [b]).length) (keyOf S.ki.length)) := z
        rw [e, chK_some (by omega)] at z
        exact z
      · unfold grK
        rw [if_neg (Nat.lt_irrefl _), hb]
        exact w5
    cases hsm : isSm v with
    | true =>
      obtain ⟨w5, t5, p5⟩ := fin true hsm
      obtain ⟨d, z⟩ := last true hsm _ w5 (kp_upd keep (.inr (.inl rfl))) t5
      exact iteT ⟨A.ki, _, _, rfl, rfl, ki4, lk, _, rfl, A.p, CW, dx, fs, _, rfl, p5, T.cW, T.nCh, (h2 _).trans wl_ch, _, rfl, A.ch, _, rfl, d, z⟩
    | false =>
      obtain ⟨w5, t5, p5⟩ := fin false hsm
      obtain ⟨d, z⟩ := last false hsm _ w5 (kp_upd keep (.inr (.inl rfl))) t5
      exact iteF ⟨A.ki, _, _, rfl, rfl, ki4, lk, _, rfl, A.p, CW, dx, fs, _, rfl, p5, T.cW, T.nCh, (h2 _).trans wl_ch, _, rfl, A.ch, _, rfl, d, z⟩
end
end K4

namespace K4
open PySem PySem.Spec PyProof.Rows L2
/-! ### one row is another -/
def updC (rows : List Row) (a : Int) (c : Cl) : List Row := rows.map fun x => if x.a = a then { x with c := c } else x
theorem updC_mem {rows : List Row} {a : Int} {c : Cl} {x : Row} (h : x ∈ updC rows a c) : ∃ y ∈ rows, x.a = y.a ∧ x.cl = y.cl ∧ x.vl = y.vl ∧ ((y.a = a ∧ x.c = c) ∨ (y.a ≠ a ∧ x = y)) := by
  obtain ⟨y, hy, e⟩ := List.mem_map.mp h
  refine ⟨y, hy, ?_⟩
  by_cases q : y.a = a
  · rw [if_pos q] at e
    subst e
    exact ⟨rfl, rfl, rfl, .inl ⟨q, rfl⟩⟩
  · rw [if_neg q] at e
    subst e
    exact ⟨rfl, rfl, rfl, .inr ⟨q, rfl⟩⟩
theorem updC_ce (rows : List Row) (a : Int) (c : Cl) : ceK (updC rows a c) = ceK rows := by
  unfold ceK updC
  rw [List.map_map]
  refine List.map_congr_left fun x _ => ?_
  show (Sum.inl (if x.a = a then ({ x with c := c } : Row) else x).a, V.ref (if x.a = a then ({ x with c := c } : Row) else x).cl) = (Sum.inl x.a, V.ref x.cl)
  split <;> rfl
theorem updC_as (rows : List Row) (a : Int) (c : Cl) : (updC rows a c).map (·.a) = rows.map (·.a) := by
  unfold updC
  rw [List.map_map]
  refine List.map_congr_left fun x _ => ?_
  show (if x.a = a then ({ x with c := c } : Row) else x).a = x.a
  split <;> rfl
theorem updC_own {A : WA} {rows : List Row} {a : Int} {c : Cl} {b : Addr} : Own A (updC rows a c) b ↔ Own A rows b := by
  constructor
  · rintro (h | ⟨x, hx, h⟩)
    · exact .inl h
    · obtain ⟨y, hy, _, e1, e2, _⟩ := updC_mem hx
      exact .inr ⟨y, hy, by rw [← e1, ← e2]; exact h⟩
  · rintro (h | ⟨y, hy, h⟩)
    · exact .inl h
    · refine .inr ⟨_, List.mem_map.mpr ⟨y, hy, rfl⟩, ?_⟩
      split <;> exact h
theorem nd_row {rows : List Row} (nd : (rows.map (·.a)).Nodup) {x y : Row} (hx : x ∈ rows) (hy : y ∈ rows) (e : x.a = y.a) : x = y := by
  obtain ⟨i, hi⟩ := List.getElem?_of_mem hx
  obtain ⟨j, hj⟩ := List.getElem?_of_mem hy
  have e1 : (rows.map (·.a))[i]? = some x.a := by rw [List.getElem?_map, hi]; rfl
  have e2 : (rows.map (·.a))[j]? = some x.a := by rw [List.getElem?_map, hj, e]; rfl
  have z := nd_ix nd e1 e2
  subst z
  rw [hi] at hj
  exact Option.some.inj hj
theorem WorldAt.row {C : Addr} {H H' : Hp} {A : WA} {S : WS} (W : WorldAt C H A S) {r : Row} (hr : r ∈ S.rows) {c : Cl} (k : Kp (fun b => b = r.cl ∨ b = r.vl) H H') (R : RowAt H' { r with c := c })
    (kk : c.kind = .obj → c.vs.length ≤ S.ki.length ∧ ∀ (k : Nat) (v : Vl), c.vs[k]? = some v → S.ki[k]? = some true → isSm v = true) : WorldAt C H' A { S with rows := updC S.rows r.a c } := by
  obtain ⟨r1, r2, r3⟩ := W.rs r hr
  have n1 := notH_of r1
  have n2 := notH_of r2
  have nt : NT (fun b => b = r.cl ∨ b = r.vl) H := fun b hb => W.nt b (.inr ⟨r, hr, hb⟩)
  obtain ⟨dx, fs, pr, h1, h2, h3⟩ := W.ob
  refine ⟨⟨dx, fs, pr, k _ _ h1 ?_, h2, h3⟩, W.sh.kp nt k ?_, k _ _ W.ki ?_, k _ _ W.ch ?_, k _ _ W.wi ?_, ?_, fun x hx => ?_, W.hd, fun x hx => ?_, fun x hx x' hx' ne => ?_, ?_, ⟨W.fr.1, fun x hx => ?_⟩, W.m5, W.wk, ?_, fun x hx hk => ?_⟩
  · exact fun z => z.elim (fun z => n1.p z.symm) fun z => n2.p z.symm
  · exact fun z => z.elim (fun z => n1.sh z.symm) fun z => n2.sh z.symm
  · exact fun z => z.elim (fun z => n1.ki z.symm) fun z => n2.ki z.symm
  · exact fun z => z.elim (fun z => n1.ch z.symm) fun z => n2.ch z.symm
  · exact fun z => z.elim (fun z => n1.wi z.symm) fun z => n2.wi z.symm
  · show H' A.ce = some (.dK (ceK (updC S.rows r.a c)))
    rw [updC_ce]
    exact k _ _ W.ce fun z => z.elim (fun z => n1.ce z.symm) fun z => n2.ce z.symm
  · obtain ⟨y, hy, e1, e2, e3, h | ⟨h, rfl⟩⟩ := updC_mem hx
    · have z := nd_row W.an hy hr h.1
      subst z
      have R2 : RowAt H' ⟨x.a, x.c, x.cl, x.vl⟩ := by
        rw [h.2, e1, e2, e3]
        exact R
      exact R2
    · obtain ⟨a1, a2, a3⟩ := W.rr x hy r hr h
      obtain ⟨b1, b2, b3⟩ := W.rr r hr x hy (Ne.symm h)
      exact (W.rw x hy).kp nt k (fun z => z.elim a1 a2) fun z => z.elim (fun z => b2 z.symm) a3
  · obtain ⟨y, hy, e1, e2, e3, _⟩ := updC_mem hx
    rw [e2, e3]
    exact W.rs y hy
  · obtain ⟨y, hy, e1, e2, e3, _⟩ := updC_mem hx
    obtain ⟨y', hy', f1, f2, f3, _⟩ := updC_mem hx'
    rw [e2, e3, f2, f3]
    exact W.rr y hy y' hy' (by rw [← e1, ← f1]; exact ne)
  · show ((updC S.rows r.a c).map (·.a)).Nodup
    rw [updC_as]
    exact W.an
  · obtain ⟨y, hy, e1, _⟩ := updC_mem hx
    rw [e1]
    exact W.fr.2 y hy
  · show (updC S.rows r.a c).length ≤ 200
    unfold updC
    rw [List.length_map]
    exact W.rn
  · obtain ⟨y, hy, _, _, _, h | ⟨h, rfl⟩⟩ := updC_mem hx
    · rw [h.2] at hk ⊢
      exact kk hk
    · exact W.kk x hy hk
/-! ### one row more -/
def addR (S : WS) (c : Cl) (cl vl : Addr) : WS := { S with rows := S.rows ++ [⟨S.fr, c, cl, vl⟩], fr := S.fr + 1 }
def kkOf (ks : List Bool) (c : Cl) : Prop := c.kind = .obj → c.vs.length ≤ ks.length ∧ ∀ (k : Nat) (v : Vl), c.vs[k]? = some v → ks[k]? = some true → isSm v = true
theorem ceK_app (a b : List Row) : ceK (a ++ b) = ceK a ++ ceK b := by unfold ceK; rw [List.map_append]
theorem WorldAt.add {C : Addr} {H H' : Hp} {A : WA} {S : WS} (W : WorldAt C H A S) {c : Cl} {cl vl : Addr} (k : Kp (fun b => b = A.p ∨ b = A.ce) H H')
    (ob : ∃ dx fs pr, H' A.p = some (.ins C dx fs) ∧ fs.length ≤ 20 ∧ ∀ g, fs.lookup g = wl A (S.fr + 1) pr g) (ce : H' A.ce = some (.dK (ceK S.rows ++ [(Sum.inl S.fr, V.ref cl)]))) (R : RowAt H' ⟨S.fr, c, cl, vl⟩)
    (hc : H cl = none) (hv : ¬ Own A S.rows vl) (hcv : cl ≠ vl) (kk : kkOf S.ki c) (rn : S.rows.length < 200) : WorldAt C H' A (addR S c cl vl) := by
  have ap := ap_of W.hd
  have nt : NT (fun b => b = A.p ∨ b = A.ce) H := fun b hb => W.nt b (hb.elim (fun z => z ▸ own_p) fun z => z ▸ own_ce)
  have ne : ∀ b o, H b = some o → b ≠ cl := fun b o e z => by subst z; rw [hc] at e; cases e
  have clH : NotH A cl := by
    obtain ⟨dx, fs, pr, h1, _⟩ := W.ob
    obtain ⟨qs, h2, _⟩ := W.sh
    exact ⟨(ne _ _ h1).symm, (ne _ _ h2).symm, (ne _ _ W.ki).symm, (ne _ _ W.ch).symm, (ne _ _ W.wi).symm, (ne _ _ W.ce).symm⟩
  have fresh : ∀ r ∈ S.rows, r.a ≠ S.fr := fun r hr z => by have := (W.fr.2 r hr).2; omega
  have mem : ∀ x ∈ (addR S c cl vl).rows, x ∈ S.rows ∨ x = ⟨S.fr, c, cl, vl⟩ := fun x hx => (List.mem_append.mp hx).imp (fun h => h) List.mem_singleton.mp
  refine ⟨ob, W.sh.kp nt k ?_, k _ _ W.ki ?_, k _ _ W.ch ?_, k _ _ W.wi ?_, ?_, fun x hx => ?_, W.hd, fun x hx => ?_, fun x hx x' hx' nxa => ?_, ?_, ⟨?_, fun x hx => ?_⟩, W.m5, W.wk, ?_, fun x hx hk => ?_⟩
  · exact fun z => z.elim ap.psh.symm ap.shce
  · exact fun z => z.elim ap.pki.symm ap.kice
  · exact fun z => z.elim ap.pch.symm ap.chce
  · exact fun z => z.elim ap.pwi.symm ap.wice
  · show H' A.ce = some (.dK (ceK (S.rows ++ [(⟨S.fr, c, cl, vl⟩ : Row)])))
    rw [ceK_app]
    exact ce
  · rcases mem x hx with h | rfl
    · obtain ⟨r1, r2, _⟩ := W.rs x h
      have n1 := notH_of r1
      have n2 := notH_of r2
      exact (W.rw x h).kp nt k (fun z => z.elim n1.p n1.ce) fun z => z.elim n2.p n2.ce
    · exact R
  · rcases mem x hx with h | rfl
    · exact W.rs x h
    · exact ⟨hdl_of clH, fun z => hv (.inl z), hcv⟩
  · rcases mem x hx with h | rfl
    · rcases mem x' hx' with h' | rfl
      · exact W.rr x h x' h' nxa
      · obtain ⟨ps, g, _⟩ := (W.rw x h).vl
        exact ⟨ne _ _ (W.rw x h).cl, fun z => hv (.inr ⟨x, h, .inl z.symm⟩), fun z => hv (.inr ⟨x, h, .inr z.symm⟩)⟩
    · rcases mem x' hx' with h' | rfl
      · obtain ⟨ps, g, _⟩ := (W.rw x' h').vl
        exact ⟨(ne _ _ (W.rw x' h').cl).symm, (ne _ _ g).symm, fun z => hv (.inr ⟨x', h', .inr z⟩)⟩
      · exact absurd rfl nxa
  · show ((S.rows ++ [(⟨S.fr, c, cl, vl⟩ : Row)]).map (·.a)).Nodup
    rw [List.map_append]
    refine nd_snoc W.an fun z => ?_
    obtain ⟨r, hr, e⟩ := List.mem_map.mp z
    exact fresh r hr e
  · show 0 ≤ S.fr + 1
    have := W.fr.1
    omega
  · show 0 ≤ x.a ∧ x.a < S.fr + 1
    rcases mem x hx with h | rfl
    · have := W.fr.2 x h
      omega
    · have := W.fr.1
      show 0 ≤ S.fr ∧ S.fr < S.fr + 1
      omega
  · show (S.rows ++ [(⟨S.fr, c, cl, vl⟩ : Row)]).length ≤ 200
    rw [List.length_append, List.length_singleton]
    omega
  · rcases mem x hx with h | rfl
    · exact W.kk x h hk
    · exact kk hk
section
variable {P : Program} {w : World} {K : PySem.W.Frag} {mg : Str → Option Value} {base : Heap} {CW CD : Addr}
/-! ### World.grow -/
theorem ix1 {n : Nat} (h : 1 < n) : ixN n (1 : Int) = some 1 := ixN_nat (j := 1) h
theorem head_obj {c : Cl} {vl : Addr} (h : c.kind = .obj) : head c vl = [.str "object", .int (c.vs.length : Int), .ref vl] := by unfold head; rw [h]
def more (c : Cl) (v : Vl) : Cl := { c with vs := c.vs ++ [v] }
def spGrow (C : Addr) : Sp := fun vs H Q _ => ∃ A S q t r v, vs = [.ref A.p, .ref q, .int ((r.c.vs.length : Int) + 1), .ref t] ∧ WorldAt C H A S ∧ r ∈ S.rows ∧ VAt H q (.ref r.a) ∧ VAt H t v ∧ r.c.kind = .obj ∧ r.c.vs.length < S.ki.length ∧
  ∀ H' S', WorldAt C H' A S' → S'.rows = updC S.rows r.a (more r.c v) → S'.fr = S.fr → Kp (Own A S.rows) H H' → Q .non H'
theorem scGrow : FnScope ["self", "value", "shape", "told", "cell"] ["self", "value", "shape", "told"] (C8.fnScope sGrow) := C8.fnScope_by (by decide +kernel)
theorem ok_grow (T : Txt K mg CW CD) : C8.Met P w K mg base 3 CW "grow" (spGrow CW) [] := by
  refine met1 T.cW T.mGrow scGrow (fun vs H Q E h => ?_) fun f cdv A outer s H vs Q E hr h => ?_
  · obtain ⟨_, _, _, _, _, _, rfl, _⟩ := h
    rfl
  obtain ⟨A, S, q, t, r, v, rfl, W, hrow, hq, ht, hk, hlt, k⟩ := h
  obtain ⟨dx, fs, pr, h1, hl, h2⟩ := W.ob
  refine ⟨_, pss_cons (ps_set (i := 4) scGrow.nd rfl (Or.inl rfl) (C8.pe_mt (ok_cell T) hr (by decide) (pv 0) (pa_cons (pv 1) pa_nil)))
    (pss_cons (ps_expr (C8.pe_mt (ok_note T) hr (by decide) (pv 0) (pa_cons (pv 2) (pa_cons (pv 3) pa_nil))))
    (pss_cons (ps_asg (pv 2) (pg_sub (pv 4) pe_int set_list))
    (pss_one (ps_expr (pe_bm PySem.F.plainAttrs_list PySem.F.slot_list_append PySem.F.type_list_append mt_append (pe_ix ix_list (pv 4) pe_int (fun _ _ => rfl)) (pa_cons (pv 3) pa_nil)))))), ?_⟩
  obtain ⟨b, hb⟩ : ∃ b, S.ki[r.c.vs.length]? = some b := ⟨_, List.getElem?_eq_getElem hlt⟩
  refine ⟨_, rfl, A.p, dx, fs, rfl, h1, (h2 _).trans (wl_no (by decide +kernel)), _, rfl, A, q, r.a, _, _, rfl, ⟨dx, fs, pr, S.fr, h1, h2⟩, hq, .inl W.ce, row_val W.an hrow, ?_⟩
  refine ⟨_, rfl, A.p, dx, fs, rfl, h1, (h2 _).trans (wl_no (by decide +kernel)), _, rfl, _, rfl, A, S, t, v, b, r.c.vs.length, rfl, W, hb, ht, fun H1 wd W1 k1 => ?_⟩
  have nt1 : NT (fun b => b = A.ki ∨ b = A.wi) H := fun b hb => W.nt b (hb.elim (fun z => z ▸ own_ki) fun z => z ▸ own_wi)
  obtain ⟨r1, r2, r3⟩ := W.rs r hrow
  have cl1 := (W1.rw r hrow).cl
  obtain ⟨ps, vl1, va1⟩ := (W1.rw r hrow).vl
  rw [head_obj hk] at cl1
  have t1 : VAt H1 t v := ht.kp nt1 k1
  let H2 : Hp := upd H1 r.cl (.lst [V.str "object", .int ((r.c.vs.length : Int) + 1), .ref r.vl])
  have cl2 : H2 r.cl = some (.lst [V.str "object", .int ((r.c.vs.length : Int) + 1), .ref r.vl]) := upd_same
  have vl2 : H2 r.vl = some (.lst (ps.map V.ref)) := (upd_ne r3.symm).trans vl1
  have lps : ps.length = r.c.vs.length := va1.length
  refine ⟨_, rfl, _, rfl, r.cl, _, _, 1, rfl, rfl, cl1, ix1 (by show 1 < 3; decide), ?_⟩
  refine ⟨_, rfl, r.cl, _, _, _, rfl, rfl, SqL.of cl2, rfl, .inl ⟨rfl, _, SqL.of vl2⟩, _, rfl, r.vl, _, _, rfl, rfl, vl2, ?_, ?_⟩
  · rw [List.length_map, lps]
    exact small1000 (by have := W.m5; omega)
  have kR : Kp (fun b => b = r.cl ∨ b = r.vl) H1 (upd H2 r.vl (.lst (ps.map V.ref ++ [V.ref t]))) := kp_upd (kp_upd (fun b o e _ => e) (.inl rfl)) (.inr rfl)
  have nt2 : NT (fun b => b = r.cl ∨ b = r.vl) H1 := fun b hb => W1.nt b (.inr ⟨r, hrow, hb⟩)
  refine k _ { S with ki := S.ki.set r.c.vs.length (b && isSm v), wid := wd, rows := updC S.rows r.a (more r.c v) } ?_ rfl rfl ?_
  · refine W1.row hrow (c := more r.c v) kR ⟨?_, ps ++ [t], ?_, ?_⟩ fun _ => ?_
    · show (upd H2 r.vl _) r.cl = some (.lst (head (more r.c v) r.vl))
      rw [upd_ne r3, head_obj (c := more r.c v) hk]
      show H2 r.cl = some (.lst [V.str "object", .int ((r.c.vs ++ [v]).length : Int), .ref r.vl])
      rw [cl2, List.length_append, List.length_singleton]
      rfl
    · show (upd H2 r.vl _) r.vl = _
      rw [upd_same, List.map_append]
      rfl
    · refine pair_app (va1.kp nt2 kR) (.cons (t1.kp nt2 kR) .nil)
    · obtain ⟨x, y⟩ := W1.kk r hrow hk
      have lset : (S.ki.set r.c.vs.length (b && isSm v)).length = S.ki.length := List.length_set ..
      refine ⟨?_, fun j u hj hu => ?_⟩
      · show (r.c.vs ++ [v]).length ≤ (S.ki.set r.c.vs.length (b && isSm v)).length
        rw [lset, List.length_append, List.length_singleton]
        omega
      · have hj : (r.c.vs ++ [v])[j]? = some u := hj
        by_cases e : j < r.c.vs.length
        · rw [List.getElem?_append_left e] at hj
          exact y j u hj hu
        · rw [List.getElem?_append_right (by omega)] at hj
          have e0 : j - r.c.vs.length = 0 := by
            have := (List.getElem?_eq_some_iff.mp hj).1
            rw [List.length_singleton] at this
            omega
          rw [e0] at hj
          have eu : v = u := Option.some.inj hj
          subst eu
          have ej : j = r.c.vs.length := by omega
          subst ej
          have hu : (S.ki.set r.c.vs.length (b && isSm v))[r.c.vs.length]? = some true := hu
          rw [List.getElem?_set_self hlt] at hu
          have hu := Option.some.inj hu
          cases b
          · cases hu
          · exact hu
  · refine Kp.trans (O' := fun b => b = r.cl ∨ b = r.vl) (k1.mono fun x hx => ?_) kR fun x hx => .inl (.inr ⟨r, hrow, hx⟩)
    rcases hx with rfl | rfl
    · exact own_ki
    · exact own_wi
end
end K4

namespace K4
open PySem PySem.Spec PyProof.Rows L2
section
variable {P : Program} {w : World} {K : PySem.W.Frag} {mg : Str → Option Value} {base : Heap} {CW CD : Addr}
/-! ### World.append -/
theorem head_lst {c : Cl} {vl : Addr} (h : c.kind = .lst) : head c vl = [.str "list", .ref vl] := by unfold head; rw [h]
theorem head_clo {c : Cl} {vl : Addr} (h : c.kind = .clo) : head c vl = [.str "closure", .int c.f, .ref vl] := by unfold head; rw [h]
def spAppend (C : Addr) : Sp := fun vs H Q _ => ∃ A S q t r v, vs = [.ref A.p, .ref q, .ref t] ∧ WorldAt C H A S ∧ r ∈ S.rows ∧ VAt H q (.ref r.a) ∧ VAt H t v ∧ r.c.kind = .lst ∧ r.c.vs.length ≤ 100 ∧
  ∀ H', WorldAt C H' A { S with rows := updC S.rows r.a (more r.c v) } → Kp (Own A S.rows) H H' → Q .non H'
theorem scAppend : FnScope ["self", "value", "told"] ["self", "value", "told"] (C8.fnScope sAppend) := C8.fnScope_by (by decide +kernel)
theorem ok_append (T : Txt K mg CW CD) : C8.Met P w K mg base 2 CW "append" (spAppend CW) [] := by
  refine met1 T.cW T.mAppend scAppend (fun vs H Q E h => ?_) fun f cdv A outer s H vs Q E hr h => ?_
  · obtain ⟨_, _, _, _, _, _, rfl, _⟩ := h
    rfl
  obtain ⟨A, S, q, t, r, v, rfl, W, hrow, hq, ht, hk, hlen, k⟩ := h
  obtain ⟨dx, fs, pr, h1, hl, h2⟩ := W.ob
  refine ⟨_, pss_one (ps_expr (pe_bm PySem.F.plainAttrs_list PySem.F.slot_list_append PySem.F.type_list_append mt_append (pe_ix ix_list (C8.pe_mt (ok_cell T) hr (by decide) (pv 0) (pa_cons (pv 1) pa_nil)) pe_int (fun _ _ => rfl)) (pa_cons (pv 2) pa_nil))), ?_⟩
  have cl := (W.rw r hrow).cl
  obtain ⟨ps, vl, va⟩ := (W.rw r hrow).vl
  rw [head_lst hk] at cl
  obtain ⟨r1, r2, r3⟩ := W.rs r hrow
  refine ⟨_, rfl, A.p, dx, fs, rfl, h1, (h2 _).trans (wl_no (by decide +kernel)), _, rfl, A, q, r.a, _, _, rfl, ⟨dx, fs, pr, S.fr, h1, h2⟩, hq, .inl W.ce, row_val W.an hrow, r.cl, _, _, _, rfl, rfl, SqL.of cl, rfl, .inl ⟨rfl, _, SqL.of vl⟩, _, rfl, r.vl, _, _, rfl, rfl, vl, ?_, ?_⟩
  · rw [List.length_map, va.length]
    exact small1000 (by omega)
  have nt : NT (fun b => b = r.cl ∨ b = r.vl) H := fun b hb => W.nt b (.inr ⟨r, hrow, hb⟩)
  have kR : Kp (fun b => b = r.cl ∨ b = r.vl) H (upd H r.vl (.lst (ps.map V.ref ++ [V.ref t]))) := kp_upd (fun b o e _ => e) (.inr rfl)
  refine k _ ?_ (kR.mono fun x hx => .inr ⟨r, hrow, hx⟩)
  refine W.row hrow (c := more r.c v) kR ⟨?_, ps ++ [t], ?_, pair_app (va.kp nt kR) (.cons (ht.kp nt kR) .nil)⟩ fun z => ?_
  · show (upd H r.vl _) r.cl = some (.lst (head (more r.c v) r.vl))
    rw [upd_ne r3, head_lst (c := more r.c v) hk]
    exact cl
  · show (upd H r.vl _) r.vl = _
    rw [upd_same, List.map_append]
    rfl
  · have z : r.c.kind = .obj := z
    rw [hk] at z
    cases z
theorem putF_len {f : Str} {v u : V} : ∀ {fs : List (Str × V)}, fs.lookup f = some u → (putF f v fs).length = fs.length
  | [], h => by cases h
  | (g, x) :: r, h => by
    show (if g = f then (g, v) :: r else (g, x) :: putF f v r).length = r.length + 1
    by_cases e : g = f
    · rw [if_pos e]
      rfl
    · rw [if_neg e]
      have e2 : (f == g) = false := beq_eq_false_iff_ne.mpr fun z => e z.symm
      have h2 : r.lookup f = some u := by
        rw [List.lookup_cons, e2] at h
        exact h
      show (putF f v r).length + 1 = r.length + 1
      rw [putF_len h2]
/-! ### World.put_cell and what calls it -/
def spPutB (C : Addr) : Sp := fun vs H Q _ => ∃ A S c vl t, vs = [.ref A.p, .ref t] ∧ WorldAt C H A S ∧ H t = some (.tup (head c vl)) ∧ LV H vl c.vs ∧ ¬ Own A S.rows vl ∧ kkOf S.ki c ∧ S.rows.length < 200 ∧
  ∀ H' cl q, WorldAt C H' A (addR S c cl vl) → Kp (fun b => b = A.p ∨ b = A.ce) H H' → H cl = none → VAt H' q (.ref S.fr) → Q (.ref q) H'
def spPut0 (C : Addr) : Sp := fun vs H Q E => ∃ ws rest, vs = ws ++ rest ∧ ws.length = (["self"] : List Str).length ∧ rest.length ≤ sizeLine ∧ ∀ p, H p = Option.none → spPutB C (ws ++ [V.ref p]) (upd H p (.tup rest)) Q E
theorem scPutCell : FnScope ["self", "cell"] ((["self"] : List Str) ++ (["cell"] : List Str)) (defScope sPutCell) := ⟨rfl, rfl, rfl, by decide +kernel, rfl, by decide +kernel, by decide +kernel⟩
theorem ok_putCell (T : Txt K mg CW CD) : ∃ f, Meth K CW "put_cell" f ∧ FnR P w K mg base CX0 1 f (spPut0 CW) := by
  obtain ⟨f, fd, M, F⟩ := T.mPutCell
  obtain ⟨oc, od, kV, doc, pm, an, cdv, ct, osl, rfl, lk, hcd⟩ := F.ex
  refine ⟨f, M, StX.fn_star (ps := ["self"]) (pv := "cell") (k := 0) (sp := spPutB CW) lk hcd scPutCell StX.cxUp_none (StX.bind_star1 (B := fun vs => bindArgs (PySem.W.fnOf "put_cell" "World.put_cell" (defArgs sPutCell) (defBody sPutCell) (defScope sPutCell) .none kV doc pm an cdv ct) ⟨vs, []⟩) (p1 := "self") (pv := "cell") (fun _ => rfl) (fun _ _ _ => rfl)) fun A' outer s H vs Q E hr h => ?_⟩
  obtain ⟨A, S, c, vl, t, rfl, W, ht, hv, hno, kk, rn, k⟩ := h
  obtain ⟨dx, fs, pr, h1, hl, h2⟩ := W.ob
  have ap := ap_of W.hd
  have hu := hu_of hr
  refine ⟨_, pss_cons (ps_dput hu (pe_fld (pv 0) rfl) (pe_fld (pv 0) rfl) (pe_callTy call_list_of (by rfl) T.zList (by decide +kernel) (pa_cons (pv 1) pa_nil)) rfl)
    (pss_cons (ps_fld (pv 0) (pe_op op_add (pe_fld (pv 0) rfl) pe_int) rfl)
    (pss_one (ps_ret (pe_tup (pa_cons pe_str (pa_cons (pe_op op_sub (pe_fld (pv 0) rfl) pe_int) pa_nil)))))), ?_⟩
  refine ⟨_, rfl, t, _, rfl, .inr (SqT.of ht), fun cl hcl => ?_⟩
  let H1 : Hp := upd H cl (.lst (head c vl))
  have s1 : Same H H1 := same_new hcl _
  have hkl : (ceK S.rows).length < sizeLine := by
    unfold ceK
    rw [List.length_map]
    exact small1000 (by omega)
  have new : valV (ceK S.rows) (Sum.inl S.fr : Key) = none := row_none fun r hr z => by have := (W.fr.2 r hr).2; omega
  refine ⟨_, rfl, A.p, CW, dx, fs, _, rfl, s1 _ _ h1, T.cW, T.nCe, (h2 _).trans wl_ce, _, rfl, A.p, CW, dx, fs, _, rfl, s1 _ _ h1, T.cW, T.nFr, (h2 _).trans wl_fr, A.ce, _, rfl, DPut.k (k := Sum.inl S.fr) (s1 _ _ W.ce) hkl, ?_⟩
  rw [putK_new _ new]
  let H2 : Hp := upd H1 A.ce (.dK (ceK S.rows ++ [(Sum.inl S.fr, V.ref cl)]))
  have p2 : H2 A.p = some (.ins CW dx fs) := (upd_ne ap.pce).trans (s1 _ _ h1)
  refine ⟨_, rfl, A.p, CW, dx, fs, _, rfl, p2, T.cW, T.nFr, (h2 _).trans wl_fr, _, _, rfl, rfl, _, rfl, A.p, CW, dx, fs, rfl, p2, T.cW, T.nFr, by omega, ?_⟩
  let fs3 := putF "fresh" (.int (S.fr + 1)) fs
  let H3 : Hp := upd H2 A.p (.ins CW dx fs3)
  have p3 : H3 A.p = some (.ins CW dx fs3) := upd_same
  have l3 : ∀ g, fs3.lookup g = wl A (S.fr + 1) pr g := fun g => by
    show (putF "fresh" (.int (S.fr + 1)) fs).lookup g = _
    rw [lookup_putF, h2 g]
    exact wl_put_fr g
  have len3 : fs3.length ≤ 20 := by
    show (putF "fresh" (.int (S.fr + 1)) fs).length ≤ 20
    rw [putF_len ((h2 _).trans wl_fr)]
    exact hl
  have clne : ∀ b o, H b = some o → b ≠ cl := fun b o e z => by subst z; rw [hcl] at e; cases e
  have k3 : Kp (fun b => b = A.p ∨ b = A.ce) H H3 := fun b o e hb => by
    show (upd H2 A.p _) b = _
    rw [upd_ne (fun z => hb (.inl z))]
    show (upd H1 A.ce _) b = _
    rw [upd_ne (fun z => hb (.inr z))]
    exact s1 _ _ e
  refine ⟨_, rfl, A.p, CW, dx, fs3, _, rfl, p3, T.cW, T.nFr, (l3 _).trans wl_fr, _, _, rfl, rfl, by show 2 ≤ sizeLine; decide, fun q hq => ?_⟩
  have e1 : (S.fr + 1 - 1 : Int) = S.fr := by omega
  have s4 : Same H3 (upd H3 q (.tup [V.str "ref", V.int (S.fr + 1 - 1)])) := same_new hq _
  obtain ⟨ps, g1, g2⟩ := hv
  have vlcl : cl ≠ vl := (clne _ _ g1).symm
  have nt : NT (fun b => b = A.p ∨ b = A.ce) H := fun b hb => W.nt b (hb.elim (fun z => z ▸ own_p) fun z => z ▸ own_ce)
  refine k _ cl q (W.add (fun b o e hb => s4 _ _ (k3 b o e hb)) ⟨dx, fs3, pr, s4 _ _ p3, len3, l3⟩ ?_ ⟨?_, ?_⟩ hcl hno vlcl kk rn) (fun b o e hb => s4 _ _ (k3 b o e hb)) hcl ?_
  · refine s4 _ _ ?_
    show (upd H2 A.p _) A.ce = _
    rw [upd_ne ap.pce.symm]
    exact upd_same
  · refine s4 _ _ ?_
    show (upd H2 A.p _) cl = _
    rw [upd_ne (clne _ _ h1).symm]
    show (upd H1 A.ce _) cl = _
    rw [upd_ne (clne _ _ W.ce).symm]
    exact upd_same
  · refine LV.same s4 (LV.kp nt k3 (fun z => hno (z.elim (fun z => (show A.p = vl from z.symm) ▸ own_p) fun z => (show A.ce = vl from z.symm) ▸ own_ce)) ⟨ps, g1, g2⟩)
  · show (upd H3 q _) q = _
    rw [upd_same]
    show some (HO.tup [V.str "ref", V.int (S.fr + 1 - 1)]) = some (.tup (enc (.ref S.fr)))
    rw [e1]
    rfl
/-- what a maker of a cell promises: a row behind the others, its two objects new -/
def Made (C : Addr) (A : WA) (S : WS) (c : Cl) (H : Hp) (Q : VK) : Prop :=
  ∀ H' cl vl q, WorldAt C H' A (addR S c cl vl) → Kp (Own A S.rows) H H' → H cl = none → H vl = none → VAt H' q (.ref S.fr) → Q (.ref q) H'
def spNewObj (C : Addr) : Sp := fun vs H Q _ => ∃ A S, vs = [.ref A.p] ∧ WorldAt C H A S ∧ S.rows.length < 200 ∧ Made C A S ⟨.obj, 0, []⟩ H Q
def spNewList (C : Addr) : Sp := fun vs H Q _ => ∃ A S l xs, vs = [.ref A.p, .ref l] ∧ WorldAt C H A S ∧ S.rows.length < 200 ∧ LV H l xs ∧ Made C A S ⟨.lst, 0, xs⟩ H Q
def spNewClo (C : Addr) : Sp := fun vs H Q _ => ∃ A S l xs n, vs = [.ref A.p, .int n, .ref l] ∧ WorldAt C H A S ∧ S.rows.length < 200 ∧ LV H l xs ∧ Made C A S ⟨.clo, n, xs⟩ H Q
theorem scNewObj : FnScope ["self"] ["self"] (C8.fnScope sNewObj) := C8.fnScope_by (by decide +kernel)
theorem scNewList : FnScope ["self", "values"] ["self", "values"] (C8.fnScope sNewList) := C8.fnScope_by (by decide +kernel)
theorem scNewClo : FnScope ["self", "function", "values"] ["self", "function", "values"] (C8.fnScope sNewClo) := C8.fnScope_by (by decide +kernel)
theorem not_own {C : Addr} {H : Hp} {A : WA} {S : WS} (W : WorldAt C H A S) {b : Addr} (h : H b = none) : ¬ Own A S.rows b := by
  have ne : ∀ b' o, H b' = some o → b ≠ b' := fun b' o e z => by subst z; rw [h] at e; cases e
  rintro (z | ⟨r, hr, z⟩)
  · obtain ⟨dx, fs, pr, h1, _⟩ := W.ob
    obtain ⟨qs, h2, _⟩ := W.sh
    simp only [hdl, List.mem_cons, List.not_mem_nil, or_false] at z
    rcases z with z | z | z | z | z | z
    · exact ne _ _ h1 z
    · exact ne _ _ h2 z
    · exact ne _ _ W.ki z
    · exact ne _ _ W.ch z
    · exact ne _ _ W.wi z
    · exact ne _ _ W.ce z
  · obtain ⟨ps, g, _⟩ := (W.rw r hr).vl
    rcases z with z | z
    · exact ne _ _ (W.rw r hr).cl z
    · exact ne _ _ g z
/-- the promise of put_cell met, for a new list of values -/
theorem put_new {C : Addr} {H : Hp} {A : WA} {S : WS} {c : Cl} {vl : Addr} {ps : List Addr} {Q : VK} {E : XK} (W : WorldAt C H A S) (rn : S.rows.length < 200) (hv : H vl = none) (va : VsAt H ps c.vs) (kk : kkOf S.ki c) (k : Made C A S c H Q) :
    spPut0 C (V.ref A.p :: head c vl) (upd H vl (.lst (ps.map V.ref))) Q E := by
  refine ⟨[V.ref A.p], head c vl, rfl, rfl, ?_, fun t ht => ?_⟩
  · unfold head
    cases c.kind <;> (first | (show 2 ≤ sizeLine; decide) | (show 3 ≤ sizeLine; decide))
  have s1 : Same H (upd H vl (.lst (ps.map V.ref))) := same_new hv _
  have s2 : Same (upd H vl (.lst (ps.map V.ref))) (upd (upd H vl (.lst (ps.map V.ref))) t (.tup (head c vl))) := same_new ht _
  have W2 : WorldAt C (upd (upd H vl (.lst (ps.map V.ref))) t (.tup (head c vl))) A S := WorldAt.same s2 (WorldAt.same s1 W)
  refine ⟨A, S, c, vl, t, rfl, W2, upd_same, ⟨ps, s2 _ _ upd_same, VsAt.same s2 (VsAt.same s1 va)⟩, not_own W hv, kk, rn, fun H' cl q w' k' hcl hq => ?_⟩
  exact k H' cl vl q w' (fun b o e hb => k' b o (s2 _ _ (s1 _ _ e)) fun z => hb (z.elim (fun z => z ▸ own_p) fun z => z ▸ own_ce)) (L2.Same.free s1 (L2.Same.free s2 hcl)) hv hq
theorem ok_newObj (T : Txt K mg CW CD) : C8.Met P w K mg base 2 CW "new_object" (spNewObj CW) [] := by
  refine met1 T.cW T.mNewObj scNewObj (fun vs H Q E h => ?_) fun f cdv A outer s H vs Q E hr h => ?_
  · obtain ⟨_, _, rfl, _⟩ := h
    rfl
  obtain ⟨A, S, rfl, W, rn, k⟩ := h
  obtain ⟨dx, fs, pr, h1, hl, h2⟩ := W.ob
  obtain ⟨g, M, G⟩ := ok_putCell (P := P) (w := w) (base := base) T
  refine ⟨_, pss_one (ps_ret (pe_methR (pv 0) T.cW M G hr (C8.pass0 (E := C8.E0)) (pa_cons pe_str (pa_cons pe_int (pa_cons (pe_lst pa_nil) pa_nil))))), ?_⟩
  refine ⟨_, rfl, A.p, dx, fs, rfl, h1, (h2 _).trans (wl_no (by decide +kernel)), by show 0 ≤ sizeLine; decide, fun vl hv => ?_⟩
  exact put_new (c := ⟨.obj, 0, []⟩) (ps := []) W rn hv .nil (fun _ => ⟨Nat.zero_le _, fun k v h => by cases h⟩) k
theorem ok_newList (T : Txt K mg CW CD) : C8.Met P w K mg base 2 CW "new_list" (spNewList CW) [] := by
  refine met1 T.cW T.mNewList scNewList (fun vs H Q E h => ?_) fun f cdv A outer s H vs Q E hr h => ?_
  · obtain ⟨_, _, _, _, rfl, _⟩ := h
    rfl
  obtain ⟨A, S, l, xs, rfl, W, rn, ⟨ps, hl', va⟩, k⟩ := h
  obtain ⟨dx, fs, pr, h1, hl, h2⟩ := W.ob
  obtain ⟨g, M, G⟩ := ok_putCell (P := P) (w := w) (base := base) T
  refine ⟨_, pss_one (ps_ret (pe_methR (pv 0) T.cW M G hr (C8.pass0 (E := C8.E0)) (pa_cons pe_str (pa_cons (pe_callTy call_list_of (by rfl) T.zList (by decide +kernel) (pa_cons (pv 1) pa_nil)) pa_nil)))), ?_⟩
  refine ⟨_, rfl, A.p, dx, fs, rfl, h1, (h2 _).trans (wl_no (by decide +kernel)), _, rfl, l, _, rfl, .inl (SqL.of hl'), fun vl hv => ?_⟩
  exact put_new (c := ⟨.lst, 0, xs⟩) W rn hv va (fun z => by cases z) k
theorem ok_newClo (T : Txt K mg CW CD) : C8.Met P w K mg base 2 CW "new_closure" (spNewClo CW) [] := by
  refine met1 T.cW T.mNewClo scNewClo (fun vs H Q E h => ?_) fun f cdv A outer s H vs Q E hr h => ?_
  · obtain ⟨_, _, _, _, _, rfl, _⟩ := h
    rfl
  obtain ⟨A, S, l, xs, n, rfl, W, rn, ⟨ps, hl', va⟩, k⟩ := h
  obtain ⟨dx, fs, pr, h1, hl, h2⟩ := W.ob
  obtain ⟨g, M, G⟩ := ok_putCell (P := P) (w := w) (base := base) T
  refine ⟨_, pss_one (ps_ret (pe_methR (pv 0) T.cW M G hr (C8.pass0 (E := C8.E0)) (pa_cons pe_str (pa_cons (pv 1) (pa_cons (pe_callTy call_list_of (by rfl) T.zList (by decide +kernel) (pa_cons (pv 2) pa_nil)) pa_nil))))), ?_⟩
  refine ⟨_, rfl, A.p, dx, fs, rfl, h1, (h2 _).trans (wl_no (by decide +kernel)), _, rfl, _, rfl, l, _, rfl, .inl (SqL.of hl'), fun vl hv => ?_⟩
  exact put_new (c := ⟨.clo, n, xs⟩) W rn hv va (fun z => by cases z) k
/-! ### World.put, of a name that is not there -/
def spPut (C : Addr) : Sp := fun vs H Q _ => ∃ A S q t r v, vs = [.ref A.p, .ref q, .str (nm r.c.vs.length), .ref t] ∧ WorldAt C H A S ∧ r ∈ S.rows ∧ VAt H q (.ref r.a) ∧ VAt H t v ∧ r.c.kind = .obj ∧ r.c.vs.length < 5 ∧
  ∀ H' S', WorldAt C H' A S' → S'.rows = updC S.rows r.a (more r.c v) → S'.fr = S.fr → Kp (Own A S.rows) H H' → Q (.ref q) H'
theorem scPut : FnScope ["self", "value", "name", "told", "shape", "k"] ["self", "value", "name", "told"] (C8.fnScope sPut) := C8.fnScope_by (by decide +kernel)
theorem ok_put (T : Txt K mg CW CD) : C8.Met P w K mg base 4 CW "put" (spPut CW) [] := by
  refine met1 T.cW T.mPut scPut (fun vs H Q E h => ?_) fun f cdv A outer s H vs Q E hr h => ?_
  · obtain ⟨_, _, _, _, _, _, rfl, _⟩ := h
    rfl
  obtain ⟨A, S, q, t, r, v, rfl, W, hrow, hq, ht, hk, h5, k⟩ := h
  obtain ⟨dx, fs, pr, h1, hl, h2⟩ := W.ob
  refine ⟨_, pss_cons (ps_set (i := 4) scPut.nd rfl (Or.inl rfl) (C8.pe_mt (ok_shapeOf T) hr (by decide) (pv 0) (pa_cons (pv 1) pa_nil)))
    (pss_cons (ps_if (pt_cmpR op_isN (pv 4) pe_non (nomark _)) (pss_one ps_never) pss_nil)
    (pss_cons (ps_set (i := 5) scPut.nd rfl (Or.inl rfl) (C8.pe_mt (ok_slotOf T) hr (by decide) (pv 0) (pa_cons (pv 4) (pa_cons (pv 2) pa_nil))))
    (pss_cons (ps_if (pt_cmpR op_notN (pv 5) pe_non (nomark _)) (pss_one ps_never)
      (pss_one (ps_expr (C8.pe_mt (ok_grow T) hr (by decide) (pv 0) (pa_cons (pv 1) (pa_cons (C8.pe_mt (ok_grown T) hr (by decide) (pv 0) (pa_cons (pv 4) (pa_cons (pv 2) (pa_cons (pv 3) pa_nil)))) (pa_cons (pv 3) pa_nil)))))))
    (pss_one (ps_ret (pv 1)))))), ?_⟩
  have hle := (W.kk r hrow hk).1
  refine ⟨_, rfl, A.p, dx, fs, rfl, h1, (h2 _).trans (wl_no (by decide +kernel)), _, rfl, A, S, q, r, rfl, W, hrow, hq, hk, ?_⟩
  refine ⟨_, rfl, rfl, _, rfl, iteF ?_⟩
  refine ⟨_, rfl, A.p, dx, fs, rfl, h1, (h2 _).trans (wl_no (by decide +kernel)), _, rfl, _, rfl, A, S.ki, r.c.vs.length, rfl, W.wv, hle, ?_⟩
  refine ⟨_, rfl, rfl, _, rfl, iteF ?_⟩
  refine ⟨_, rfl, A.p, dx, fs, rfl, h1, (h2 _).trans (wl_no (by decide +kernel)), _, rfl, _, rfl, A.p, dx, fs, rfl, h1, (h2 _).trans (wl_no (by decide +kernel)), _, rfl, _, rfl, _, rfl, A, S, t, v, r.c.vs.length, rfl, W, ht, hle, h5, fun H1 W1 k1 => ?_⟩
  have k1o : Kp (Own A S.rows) H H1 := k1.mono fun x hx => by
    rcases hx with rfl | rfl | rfl <;> first | exact own_sh | exact own_ki | exact own_ch
  have q1 : VAt H1 q (.ref r.a) := hq.kp W.nt k1o
  have t1 : VAt H1 t v := ht.kp W.nt k1o
  refine ⟨_, rfl, A, _, q, t, r, v, rfl, W1, hrow, q1, t1, hk, ?_, fun H2 S2 W2 e1 e2 k2 => ?_⟩
  · show r.c.vs.length < (grK S.ki r.c.vs.length v).length
    unfold grK
    split
    · assumption
    · rw [List.length_append, List.length_singleton]
      omega
  exact ⟨_, rfl, k H2 S2 W2 e1 e2 (Kp.trans k1o k2 fun x hx => .inl hx)⟩
/-! ### World.__init__ -/
def spInitW (C : Addr) : Sp := fun vs H Q _ => ∃ p dx, vs = [.ref p] ∧ H p = some (.ins C dx []) ∧
  ∀ H' A, A.p = p → WorldAt C H' A ⟨[], [], [], 0⟩ → (∀ b o, H b = some o → b ≠ p → H' b = some o) → (∀ b ∈ hdl A, b = p ∨ H b = none) → Q .non H'
theorem scWInit : FnScope ["self"] ["self"] (C8.fnScope sWInit) := C8.fnScope_by (by decide +kernel)
theorem ok_initW (T : Txt K mg CW CD) : C8.Mak P w K mg base 1 "World" CW (spInitW CW) [] := by
  refine mak1 T.kWorld scWInit (fun vs H Q E h => ?_) fun f cdv A outer s H vs Q E hr h => ?_
  · obtain ⟨_, _, rfl, _⟩ := h
    rfl
  obtain ⟨p, dx, rfl, hp, k⟩ := h
  refine ⟨_, pss_cons (ps_fld (pv 0) (pe_lst (pa_cons (pe_tup (pa_cons pe_non (pa_cons pe_non (pa_cons (pe_un un_neg pe_int) pa_nil)))) pa_nil)) rfl)
    (pss_cons (ps_fld (pv 0) (pe_lst (pa_cons pe_str pa_nil)) rfl)
    (pss_cons (ps_fld (pv 0) pe_dnewT rfl)
    (pss_cons (ps_fld (pv 0) (pe_lst pa_nil) rfl)
    (pss_cons (ps_fld (pv 0) pe_dnewK rfl)
    (pss_cons (ps_fld (pv 0) pe_int rfl)
    (pss_one (ps_fld (pv 0) (pe_lst pa_nil) rfl))))))), ?_⟩
  refine ⟨_, rfl, by show 3 ≤ sizeLine; decide, fun q0 hq0 => ⟨by show 1 ≤ sizeLine; decide, fun sh hsh => ?_⟩⟩
  have ne : ∀ {b b' : Addr} {H1 : Hp} {o : HO}, H1 b = some o → H1 b' = none → b ≠ b' := fun e z w => by subst w; rw [z] at e; cases e
  let T0 : HO := .tup [.non, .non, .int (-1)]
  let H1 : Hp := upd (upd H q0 T0) sh (.lst [.ref q0])
  have p1 : H1 p = some (.ins CW dx []) := by
    show (upd (upd H q0 T0) sh _) p = _
    have a1 : p ≠ q0 := ne hp hq0
    have a2 : (upd H q0 T0) p = some (.ins CW dx []) := (upd_ne a1).trans hp
    rw [upd_ne (ne a2 hsh)]
    exact a2
  have s1 : Same H H1 := Same.new (same_new hq0 _) hsh _
  have q1 : H1 q0 = some T0 := by
    show (upd (upd H q0 T0) sh _) q0 = _
    have a2 : (upd H q0 T0) q0 = some T0 := upd_same
    rw [upd_ne (ne a2 hsh)]
    exact a2
  have sh1 : H1 sh = some (.lst [.ref q0]) := upd_same
  let f1 := putF "shapes" (.ref sh) ([] : List (Str × V))
  let H2 : Hp := upd H1 p (.ins CW dx f1)
  have p2 : H2 p = some (.ins CW dx f1) := upd_same
  have o2 : ∀ b o, b ≠ p → H1 b = some o → H2 b = some o := fun b o hb e => (upd_ne hb).trans e
  refine ⟨_, rfl, p, CW, dx, _, rfl, p1, T.cW, T.nSh, by show 0 < 1000; decide, by show 1 ≤ sizeLine; decide, fun ki hki => ?_⟩
  let H3 : Hp := upd H2 ki (.lst [.str "any"])
  have s3 : Same H2 H3 := same_new hki _
  have p3 := s3 _ _ p2
  let f2 := putF "kinds" (.ref ki) f1
  let H4 : Hp := upd H3 p (.ins CW dx f2)
  have p4 : H4 p = some (.ins CW dx f2) := upd_same
  have o4 : ∀ b o, b ≠ p → H3 b = some o → H4 b = some o := fun b o hb e => (upd_ne hb).trans e
  have l1 : f1.length ≤ 1 := length_putF _ _ _
  refine ⟨_, rfl, p, CW, dx, _, rfl, p3, T.cW, T.nKi, by omega, fun ch hch => ?_⟩
  let H5 : Hp := upd H4 ch (.dT [])
  have s5 : Same H4 H5 := same_new hch _
  have p5 := s5 _ _ p4
  let f3 := putF "children" (.ref ch) f2
  let H6 : Hp := upd H5 p (.ins CW dx f3)
  have p6 : H6 p = some (.ins CW dx f3) := upd_same
  have o6 : ∀ b o, b ≠ p → H5 b = some o → H6 b = some o := fun b o hb e => (upd_ne hb).trans e
  have l2 : f2.length ≤ f1.length + 1 := length_putF _ _ _
  refine ⟨_, rfl, p, CW, dx, _, rfl, p5, T.cW, T.nCh, by omega, by show 0 ≤ sizeLine; decide, fun wi hwi => ?_⟩
  let H7 : Hp := upd H6 wi (.lst [])
  have s7 : Same H6 H7 := same_new hwi _
  have p7 := s7 _ _ p6
  let f4 := putF "widened" (.ref wi) f3
  let H8 : Hp := upd H7 p (.ins CW dx f4)
  have p8 : H8 p = some (.ins CW dx f4) := upd_same
  have o8 : ∀ b o, b ≠ p → H7 b = some o → H8 b = some o := fun b o hb e => (upd_ne hb).trans e
  have l3 : f3.length ≤ f2.length + 1 := length_putF _ _ _
  refine ⟨_, rfl, p, CW, dx, _, rfl, p7, T.cW, T.nWi, by omega, fun ce hce => ?_⟩
  let H9 : Hp := upd H8 ce (.dK [])
  have s9 : Same H8 H9 := same_new hce _
  have p9 := s9 _ _ p8
  let f5 := putF "cells" (.ref ce) f4
  let H10 : Hp := upd H9 p (.ins CW dx f5)
  have p10 : H10 p = some (.ins CW dx f5) := upd_same
  have o10 : ∀ b o, b ≠ p → H9 b = some o → H10 b = some o := fun b o hb e => (upd_ne hb).trans e
  have l4 : f4.length ≤ f3.length + 1 := length_putF _ _ _
  refine ⟨_, rfl, p, CW, dx, _, rfl, p9, T.cW, T.nCe, by omega, ?_⟩
  have l5 : f5.length ≤ f4.length + 1 := length_putF _ _ _
  let f6 := putF "fresh" (.int 0) f5
  let H11 : Hp := upd H10 p (.ins CW dx f6)
  have p11 : H11 p = some (.ins CW dx f6) := upd_same
  have o11 : ∀ b o, b ≠ p → H10 b = some o → H11 b = some o := fun b o hb e => (upd_ne hb).trans e
  have l6 : f6.length ≤ f5.length + 1 := length_putF _ _ _
  refine ⟨_, rfl, p, CW, dx, _, rfl, p10, T.cW, T.nFr, by omega, by show 0 ≤ sizeLine; decide, fun pr hpr => ?_⟩
  let H12 : Hp := upd H11 pr (.lst [])
  have s12 : Same H11 H12 := same_new hpr _
  have p12 := s12 _ _ p11
  let f7 := putF "printed" (.ref pr) f6
  let H13 : Hp := upd H12 p (.ins CW dx f7)
  have p13 : H13 p = some (.ins CW dx f7) := upd_same
  have o13 : ∀ b o, b ≠ p → H12 b = some o → H13 b = some o := fun b o hb e => (upd_ne hb).trans e
  refine ⟨_, rfl, p, CW, dx, _, rfl, p12, T.cW, T.nPr, by omega, ?_⟩
  have l7 : f7.length ≤ f6.length + 1 := length_putF _ _ _
  -- the addresses are unlike p, and unlike one another
  have nsh : sh ≠ p := (ne ((upd_ne (ne hp hq0)).trans hp : (upd H q0 T0) p = _) hsh).symm
  have nq : q0 ≠ p := (ne hp hq0).symm
  have nki : ki ≠ p := (ne p2 hki).symm
  have nch : ch ≠ p := (ne p4 hch).symm
  have nwi : wi ≠ p := (ne p6 hwi).symm
  have nce : ce ≠ p := (ne p8 hce).symm
  have up2 : ∀ b o, b ≠ p → H2 b = some o → H4 b = some o := fun b o hb e => o4 _ _ hb (s3 _ _ e)
  have up4 : ∀ b o, b ≠ p → H4 b = some o → H6 b = some o := fun b o hb e => o6 _ _ hb (s5 _ _ e)
  have up6 : ∀ b o, b ≠ p → H6 b = some o → H8 b = some o := fun b o hb e => o8 _ _ hb (s7 _ _ e)
  have up8 : ∀ b o, b ≠ p → H8 b = some o → H13 b = some o := fun b o hb e => o13 _ _ hb (s12 _ _ (o11 _ _ hb (o10 _ _ hb (s9 _ _ e))))
  have sh2 : H2 sh = some (.lst [.ref q0]) := o2 _ _ nsh sh1
  have sh4 := up2 _ _ nsh sh2
  have sh6 := up4 _ _ nsh sh4
  have sh8 := up6 _ _ nsh sh6
  have q2 : H2 q0 = some T0 := o2 _ _ nq q1
  have q13 := up8 _ _ nq (up6 _ _ nq (up4 _ _ nq (up2 _ _ nq q2)))
  have ki4 : H4 ki = some (.lst [.str "any"]) := o4 _ _ nki upd_same
  have ki6 := up4 _ _ nki ki4
  have ki8 := up6 _ _ nki ki6
  have ch6 : H6 ch = some (.dT []) := o6 _ _ nch upd_same
  have ch8 := up6 _ _ nch ch6
  have wi8 : H8 wi = some (.lst []) := o8 _ _ nwi upd_same
  have ce13 : H13 ce = some (.dK []) := o13 _ _ nce (s12 _ _ (o11 _ _ nce (o10 _ _ nce upd_same)))
  have a1 : sh ≠ ki := ne sh2 hki
  have a2 : sh ≠ ch := ne sh4 hch
  have a3 : sh ≠ wi := ne sh6 hwi
  have a4 : sh ≠ ce := ne sh8 hce
  have b2 : ki ≠ ch := ne ki4 hch
  have b3 : ki ≠ wi := ne ki6 hwi
  have b4 : ki ≠ ce := ne ki8 hce
  have c3 : ch ≠ wi := ne ch6 hwi
  have c4 : ch ≠ ce := ne ch8 hce
  have d4 : wi ≠ ce := ne wi8 hce
  -- what stood ahead stands
  have old : ∀ b o, H b = some o → b ≠ p → H13 b = some o := fun b o e hb => up8 _ _ hb (up6 _ _ hb (up4 _ _ hb (up2 _ _ hb (o2 _ _ hb (s1 _ _ e)))))
  have isnew : ∀ b, b ≠ p → ∀ H' : Hp, (∀ b o, H b = some o → b ≠ p → H' b = some o) → H' b = none → H b = none := fun b hb H' hs e => by
    cases z : H b with
    | none => rfl
    | some o => rw [hs b o z hb] at e; cases e
  refine k H13 ⟨p, sh, ki, ch, wi, ce⟩ rfl ?_ old ?_
  · refine ⟨⟨dx, f7, .ref pr, p13, by omega, fun g => ?_⟩, ⟨[q0], up8 _ _ nsh sh8, rfl, fun i q e => ?_⟩, up8 _ _ nki ki8, up8 _ _ nch ch8, up8 _ _ nwi wi8, ce13, (fun r hr => by cases hr), ?_, (fun r hr => by cases hr), (fun r hr => by cases hr), List.nodup_nil, ⟨Int.le_refl 0, (fun r hr => by cases hr)⟩, Nat.zero_le _, Nat.zero_le _, Nat.zero_le _, (fun r hr => by cases hr)⟩
    · show (putF "printed" (.ref pr) (putF "fresh" (.int 0) (putF "cells" (.ref ce) (putF "widened" (.ref wi) (putF "children" (.ref ch) (putF "kinds" (.ref ki) (putF "shapes" (.ref sh) []))))))).lookup g = _
      rw [lookup_putF, lookup_putF, lookup_putF, lookup_putF, lookup_putF, lookup_putF, lookup_putF]
      unfold wl
      by_cases e1 : g = "shapes"
      · subst e1; rw [if_neg (by decide +kernel), if_neg (by decide +kernel), if_neg (by decide +kernel), if_neg (by decide +kernel), if_neg (by decide +kernel), if_neg (by decide +kernel), if_pos rfl, if_pos rfl]
      by_cases e2 : g = "kinds"
      · subst e2; rw [if_neg (by decide +kernel), if_neg (by decide +kernel), if_neg (by decide +kernel), if_neg (by decide +kernel), if_neg (by decide +kernel), if_pos rfl, if_neg e1, if_pos rfl]
      by_cases e3 : g = "children"
      · subst e3; rw [if_neg (by decide +kernel), if_neg (by decide +kernel), if_neg (by decide +kernel), if_neg (by decide +kernel), if_pos rfl, if_neg e1, if_neg e2, if_pos rfl]
      by_cases e4 : g = "widened"
      · subst e4; rw [if_neg (by decide +kernel), if_neg (by decide +kernel), if_neg (by decide +kernel), if_pos rfl, if_neg e1, if_neg e2, if_neg e3, if_pos rfl]
      by_cases e5 : g = "cells"
      · subst e5; rw [if_neg (by decide +kernel), if_neg (by decide +kernel), if_pos rfl, if_neg e1, if_neg e2, if_neg e3, if_neg e4, if_pos rfl]
      by_cases e6 : g = "fresh"
      · subst e6; rw [if_neg (by decide +kernel), if_pos rfl, if_neg e1, if_neg e2, if_neg e3, if_neg e4, if_neg e5, if_pos rfl]
      by_cases e7 : g = "printed"
      · subst e7; rw [if_pos rfl, if_neg e1, if_neg e2, if_neg e3, if_neg e4, if_neg e5, if_neg e6, if_pos rfl]
      rw [if_neg e7, if_neg e6, if_neg e5, if_neg e4, if_neg e3, if_neg e2, if_neg e1, if_neg e1, if_neg e2, if_neg e3, if_neg e4, if_neg e5, if_neg e6, if_neg e7]
      rfl
    · cases i with
      | zero =>
        have e := Option.some.inj e
        subst e
        exact q13
      | succ i => cases e
    · show [p, sh, ki, ch, wi, ce].Nodup
      simp only [List.nodup_cons, List.mem_cons, List.not_mem_nil, or_false, not_or, not_false_eq_true, and_true, List.nodup_nil]
      exact ⟨⟨nsh.symm, nki.symm, nch.symm, nwi.symm, nce.symm⟩, ⟨a1, a2, a3, a4⟩, ⟨b2, b3, b4⟩, ⟨c3, c4⟩, d4⟩
  · intro b hb
    have hb : b ∈ [p, sh, ki, ch, wi, ce] := hb
    simp only [List.mem_cons, List.not_mem_nil, or_false] at hb
    rcases hb with rfl | rfl | rfl | rfl | rfl | rfl
    · exact .inl rfl
    · exact .inr (isnew _ nsh _ (fun b o e _ => (same_new hq0 T0) b o e) hsh)
    · exact .inr (isnew _ nki _ (fun b o e hb => o2 _ _ hb (s1 _ _ e)) hki)
    · exact .inr (isnew _ nch _ (fun b o e hb => up2 _ _ hb (o2 _ _ hb (s1 _ _ e))) hch)
    · exact .inr (isnew _ nwi _ (fun b o e hb => up4 _ _ hb (up2 _ _ hb (o2 _ _ hb (s1 _ _ e)))) hwi)
    · exact .inr (isnew _ nce _ (fun b o e hb => up6 _ _ hb (up4 _ _ hb (up2 _ _ hb (o2 _ _ hb (s1 _ _ e))))) hce)
end
end K4

namespace K4
open PySem PySem.Spec PyProof.Rows L2
def ItAt (H : Hp) (y : V) : It → Prop
  | .s x => y = .str x
  | .v z => ∃ p, y = .ref p ∧ VAt H p z
theorem ItAt.kp {O : Addr → Prop} {H H' : Hp} {y : V} {i : It} (n : NT O H) (k : Kp O H H') (h : ItAt H y i) : ItAt H' y i := by
  cases i with
  | s x => exact h
  | v z =>
    obtain ⟨p, e, h⟩ := h
    exact ⟨p, e, h.kp n k⟩
theorem ItAt.same {H H' : Hp} {y : V} {i : It} (k : Same H H') (h : ItAt H y i) : ItAt H' y i := by
  cases i with
  | s x => exact h
  | v z =>
    obtain ⟨p, e, h⟩ := h
    exact ⟨p, e, VAt.same k h⟩
def dl (wp m : Addr) (g : Str) : Option V := if g = "world" then some (.ref wp) else if g = "met" then some (.ref m) else none
theorem dl_w {wp m : Addr} : dl wp m "world" = some (.ref wp) := by unfold dl; rw [if_pos rfl]
theorem dl_m {wp m : Addr} : dl wp m "met" = some (.ref m) := by unfold dl; rw [if_neg (by decide +kernel), if_pos rfl]
theorem dl_no {wp m : Addr} {g : Str} (h1 : g ≠ "world") (h2 : g ≠ "met") : dl wp m g = none := by unfold dl; rw [if_neg h1, if_neg h2]
def DOb (C : Addr) (H : Hp) (d wp m : Addr) : Prop := ∃ dx fs, H d = some (.ins C dx fs) ∧ ∀ g, fs.lookup g = dl wp m g
theorem tgD {v : Vl} {x : Str} {b : Bool} (h : (tag v == x) = b) : decide (V.str (tag v) = V.str x) = b := by
  cases b with
  | true =>
    have e : tag v = x := eq_of_beq h
    rw [e]
    exact decide_eq_true rfl
  | false =>
    refine decide_eq_false fun z => ?_
    injection z with z
    rw [z, beq_self_eq_true] at h
    cases h
theorem log_ok {n : Int} (h : n.natAbs < 2 ^ 60) : n.natAbs.log2 < 1920 := by
  by_cases e : n.natAbs = 0
  · rw [e]
    decide
  · exact Nat.lt_of_lt_of_le ((Nat.log2_lt e).mpr h) (by decide)
theorem len_app (x y : Str) : (x ++ y).length = x.length + y.length := by
  rw [← cod_len, ← cod_len, ← cod_len]
  show (TL.tl _).length = _
  rw [TL.tl_append, List.length_append]
section
variable {P : Program} {w : World} {K : PySem.W.Frag} {mg : Str → Option Value} {base : Heap} {CW CD : Addr}
/-! ### Dump.plain -/
def spPlain : Sp := fun vs H Q _ => ∃ d p v, vs = [.ref d, .ref p] ∧ VAt H p v ∧ isRef v = false ∧ vOk v ∧ Q (.str (plain v)) H
theorem scPlain : FnScope ["self", "value"] ["self", "value"] (C8.fnScope sDPlain) := C8.fnScope_by (by decide +kernel)
theorem ok_plain (T : Txt K mg CW CD) : C8.Met P w K mg base 1 CD "plain" spPlain [] := by
  refine met1 T.cD T.mPlain scPlain (fun vs H Q E h => ?_) fun f cdv A outer s H vs Q E hr h => ?_
  · obtain ⟨_, _, _, rfl, _⟩ := h
    rfl
  obtain ⟨d, p, v, rfl, hv, hn, ok, q⟩ := h
  refine ⟨_, pss_cons (ps_if (pt_cmpR op_eq (pe_ix ix_tup (pv 1) pe_int (fun _ _ => rfl)) pe_str (nomark _)) (pss_one (ps_ret (pe_op op_add_str (pe_op op_add_str pe_str (pe_ix ix_tup (pv 1) pe_int (fun _ _ => rfl))) pe_str))) pss_nil)
    (pss_cons (ps_if (pt_cmpR op_eq (pe_ix ix_tup (pv 1) pe_int (fun _ _ => rfl)) pe_str (nomark _)) (pss_one (ps_ret (pe_ifExp (pt_val (pe_ix ix_tup (pv 1) pe_int (fun _ _ => rfl))) pe_str pe_str))) pss_nil)
    (pss_cons (ps_if (pt_cmpR op_eq (pe_ix ix_tup (pv 1) pe_int (fun _ _ => rfl)) pe_str (nomark _)) (pss_one (ps_ret (pe_op op_add_str (pe_op op_add_str pe_str (pe_callTy call_str_int (by rfl) T.zStr (by decide +kernel) (pa_cons (pe_ix ix_tup (pv 1) pe_int (fun _ _ => rfl)) pa_nil))) pe_str))) pss_nil)
    (pss_one (ps_ret (pe_ifExp (pt_cmpR op_eq (pe_ix ix_tup (pv 1) pe_int (fun _ _ => rfl)) pe_str (nomark _)) pe_str (pe_callTy call_str_int (by rfl) T.zStr (by decide +kernel) (pa_cons (pe_ix ix_tup (pv 1) pe_int (fun _ _ => rfl)) pa_nil))))))), ?_⟩
  have ln := ok.len
  have nb := ok.num
  refine ⟨_, rfl, p, _, _, _, rfl, rfl, hv.sq, at0, rfl, _, rfl, ?_⟩
  cases v with
  | ref _ => cases hn
  | txt z =>
    rw [tgD (v := .txt z) (b := true) (by show (("text" : Str) == "text") = true; decide +kernel)]
    have e : (cod (plain (.txt z))).length = 1 + z.length + 1 := by
      rw [cod_len]
      show ((("'" : Str) ++ z ++ "'").length) = _
      rw [len_app, len_app]
      rfl
    have e1 : (("'" : Str) ++ z).length = 1 + z.length := by rw [len_app]; rfl
    have e2 : ("'" : Str).length = 1 := by decide +kernel
    refine iteT ⟨_, rfl, p, _, _, _, rfl, rfl, hv.sq, at1 (by intro e; cases e), _, _, rfl, rfl, small2 (by omega), _, _, rfl, rfl, small2 (by omega), q⟩
  | bool z =>
    rw [tgD (v := .bool z) (b := false) (by show (("bool" : Str) == "text") = false; decide +kernel)]
    refine iteF ⟨_, rfl, p, _, _, _, rfl, rfl, hv.sq, at0, rfl, _, rfl, ?_⟩
    rw [tgD (v := .bool z) (b := true) (by show (("bool" : Str) == "bool") = true; decide +kernel)]
    refine iteT ⟨_, rfl, p, _, _, _, rfl, rfl, hv.sq, at1 (by intro e; cases e), z, rfl, ?_⟩
    cases z
    · exact iteF q
    · exact iteT q
  | fn z =>
    rw [tgD (v := .fn z) (b := false) (by show (("fun" : Str) == "text") = false; decide +kernel)]
    refine iteF ⟨_, rfl, p, _, _, _, rfl, rfl, hv.sq, at0, rfl, _, rfl, ?_⟩
    rw [tgD (v := .fn z) (b := false) (by show (("fun" : Str) == "bool") = false; decide +kernel)]
    refine iteF ⟨_, rfl, p, _, _, _, rfl, rfl, hv.sq, at0, rfl, _, rfl, ?_⟩
    rw [tgD (v := .fn z) (b := true) (by show (("fun" : Str) == "fun") = true; decide +kernel)]
    have e : (cod (plain (.fn z))).length = 4 + (toString z : Str).length + 2 := by
      rw [cod_len]
      show (("fun " : Str) ++ toString z ++ "()").length = _
      rw [len_app, len_app]
      rfl
    have e1 : (("fun " : Str) ++ toString z).length = 4 + (toString z : Str).length := by rw [len_app]; rfl
    have e2 : ("fun " : Str).length = 4 := by decide +kernel
    have e3 : ("()" : Str).length = 2 := by decide +kernel
    refine iteT ⟨_, rfl, p, _, _, _, rfl, rfl, hv.sq, at1 (by intro e; cases e), z, rfl, log_ok nb, _, _, rfl, rfl, small2 (by omega), _, _, rfl, rfl, small2 (by omega), q⟩
  | null =>
    rw [tgD (v := .null) (b := false) (by show (("null" : Str) == "text") = false; decide +kernel)]
    refine iteF ⟨_, rfl, p, _, _, _, rfl, rfl, hv.sq, at0, rfl, _, rfl, ?_⟩
    rw [tgD (v := .null) (b := false) (by show (("null" : Str) == "bool") = false; decide +kernel)]
    refine iteF ⟨_, rfl, p, _, _, _, rfl, rfl, hv.sq, at0, rfl, _, rfl, ?_⟩
    rw [tgD (v := .null) (b := false) (by show (("null" : Str) == "fun") = false; decide +kernel)]
    refine iteF ⟨_, rfl, p, _, _, _, rfl, rfl, hv.sq, at0, rfl, _, rfl, ?_⟩
    rw [tgD (v := .null) (b := true) (by show (("null" : Str) == "null") = true; decide +kernel)]
    exact iteT q
  | int z =>
    rw [tgD (v := .int z) (b := false) (by show (("int" : Str) == "text") = false; decide +kernel)]
    refine iteF ⟨_, rfl, p, _, _, _, rfl, rfl, hv.sq, at0, rfl, _, rfl, ?_⟩
    rw [tgD (v := .int z) (b := false) (by show (("int" : Str) == "bool") = false; decide +kernel)]
    refine iteF ⟨_, rfl, p, _, _, _, rfl, rfl, hv.sq, at0, rfl, _, rfl, ?_⟩
    rw [tgD (v := .int z) (b := false) (by show (("int" : Str) == "fun") = false; decide +kernel)]
    refine iteF ⟨_, rfl, p, _, _, _, rfl, rfl, hv.sq, at0, rfl, _, rfl, ?_⟩
    rw [tgD (v := .int z) (b := false) (by show (("int" : Str) == "null") = false; decide +kernel)]
    exact iteF ⟨_, rfl, p, _, _, _, rfl, rfl, hv.sq, at1 (by intro e; cases e), z, rfl, log_ok nb, q⟩
/-! ### Dump.between -/
def spBetw : Sp := fun vs H Q _ => ∃ d l n xs nms, vs = [.ref d, .ref l, .ref n] ∧ LV H l xs ∧ H n = some (.lst (nms.map V.str)) ∧ (nms = [] ∨ xs.length ≤ nms.length) ∧ xs.length ≤ 100 ∧ nms.length ≤ 100 ∧ (∀ x ∈ nms, x.length ≤ 10) ∧
  ∀ r H' ys, Same H H' → H r = none → H' r = some (.lst ys) → Paired (ItAt H') ys (betw nms 0 xs) → Q (.ref r) H'
theorem scBetw : FnScope ["self", "values", "names", "found", "k", "one"] ["self", "values", "names"] (C8.fnScope sDBetw) := C8.fnScope_by (by decide +kernel)
theorem betw_snoc (nms : List Str) (x : Vl) : ∀ (k : Nat) (a : List Vl), betw nms k (a ++ [x]) = betw nms k a ++ [.s (sep (k + a.length) ++ nmOf nms (k + a.length)), .v x]
  | k, [] => rfl
  | k, y :: r => by
    have ih := betw_snoc nms x (k + 1) r
    show It.s _ :: It.v y :: betw nms (k + 1) (r ++ [x]) = It.s _ :: It.v y :: (betw nms (k + 1) r ++ _)
    rw [ih, show k + 1 + r.length = k + (y :: r).length from by rw [List.length_cons]; omega]
theorem pair_snoc2 {α β : Type} {F : α → β → Prop} {xs : List α} {ys : List β} {a b : α} {c d : β} (h : Paired F xs ys) (h1 : F a c) (h2 : F b d) : Paired F (xs ++ [a] ++ [b]) (ys ++ [c, d]) := by
  rw [List.append_assoc]
  exact pair_app h (.cons h1 (.cons h2 .nil))
theorem betw_len (nms : List Str) : ∀ (k : Nat) (a : List Vl), (betw nms k a).length = 2 * a.length
  | _, [] => rfl
  | k, y :: r => by
    show (betw nms (k + 1) r).length + 1 + 1 = 2 * (r.length + 1)
    rw [betw_len nms (k + 1) r]
    omega
theorem ok_betw (T : Txt K mg CW CD) : C8.Met P w K mg base 1 CD "between" spBetw [] := by
  refine met1 T.cD T.mBetw scBetw (fun vs H Q E h => ?_) fun f cdv A outer s H vs Q E hr h => ?_
  · obtain ⟨_, _, _, _, _, rfl, _⟩ := h
    rfl
  obtain ⟨d, l, n, xs, nms, rfl, ⟨ps, hl, hv⟩, hn, hnx, hx, hnl, hnn, q⟩ := h
  refine ⟨_, pss_cons (ps_set (i := 3) scBetw.nd rfl (Or.inl rfl) (pe_lst pa_nil))
    (pss_cons (ps_for PassesOwn.never rfl (pi_enum rfl T.zEnum (pa_cons (pv 1) pa_nil)) (pg_tup rfl (pgs_cons (pg_name (i := 4) scBetw.nd rfl (.inl rfl)) (pgs_cons (pg_name (i := 5) scBetw.nd rfl (.inl rfl)) pgs_nil)))
      (pss_cons (ps_expr (pe_bm PySem.F.plainAttrs_list PySem.F.slot_list_append PySem.F.type_list_append mt_append (pv 3) (pa_cons (pe_op op_add_str
          (pe_ifExp (pt_cmpR op_gt (pv 4) pe_int (nomark _)) pe_str pe_str)
          (pe_ifExp (pt_cmpR op_gt (pe_callB call_len_seq rfl T.zLen PySem.boot_len (pa_cons (pv 2) pa_nil)) pe_int (nomark _)) (pe_op op_add_str (pe_ix ix_list (pv 2) (pv 4) (fun _ _ => rfl)) pe_str) pe_str)) pa_nil)))
      (pss_one (ps_expr (pe_bm PySem.F.plainAttrs_list PySem.F.slot_list_append PySem.F.type_list_append mt_append (pv 3) (pa_cons (pv 5) pa_nil))))))
    (pss_one (ps_ret (pv 3)))), ?_⟩
  refine ⟨by show 0 ≤ sizeLine; decide, fun F hF => ?_⟩
  have s0 : Same H (upd H F (.lst [])) := same_new hF _
  have len : (ps.map V.ref).length = xs.length := by rw [List.length_map, hv.length]
  refine ⟨_, rfl, l, _, rfl, SqL.of (s0 _ _ hl), for_it (walk_enum (K := K) (a := l) (xs := ps.map V.ref)) (fun i σ H1 => ∃ ys k o, σ = [some (.ref d), some (.ref l), some (.ref n), some (.ref F), k, o] ∧ Same H H1 ∧ H1 F = some (.lst ys) ∧ Paired (ItAt H1) ys (betw nms 0 (xs.take i)))
    ⟨[], none, none, rfl, s0, upd_same, .nil⟩ (fun i σ H1 _ ⟨_, _, _, _, s1, _⟩ => SqL.of (s1 _ _ hl)) ?_ ?_⟩
  · rintro i x σ H1 H2 hi ⟨ys, k, o, rfl, s1, f1, pr⟩ ⟨t, _, y, rfl, ht, rfl, ex, ey⟩
    have ex := Option.some.inj ex
    subst ex
    obtain ⟨p, v, rfl, ep, ev, hp⟩ := hv.item ey
    have hil : i < xs.length := (List.getElem?_eq_some_iff.mp ev).1
    have sT : Same H1 (upd H1 t (.tup [V.int (i : Nat), V.ref p])) := same_new ht _
    have s2 : Same H (upd H1 t (.tup [V.int (i : Nat), V.ref p])) := s1.trans sT
    have f2 := sT _ _ f1
    refine ⟨t, _, rfl, SqT.of upd_same, rfl, _, _, rfl, _, _, rfl, rfl, ?_⟩
    refine ⟨_, rfl, .inl ⟨rfl, _, SqL.of f2⟩, ?_⟩
    have n2 := s2 _ _ hn
    have ysl : ys.length ≤ 200 := by
      rw [pr.length, betw_len, List.length_take]
      omega
    have L1 : ∀ a b : Str, a = sep i → b = nmOf nms i → a.length + b.length ≤ sizeLine := fun a b ea eb => by
      subst ea eb
      have h1 := sep_len i
      rw [cod_len] at h1
      have h2 : (nmOf nms i).length ≤ 12 := by
        unfold nmOf
        split
        · rw [len_app]
          have e2 : (": " : Str).length = 2 := by decide +kernel
          have e3 : (nms.getD i "").length ≤ 10 := by
            rw [List.getD_eq_getElem?_getD]
            cases e : nms[i]? with
            | none => exact Nat.zero_le _
            | some z => exact hnn z (List.mem_of_getElem? e)
          omega
        · exact Nat.zero_le _
      exact small2 (by omega)
    have L2 : ys.length < sizeLine := small1000 (by omega)
    have fin : ∀ z : Str, z = sep i ++ nmOf nms i → ∃ l' xs' y', V.ref F = .ref l' ∧ [V.ref p] = [y'] ∧ (upd (upd H1 t (.tup [V.int (i : Nat), V.ref p])) F (.lst (ys ++ [.str z]))) l' = some (.lst xs') ∧ xs'.length < sizeLine ∧
        ∃ ys' k o, [some (V.ref d), some (.ref l), some (.ref n), some (.ref F), some (.int (i : Nat)), some (.ref p)] = [some (V.ref d), some (.ref l), some (.ref n), some (.ref F), k, o] ∧ Same H (upd (upd (upd H1 t (.tup [V.int (i : Nat), V.ref p])) F (.lst (ys ++ [.str z]))) l' (.lst (xs' ++ [y']))) ∧
          (upd (upd (upd H1 t (.tup [V.int (i : Nat), V.ref p])) F (.lst (ys ++ [.str z]))) l' (.lst (xs' ++ [y']))) F = some (.lst ys') ∧ Paired (ItAt (upd (upd (upd H1 t (.tup [V.int (i : Nat), V.ref p])) F (.lst (ys ++ [.str z]))) l' (.lst (xs' ++ [y'])))) ys' (betw nms 0 (xs.take (i + 1))) := fun z ez => by
      have s3 : Same H (upd (upd (upd H1 t (.tup [V.int (i : Nat), V.ref p])) F (.lst (ys ++ [.str z]))) F (.lst ((ys ++ [.str z]) ++ [V.ref p]))) := fun b o e => by
        have nb : b ≠ F := ne_of_none e hF
        rw [upd_ne nb, upd_ne nb]
        exact s2 _ _ e
      have nt : NT (fun b => b = F) H1 := fun b hb xs' e => by
        subst hb
        rw [f1] at e
        cases e
      have k13 : Kp (fun b => b = F) H1 (upd (upd (upd H1 t (.tup [V.int (i : Nat), V.ref p])) F (.lst (ys ++ [.str z]))) F (.lst ((ys ++ [.str z]) ++ [V.ref p]))) := kp_upd (kp_upd (Same.kp sT) rfl) rfl
      refine ⟨F, _, _, rfl, rfl, upd_same, ?_, ys ++ [.str z] ++ [.ref p], _, _, rfl, s3, upd_same, ?_⟩
      · rw [List.length_append, List.length_singleton]
        exact small1000 (by omega)
      · rw [take_snoc ev, betw_snoc]
        refine pair_snoc2 (Paired.mono (fun _ _ h => ItAt.kp nt k13 h) pr) ?_ ⟨p, rfl, s3 _ _ hp⟩
        show V.str z = .str _
        rw [ez, List.length_take, Nat.zero_add, Nat.min_eq_left (Nat.le_of_lt hil)]
    refine ⟨_, rfl, _, _, rfl, rfl, _, rfl, ?_⟩
    have nl : (nms.map V.str).length = nms.length := List.length_map _
    by_cases c1 : 0 < i
    · have ea : (", " : Str) = sep i := by unfold sep; rw [if_pos c1]
      refine iteTb (decide_eq_true (by omega)) ⟨_, rfl, n, _, rfl, .inl (SqL.of n2), _, _, rfl, rfl, _, rfl, ?_⟩
      by_cases c2 : 0 < nms.length
      · have hi2 : i < nms.length := by
          rcases hnx with z | z
          · rw [z] at c2; cases c2
          · omega
        have eg : nms[i]? = some nms[i] := List.getElem?_eq_getElem hi2
        have eb : nms[i] ++ (": " : Str) = nmOf nms i := by
          unfold nmOf
          rw [if_pos c2, List.getD_eq_getElem?_getD, eg]
          rfl
        have lb : nms[i].length + (": " : Str).length ≤ sizeLine := by
          rw [← len_app, eb]
          have := L1 _ _ ea rfl
          omega
        exact iteTb (decide_eq_true (by rw [nl]; omega)) ⟨_, rfl, _, rfl, n, _, _, V.str nms[i], rfl, rfl, SqL.of n2, atI_nat (by rw [List.getElem?_map, eg]; rfl), _, _, rfl, rfl, lb, _, _, rfl, rfl, L1 _ _ ea eb, F, ys, _, rfl, rfl, f2, L2, _, rfl, .inl ⟨rfl, _, SqL.of upd_same⟩, _, rfl, fin _ (by rw [← ea, ← eb])⟩
      · have eb : ("" : Str) = nmOf nms i := by unfold nmOf; rw [if_neg c2]
        exact iteFb (decide_eq_false (by rw [nl]; omega)) ⟨_, _, rfl, rfl, L1 _ _ ea eb, F, ys, _, rfl, rfl, f2, L2, _, rfl, .inl ⟨rfl, _, SqL.of upd_same⟩, _, rfl, fin _ (by rw [← ea, ← eb])⟩
    · have ea : ("" : Str) = sep i := by unfold sep; rw [if_neg c1]
      refine iteFb (decide_eq_false (by omega)) ⟨_, rfl, n, _, rfl, .inl (SqL.of n2), _, _, rfl, rfl, _, rfl, ?_⟩
      by_cases c2 : 0 < nms.length
      · have hi2 : i < nms.length := by
          rcases hnx with z | z
          · rw [z] at c2; cases c2
          · omega
        have eg : nms[i]? = some nms[i] := List.getElem?_eq_getElem hi2
        have eb : nms[i] ++ (": " : Str) = nmOf nms i := by
          unfold nmOf
          rw [if_pos c2, List.getD_eq_getElem?_getD, eg]
          rfl
        have lb : nms[i].length + (": " : Str).length ≤ sizeLine := by
          rw [← len_app, eb]
          have := L1 _ _ ea rfl
          omega
        exact iteTb (decide_eq_true (by rw [nl]; omega)) ⟨_, rfl, _, rfl, n, _, _, V.str nms[i], rfl, rfl, SqL.of n2, atI_nat (by rw [List.getElem?_map, eg]; rfl), _, _, rfl, rfl, lb, _, _, rfl, rfl, L1 _ _ ea eb, F, ys, _, rfl, rfl, f2, L2, _, rfl, .inl ⟨rfl, _, SqL.of upd_same⟩, _, rfl, fin _ (by rw [← ea, ← eb])⟩
      · have eb : ("" : Str) = nmOf nms i := by unfold nmOf; rw [if_neg c2]
        exact iteFb (decide_eq_false (by rw [nl]; omega)) ⟨_, _, rfl, rfl, L1 _ _ ea eb, F, ys, _, rfl, rfl, f2, L2, _, rfl, .inl ⟨rfl, _, SqL.of upd_same⟩, _, rfl, fin _ (by rw [← ea, ← eb])⟩
  · rintro σ H1 ⟨ys, k, o, rfl, s1, f1, pr⟩
    rw [len, List.take_length] at pr
    exact ⟨_, rfl, q F H1 ys s1 hF f1 pr⟩
end
end K4

namespace K4
open PySem PySem.Spec PyProof.Rows L2
/-- the cells of a world are of that kind -/
def GokR (rows : List Row) : Prop := ∀ r ∈ rows, cOk r.c
theorem flat_ints : ∀ (l : List Int), (l.map V.int).all flatV = true
  | [] => rfl
  | _ :: r => flat_ints r
theorem inV_ints (a : Int) : ∀ (l : List Int), inV (V.int a) (l.map V.int) = decide (a ∈ l)
  | [] => rfl
  | b :: r => by
    have ih := inV_ints a r
    show (eqV (V.int b) (V.int a) || inV (V.int a) (r.map V.int)) = _
    rw [ih]
    by_cases e : b = a
    · subst e
      have e1 : eqV (V.int b) (V.int b) = true := by simp [eqV]
      rw [e1, Bool.true_or]
      exact (decide_eq_true List.mem_cons_self).symm
    · have e1 : eqV (V.int b) (V.int a) = false := by simp [eqV, e]
      rw [e1, Bool.false_or]
      by_cases m : a ∈ r
      · rw [decide_eq_true m, decide_eq_true (List.mem_cons_of_mem _ m)]
      · rw [decide_eq_false m, decide_eq_false fun z => (List.mem_cons.mp z).elim (fun z => e z.symm) m]
theorem ixOf_get {a : Int} : ∀ {l : List Int}, a ∈ l → l[ixOf a l]? = some a ∧ ∀ (m : Nat) (z : Int), m < ixOf a l → l[m]? = some z → z ≠ a
  | [], h => by cases h
  | b :: r, h => by
    by_cases e : b = a
    · subst e
      have e0 : ixOf b (b :: r) = 0 := by show (if b = b then 0 else _) = 0; rw [if_pos rfl]
      rw [e0]
      exact ⟨rfl, fun m z hm => absurd hm (Nat.not_lt_zero _)⟩
    · have e0 : ixOf a (b :: r) = ixOf a r + 1 := by show (if b = a then 0 else _) = _; rw [if_neg e]
      rw [e0]
      obtain ⟨h1, h2⟩ := ixOf_get ((List.mem_cons.mp h).resolve_left fun z => e z.symm)
      refine ⟨h1, fun m z hm hz => ?_⟩
      cases m with
      | zero =>
        have := Option.some.inj hz
        subst this
        exact e
      | succ m => exact h2 m z (by omega) hz
section
variable {P : Program} {w : World} {K : PySem.W.Frag} {mg : Str → Option Value} {base : Heap} {CW CD : Addr}
/-! ### Dump.opened -/
def spOpen (CW CD : Addr) : Sp := fun vs H Q _ => ∃ d p m A S v met its met1, vs = [.ref d, .ref p] ∧ DOb CD H d A.p m ∧ H m = some (.lst (met.map V.int)) ∧ WorldAt CW H A S ∧ ¬ Own A S.rows m ∧ VAt H p v ∧ vOk v ∧ GokR S.rows ∧ met.length ≤ 100 ∧ opn (gr S.rows) v met = some (its, met1) ∧
  ∀ r H' ys, Kp (fun b => b = m) H H' → H' m = some (.lst (met1.map V.int)) → H r = none → r ≠ m → H' r = some (.lst ys) → Paired (ItAt H') ys its → Q (.ref r) H'
theorem scOpen : FnScope ["self", "value", "cell"] ["self", "value"] (C8.fnScope sDOpen) := C8.fnScope_by (by decide +kernel)
theorem names_short : ∀ (n : Nat) (x : Str), x ∈ names n → x.length ≤ 10 := fun n x h => by
  unfold names at h
  obtain ⟨i, _, rfl⟩ := List.mem_map.mp h
  show 1 ≤ 10
  decide
theorem ok_open (T : Txt K mg CW CD) : C8.Met P w K mg base 2 CD "opened" (spOpen CW CD) [] := by
  refine met1 T.cD T.mOpen scOpen (fun vs H Q E h => ?_) fun f cdv A outer s H vs Q E hr h => ?_
  · obtain ⟨_, _, _, _, _, _, _, _, _, rfl, _⟩ := h
    rfl
  obtain ⟨d, p, m, A, S, v, met, its, met1, rfl, ⟨dx, fs, h1, h2⟩, hm, W, hmo, hv, vok, gok, ml, ho, q⟩ := h
  obtain ⟨wdx, wfs, wpr, w1, wl1, w2⟩ := W.ob
  refine ⟨_, pss_cons (ps_if (pt_cmpR op_ne (pe_ix ix_tup (pv 1) pe_int (fun _ _ => rfl)) pe_str (nomark _)) (pss_one (ps_ret (pe_lst (pa_cons (C8.pe_mt (ok_plain T) hr (by decide) (pv 0) (pa_cons (pv 1) pa_nil)) pa_nil)))) pss_nil)
    (pss_cons (ps_if (pt_cmpR op_in_seq (pe_ix ix_tup (pv 1) pe_int (fun _ _ => rfl)) (pe_fld (pv 0) rfl) rfl)
      (pss_one (ps_ret (pe_lst (pa_cons (pe_op op_add_str pe_str (pe_callTy call_str_int (by rfl) T.zStr (by decide +kernel) (pa_cons (pe_bm PySem.F.plainAttrs_list PySem.F.slot_list_index PySem.F.type_list_index mt_index (pe_fld (pv 0) rfl) (pa_cons (pe_ix ix_tup (pv 1) pe_int (fun _ _ => rfl)) pa_nil)) pa_nil))) pa_nil)))) pss_nil)
    (pss_cons (ps_expr (pe_bm PySem.F.plainAttrs_list PySem.F.slot_list_append PySem.F.type_list_append mt_append (pe_fld (pv 0) rfl) (pa_cons (pe_ix ix_tup (pv 1) pe_int (fun _ _ => rfl)) pa_nil)))
    (pss_cons (ps_set (i := 2) scOpen.nd rfl (Or.inl rfl) (C8.pe_mt (ok_cell T) hr (by decide) (pe_fld (pv 0) rfl) (pa_cons (pv 1) pa_nil)))
    (pss_cons (ps_if (pt_cmpR op_eq (pe_ix ix_list (pv 2) pe_int (fun _ _ => rfl)) pe_str (nomark _))
      (pss_one (ps_ret (pe_lst (pa_cons pe_str (StX.pa_star (C8.pe_mt (ok_betw T) hr (by decide) (pv 0) (pa_cons (pe_ix ix_list (pv 2) pe_int (fun _ _ => rfl)) (pa_cons (pe_lst pa_nil) pa_nil))) (pa_cons pe_str pa_nil)))))) pss_nil)
    (pss_cons (ps_if (pt_cmpR op_eq (pe_ix ix_list (pv 2) pe_int (fun _ _ => rfl)) pe_str (nomark _))
      (pss_one (ps_ret (pe_lst (pa_cons (pe_op op_add_str (pe_op op_add_str pe_str (pe_callTy call_str_int (by rfl) T.zStr (by decide +kernel) (pa_cons (pe_ix ix_list (pv 2) pe_int (fun _ _ => rfl)) pa_nil))) pe_str)
        (StX.pa_star (C8.pe_mt (ok_betw T) hr (by decide) (pv 0) (pa_cons (pe_ix ix_list (pv 2) pe_int (fun _ _ => rfl)) (pa_cons (pe_lst pa_nil) pa_nil))) (pa_cons pe_str pa_nil)))))) pss_nil)
    (pss_one (ps_ret (pe_lst (pa_cons pe_str (StX.pa_star (C8.pe_mt (ok_betw T) hr (by decide) (pv 0) (pa_cons (pe_ix ix_list (pv 2) pe_int (fun _ _ => rfl)) (pa_cons (C8.pe_mt (ok_names T) hr (by decide) (pe_fld (pv 0) rfl) (pa_cons (pe_ix ix_list (pv 2) pe_int (fun _ _ => rfl)) pa_nil)) pa_nil))) (pa_cons pe_str pa_nil))))))))))), ?_⟩
  have nw : fs.lookup ("plain" : Str) = none := (h2 _).trans (dl_no (by decide +kernel) (by decide +kernel))
  have nbw : fs.lookup ("between" : Str) = none := (h2 _).trans (dl_no (by decide +kernel) (by decide +kernel))
  refine ⟨_, rfl, p, _, _, _, rfl, rfl, hv.sq, at0, rfl, _, rfl, ?_⟩
  rw [dec_ref v]
  rcases opn_cases ho with ⟨a, rfl, ha, rfl, rfl⟩ | ⟨a, c, rfl, ha, hc, rfl, rfl⟩ | ⟨hr0, rfl, rfl⟩
  · -- met before
    refine iteF ⟨_, rfl, p, _, _, _, rfl, rfl, hv.sq, at1 (by intro e; cases e), _, rfl, d, CD, dx, fs, _, rfl, h1, T.cD, T.nDm, (h2 _).trans dl_m, m, _, rfl, .inl (SqL.of hm), rfl, flat_ints _, _, rfl, ?_⟩
    show if inV (V.int a) (met1.map V.int) = true then _ else _
    rw [inV_ints, decide_eq_true ha]
    obtain ⟨g1, g2⟩ := ixOf_get ha
    have il := ixOf_lt ha
    refine iteT ⟨_, rfl, d, CD, dx, fs, _, rfl, h1, T.cD, T.nDm, (h2 _).trans dl_m, .inl ⟨rfl, _, SqL.of hm⟩, _, rfl, p, _, _, _, rfl, rfl, hv.sq, at1 (by intro e; cases e), m, _, _, ixOf a met1, V.int a, rfl, rfl, SqL.of hm, rfl, flat_ints _, ?_, by simp [eqV, pay], ?_, _, rfl, log_ok ?_, _, _, rfl, rfl, ?_, ?_⟩
    · rw [List.getElem?_map, g1]
      rfl
    · intro j z' hj hz
      rw [List.getElem?_map] at hz
      obtain ⟨z, hz2, rfl⟩ := Option.map_eq_some_iff.mp hz
      have := g2 j z hj hz2
      simp [eqV, pay, this]
    · have : ixOf a met1 < 100 := by omega
      omega
    · have h := num_len (ixOf a met1) (by omega)
      rw [cod_len, len_app] at h
      exact small2 (by omega)
    · refine ⟨by show 1 ≤ sizeLine; decide, fun r hr' => ?_⟩
      have rm : r ≠ m := fun z => by rw [z, hm] at hr'; cases hr'
      exact q r _ _ (fun b o e _ => (same_new hr' _) b o e) ((same_new hr' _) _ _ hm) hr' rm upd_same (.cons rfl .nil)
  · -- a new cell
    obtain ⟨r, hrow, ea, ec⟩ := gr_some hc
    subst ea ec
    have ok := gok r hrow
    have c4 := ok.le
    refine iteF ⟨_, rfl, p, _, _, _, rfl, rfl, hv.sq, at1 (by intro e; cases e), _, rfl, d, CD, dx, fs, _, rfl, h1, T.cD, T.nDm, (h2 _).trans dl_m, m, _, rfl, .inl (SqL.of hm), rfl, flat_ints _, _, rfl, ?_⟩
    show if inV (V.int r.a) (met.map V.int) = true then _ else _
    rw [inV_ints, decide_eq_false ha]
    let H1 : Hp := upd H m (.lst (met.map V.int ++ [V.int r.a]))
    have m1 : H1 m = some (.lst ((met ++ [r.a]).map V.int)) := by
      show (upd H m _) m = _
      rw [upd_same, List.map_append]
      rfl
    have k1 : Kp (fun b => b = m) H H1 := kp_upd (fun b o e _ => e) rfl
    have nt : NT (fun b => b = m) H := fun b hb xs e => by
      subst hb
      rw [hm] at e
      cases e
    have W1 : WorldAt CW H1 A S := W.kpO nt k1 fun b hb => by subst hb; exact hmo
    have dm : d ≠ m := fun z => by rw [z, hm] at h1; cases h1
    have d1 : H1 d = some (.ins CD dx fs) := (upd_ne dm).trans h1
    have v1 : VAt H1 p (.ref r.a) := hv.kp nt k1
    obtain ⟨wdx, wfs, wpr, w1', wl1', w2'⟩ := W1.ob
    refine iteF ⟨_, rfl, d, CD, dx, fs, _, rfl, h1, T.cD, T.nDm, (h2 _).trans dl_m, .inl ⟨rfl, _, SqL.of hm⟩, _, rfl, p, _, _, _, rfl, rfl, hv.sq, at1 (by intro e; cases e), m, _, _, rfl, rfl, hm, by rw [List.length_map]; exact small1000 (by omega), ?_⟩
    refine ⟨_, rfl, d, CD, dx, fs, _, rfl, d1, T.cD, T.nDw, (h2 _).trans dl_w, A.p, wdx, wfs, rfl, w1', (w2' _).trans (wl_no (by decide +kernel)), _, rfl, A, p, r.a, _, _, rfl, ⟨wdx, wfs, wpr, S.fr, w1', w2'⟩, v1, .inl W1.ce, row_val W1.an hrow, ?_⟩
    have cl1 := (W1.rw r hrow).cl
    have fin : ∀ (H3 : Hp) (ys : List V) (L : Addr), Same H1 H3 → Paired (ItAt H3) ys (betw (nmsOf r.c) 0 r.c.vs) → H3 L = none → Q (.ref L) (upd H3 L (.lst (.str (opener r.c) :: (ys ++ [.str (closer r.c)])))) := fun H3 ys L s3 pr hL => by
      have s4 : Same H3 (upd H3 L (.lst (.str (opener r.c) :: (ys ++ [.str (closer r.c)])))) := same_new hL _
      have z : H1 L = none := L2.Same.free s3 hL
      have Lm : L ≠ m := fun e => by rw [e, m1] at z; cases z
      have HL : H L = none := by
        have : (upd H m (.lst (met.map V.int ++ [V.int r.a]))) L = none := z
        rw [upd_ne Lm] at this
        exact this
      exact q L _ _ (fun b o e hb => s4 _ _ (s3 _ _ (k1 b o e hb))) (s4 _ _ (s3 _ _ m1)) HL Lm upd_same (.cons rfl (pair_app (Paired.mono (fun _ _ h => ItAt.same s4 h) pr) (.cons rfl .nil)))
    have finL : ∀ (H3 : Hp) (ys : List V) (a b : Str), Paired (ItAt H3) ys (betw (nmsOf r.c) 0 r.c.vs) → (V.str a :: (ys ++ [V.str b])).length ≤ sizeLine := fun H3 ys a b pr => by
      rw [List.length_cons, List.length_append, List.length_singleton, pr.length, betw_len]
      exact small2 (by omega)
    have lv := (W1.rw r hrow).vl
    cases hk : r.c.kind with
    | lst =>
      rw [head_lst hk] at cl1
      have eo : opener r.c = "[" := by unfold opener; rw [hk]
      have ec : closer r.c = "]" := by unfold closer; rw [hk]
      have en : nmsOf r.c = [] := by unfold nmsOf; rw [hk]
      rw [eo, ec, en] at fin
      rw [en] at finL
      refine ⟨_, rfl, r.cl, _, _, V.str "list", rfl, rfl, SqL.of cl1, rfl, rfl, _, rfl, iteTb (decide_eq_true rfl) ?_⟩
      refine ⟨_, rfl, d, dx, fs, rfl, d1, nbw, _, rfl, r.cl, _, _, _, rfl, rfl, SqL.of cl1, rfl, by show 0 ≤ sizeLine; decide, fun n hn => ?_⟩
      have s2 : Same H1 (upd H1 n (.lst [])) := same_new hn _
      refine ⟨d, r.vl, n, r.c.vs, [], rfl, LV.same s2 lv, upd_same, .inl rfl, by omega, by show 0 ≤ 100; decide, (fun x hx => by cases hx), fun R H3 ys s3 hR hys pr => ⟨R, ys, rfl, .inr (SqL.of hys), ?_⟩⟩
      exact ⟨finL H3 ys _ _ pr, fun L hL => fin H3 ys L (L2.Same.trans s2 s3) pr hL⟩
    | clo =>
      rw [head_clo hk] at cl1
      have eo : opener r.c = ("fun " : Str) ++ toString r.c.f ++ "(" := by unfold opener; rw [hk]
      have ec : closer r.c = ")" := by unfold closer; rw [hk]
      have en : nmsOf r.c = [] := by unfold nmsOf; rw [hk]
      have ol := ok.op
      rw [cod_len, eo, len_app, len_app] at ol
      rw [eo, ec, en] at fin
      rw [en] at finL
      refine ⟨_, rfl, r.cl, _, _, V.str "closure", rfl, rfl, SqL.of cl1, rfl, rfl, _, rfl, iteFb (decide_eq_false (by show ¬ (V.str "closure" = V.str "list"); decide +kernel)) ?_⟩
      refine ⟨_, rfl, r.cl, _, _, V.str "closure", rfl, rfl, SqL.of cl1, rfl, rfl, _, rfl, iteTb (decide_eq_true rfl) ?_⟩
      refine ⟨_, rfl, r.cl, _, _, _, rfl, rfl, SqL.of cl1, rfl, _, rfl, log_ok ok.fb, _, _, rfl, rfl, small2 (by omega), _, _, rfl, rfl, small2 (by rw [len_app]; omega), ?_⟩
      refine ⟨_, rfl, d, dx, fs, rfl, d1, nbw, _, rfl, r.cl, _, _, _, rfl, rfl, SqL.of cl1, rfl, by show 0 ≤ sizeLine; decide, fun n hn => ?_⟩
      have s2 : Same H1 (upd H1 n (.lst [])) := same_new hn _
      refine ⟨d, r.vl, n, r.c.vs, [], rfl, LV.same s2 lv, upd_same, .inl rfl, by omega, by show 0 ≤ 100; decide, (fun x hx => by cases hx), fun R H3 ys s3 hR hys pr => ⟨R, ys, rfl, .inr (SqL.of hys), ?_⟩⟩
      exact ⟨finL H3 ys _ _ pr, fun L hL => fin H3 ys L (L2.Same.trans s2 s3) pr hL⟩
    | obj =>
      rw [head_obj hk] at cl1
      have eo : opener r.c = "{" := by unfold opener; rw [hk]
      have ec : closer r.c = "}" := by unfold closer; rw [hk]
      have en : nmsOf r.c = names r.c.vs.length := by unfold nmsOf; rw [hk]
      rw [eo, ec, en] at fin
      rw [en] at finL
      refine ⟨_, rfl, r.cl, _, _, V.str "object", rfl, rfl, SqL.of cl1, rfl, rfl, _, rfl, iteFb (decide_eq_false (by show ¬ (V.str "object" = V.str "list"); decide +kernel)) ?_⟩
      refine ⟨_, rfl, r.cl, _, _, V.str "object", rfl, rfl, SqL.of cl1, rfl, rfl, _, rfl, iteFb (decide_eq_false (by show ¬ (V.str "object" = V.str "closure"); decide +kernel)) ?_⟩
      refine ⟨_, rfl, d, dx, fs, rfl, d1, nbw, _, rfl, r.cl, _, _, _, rfl, rfl, SqL.of cl1, rfl, ?_⟩
      refine ⟨_, rfl, d, CD, dx, fs, _, rfl, d1, T.cD, T.nDw, (h2 _).trans dl_w, A.p, wdx, wfs, rfl, w1', (w2' _).trans (wl_no (by decide +kernel)), _, rfl, r.cl, _, _, _, rfl, rfl, SqL.of cl1, rfl, A, S.ki, r.c.vs.length, rfl, W1.wv, (W1.kk r hrow hk).1, fun n H2 s2 hn en2 => ?_⟩
      refine ⟨d, r.vl, n, r.c.vs, names r.c.vs.length, rfl, LV.same s2 lv, en2, .inr (by rw [names_length]; exact Nat.le_refl _), by omega, by rw [names_length]; omega, names_short _, fun R H3 ys s3 hR hys pr => ⟨R, ys, rfl, .inr (SqL.of hys), ?_⟩⟩
      exact ⟨finL H3 ys _ _ pr, fun L hL => fin H3 ys L (L2.Same.trans s2 s3) pr hL⟩
  · -- no reference
    rw [hr0]
    refine iteT ⟨_, rfl, d, dx, fs, rfl, h1, nw, _, rfl, d, p, v, rfl, hv, hr0, vok, by show 1 ≤ sizeLine; decide, fun r hr' => ?_⟩
    have rm : r ≠ m := fun z => by rw [z, hm] at hr'; cases hr'
    exact q r _ _ (fun b o e _ => (same_new hr' _) b o e) ((same_new hr' _) _ _ hm) hr' rm upd_same (.cons rfl .nil)
/-! ### Dump.text -/
theorem pair_last {α β : Type} {F : α → β → Prop} : ∀ {xs : List α} {l : List β} {x : β}, Paired F xs (l ++ [x]) → ∃ zs y, xs = zs ++ [y] ∧ Paired F zs l ∧ F y x
  | _, [], _, .cons h .nil => ⟨[], _, rfl, .nil, h⟩
  | _, b :: l, x, .cons h t => by
    obtain ⟨zs, y, e, p, q⟩ := pair_last (l := l) t
    exact ⟨_ :: zs, y, by rw [e]; rfl, .cons h p, q⟩
theorem joinL_nil : ∀ l : List (List Nat), TL.joinL [] l = l.flatten
  | [] => rfl
  | [p] => by show p = p ++ []; rw [List.append_nil]
  | p :: q :: r => by
    show p ++ ([] ++ TL.joinL [] (q :: r)) = p ++ (q :: r).flatten
    rw [joinL_nil (q :: r)]
    rfl
theorem cod_join (ys : List Str) : cod (Txt.join "" ys) = (ys.map cod).flatten := by
  show TL.tl _ = _
  rw [TL.join_eq, TL.tl_join]
  exact joinL_nil _
def mkS (l : List Nat) : Str := ⟨l.toArray⟩
theorem mkS_cod {x : Str} {l : List Nat} (h : cod x = l) : x = mkS l := by
  subst h
  exact (TL.mk_tl x).symm
theorem cod_mkS (l : List Nat) : cod (mkS l) = l := rfl
def spText (CW CD : Addr) : Sp := fun vs H Q _ => ∃ d p m A S v met n cs met1 N, vs = [.ref d, .ref p] ∧ DOb CD H d A.p m ∧ H m = some (.lst (met.map V.int)) ∧ WorldAt CW H A S ∧ ¬ Own A S.rows m ∧ VAt H p v ∧ vOk v ∧ GokR S.rows ∧ Gok (gr S.rows) N ∧ Mok (gr S.rows) met ∧ Dmp (gr S.rows) n [.v v] met cs met1 ∧
  ∀ H', Kp (fun b => b = m) H H' → H' m = some (.lst (met1.map V.int)) → Q (.str (mkS cs)) H'
theorem scText : FnScope ["self", "value", "found", "waiting", "one"] ["self", "value"] (C8.fnScope sDText) := C8.fnScope_by (by decide +kernel)
theorem sum_app (a b : List Nat) : (a ++ b).sum = a.sum + b.sum := by
  induction a with
  | nil => show b.sum = 0 + b.sum; omega
  | cons x l ih => rw [List.cons_append, List.sum_cons, List.sum_cons, ih]; omega
theorem ok_text (T : Txt K mg CW CD) : C8.Met P w K mg base 3 CD "text" (spText CW CD) [] := by
  refine met1 T.cD T.mText scText (fun vs H Q E h => ?_) fun f cdv A outer s H vs Q E hr h => ?_
  · obtain ⟨_, _, _, _, _, _, _, _, _, _, _, rfl, _⟩ := h
    rfl
  obtain ⟨d, p, m, A, S, v, met, n, cs, met1, N, rfl, ⟨dx, fs, h1, h2⟩, hm, W, hmo, hv, vok, gok, G, M, D, q⟩ := h
  refine ⟨_, pss_cons (ps_set (i := 2) scText.nd rfl (Or.inl rfl) (pe_lst pa_nil))
    (pss_cons (ps_set (i := 3) scText.nd rfl (Or.inl rfl) (pe_lst (pa_cons (pv 1) pa_nil)))
    (pss_cons (ps_while PassesOwn.never (pt_cmpR op_gt (pe_callB call_len_seq rfl T.zLen PySem.boot_len (pa_cons (pv 3) pa_nil)) pe_int (nomark _))
      (pss_cons (ps_set (i := 4) scText.nd rfl (Or.inl rfl) (pe_bm0 PySem.F.plainAttrs_list PySem.F.slot_list_pop PySem.F.type_list_pop mt_pop (pv 3)))
      (pss_one (ps_if (pt_val (pe_callB call_isi rfl T.zIsi (by decide +kernel) (pa_cons (pv 4) (pa_cons (pe_bltn (v := .ty "str") rfl T.zStr (by decide +kernel) rfl) pa_nil))))
        (pss_one (ps_expr (pe_bm PySem.F.plainAttrs_list PySem.F.slot_list_append PySem.F.type_list_append mt_append (pv 2) (pa_cons (pv 4) pa_nil))))
        (pss_one (ps_expr (pe_bm PySem.F.plainAttrs_list PySem.F.slot_list_extend PySem.F.type_list_extend mt_extend (pv 3) (pa_cons (pe_revL (C8.pe_mt (ok_open T) hr (by decide) (pv 0) (pa_cons (pv 4) pa_nil))) pa_nil))))))))
    (pss_one (ps_ret (pe_join pe_str (pv 2)))))), ?_⟩
  refine ⟨by show 0 ≤ sizeLine; decide, fun F hF => ?_⟩
  have s0 : Same H (upd H F (.lst [])) := same_new hF _
  refine ⟨_, rfl, by show 1 ≤ sizeLine; decide, fun Wt hWt => ?_⟩
  have s1 : Same (upd H F (.lst [])) (upd (upd H F (.lst [])) Wt (.lst [V.ref p])) := same_new hWt _
  have hW0 : H Wt = none := L2.Same.free s0 hWt
  have FW : F ≠ Wt := ne_of_none (o := .lst []) (show (upd H F (.lst [])) F = _ from upd_same) hWt
  have mF : m ≠ F := ne_of_none hm hF
  have mW : m ≠ Wt := ne_of_none hm hW0
  have hN := G.n
  have hml := G.le met M.nd M.dom
  refine ⟨fun k σ H1 => ∃ (ys : List Str) (zs : List V) (st : List It) (met' : List Int) (cs' : List Nat) (o : Option V), σ = [some (.ref d), some (.ref p), some (.ref F), some (.ref Wt), o] ∧ Kp (fun b => b = m) H H1 ∧ H1 F = some (.lst (ys.map V.str)) ∧ H1 Wt = some (.lst zs) ∧
      Paired (ItAt H1) zs st.reverse ∧ H1 m = some (.lst (met'.map V.int)) ∧ Dmp (gr S.rows) k st met' cs' met1 ∧ (ys.map cod).flatten ++ cs' = cs ∧ Mok (gr S.rows) met' ∧ (∀ i ∈ st, iOk i) ∧ (ys.map (·.length)).sum + ys.length + wt st + 400 * (N - met'.length) ≤ 50 + 400 * N,
    ⟨n, [], [V.ref p], [.v v], met, cs, none, rfl, Same.kp (L2.Same.trans s0 s1), ?_, upd_same, .cons ⟨p, rfl, (L2.Same.trans s0 s1) _ _ hv⟩ .nil, (L2.Same.trans s0 s1) _ _ hm, D, rfl, M, ?_, ?_⟩, ?_⟩
  · rw [upd_ne FW]
    exact upd_same
  · intro i hi
    rw [List.mem_singleton.mp hi]
    exact vok
  · show 0 + 0 + (50 + 0) + 400 * (N - met.length) ≤ 50 + 400 * N
    omega
  rintro k σ H1 ⟨ys, zs, st, met', cs', o, rfl, k1, f1, w1, pr, m1, D1, ec, M1, io, pot⟩
  have hml' := G.le met' M1.nd M1.dom
  have nt : NT (fun b => b = m) H := fun b hb xs e => by
    subst hb
    rw [hm] at e
    cases e
  have W1 : WorldAt CW H1 A S := W.kpO nt k1 fun b hb => by subst hb; exact hmo
  have dm : d ≠ m := fun z => by rw [z, hm] at h1; cases h1
  have d1 : H1 d = some (.ins CD dx fs) := k1 _ _ h1 dm
  refine ⟨_, rfl, Wt, zs, rfl, .inl (SqL.of w1), _, _, rfl, rfl, _, rfl, ?_⟩
  have zl : zs.length = st.length := by rw [pr.length, List.length_reverse]
  cases st with
  | nil =>
    refine iteFb (decide_eq_false (by rw [zl]; show ¬ (0 : Int) < 0; omega)) ?_
    cases D1
    rw [List.append_nil] at ec
    refine ⟨⟨_, rfl⟩, _, rfl, "", F, ys, rfl, rfl, .inl (SqL.of f1), ?_, ?_⟩
    · show (ys.map (·.length)).sum + ys.length * 0 ≤ 16777216
      omega
    · rw [mkS_cod ((cod_join ys).trans ec)]
      exact q H1 k1 m1
  | cons it st =>
    refine iteTb (decide_eq_true (by rw [zl, List.length_cons]; omega)) ?_
    rw [List.reverse_cons] at pr
    obtain ⟨zs', y, rfl, pr', hy⟩ := pair_last pr
    -- waiting.pop()
    let H2 : Hp := upd H1 Wt (.lst zs')
    have k12 : Kp (fun b => b = Wt) H1 H2 := kp_upd (fun b o e _ => e) rfl
    have ntW : NT (fun b => b = Wt) H1 := fun b hb xs e => by
      subst hb
      rw [w1] at e
      cases e
    have k2 : Kp (fun b => b = m) H H2 := fun b o e hb => by
      have : b ≠ Wt := ne_of_none e hW0
      show (upd H1 Wt _) b = _
      rw [upd_ne this]
      exact k1 _ _ e hb
    have f2 : H2 F = some (.lst (ys.map V.str)) := (upd_ne FW).trans f1
    have w2 : H2 Wt = some (.lst zs') := upd_same
    have m2 : H2 m = some (.lst (met'.map V.int)) := (upd_ne mW).trans m1
    have pr2 : Paired (ItAt H2) zs' st.reverse := Paired.mono (fun _ _ h => ItAt.kp ntW k12 h) pr'
    have hy2 : ItAt H2 y it := hy.kp ntW k12
    have io' : ∀ i ∈ st, iOk i := fun i hi => io i (List.mem_cons_of_mem _ hi)
    refine ⟨fun σ' H' => ∃ k', k' < k ∧ ∃ (ys : List Str) (zs : List V) (st : List It) (met' : List Int) (cs' : List Nat) (o : Option V), σ' = [some (.ref d), some (.ref p), some (.ref F), some (.ref Wt), o] ∧ Kp (fun b => b = m) H H' ∧ H' F = some (.lst (ys.map V.str)) ∧ H' Wt = some (.lst zs) ∧
      Paired (ItAt H') zs st.reverse ∧ H' m = some (.lst (met'.map V.int)) ∧ Dmp (gr S.rows) k' st met' cs' met1 ∧ (ys.map cod).flatten ++ cs' = cs ∧ Mok (gr S.rows) met' ∧ (∀ i ∈ st, iOk i) ∧ (ys.map (·.length)).sum + ys.length + wt st + 400 * (N - met'.length) ≤ 50 + 400 * N,
      fun σ' H' ⟨k', hk', z⟩ => ⟨k', hk', z⟩, ?_⟩
    refine ⟨_, rfl, .inl ⟨rfl, _, SqL.of w1⟩, Wt, _, y, rfl, rfl, w1, by rw [List.length_append, List.length_singleton, Nat.add_sub_cancel, List.getElem?_append_right (Nat.le_refl _), Nat.sub_self]; rfl, ?_⟩
    rw [List.dropLast_concat]
    cases it with
    | s x =>
      have hy2 : y = .str x := hy2
      subst hy2
      cases D1 with
      | @s k' _ _ _ cs2 _ D2 =>
        have ysl : ys.length ≤ 50000 := by omega
        refine ⟨_, rfl, _, _, .type "str", .type "str", true, rfl, .ty _, .base (.str x), kit_ty (by decide +kernel), _, rfl, iteT ?_⟩
        refine ⟨_, rfl, .inl ⟨rfl, _, SqL.of f2⟩, _, rfl, F, _, _, rfl, rfl, f2, by rw [List.length_map]; exact Nat.lt_of_le_of_lt ysl (by decide), ?_⟩
        have kF : Kp (fun b => b = F) H2 (upd H2 F (.lst (ys.map V.str ++ [V.str x]))) := kp_upd (fun b o e _ => e) rfl
        have ntF : NT (fun b => b = F) H2 := fun b hb xs e => by
          subst hb
          rw [f2] at e
          cases e
        refine ⟨k', Nat.lt_succ_self _, ys ++ [x], zs', st, met', cs2, _, rfl, fun b o e hb => ?_, ?_, (upd_ne FW.symm).trans w2, Paired.mono (fun _ _ h => ItAt.kp ntF kF h) pr2, (upd_ne mF).trans m2, D2, ?_, M1, io', ?_⟩
        · rw [upd_ne (ne_of_none e hF)]
          exact k2 b o e hb
        · rw [upd_same, List.map_append]
          rfl
        · rw [List.map_append, List.flatten_append, List.append_assoc]
          show _ ++ ((cod x ++ []) ++ cs2) = cs
          rw [List.append_nil]
          exact ec
        · have e1 : wt (.s x :: st) = (cod x).length + 1 + wt st := rfl
          rw [e1, cod_len] at pot
          rw [List.map_append, sum_app, List.length_append]
          show (ys.map (·.length)).sum + (x.length + 0) + (ys.length + 1) + wt st + 400 * (N - met'.length) ≤ 50 + 400 * N
          omega
    | v z =>
      obtain ⟨pz, rfl, hz⟩ := hy2
      cases D1 with
      | @v k' _ _ _ its m3 _ _ ho D2 =>
        have hzok : vOk z := io _ List.mem_cons_self
        obtain ⟨o1, o2, o3⟩ := opn_ok G ho hzok M1
        have tz : TyX K H2 (.ref pz) (.type "tuple") := .base (.tup hz)
        refine ⟨_, rfl, _, _, .type "tuple", .type "str", false, rfl, .ty _, tz, kit_ty (by decide +kernel), _, rfl, iteF ?_⟩
        have W2 : WorldAt CW H2 A S := W.kpO nt k2 fun b hb => by subst hb; exact hmo
        have d2 : H2 d = some (.ins CD dx fs) := k2 _ _ h1 dm
        refine ⟨_, rfl, .inl ⟨rfl, _, SqL.of w2⟩, _, rfl, d, dx, fs, rfl, d2, (h2 _).trans (dl_no (by decide +kernel) (by decide +kernel)), _, rfl, d, pz, m, A, S, z, met', its, m3, rfl, ⟨dx, fs, d2, h2⟩, m2, W2, hmo, hz, hzok, gok, by omega, ho, fun R H3 zs3 k3 m3' hR Rm r3 pr3 => ?_⟩
        refine ⟨R, _, rfl, SqL.of r3, fun R2 hR2 => ?_⟩
        have s4 : Same H3 (upd H3 R2 (.lst zs3.reverse)) := same_new hR2 _
        have Wm : Wt ≠ m := fun z => mW z.symm
        have Fm : F ≠ m := fun z => mF z.symm
        have w3 : H3 Wt = some (.lst zs') := k3 _ _ w2 Wm
        have f3 : H3 F = some (.lst (ys.map V.str)) := k3 _ _ f2 Fm
        have w4 := s4 _ _ w3
        have WR2 : R2 ≠ Wt := fun z => by rw [z, w3] at hR2; cases hR2
        have ntm : NT (fun b => b = m) H2 := fun b hb xs e => by
          subst hb
          rw [m2] at e
          cases e
        have zl' : zs'.length ≤ 50000 := by
          have e1 := pr2.length
          rw [List.length_reverse] at e1
          have e2 := wt_len st
          have e3 : wt (.v z :: st) = 50 + wt st := rfl
          omega
        have zl3 : zs3.length ≤ 50000 := by
          have e1 := pr3.length
          have e2 := wt_len its
          omega
        refine ⟨Wt, R2, zs', zs3.reverse, rfl, rfl, w4, upd_same, Nat.le_trans (show zs'.length + zs3.reverse.length ≤ 100000 by rw [List.length_reverse]; omega) (by decide), ?_⟩
        have k5 : Kp (fun b => b = Wt) (upd H3 R2 (.lst zs3.reverse)) (upd (upd H3 R2 (.lst zs3.reverse)) Wt (.lst (zs' ++ zs3.reverse))) := kp_upd (fun b o e _ => e) rfl
        have nt5 : NT (fun b => b = Wt) (upd H3 R2 (.lst zs3.reverse)) := fun b hb xs e => by
          subst hb
          rw [w4] at e
          cases e
        have R2m : R2 ≠ m := fun z => by rw [z, m3'] at hR2; cases hR2
        have R2F : R2 ≠ F := fun z => by rw [z, f3] at hR2; cases hR2
        refine ⟨k', Nat.lt_succ_self _, ys, zs' ++ zs3.reverse, its ++ st, m3, cs', _, rfl, fun b o e hb => ?_, ?_, upd_same, ?_, ?_, D2, ec, o2, fun i hi => (List.mem_append.mp hi).elim (o3 i) (io' i), ?_⟩
        · rw [upd_ne (ne_of_none e hW0)]
          exact s4 _ _ (k3 _ _ (k2 b o e hb) hb)
        · rw [upd_ne FW]
          exact s4 _ _ f3
        · rw [List.reverse_append]
          refine pair_app (Paired.mono (fun _ _ h => ItAt.kp nt5 k5 (ItAt.same s4 (ItAt.kp ntm k3 h))) pr2) (pair_rev (Paired.mono (fun _ _ h => ItAt.kp nt5 k5 (ItAt.same s4 h)) pr3))
        · rw [upd_ne mW]
          exact s4 _ _ m3'
        · have e3 : wt (.v z :: st) = 50 + wt st := rfl
          rw [wt_app]
          omega
/-! ### Dump.__init__, dumped -/
def spInitD (CD : Addr) : Sp := fun vs H Q _ => ∃ d dx wp, vs = [.ref d, .ref wp] ∧ H d = some (.ins CD dx []) ∧
  ∀ H' m, DOb CD H' d wp m → H' m = some (.lst []) → (∀ b o, H b = some o → b ≠ d → H' b = some o) → H m = none → Q .non H'
theorem scDInit : FnScope ["self", "world"] ["self", "world"] (C8.fnScope sDInit) := C8.fnScope_by (by decide +kernel)
theorem ok_initD (T : Txt K mg CW CD) : C8.Mak P w K mg base 1 "Dump" CD (spInitD CD) [] := by
  refine mak1 T.kDump scDInit (fun vs H Q E h => ?_) fun f cdv A outer s H vs Q E hr h => ?_
  · obtain ⟨_, _, _, rfl, _⟩ := h
    rfl
  obtain ⟨d, dx, wp, rfl, hd, k⟩ := h
  refine ⟨_, pss_cons (ps_fld (pv 0) (pv 1) rfl) (pss_one (ps_fld (pv 0) (pe_lst pa_nil) rfl)), ?_⟩
  refine ⟨_, rfl, _, rfl, d, CD, dx, _, rfl, hd, T.cD, T.nDw, by show 0 < 1000; decide, by show 0 ≤ sizeLine; decide, fun m hm => ?_⟩
  let f1 := putF "world" (.ref wp) ([] : List (Str × V))
  let H1 : Hp := upd H d (.ins CD dx f1)
  have d1 : H1 d = some (.ins CD dx f1) := upd_same
  have dm : d ≠ m := ne_of_none d1 hm
  have s2 : Same H1 (upd H1 m (.lst [])) := same_new hm _
  have l1 : f1.length ≤ 1 := length_putF _ _ _
  have hm0 : H m = none := by
    have z : (upd H d (.ins CD dx f1)) m = none := hm
    rw [upd_ne dm.symm] at z
    exact z
  refine ⟨_, rfl, d, CD, dx, _, rfl, s2 _ _ d1, T.cD, T.nDm, by omega, ?_⟩
  refine k _ m ⟨dx, _, upd_same, fun g => ?_⟩ ((upd_ne dm.symm).trans upd_same) (fun b o e hb => ?_) hm0
  · rw [lookup_putF]
    show (if g = "met" then _ else (putF "world" (.ref wp) ([] : List (Str × V))).lookup g) = _
    rw [lookup_putF]
    unfold dl
    by_cases e1 : g = "world"
    · subst e1
      rw [if_neg (by decide +kernel), if_pos rfl, if_pos rfl]
    · rw [if_neg e1, if_neg e1]
      rfl
  · rw [upd_ne hb]
    exact s2 _ _ ((upd_ne hb).trans e)
def spDumped (CW : Addr) : Sp := fun vs H Q _ => ∃ A S l xs css met1 N, vs = [.ref A.p, .ref l] ∧ WorldAt CW H A S ∧ LV H l xs ∧ xs.length ≤ 100 ∧ (∀ v ∈ xs, vOk v) ∧ GokR S.rows ∧ Gok (gr S.rows) N ∧ Dmps (gr S.rows) xs [] css met1 ∧
  ∀ r H', Same H H' → H r = none → H' r = some (.lst (css.map fun c => .str (mkS c))) → Q (.ref r) H'
theorem scDumped : FnScope ["world", "values", "dump", "value"] ["world", "values"] (C8.fnScope sDumped) := C8.fnScope_by (by decide +kernel)
/-- rows dumped up to a place -/
theorem Dmps.at {g : Int → Option Cl} {vs m css m'} (d : Dmps g vs m css m') : ∀ i, ∃ mi, Dmps g (vs.take i) m (css.take i) mi ∧ Dmps g (vs.drop i) mi (css.drop i) m' := by
  induction d with
  | nil => intro i; exact ⟨_, by rw [List.take_nil, List.take_nil]; exact .nil, by rw [List.drop_nil, List.drop_nil]; exact .nil⟩
  | @cons n v r m cs m1 css m' h t ih =>
    intro i
    cases i with
    | zero => exact ⟨m, .nil, .cons h t⟩
    | succ i =>
      obtain ⟨mi, a, b⟩ := ih i
      exact ⟨mi, .cons h a, b⟩
theorem Dmps.snoc {g : Int → Option Cl} {vs m css m1} (d : Dmps g vs m css m1) : ∀ {n v cs m2}, Dmp g n [.v v] m1 cs m2 → Dmps g (vs ++ [v]) m (css ++ [cs]) m2 := by
  induction d with
  | nil => intro n v cs m2 h; exact .cons h .nil
  | cons h _ ih => intro n v cs m2 h2; exact .cons h (ih h2)
theorem Dmps.mok {g : Int → Option Cl} {N : Nat} (G : Gok g N) {vs m css m'} (d : Dmps g vs m css m') : Mok g m → (∀ v ∈ vs, vOk v) → Mok g m' := by
  induction d with
  | nil => intro M _; exact M
  | cons h _ ih =>
    intro M hv
    refine ih (h.size G M fun i hi => ?_).2 fun v hv' => hv v (List.mem_cons_of_mem _ hv')
    rw [List.mem_singleton.mp hi]
    exact hv _ List.mem_cons_self
theorem Mok.nil {g : Int → Option Cl} : Mok g [] := ⟨List.nodup_nil, fun b hb => by cases hb⟩
theorem ok_dumped (T : Txt K mg CW CD) : C8.Cal P w K mg base 4 "dumped" (spDumped CW) [] := by
  refine cal1 T.dDumped scDumped (fun vs H Q E h => ?_) fun f cdv A outer s H vs Q E hr h => ?_
  · obtain ⟨_, _, _, _, _, _, _, rfl, _⟩ := h
    rfl
  obtain ⟨A, S, l, xs, css, met1, N, rfl, W, ⟨ps, hl, hv⟩, xl, vok, gok, G, D, q⟩ := h
  refine ⟨_, pss_cons (ps_set (i := 2) scDumped.nd rfl (Or.inr rfl) (C8.pe_mk (ok_initD T) hr (by decide) rfl (pa_cons (pv 0) pa_nil)))
    (pss_one (ps_ret (pe_lc (own := [("value", 3)]) (g := gName 3) (tt := tYes) rfl scDumped.nd (pi_list (pv 1)) (blkOk_by (N := ["world", "values", "dump", "value"]) (sc := C8.fnScope sDumped) (by decide +kernel)) (fun _ _ _ _ _ => pg_name (i := 3) scDumped.nd rfl (Or.inl rfl))
      (fun _ _ _ _ _ => pts_nil) (fun _ _ _ _ _ => C8.pe_mt (ok_text T) hr (by decide) (pv 2) (pa_cons (pv 3) pa_nil))))), ?_⟩
  refine ⟨_, rfl, fun d dx nd ndx ne => ⟨d, dx, A.p, rfl, upd_same, fun H1 m ob hm kp hm0 => ⟨rfl, ?_⟩⟩⟩
  have s1 : Same H H1 := Same.made nd ndx kp
  have hmH : H m = none := by
    cases z : H m with
    | none => rfl
    | some o =>
      have z2 : (upd (upd H dx (.own d)) d (.ins CD dx [])) m = some o := by
        rw [upd_ne (ne_of_none z nd), upd_ne (ne_of_none z ndx)]
        exact z
      rw [hm0] at z2
      cases z2
  have W1 := W.same s1
  have hmo : ¬ Own A S.rows m := not_own W hmH
  obtain ⟨ddx, dfs, d1, d2⟩ := id ob
  refine ⟨_, rfl, l, rfl, ⟨_, SqL.of (s1 _ _ hl)⟩, fun D' hD => ?_⟩
  have len : (ps.map V.ref).length = xs.length := by rw [List.length_map, hv.length]
  have nt : NT (fun b => b = m) H := fun b hb xs e => by
    subst hb
    rw [hmH] at e
    cases e
  refine lc_list (K := K) (a := l) (xs := ps.map V.ref) (fun i H2 => Same H H2 ∧ DOb CD H2 d A.p m ∧ H2 D' = some (.lst ((css.take i).map fun c => V.str (mkS c))) ∧ ∃ mi, Dmps (gr S.rows) (xs.take i) [] (css.take i) mi ∧ Dmps (gr S.rows) (xs.drop i) mi (css.drop i) met1 ∧ H2 m = some (.lst (mi.map V.int)))
    ⟨Same.new s1 hD _, ⟨ddx, dfs, (same_new hD _) _ _ d1, d2⟩, upd_same, [], .nil, D, (same_new hD _) _ _ hm⟩ (fun i H2 _ h => SqL.of (h.1 _ _ hl)) ?_ ?_
  · rintro i x H2 hi ⟨s2, ob2, hd2, mi, Da, Db, hm2⟩
    obtain ⟨p, v, rfl, _, ev, hp⟩ := hv.item hi
    have hil : i < xs.length := (List.getElem?_eq_some_iff.mp ev).1
    have cl : css.length = xs.length := D.len
    have W2 := W.same s2
    rw [drop_step ev, drop_step (List.getElem?_eq_getElem (show i < css.length by omega))] at Db
    have M := Da.mok G Mok.nil fun v hv => vok v (List.mem_of_mem_take hv)
    cases Db with
    | @cons n _ _ _ _ m2 _ _ h1 h2 =>
      obtain ⟨d2x, d2f, e1, e2⟩ := id ob2
      refine ⟨rfl, ?_⟩
      refine ⟨_, rfl, d, d2x, d2f, rfl, e1, (e2 _).trans (dl_no (by decide +kernel) (by decide +kernel)), _, rfl, d, p, m, A, S, v, mi, n, _, m2, N, rfl, ob2, hm2, W2, hmo, hp.same s2, vok v (List.mem_of_getElem? ev), gok, G, M, h1, fun H3 k3 m3 => ?_⟩
      have Dm : D' ≠ m := fun z => by rw [z, hm] at hD; cases hD
      have hd3 := k3 _ _ hd2 Dm
      have dm : d ≠ m := fun z => by rw [z, hm2] at e1; cases e1
      have dD : d ≠ D' := fun z => by rw [← z, d1] at hD; cases hD
      have D0 : H D' = none := L2.Same.free s1 hD
      refine ⟨_, hd3, ?_, fun b o e => ?_, ⟨d2x, d2f, (upd_ne dD).trans (k3 _ _ e1 dm), e2⟩, ?_, m2, ?_, h2, ?_⟩
      · rw [List.length_map, List.length_take]
        exact small1000 (by omega)
      · rw [upd_ne (ne_of_none e D0)]
        exact k3 _ _ (s2 _ _ e) (ne_of_none e hmH)
      · rw [upd_same, take_snoc (List.getElem?_eq_getElem (show i < css.length by omega)), List.map_append]
        rfl
      · rw [take_snoc ev, take_snoc (List.getElem?_eq_getElem (show i < css.length by omega))]
        exact Da.snoc h1
      · rw [upd_ne Dm.symm]
        exact m3
  · rintro H2 ⟨s2, _, hd2, _⟩
    have cl : css.length = xs.length := D.len
    rw [len, ← cl, List.take_length] at hd2
    exact q D' H2 s2 (L2.Same.free s1 hD) hd2
end
end K4

namespace K4
open PySem PySem.Spec PyProof.Rows L2
theorem WV.kp {C : Addr} {H H' : Hp} {A : WA} {ks : List Bool} {O : Addr → Prop} (W : WV C H A ks) (n : NT O H) (k : Kp O H H') (h1 : ¬ O A.p) (h2 : ¬ O A.sh) (h3 : ¬ O A.ki) : WV C H' A ks := by
  obtain ⟨dx, fs, pr, fr, e1, e2, e3⟩ := W.ob
  exact ⟨⟨dx, fs, pr, fr, k _ _ e1 h1, e2, e3⟩, W.sh.kp n k h2, k _ _ W.ki h3, W.m5⟩
theorem kS_ne (b : Bool) : scal (kS b) (V.str "small") = true := by cases b <;> rfl
section
variable {P : Program} {w : World} {K : PySem.W.Frag} {mg : Str → Option Value} {base : Heap} {CW CD : Addr}
/-! ### fits -/
def spFits (C : Addr) : Sp := fun vs H Q _ => ∃ A ks cl vl xs, vs = [.ref A.p, .ref cl] ∧ WV C H A ks ∧ H cl = some (.lst [.str "object", .int (xs.length : Int), .ref vl]) ∧ LV H vl xs ∧ xs.length ≤ ks.length ∧
  (∀ (k : Nat) (v : Vl), xs[k]? = some v → ks[k]? = some true → isSm v = true) ∧ ∀ H', Same H H' → Q (.bl true) H'
theorem scFits : FnScope ["world", "cell", "k", "value"] ["world", "cell"] (C8.fnScope sFits) := C8.fnScope_by (by decide +kernel)
theorem ok_fits (T : Txt K mg CW CD) : C8.Cal P w K mg base 2 "fits" (spFits CW) [] := by
  refine cal1 T.dFits scFits (fun vs H Q E h => ?_) fun f cdv A outer s H vs Q E hr h => ?_
  · obtain ⟨_, _, _, _, _, rfl, _⟩ := h
    rfl
  obtain ⟨A, ks, cl, vl, xs, rfl, W, hcl, ⟨ps, hv1, hv2⟩, hle, hk, q⟩ := h
  obtain ⟨dx, fs, pr, fr, h1, _, h2⟩ := W.ob
  refine ⟨_, pss_cons (ps_if (PW.pt (pw_or (pt_not (pt_chain op_le op_lt pe_int (pe_ix ix_list (pv 1) pe_int (fun _ _ => rfl)) (pe_callB call_len_seq rfl T.zLen PySem.boot_len (pa_cons (pe_fld (pv 0) rfl) pa_nil))))
        (pw_or1 (pt_cmpR op_ne (pe_callB call_len_seq rfl T.zLen PySem.boot_len (pa_cons (pe_ix ix_list (pv 1) pe_int (fun _ _ => rfl)) pa_nil)) (pe_op op_add (pe_ix ix_tup (pe_ix ix_list (pe_fld (pv 0) rfl) (pe_ix ix_list (pv 1) pe_int (fun _ _ => rfl)) (fun _ _ => rfl)) pe_int (fun _ _ => rfl)) pe_int) (nomark _)))))
      (pss_one (ps_ret pe_bl)) pss_nil)
    (pss_cons (ps_for PassesOwn.never rfl (pi_enum rfl T.zEnum (pa_cons (pe_ix ix_list (pv 1) pe_int (fun _ _ => rfl)) pa_nil)) (pg_tup rfl (pgs_cons (pg_name (i := 2) scFits.nd rfl (.inl rfl)) (pgs_cons (pg_name (i := 3) scFits.nd rfl (.inl rfl)) pgs_nil)))
      (pss_one (ps_if (PW.pt (pw_and (pt_cmpR op_eq (pe_ix ix_list (pe_fld (pv 0) rfl) (C8.pe_mt (ok_owner T) hr (by decide) (pv 0) (pa_cons (pe_ix ix_list (pv 1) pe_int (fun _ _ => rfl)) (pa_cons (pv 2) pa_nil))) (fun _ _ => rfl)) pe_str (nomark _)) (pw_and1 (pt_not (pt_val (C8.pe_c (ok_small T) hr (by decide) rfl (pa_cons (pv 3) pa_nil)))))))
        (pss_one (ps_ret pe_bl)) pss_nil)))
    (pss_one (ps_ret pe_bl))), ?_⟩
  obtain ⟨qs, g1, g2, g3⟩ := id W.sh
  obtain ⟨qs', q', j1, j2, j3⟩ := shT_get W.sh hle
  have lq : (qs.map V.ref).length = ks.length + 1 := by rw [List.length_map, g2]
  have lv : (ps.map V.ref).length = xs.length := by rw [List.length_map, hv2.length]
  refine ⟨_, rfl, cl, _, _, _, rfl, rfl, SqL.of hcl, rfl, _, _, rfl, rfl, _, rfl, iteTb (decide_eq_true (by omega)) ?_⟩
  refine ⟨_, rfl, A.p, CW, dx, fs, _, rfl, h1, T.cW, T.nSh, (h2 _).trans wl_sh, A.sh, _, rfl, .inl (SqL.of g1), _, _, rfl, rfl, _, rfl, ?_⟩
  have e1 : decide ((xs.length : Int) < (((qs.map V.ref).length : Nat) : Int)) = true := decide_eq_true (by rw [lq]; omega)
  show if (!(decide ((xs.length : Int) < (((qs.map V.ref).length : Nat) : Int)))) = true then _ else _
  rw [e1]
  refine iteF ⟨_, rfl, cl, _, _, _, rfl, rfl, SqL.of hcl, rfl, vl, _, rfl, .inl (SqL.of hv1), _, rfl, A.p, CW, dx, fs, _, rfl, h1, T.cW, T.nSh, (h2 _).trans wl_sh, _, rfl, cl, _, _, _, rfl, rfl, SqL.of hcl, rfl, A.sh, _, _, _, rfl, rfl, SqL.of j1, j2, q', _, _, _, rfl, rfl, SqT.of j3, shT2 _, _, _, rfl, rfl, rfl, _, rfl, ?_⟩
  have e2 : decide (V.int (((ps.map V.ref).length : Nat) : Int) = V.int ((xs.length : Int) - 1 + 1)) = true := decide_eq_true (by rw [lv, Int.sub_add_cancel])
  show if (!(decide (V.int (((ps.map V.ref).length : Nat) : Int) = V.int ((xs.length : Int) - 1 + 1)))) = true then _ else _
  rw [e2]
  refine iteF ⟨_, rfl, cl, _, _, _, rfl, rfl, SqL.of hcl, rfl, vl, _, rfl, SqL.of hv1, for_it (walk_enum (K := K) (a := vl) (xs := ps.map V.ref)) (fun i σ H1 => ∃ k o, σ = [some (.ref A.p), some (.ref cl), k, o] ∧ Same H H1) ⟨none, none, rfl, L2.Same.refl _⟩ (fun i σ H1 _ ⟨_, _, _, s1⟩ => SqL.of (s1 _ _ hv1)) ?_ ?_⟩
  · rintro i x σ H1 H2 hi ⟨k, o, rfl, s1⟩ ⟨t, _, y, rfl, ht, rfl, ex, ey⟩
    have ex := Option.some.inj ex
    subst ex
    obtain ⟨p, v, rfl, ep, ev, hp⟩ := hv2.item ey
    have hil : i < xs.length := (List.getElem?_eq_some_iff.mp ev).1
    have s2 : Same H (upd H1 t (.tup [V.int (i : Nat), V.ref p])) := Same.new s1 ht _
    have W2 := W.same s2
    obtain ⟨b, hb⟩ : ∃ b, ks[i]? = some b := ⟨_, List.getElem?_eq_getElem (by omega)⟩
    have p2 := s2 _ _ h1
    refine ⟨t, _, rfl, SqT.of upd_same, rfl, _, _, rfl, _, _, rfl, rfl, ?_⟩
    refine ⟨_, rfl, A.p, CW, dx, fs, _, rfl, p2, T.cW, T.nKi, (h2 _).trans wl_ki, _, rfl, A.p, dx, fs, rfl, p2, (h2 _).trans (wl_no (by decide +kernel)), _, rfl, cl, _, _, _, rfl, rfl, SqL.of (s2 _ _ hcl), rfl, _, rfl, A, ks, xs.length, i, rfl, W2, hle, hil, ?_⟩
    refine ⟨A.ki, _, _, _, rfl, rfl, SqL.of W2.ki, kiV_get hb, kS_ne b, _, rfl, ?_⟩
    rw [dec_small]
    cases b with
    | false => exact iteF ⟨_, _, rfl, s2⟩
    | true =>
      refine iteT ⟨_, rfl, p, v, rfl, hp.same s2, _, rfl, ?_⟩
      rw [hk i v ev hb]
      exact iteF ⟨_, _, rfl, s2⟩
  · rintro σ H1 ⟨k, o, rfl, s1⟩
    exact q H1 s1
/-! ### is_world -/
theorem atLast (c : Cl) (vl : Addr) : atI (head c vl) (-1) = some (.ref vl) := by
  unfold head
  cases c.kind
  · exact atI_last [V.str "list"] (V.ref vl)
  · exact atI_last [V.str "object", V.int (c.vs.length : Int)] (V.ref vl)
  · exact atI_last [V.str "closure", V.int c.f] (V.ref vl)
theorem at00 (c : Cl) (vl : Addr) : ∃ k : Str, atI (head c vl) 0 = some (.str k) ∧ (decide (V.str k = V.str "object") = true ↔ c.kind = .obj) := by
  unfold head
  cases c.kind
  · exact ⟨"list", rfl, ⟨fun h => absurd (of_decide_eq_true h) (by decide +kernel), fun h => by cases h⟩⟩
  · exact ⟨"object", rfl, ⟨fun _ => rfl, fun _ => decide_eq_true rfl⟩⟩
  · exact ⟨"closure", rfl, ⟨fun h => absurd (of_decide_eq_true h) (by decide +kernel), fun h => by cases h⟩⟩
def Closed (rows : List Row) : Prop := ∀ r ∈ rows, ∀ b, Vl.ref b ∈ r.c.vs → ∃ r' ∈ rows, r'.a = b
def spIsWorld (C : Addr) : Sp := fun vs H Q _ => ∃ A S, vs = [.ref A.p] ∧ WorldAt C H A S ∧ Closed S.rows ∧ (∀ r ∈ S.rows, r.c.vs.length ≤ 100) ∧ ∀ H', Same H H' → Q (.bl true) H'
theorem scIsWorld : FnScope ["world", "address", "cell", "values", "value"] ["world"] (C8.fnScope sIsWorld) := C8.fnScope_by (by decide +kernel)
theorem ok_isWorld (T : Txt K mg CW CD) : C8.Cal P w K mg base 3 "is_world" (spIsWorld CW) [] := by
  refine cal1 T.dIsWorld scIsWorld (fun vs H Q E h => ?_) fun f cdv A outer s H vs Q E hr h => ?_
  · obtain ⟨_, _, rfl, _⟩ := h
    rfl
  obtain ⟨A, S, rfl, W, cls, vl100, q⟩ := h
  obtain ⟨dx, fs, pr, h1, _, h2⟩ := W.ob
  have hu := hu_of hr
  have ap := ap_of W.hd
  refine ⟨_, pss_cons (ps_lock (ps_for PassesOwn.never rfl (pi_keys (pe_fld (pv 0) rfl)) (pg_name (i := 1) scIsWorld.nd rfl (Or.inl rfl))
      (pss_cons (ps_set (i := 2) scIsWorld.nd rfl (Or.inl rfl) (pe_dget hu (pe_fld (pv 0) rfl) (pv 1) (fun _ _ => rfl)))
      (pss_cons (ps_set (i := 3) scIsWorld.nd rfl (Or.inl rfl) (pe_ix ix_list (pv 2) (pe_un un_neg pe_int) (fun _ _ => rfl)))
      (pss_cons (ps_if (pt_not (pt_val (pe_callB (cr_all rfl) rfl T.zAll (by decide +kernel) (pa_cons
          (pe_lc (own := [("value", 4)]) (g := gName 4) (tt := tYes) rfl scIsWorld.nd (pi_list (pv 3)) (blkOk_by (N := ["world", "address", "cell", "values", "value"]) (sc := C8.fnScope sIsWorld) (by decide +kernel)) (fun _ _ _ _ _ => pg_name (i := 4) scIsWorld.nd rfl (Or.inl rfl))
            (fun _ _ _ _ _ => pts_nil) (fun _ _ _ _ _ => pe_or (pe_cmpR op_ne (pe_ix (ixT K) (pv 4) pe_int (fun _ _ => rfl)) pe_str (nomark _)) (pe_one (pe_cmp (pc_din hu (pe_ix (ixT K) (pv 4) pe_int (fun _ _ => rfl)) (pe_fldK K (pv 0) rfl)))))) pa_nil))))
          (pss_one (ps_ret pe_bl)) pss_nil)
      (pss_one (ps_if (PW.pt (pw_and (pt_cmpR op_eq (pe_ix ix_list (pv 2) pe_int (fun _ _ => rfl)) pe_str (nomark _)) (pw_and1 (pt_not (pt_val (C8.pe_c (ok_fits T) hr (by decide) rfl (pa_cons (pv 0) (pa_cons (pv 2) pa_nil))))))))
          (pss_one (ps_ret pe_bl)) pss_nil)))))))
    (pss_one (ps_ret pe_bl)), ?_⟩
  refine ⟨A.ce, _, W.ce, trivial, fun od => ?_⟩
  let Hf : Hp := upd H A.ce (.frz od (.dK (ceK S.rows)))
  have cef : Hf A.ce = some (.frz od (.dK (ceK S.rows))) := upd_same
  have kf : Kp (fun b => b = A.ce) H Hf := kp_upd (fun b o e _ => e) rfl
  have ntf : NT (fun b => b = A.ce) H := fun b hb => W.nt b (by subst hb; exact own_ce)
  have Wf : WV CW Hf A S.ki := W.wv.kp ntf kf ap.pce ap.shce ap.kice
  have pf : Hf A.p = some (.ins CW dx fs) := kf _ _ h1 ap.pce
  have rwf : ∀ r ∈ S.rows, RowAt Hf r := fun r hr => by
    obtain ⟨r1, r2, _⟩ := W.rs r hr
    exact (W.rw r hr).kp ntf kf (notH_of r1).ce (notH_of r2).ce
  refine ⟨_, rfl, A.p, CW, dx, fs, _, rfl, pf, T.cW, T.nCe, (h2 _).trans wl_ce, A.ce, od, rfl, .inl ⟨_, cef, ?_⟩⟩
  refine for_it walk_keys (fun i σ H1 => ∃ a b c d, σ = [some (.ref A.p), a, b, c, d] ∧ Same Hf H1) ⟨none, none, none, none, rfl, L2.Same.refl _⟩ (fun i σ H1 _ ⟨_, _, _, _, _, s1⟩ => s1 _ _ cef) ?_ ?_
  · rintro i x σ H0 H1 hi ⟨_, _, _, _, rfl, s1⟩ ⟨rfl, k, v, ek, rfl⟩
    obtain ⟨r, er, ekv⟩ : ∃ r, S.rows[i]? = some r ∧ (Sum.inl r.a, V.ref r.cl) = (k, v) := by
      unfold ceK at ek
      rw [List.getElem?_map] at ek
      obtain ⟨r, a, b⟩ := Option.map_eq_some_iff.mp ek
      exact ⟨r, a, b⟩
    cases ekv
    have hrow := List.mem_of_getElem? er
    have R := (rwf r hrow).same s1
    obtain ⟨ps, hv1, hv2⟩ := R.vl
    have p1 := s1 _ _ pf
    have ce1 := s1 _ _ cef
    refine ⟨_, rfl, A.p, CW, dx, fs, _, rfl, p1, T.cW, T.nCe, (h2 _).trans wl_ce, _, rfl, A.ce, V.ref r.cl, rfl, dgetR (k := Sum.inl r.a) (.inr ⟨_, ce1⟩) (row_val W.an hrow), ?_⟩
    refine ⟨_, rfl, _, rfl, r.cl, _, _, _, rfl, rfl, SqL.of R.cl, atLast r.c r.vl, ?_⟩
    refine ⟨_, rfl, r.vl, rfl, ⟨_, SqL.of hv1⟩, fun D hD => ?_⟩
    have lv : (ps.map V.ref).length = r.c.vs.length := by rw [List.length_map, hv2.length]
    refine lc_list (K := K) (a := r.vl) (xs := ps.map V.ref) (fun j H2 => Same H1 H2 ∧ H2 D = some (.lst ((List.replicate j true).map V.bl))) ⟨same_new hD _, upd_same⟩ (fun j H2 _ h => SqL.of (h.1 _ _ hv1)) ?_ ?_
    · rintro j y H2 hj ⟨s2, d2⟩
      obtain ⟨p, v, rfl, _, ev, hp⟩ := hv2.item hj
      have jl : j < r.c.vs.length := (List.getElem?_eq_some_iff.mp ev).1
      have j100 := vl100 r hrow
      have fin : ∃ acc, H2 D = some (.lst acc) ∧ acc.length < sizeLine ∧ Same H1 (upd H2 D (.lst (acc ++ [V.bl true]))) ∧ (upd H2 D (.lst (acc ++ [V.bl true]))) D = some (.lst ((List.replicate (j + 1) true).map V.bl)) := by
        refine ⟨_, d2, ?_, fun b o e => ?_, ?_⟩
        · rw [List.length_map, List.length_replicate]
          exact small1000 (by omega)
        · rw [upd_ne (ne_of_none e hD)]
          exact s2 _ _ e
        · rw [upd_same, List.replicate_succ', List.map_append]
          rfl
      refine ⟨rfl, _, rfl, p, _, _, _, rfl, rfl, (hp.same s2).sq, at0, rfl, _, rfl, ?_⟩
      show if (!decide (V.str (tag v) = V.str "ref")) = true then _ else _
      rw [dec_ref]
      cases v with
      | ref a =>
        obtain ⟨r', hr', ea⟩ := cls r hrow a (List.mem_of_getElem? ev)
        subst ea
        have ce2 := s2 _ _ ce1
        refine iteF ⟨_, rfl, p, _, _, _, rfl, rfl, (hp.same s2).sq, at1 (by intro e; cases e), _, rfl, A.p, CW, dx, fs, _, rfl, s2 _ _ p1, T.cW, T.nCe, (h2 _).trans wl_ce, A.ce, some (V.ref r'.cl), rfl, dgetR (k := Sum.inl r'.a) (.inr ⟨_, ce2⟩) (row_val W.an hr'), fin⟩
      | _ => exact iteT fin
    · rintro H2 ⟨s2, d2⟩
      have all : ∀ n, (List.replicate n true).all id = true := fun n => by
        induction n with
        | zero => rfl
        | succ n ih => rw [List.replicate_succ, List.all_cons, ih]; rfl
      refine ⟨D, List.replicate (ps.map V.ref).length true, rfl, SqL.of d2, _, rfl, ?_⟩
      rw [all]
      refine iteF ?_
      have s12 : Same Hf H2 := L2.Same.trans s1 s2
      obtain ⟨kk, e0, ek⟩ := at00 r.c r.vl
      refine ⟨_, rfl, r.cl, _, _, _, rfl, rfl, SqL.of (s2 _ _ R.cl), e0, rfl, _, rfl, ?_⟩
      by_cases ho : r.c.kind = .obj
      · rw [ek.mpr ho]
        have R2 := (rwf r hrow).same s12
        have c2 := R2.cl
        rw [head_obj ho] at c2
        obtain ⟨m1, m2⟩ := W.kk r hrow ho
        refine iteT ⟨_, rfl, _, rfl, A, S.ki, r.cl, r.vl, r.c.vs, rfl, Wf.same s12, c2, R2.vl, m1, m2, fun H3 s3 => ⟨_, rfl, iteF ⟨_, _, _, _, rfl, L2.Same.trans s12 s3⟩⟩⟩
      · have z : decide (V.str kk = V.str "object") = false := by
          cases e : decide (V.str kk = V.str "object") with
          | false => rfl
          | true => exact absurd (ek.mp e) ho
        rw [z]
        exact iteF ⟨_, _, _, _, rfl, s12⟩
  · rintro σ H1 ⟨_, _, _, _, rfl, s1⟩
    refine ⟨s1 _ _ cef, q _ fun b o e => ?_⟩
    by_cases z : b = A.ce
    · subst z
      rw [upd_same]
      rw [W.ce] at e
      exact e
    · rw [upd_ne z]
      exact s1 _ _ ((upd_ne z).trans e)
end
end K4

namespace K4
open PySem PySem.Spec PyProof.Rows L2
/-! ### what is reached, layer by layer -/
def lay (g : Int → List Int) : List Int → List Int → List Int → List Int × List Int
  | [], f, l => (f, l)
  | a :: r, f, l => if a ∈ f then lay g r f l else lay g r (f ++ [a]) (l ++ g a)
def bfs (g : Int → List Int) : Nat → List Int → List Int → List Int
  | 0, _, f => f
  | n + 1, line, f => bfs g n (lay g line f []).2 (lay g line f []).1
/-- the loop of the program: turns until the line is empty -/
inductive Bfs (g : Int → List Int) : Nat → List Int → List Int → List Int → Prop
  | done {f} : Bfs g 0 [] f f
  | turn {n line f res} : line ≠ [] → Bfs g n (lay g line f []).2 (lay g line f []).1 res → Bfs g (n + 1) line f res
theorem lay_snoc (g : Int → List Int) (a : Int) : ∀ (r f l : List Int), lay g (r ++ [a]) f l = (if a ∈ (lay g r f l).1 then lay g r f l else ((lay g r f l).1 ++ [a], (lay g r f l).2 ++ g a))
  | [], f, l => rfl
  | b :: r, f, l => by
    show (if b ∈ f then lay g (r ++ [a]) f l else lay g (r ++ [a]) (f ++ [b]) (l ++ g b)) = _
    by_cases e : b ∈ f
    · rw [if_pos e, lay_snoc g a r f l]
      have : lay g (b :: r) f l = lay g r f l := if_pos e
      rw [this]
    · rw [if_neg e, lay_snoc g a r _ _]
      have : lay g (b :: r) f l = lay g r (f ++ [b]) (l ++ g b) := if_neg e
      rw [this]
theorem bfs_nil (g : Int → List Int) : ∀ (n : Nat) (f : List Int), bfs g n [] f = f
  | 0, f => rfl
  | n + 1, f => bfs_nil g n f
/-- good rows of cells: no two alike, all of the graph -/
structure Gd (D : List Int) (f : List Int) : Prop where
  nd : f.Nodup
  sub : ∀ a ∈ f, a ∈ D
theorem lay_ok {g : Int → List Int} {D : List Int} (cl : ∀ a ∈ D, ∀ b ∈ g a, b ∈ D) : ∀ {line f l : List Int}, (∀ a ∈ line, a ∈ D) → Gd D f → (∀ a ∈ l, a ∈ D) →
    Gd D (lay g line f l).1 ∧ (∀ a ∈ (lay g line f l).2, a ∈ D) ∧ f.length ≤ (lay g line f l).1.length ∧ ((lay g line f l).1.length = f.length → lay g line f l = (f, l)) ∧ (∀ a ∈ f, a ∈ (lay g line f l).1) ∧ (∀ a ∈ line, a ∈ (lay g line f l).1)
  | [], f, l, _, G, hl => ⟨G, hl, Nat.le_refl _, fun _ => rfl, fun _ h => h, fun a h => by cases h⟩
  | a :: r, f, l, hr, G, hl => by
    by_cases e : a ∈ f
    · have e1 : lay g (a :: r) f l = lay g r f l := if_pos e
      rw [e1]
      obtain ⟨x1, x2, x3, x4, x5, x6⟩ := lay_ok cl (fun b hb => hr b (List.mem_cons_of_mem _ hb)) G hl
      exact ⟨x1, x2, x3, x4, x5, fun b hb => (List.mem_cons.mp hb).elim (fun z => x5 b (by rw [z]; exact e)) (x6 b)⟩
    · have e1 : lay g (a :: r) f l = lay g r (f ++ [a]) (l ++ g a) := if_neg e
      rw [e1]
      have aD := hr a List.mem_cons_self
      have G2 : Gd D (f ++ [a]) := ⟨nd_snoc G.nd e, fun b hb => (List.mem_append.mp hb).elim (G.sub b) fun z => by rw [List.mem_singleton.mp z]; exact aD⟩
      obtain ⟨x1, x2, x3, x4, x5, x6⟩ := lay_ok cl (fun b hb => hr b (List.mem_cons_of_mem _ hb)) G2 (l := l ++ g a) fun b hb => (List.mem_append.mp hb).elim (hl b) fun z => cl a aD b z
      rw [List.length_append, List.length_singleton] at x3
      exact ⟨x1, x2, by omega, fun z => by omega, fun b hb => x5 b (List.mem_append_left _ hb), fun b hb => (List.mem_cons.mp hb).elim (fun z => x5 b (by rw [z]; exact List.mem_append_right _ (List.mem_singleton.mpr rfl))) (x6 b)⟩
theorem nd_len {D : List Int} : ∀ {f : List Int}, f.Nodup → (∀ a ∈ f, a ∈ D) → f.length ≤ D.length := by
  induction D with
  | nil =>
    intro f _ h
    cases f with
    | nil => exact Nat.le_refl _
    | cons a r => exact absurd (h a List.mem_cons_self) (by simp)
  | cons x D ih =>
    intro f nd h
    by_cases hx : x ∈ f
    · have e := List.length_erase_of_mem hx
      have := ih (f := f.erase x) (nd.erase x) fun a ha => by
        have ha2 := List.mem_of_mem_erase ha
        have : a ≠ x := fun z => by
          subst z
          exact (List.Nodup.not_mem_erase nd) ha
        exact (List.mem_cons.mp (h a ha2)).resolve_left this
      have hp : 0 < f.length := List.length_pos_of_mem hx
      rw [List.length_cons]
      omega
    · have := ih nd fun a ha => (List.mem_cons.mp (h a ha)).resolve_left fun z => hx (z ▸ ha)
      rw [List.length_cons]
      omega
theorem Gd.len {D f : List Int} (G : Gd D f) : f.length ≤ D.length := nd_len G.nd G.sub
theorem bfs_run {g : Int → List Int} {D : List Int} (cl : ∀ a ∈ D, ∀ b ∈ g a, b ∈ D) : ∀ (n : Nat) {line f : List Int}, (∀ a ∈ line, a ∈ D) → Gd D f → D.length - f.length < n → ∃ k, Bfs g k line f (bfs g n line f) ∧ Gd D (bfs g n line f)
  | 0, _, _, _, _, h => absurd h (Nat.not_lt_zero _)
  | n + 1, line, f, hl, G, h => by
    by_cases e : line = []
    · subst e
      rw [bfs_nil]
      exact ⟨0, .done, G⟩
    · obtain ⟨x1, x2, x3, x4, _⟩ := lay_ok cl hl G (l := []) (fun a h => by cases h)
      show ∃ k, Bfs g k line f (bfs g n (lay g line f []).2 (lay g line f []).1) ∧ _
      by_cases e2 : (lay g line f []).1.length = f.length
      · have e3 := x4 e2
        have e4 : bfs g n (lay g line f []).2 (lay g line f []).1 = f := by rw [e3]; exact bfs_nil g n f
        refine ⟨1, ?_, by show Gd D (bfs g n (lay g line f []).2 (lay g line f []).1); rw [e4]; exact G⟩
        refine .turn e ?_
        rw [e4, e3]
        exact .done
      · have := G.len
        have := x1.len
        obtain ⟨k, y1, y2⟩ := bfs_run cl n x2 x1 (by omega)
        exact ⟨k + 1, .turn e y1, y2⟩
/-- under other numbers -/
theorem lay_re {g g2 : Int → List Int} {D : List Int} {t : Int → Int} (inj : ∀ a ∈ D, ∀ b ∈ D, t a = t b → a = b) (im : ∀ a ∈ D, g2 (t a) = (g a).map t) (cl : ∀ a ∈ D, ∀ b ∈ g a, b ∈ D) : ∀ {line f l : List Int}, (∀ a ∈ line, a ∈ D) → Gd D f → (∀ a ∈ l, a ∈ D) →
    lay g2 (line.map t) (f.map t) (l.map t) = ((lay g line f l).1.map t, (lay g line f l).2.map t)
  | [], f, l, _, _, _ => rfl
  | a :: r, f, l, hr, G, hl => by
    have aD := hr a List.mem_cons_self
    have hr' := fun b hb => hr b (List.mem_cons_of_mem a hb)
    show (if t a ∈ f.map t then lay g2 (r.map t) (f.map t) (l.map t) else lay g2 (r.map t) (f.map t ++ [t a]) (l.map t ++ g2 (t a))) = _
    by_cases e : a ∈ f
    · rw [if_pos (List.mem_map.mpr ⟨a, e, rfl⟩), lay_re inj im cl hr' G hl]
      have : lay g (a :: r) f l = lay g r f l := if_pos e
      rw [this]
    · have ne : t a ∉ f.map t := fun z => by
        obtain ⟨b, hb, q⟩ := List.mem_map.mp z
        exact e (inj b (G.sub b hb) a aD q ▸ hb)
      have G2 : Gd D (f ++ [a]) := ⟨nd_snoc G.nd e, fun b hb => (List.mem_append.mp hb).elim (G.sub b) fun z => by rw [List.mem_singleton.mp z]; exact aD⟩
      have ih := lay_re inj im cl hr' G2 (l := l ++ g a) fun b hb => (List.mem_append.mp hb).elim (hl b) fun z => cl a aD b z
      rw [List.map_append, List.map_append] at ih
      rw [if_neg ne, im a aD]
      have : lay g (a :: r) f l = lay g r (f ++ [a]) (l ++ g a) := if_neg e
      rw [this]
      exact ih
theorem Bfs.re {g g2 : Int → List Int} {D : List Int} {t : Int → Int} (inj : ∀ a ∈ D, ∀ b ∈ D, t a = t b → a = b) (im : ∀ a ∈ D, g2 (t a) = (g a).map t) (cl : ∀ a ∈ D, ∀ b ∈ g a, b ∈ D) {n line f res} (h : Bfs g n line f res) : (∀ a ∈ line, a ∈ D) → Gd D f → Bfs g2 n (line.map t) (f.map t) (res.map t) := by
  induction h with
  | done => intro _ _; exact .done
  | @turn n line f res e _ ih =>
    intro hl G
    obtain ⟨x1, x2, _⟩ := lay_ok cl hl G (l := []) (fun a h => by cases h)
    refine .turn (fun z => e (List.map_eq_nil_iff.mp z)) ?_
    have z := lay_re inj im cl hl G (l := []) (fun a h => by cases h)
    have z : lay g2 (line.map t) (f.map t) [] = _ := z
    rw [z]
    exact ih x2 x1
theorem Bfs.fun {g : Int → List Int} {n line f res} (h : Bfs g n line f res) : ∀ {n2 res2}, Bfs g n2 line f res2 → res = res2 := by
  induction h with
  | done =>
    intro n2 res2 h2
    cases h2 with
    | done => rfl
    | turn e _ => exact absurd rfl e
  | turn e _ ih =>
    intro n2 res2 h2
    cases h2 with
    | done => exact absurd rfl e
    | turn _ h2 => exact ih h2
def rg (rows : List Row) (a : Int) : List Int := match gr rows a with
  | some c => refs c.vs
  | none => []
theorem rg_of {rows : List Row} (nd : (rows.map (·.a)).Nodup) {r : Row} (h : r ∈ rows) : rg rows r.a = refs r.c.vs := by
  unfold rg
  rw [gr_of nd h]
def metK (f : List Int) : List (Key × V) := f.map fun a => (Sum.inl a, V.bl true)
theorem metK_val (a : Int) : ∀ f : List Int, valV (metK f) (Sum.inl a : Key) = if a ∈ f then some (.bl true) else none
  | [] => rfl
  | b :: r => by
    have ih := metK_val a r
    show valV (((Sum.inl b : Key), V.bl true) :: metK r) _ = _
    by_cases e : b = a
    · subst e
      rw [valV_pos rfl, if_pos List.mem_cons_self]
    · rw [valV_neg (fun z => e (Sum.inl.inj z)), ih]
      by_cases m : a ∈ r
      · rw [if_pos m, if_pos (List.mem_cons_of_mem _ m)]
      · rw [if_neg m, if_neg fun z => (List.mem_cons.mp z).elim (fun z => e z.symm) m]
theorem metK_snoc (f : List Int) (a : Int) : metK f ++ [(Sum.inl a, V.bl true)] = metK (f ++ [a]) := by unfold metK; rw [List.map_append]; rfl
theorem mem_ceK {rows : List Row} {a : Int} (h : a ∈ rows.map (·.a)) : ∃ r ∈ rows, r.a = a := by
  obtain ⟨r, hr, e⟩ := List.mem_map.mp h
  exact ⟨r, hr, e⟩
section
variable {P : Program} {w : World} {K : PySem.W.Frag} {mg : Str → Option Value} {base : Heap} {CW CD : Addr}
/-! ### reached -/
def spReached (C : Addr) : Sp := fun vs H Q _ => ∃ A S l xs n res, vs = [.ref A.p, .ref l] ∧ WorldAt C H A S ∧ LV H l xs ∧ xs.length ≤ 100 ∧ (∀ r ∈ S.rows, r.c.vs.length ≤ 4) ∧ Closed S.rows ∧ (∀ a ∈ refs xs, a ∈ S.rows.map (·.a)) ∧ Bfs (rg S.rows) n (refs xs) [] res ∧
  ∀ r H', Same H H' → H r = none → H' r = some (.lst (res.map V.int)) → Q (.ref r) H'
theorem scReached : FnScope ["world", "roots", "found", "met", "line", "later", "address"] ["world", "roots"] (C8.fnScope sReached) := C8.fnScope_by (by decide +kernel)
theorem refs_mem {xs : List Vl} {b : Int} (h : b ∈ refs xs) : Vl.ref b ∈ xs := by
  induction xs with
  | nil => cases h
  | cons x l ih =>
    cases x with
    | ref a =>
      rcases List.mem_cons.mp h with e | h
      · subst e; exact List.mem_cons_self
      · exact List.mem_cons_of_mem _ (ih h)
    | _ => exact List.mem_cons_of_mem _ (ih h)
theorem mem_refs {xs : List Vl} {b : Int} (h : Vl.ref b ∈ xs) : b ∈ refs xs := by
  induction xs with
  | nil => cases h
  | cons x l ih =>
    rcases List.mem_cons.mp h with e | h2
    · subst e; exact List.mem_cons_self
    · have z := ih h2
      cases x with
      | ref a => exact List.mem_cons_of_mem _ z
      | _ => exact z
theorem rg_cl {rows : List Row} (nd : (rows.map (·.a)).Nodup) (cl : Closed rows) : ∀ a ∈ rows.map (·.a), ∀ b ∈ rg rows a, b ∈ rows.map (·.a) := fun a ha b hb => by
  obtain ⟨r, hr, rfl⟩ := mem_ceK ha
  rw [rg_of nd hr] at hb
  obtain ⟨r', hr', e⟩ := cl r hr b (refs_mem hb)
  exact List.mem_map.mpr ⟨r', hr', e⟩
/-- the sizes of the line behind a turn -/
theorem lay_len {g : Int → List Int} {D : List Int} (cl : ∀ a ∈ D, ∀ b ∈ g a, b ∈ D) (h4 : ∀ a ∈ D, (g a).length ≤ 4) : ∀ {line f l : List Int}, (∀ a ∈ line, a ∈ D) → (lay g line f l).2.length + 4 * f.length ≤ l.length + 4 * (lay g line f l).1.length
  | [], f, l, _ => Nat.le_refl _
  | a :: r, f, l, hr => by
    have hr' := fun b hb => hr b (List.mem_cons_of_mem a hb)
    by_cases e : a ∈ f
    · have : lay g (a :: r) f l = lay g r f l := if_pos e
      rw [this]
      exact lay_len cl h4 hr'
    · have : lay g (a :: r) f l = lay g r (f ++ [a]) (l ++ g a) := if_neg e
      rw [this]
      have := lay_len cl h4 (f := f ++ [a]) (l := l ++ g a) hr'
      have h := h4 a (hr a List.mem_cons_self)
      rw [List.length_append, List.length_append, List.length_singleton] at this
      omega
theorem ok_reached (T : Txt K mg CW CD) : C8.Cal P w K mg base 2 "reached" (spReached CW) [] := by
  refine cal1 T.dReached scReached (fun vs H Q E h => ?_) fun f cdv A outer s H vs Q E hr h => ?_
  · obtain ⟨_, _, _, _, _, _, rfl, _⟩ := h
    rfl
  obtain ⟨A, S, l, xs, n, res, rfl, W, lvr, x100, v4, cls, dom, B, q⟩ := h
  obtain ⟨dx, fs, pr, h1, _, h2⟩ := W.ob
  have hu := hu_of hr
  refine ⟨_, pss_cons (ps_set (i := 2) scReached.nd rfl (Or.inl rfl) (pe_lst pa_nil))
    (pss_cons (ps_set (i := 3) scReached.nd rfl (Or.inl rfl) pe_dnewK)
    (pss_cons (ps_set (i := 4) scReached.nd rfl (Or.inl rfl) (C8.pe_c (ok_refs T) hr (by decide) rfl (pa_cons (pv 1) pa_nil)))
    (pss_cons (ps_while PassesOwn.never (pt_cmpR op_gt (pe_callB call_len_seq rfl T.zLen PySem.boot_len (pa_cons (pv 4) pa_nil)) pe_int (nomark _))
      (pss_cons (ps_set (i := 5) scReached.nd rfl (Or.inl rfl) (pe_lst pa_nil))
      (pss_cons (ps_for PassesOwn.never rfl (pi_list (pv 4)) (pg_name (i := 6) scReached.nd rfl (Or.inl rfl))
        (pss_one (ps_if (pt_cmp (pc_dnotin hu (pv 6) (pv 3)))
          (pss_cons (ps_dput hu (pv 3) (pv 6) pe_bl rfl)
          (pss_cons (ps_expr (pe_bm PySem.F.plainAttrs_list PySem.F.slot_list_append PySem.F.type_list_append mt_append (pv 2) (pa_cons (pv 6) pa_nil)))
          (pss_one (ps_expr (pe_bm PySem.F.plainAttrs_list PySem.F.slot_list_extend PySem.F.type_list_extend mt_extend (pv 5) (pa_cons (C8.pe_c (ok_refs T) hr (by decide) rfl (pa_cons (pe_ix ix_list (pe_dget hu (pe_fld (pv 0) rfl) (pv 6) (fun _ _ => rfl)) (pe_un un_neg pe_int) (fun _ _ => rfl)) pa_nil)) pa_nil)))))) pss_nil)))
      (pss_one (ps_set (i := 4) scReached.nd rfl (Or.inl rfl) (pv 5))))))
    (pss_one (ps_ret (pv 2)))))), ?_⟩
  refine ⟨by show 0 ≤ sizeLine; decide, fun F hF => ?_⟩
  have sF : Same H (upd H F (.lst [])) := same_new hF _
  intro M hM
  have sM : Same (upd H F (.lst [])) (upd (upd H F (.lst [])) M (.dK [])) := same_new hM _
  have hM0 : H M = none := L2.Same.free sF hM
  have FM : F ≠ M := ne_of_none (show (upd H F (.lst [])) F = some (.lst []) from upd_same) hM
  have s2 := L2.Same.trans sF sM
  refine ⟨_, rfl, l, xs, rfl, LV.same s2 lvr, by omega, fun L H3 s3 hL eL => ?_⟩
  have F3 : H3 F = some (.lst ([].map V.int)) := s3 _ _ (sM _ _ upd_same)
  have M3 : H3 M = some (.dK (metK [])) := s3 _ _ upd_same
  have D4 : ∀ a ∈ S.rows.map (·.a), (rg S.rows a).length ≤ 4 := fun a ha => by
    obtain ⟨r, hr, rfl⟩ := mem_ceK ha
    rw [rg_of W.an hr]
    exact Nat.le_trans (refs_len _) (v4 r hr)
  have rcl := rg_cl W.an cls
  have rn : (S.rows.map (·.a)).length ≤ 200 := by rw [List.length_map]; exact W.rn
  -- what a state of the loops is: found, met, a line that was made here or ahead
  refine ⟨fun k σ H4 => ∃ (Ln : Addr) (line f : List Int) (o1 o2 : Option V), σ = [some (.ref A.p), some (.ref l), some (.ref F), some (.ref M), some (.ref Ln), o1, o2] ∧ Ln ≠ F ∧ Same H H4 ∧ H4 F = some (.lst (f.map V.int)) ∧ H4 M = some (.dK (metK f)) ∧ H4 Ln = some (.lst (line.map V.int)) ∧
      Gd (S.rows.map (·.a)) f ∧ (∀ a ∈ line, a ∈ S.rows.map (·.a)) ∧ Bfs (rg S.rows) k line f res, ⟨n, L, refs xs, [], none, none, rfl, (ne_of_none (sM _ _ (show (upd H F (.lst [])) F = some (.lst []) from upd_same)) hL).symm, L2.Same.trans s2 s3, F3, M3, eL, ⟨List.nodup_nil, fun a h => by cases h⟩, dom, B⟩, ?_⟩
  rintro k σ H4 ⟨Ln, line, f, o1, o2, rfl, LnF, s4, f4, m4, l4, G, dl, B4⟩
  refine ⟨_, rfl, Ln, _, rfl, .inl (SqL.of l4), _, _, rfl, rfl, _, rfl, ?_⟩
  cases B4 with
  | done => exact iteFb (decide_eq_false (by show ¬ (0 : Int) < 0; omega)) ⟨_, rfl, q F H4 s4 hF f4⟩
  | @turn k _ _ _ ne B5 =>
    have lp : 0 < line.length := List.length_pos_iff.mpr ne
    refine iteTb (decide_eq_true (by rw [List.length_map]; omega)) ?_
    refine ⟨fun σ' H5 => ∃ (Ln : Addr) (line f : List Int) (o1 o2 : Option V), σ' = [some (.ref A.p), some (.ref l), some (.ref F), some (.ref M), some (.ref Ln), o1, o2] ∧ Ln ≠ F ∧ Same H H5 ∧ H5 F = some (.lst (f.map V.int)) ∧ H5 M = some (.dK (metK f)) ∧ H5 Ln = some (.lst (line.map V.int)) ∧
      Gd (S.rows.map (·.a)) f ∧ (∀ a ∈ line, a ∈ S.rows.map (·.a)) ∧ Bfs (rg S.rows) k line f res, fun σ' H' z => ⟨k, Nat.lt_succ_self _, z⟩, ?_⟩
    refine ⟨by show 0 ≤ sizeLine; decide, fun Lt hLt => ?_⟩
    have s5 : Same H4 (upd H4 Lt (.lst [])) := same_new hLt _
    have LtF : Lt ≠ F := fun z => by rw [z, f4] at hLt; cases hLt
    have LtM : Lt ≠ M := fun z => by rw [z, m4] at hLt; cases hLt
    have LtL : Lt ≠ Ln := fun z => by rw [z, l4] at hLt; cases hLt
    have hLt0 : H Lt = none := L2.Same.free s4 hLt
    have LnM : Ln ≠ M := fun z => by rw [z, m4] at l4; cases l4
    refine ⟨_, rfl, Ln, rfl, ⟨_, SqL.of (s5 _ _ l4)⟩, ?_⟩
    have lml : (line.map V.int).length = line.length := List.length_map _
    refine for_list (K := K) (a := Ln) (xs := line.map V.int) (fun i σ H5 => ∃ o2, σ = [some (.ref A.p), some (.ref l), some (.ref F), some (.ref M), some (.ref Ln), some (.ref Lt), o2] ∧ Same H H5 ∧ H5 F = some (.lst ((lay (rg S.rows) (line.take i) f []).1.map V.int)) ∧ H5 M = some (.dK (metK (lay (rg S.rows) (line.take i) f []).1)) ∧
        H5 Ln = some (.lst (line.map V.int)) ∧ H5 Lt = some (.lst ((lay (rg S.rows) (line.take i) f []).2.map V.int))) ⟨o2, rfl, L2.Same.trans s4 s5, s5 _ _ f4, s5 _ _ m4, s5 _ _ l4, upd_same⟩ (fun i σ H5 _ ⟨_, _, _, _, _, h, _⟩ => SqL.of h) ?_ ?_
    · rintro i x σ H5 hi ⟨o2, rfl, s6, f5, m5, l5, t5⟩
      obtain ⟨a, ea, rfl⟩ : ∃ a, line[i]? = some a ∧ V.int a = x := by
        rw [List.getElem?_map] at hi
        exact Option.map_eq_some_iff.mp hi
      have dt : ∀ b ∈ line.take i, b ∈ S.rows.map (·.a) := fun b hb => dl b (List.mem_of_mem_take hb)
      obtain ⟨x1, x2, _⟩ := lay_ok rcl dt G (l := []) (fun a h => by cases h)
      have x3 := lay_len rcl D4 (f := f) (l := []) dt
      have x4 := x1.len
      have sn := lay_snoc (rg S.rows) a (line.take i) f []
      rw [← take_snoc ea] at sn
      generalize eL : lay (rg S.rows) (line.take i) f [] = Q1 at *
      obtain ⟨f1, l1⟩ := Q1
      obtain ⟨r, hrow, rfl⟩ := mem_ceK (dl a (List.mem_of_getElem? ea))
      refine ⟨_, rfl, _, rfl, M, _, rfl, DGet.k (k := Sum.inl r.a) m5, _, rfl, ?_⟩
      rw [metK_val]
      by_cases e : r.a ∈ f1
      · rw [if_pos e]
        have sn : lay (rg S.rows) (line.take (i + 1)) f [] = (f1, l1) := by rw [sn]; exact if_pos e
        refine iteF ⟨_, rfl, s6, ?_, ?_, l5, ?_⟩
        · rw [sn]; exact f5
        · rw [sn]; exact m5
        · rw [sn]; exact t5
      · rw [if_neg e]
        have sn : lay (rg S.rows) (line.take (i + 1)) f [] = (f1 ++ [r.a], l1 ++ rg S.rows r.a) := by rw [sn]; exact if_neg e
        have nv : valV (metK f1) (Sum.inl r.a : Key) = none := by rw [metK_val, if_neg e]
        have l200 : f1.length ≤ 200 := Nat.le_trans x4 rn
        have lm : (metK f1).length < sizeLine := by unfold metK; rw [List.length_map]; exact small1000 (by omega)
        have l1l : l1.length ≤ 800 := by
          have z : l1.length + 4 * f.length ≤ ([] : List Int).length + 4 * f1.length := x3
          rw [List.length_nil] at z
          omega
        refine iteT ⟨_, rfl, _, rfl, M, _, rfl, DPut.k (k := Sum.inl r.a) m5 lm, ?_⟩
        rw [putK_new _ nv, metK_snoc]
        have MF : M ≠ F := FM.symm
        let H6 : Hp := upd H5 M (.dK (metK (f1 ++ [r.a])))
        have f6 : H6 F = some (.lst (f1.map V.int)) := (upd_ne FM).trans f5
        refine ⟨_, rfl, .inl ⟨rfl, _, SqL.of f6⟩, _, rfl, F, _, _, rfl, rfl, f6, by rw [List.length_map]; exact small1000 (by omega), ?_⟩
        let H7 : Hp := upd H6 F (.lst (f1.map V.int ++ [V.int r.a]))
        have s7 : Same H H7 := fun b o e => by
          show (upd H6 F _) b = _
          rw [upd_ne (ne_of_none e hF)]
          show (upd H5 M _) b = _
          rw [upd_ne (ne_of_none e hM0)]
          exact s6 _ _ e
        have W7 := W.same s7
        have t7 : H7 Lt = some (.lst (l1.map V.int)) := (upd_ne LtF).trans ((upd_ne LtM).trans t5)
        have R7 := (W7.rw r hrow)
        have vr := v4 r hrow
        refine ⟨_, rfl, .inl ⟨rfl, _, SqL.of t7⟩, _, rfl, A.p, CW, dx, fs, _, rfl, s7 _ _ h1, T.cW, T.nCe, (h2 _).trans wl_ce, _, rfl, A.ce, V.ref r.cl, rfl, dgetR (k := Sum.inl r.a) (.inl W7.ce) (row_val W.an hrow), _, rfl, r.cl, _, _, _, rfl, rfl, SqL.of R7.cl, atLast r.c r.vl, r.vl, r.c.vs, rfl, R7.vl, by omega, fun R H8 s8 hR eR => ?_⟩
        have s78 := L2.Same.trans s7 s8
        have LtR : Lt ≠ R := ne_of_none t7 hR
        have rl := refs_len r.c.vs
        refine ⟨Lt, R, _, _, rfl, rfl, s8 _ _ t7, eR, Nat.le_trans (show (l1.map V.int).length + ((refs r.c.vs).map V.int).length ≤ 1000 by rw [List.length_map, List.length_map]; omega) (by decide), ?_⟩
        have F8 : H8 F = some (.lst ((f1 ++ [r.a]).map V.int)) := by
          rw [List.map_append]
          exact s8 _ _ (show (upd H6 F _) F = _ from upd_same)
        have M8 : H8 M = some (.dK (metK (f1 ++ [r.a]))) := s8 _ _ ((upd_ne MF).trans upd_same)
        have L8 : H8 Ln = some (.lst (line.map V.int)) := s8 _ _ ((upd_ne LnF).trans ((upd_ne LnM).trans l5))
        refine ⟨_, rfl, fun b o e => ?_, ?_, ?_, ?_, ?_⟩
        · rw [upd_ne (ne_of_none e hLt0)]
          exact s78 _ _ e
        · rw [sn, upd_ne LtF.symm]
          exact F8
        · rw [sn, upd_ne LtM.symm]
          exact M8
        · rw [upd_ne LtL.symm]
          exact L8
        · rw [sn, upd_same, rg_of W.an hrow, List.map_append]
    · rintro σ H5 ⟨o2, rfl, s6, f5, m5, l5, t5⟩
      rw [lml, List.take_length] at f5 m5 t5
      obtain ⟨x1, x2, _⟩ := lay_ok rcl dl G (l := []) (fun a h => by cases h)
      exact ⟨_, rfl, Lt, _, _, _, _, rfl, LtF, s6, f5, m5, t5, x1, x2, B5⟩
end
end K4

namespace K4
open PySem PySem.Spec PyProof.Rows L2
/-- a dict comprehension over anything that is walked -/
theorem dc_it {J : L2.It} {n : Nat} {G : Hp → Prop} {Y : Nat → Hp → V → Hp → Prop} (w : Walk J n G Y) {g : TG} {tt : TT} {tk tv : TE} {vs : List Nat} {σ : L2.St} {H1 : Hp} {D : Addr} {Qd : Hp → Prop} (Pv : Nat → Hp → Prop) (h0 : Pv 0 (upd H1 D (.dK []))) (hG : ∀ i H, i ≤ n → Pv i H → G H)
    (hs : ∀ i x H H', i < n → Pv i H → Y i H x H' → g x (wipe σ vs) H' fun σ2 H2 => wipe σ2 vs = wipe σ vs ∧ tt σ2 H2 fun b H3 =>
      if b = true then tk σ2 H3 fun y H4 => tv σ2 H4 fun z H5 => ∃ kvs k, y = kV k ∧ H5 D = some (.dK kvs) ∧ kvs.length < sizeLine ∧ Pv (i + 1) (upd H5 D (.dK (putK kvs k z))) else Pv (i + 1) H3) (hd : ∀ H, Pv n H → Qd H) :
    ∃ W : Nat → Nat → Hp → Prop, (∃ m, W 0 m (upd H1 D (.dK []))) ∧ ∀ i m H, W i m H →
      (J.stop i H ∧ Qd H) ∨ (J.go i H ∧ ∃ Nx : Hp → Prop, (∀ H', Nx H' → ∃ m', m' < m ∧ W (i + 1) m' H') ∧ ∀ x H', J.yld i H x H' → g x (wipe σ vs) H' fun σ2 H2 => wipe σ2 vs = wipe σ vs ∧ tt σ2 H2 fun b H3 =>
        if b = true then tk σ2 H3 fun y H4 => tv σ2 H4 fun z H5 => ∃ kvs k, y = kV k ∧ H5 D = some (.dK kvs) ∧ kvs.length < sizeLine ∧ Nx (upd H5 D (.dK (putK kvs k z))) else Nx H3) := by
  refine ⟨fun i m H => m = n - i ∧ i ≤ n ∧ Pv i H, ⟨n, by simp, Nat.zero_le _, h0⟩, ?_⟩
  rintro i m H ⟨rfl, hi, p⟩
  have q := hG i H hi p
  by_cases hlt : i < n
  · exact .inr ⟨w.goes i H hlt q, Pv (i + 1), fun H' p' => ⟨n - (i + 1), by omega, rfl, hlt, p'⟩, fun x H' y => hs i x H H' hlt p (w.yields i H x H' hlt q y)⟩
  · have e : i = n := by omega
    subst e
    exact .inl ⟨w.stops H q, hd H p⟩
theorem pg_tupK (K : PySem.W.Frag) {X : Cx} {es : List Expr} {k : Nat} {t : TGs} {n : Nat} {pos : Pos} (hc : X.calm = true) (h : PGs X es t) (hn : (assignEach es X.env).length = n := by rfl) (hst : (assignEach es X.env).findIdx? (·.1) = none := by rfl) (e : X.K = K := by rfl) : PG X (.Tuple es k pos) (gTup K n t) := e ▸ pg_tup hc h hn hst
/-! ### what is reached is closed -/
theorem lay_new {g : Int → List Int} : ∀ {line f l : List Int}, (∀ a ∈ l, a ∈ (lay g line f l).2) ∧ ∀ a ∈ (lay g line f l).1, a ∈ f ∨ ∀ b ∈ g a, b ∈ (lay g line f l).2
  | [], f, l => ⟨fun a h => h, fun a h => .inl h⟩
  | a :: r, f, l => by
    by_cases e : a ∈ f
    · have : lay g (a :: r) f l = lay g r f l := if_pos e
      rw [this]
      exact lay_new
    · have : lay g (a :: r) f l = lay g r (f ++ [a]) (l ++ g a) := if_neg e
      rw [this]
      obtain ⟨h1, h2⟩ := lay_new (g := g) (line := r) (f := f ++ [a]) (l := l ++ g a)
      refine ⟨fun b hb => h1 b (List.mem_append_left _ hb), fun b hb => ?_⟩
      rcases h2 b hb with h | h
      · rcases List.mem_append.mp h with h | h
        · exact .inl h
        · rw [List.mem_singleton.mp h]
          exact .inr fun c hc => h1 c (List.mem_append_right _ hc)
      · exact .inr h
theorem Bfs.closed {g : Int → List Int} {D : List Int} (cl : ∀ a ∈ D, ∀ b ∈ g a, b ∈ D) {n line f res} (h : Bfs g n line f res) : (∀ a ∈ line, a ∈ D) → Gd D f → (∀ a ∈ f, ∀ b ∈ g a, b ∈ f ∨ b ∈ line) → Gd D res ∧ (∀ a ∈ res, ∀ b ∈ g a, b ∈ res) ∧ (∀ a ∈ line, a ∈ res) ∧ ∀ a ∈ f, a ∈ res := by
  induction h with
  | done => exact fun _ G h => ⟨G, fun a ha b hb => (h a ha b hb).elim id (fun z => by cases z), (fun a h => by cases h), fun a h => h⟩
  | @turn n line f res _ _ ih =>
    intro hl G hc
    obtain ⟨x1, x2, _, _, x5, x6⟩ := lay_ok cl hl G (l := []) (fun a h => by cases h)
    obtain ⟨y1, y2⟩ := lay_new (g := g) (line := line) (f := f) (l := [])
    obtain ⟨z1, z2, z3, z4⟩ := ih x2 x1 fun a ha b hb => by
      rcases y2 a ha with h | h
      · rcases hc a h b hb with h | h
        · exact .inl (x5 b h)
        · exact .inl (x6 b h)
      · exact .inr (h b hb)
    exact ⟨z1, z2, fun a ha => z4 a (x6 a ha), fun a ha => z4 a (x5 a ha)⟩
/-! ### the table of new numbers -/
def tabK (fr : Int) : Nat → List Int → List (Key × V)
  | _, [] => []
  | k, a :: r => (Sum.inl a, V.int (fr + k)) :: tabK fr (k + 1) r
theorem tabK_len (fr : Int) : ∀ (k : Nat) (l : List Int), (tabK fr k l).length = l.length
  | _, [] => rfl
  | k, _ :: r => congrArg (· + 1) (tabK_len fr (k + 1) r)
theorem tabK_snoc (fr : Int) (a : Int) : ∀ (k : Nat) (l : List Int), tabK fr k (l ++ [a]) = tabK fr k l ++ [(Sum.inl a, V.int (fr + ((k + l.length : Nat) : Int)))]
  | k, [] => rfl
  | k, b :: r => by
    show (Sum.inl b, V.int (fr + k)) :: tabK fr (k + 1) (r ++ [a]) = (Sum.inl b, V.int (fr + k)) :: (tabK fr (k + 1) r ++ _)
    rw [tabK_snoc fr a (k + 1) r, show k + 1 + r.length = k + (b :: r).length from by rw [List.length_cons]; omega]
theorem tabK_val (fr : Int) {a : Int} : ∀ (k : Nat) {l : List Int}, a ∈ l → valV (tabK fr k l) (Sum.inl a : Key) = some (.int (fr + ((k + ixOf a l : Nat) : Int)))
  | k, [], h => by cases h
  | k, b :: r, h => by
    show valV (((Sum.inl b : Key), V.int (fr + k)) :: tabK fr (k + 1) r) _ = _
    by_cases e : b = a
    · subst e
      have e0 : ixOf b (b :: r) = 0 := by show (if b = b then 0 else _) = 0; rw [if_pos rfl]
      rw [valV_pos rfl, e0]
      rfl
    · have e0 : ixOf a (b :: r) = ixOf a r + 1 := by show (if b = a then 0 else _) = _; rw [if_neg e]
      rw [valV_neg (fun z => e (Sum.inl.inj z)), tabK_val fr (k + 1) ((List.mem_cons.mp h).resolve_left fun z => e z.symm), e0, show k + 1 + ixOf a r = k + (ixOf a r + 1) from by omega]
theorem tabK_none (fr : Int) {a : Int} : ∀ (k : Nat) {l : List Int}, a ∉ l → valV (tabK fr k l) (Sum.inl a : Key) = none
  | k, [], h => rfl
  | k, b :: r, h => by
    show valV (((Sum.inl b : Key), V.int (fr + k)) :: tabK fr (k + 1) r) _ = _
    rw [valV_neg (fun z => h (by rw [← Sum.inl.inj z]; exact List.mem_cons_self)), tabK_none fr (k + 1) fun z => h (List.mem_cons_of_mem _ z)]
theorem ixOf_nd {l : List Int} (nd : l.Nodup) {i : Nat} {a : Int} (h : l[i]? = some a) : ixOf a l = i := by
  obtain ⟨h1, _⟩ := ixOf_get (List.mem_of_getElem? h)
  exact nd_ix nd h1 h
def tOf (fr : Int) (order : List Int) (a : Int) : Int := fr + (ixOf a order : Nat)
theorem cut_head (c : Cl) (vl : Addr) : cutV (head c vl) none (some (-1)) = (head c vl).dropLast := by
  unfold head
  cases c.kind <;> rfl
theorem head_re (c : Cl) (vl vl' : Addr) (t : Int → Int) : (head c vl).dropLast ++ [V.ref vl'] = head (c.re t) vl' := by
  unfold head Cl.re
  cases c.kind
  · rfl
  · show [V.str "object", V.int (c.vs.length : Int), V.ref vl'] = [V.str "object", V.int ((c.vs.map (Vl.re t)).length : Int), V.ref vl']
    rw [List.length_map]
  · rfl
theorem isSm_re (t : Int → Int) (v : Vl) : isSm (v.re t) = isSm v := by cases v <;> rfl
/-- the rows behind a move -/
structure MovedTo (fr : Int) (order : List Int) (rows rows' : List Row) : Prop where
  len : rows'.length = order.length
  get : ∀ (i : Nat) (r' : Row), rows'[i]? = some r' → ∃ r ∈ rows, order[i]? = some r.a ∧ r'.a = fr + (i : Nat) ∧ r'.c = r.c.re (tOf fr order)
section
variable {P : Program} {w : World} {K : PySem.W.Frag} {mg : Str → Option Value} {base : Heap} {CW CD : Addr}
def spMoved (C : Addr) : Sp := fun vs H Q _ => ∃ A S l xs n order, vs = [.ref A.p, .ref l] ∧ WorldAt C H A S ∧ LV H l xs ∧ xs.length ≤ 100 ∧ (∀ r ∈ S.rows, r.c.vs.length ≤ 4) ∧ Closed S.rows ∧ (∀ a ∈ refs xs, a ∈ S.rows.map (·.a)) ∧ Bfs (rg S.rows) n (refs xs) [] order ∧
  ∀ r H' ce' rows', WorldAt C H' { A with ce := ce' } { S with rows := rows', fr := S.fr + (order.length : Nat) } → MovedTo S.fr order S.rows rows' → Kp (fun b => b = A.p) H H' → (∀ b, Own { A with ce := ce' } rows' b → b ∈ hdl A ∨ H b = none) →
    H r = none → LV H' r (xs.map (Vl.re (tOf S.fr order))) → Q (.ref r) H'
theorem scMoved : FnScope ["world", "roots", "order", "table", "cells", "address", "cell", "k", "value"] ["world", "roots"] (C8.fnScope sMoved) := C8.fnScope_by (by decide +kernel)
theorem ok_moved (T : Txt K mg CW CD) : C8.Cal P w K mg base 3 "moved" (spMoved CW) [] := by
  refine cal1 T.dMoved scMoved (fun vs H Q E h => ?_) fun f cdv A outer s H vs Q E hr h => ?_
  · obtain ⟨_, _, _, _, _, _, rfl, _⟩ := h
    rfl
  obtain ⟨A, S, l, xs, n, order, rfl, W, lvr, x100, v4, cls, dom, B, q⟩ := h
  obtain ⟨dx, fs, pr, h1, hfl, h2⟩ := W.ob
  have hu := hu_of hr
  refine ⟨_, pss_cons (ps_set (i := 2) scMoved.nd rfl (Or.inl rfl) (C8.pe_c (ok_reached T) hr (by decide) rfl (pa_cons (pv 0) (pa_cons (pv 1) pa_nil))))
    (pss_cons (ps_set (i := 3) scMoved.nd rfl (Or.inr rfl) (pe_dc (own := [("k", 7), ("address", 5)]) (g := gTup K 2 (gCons (gName 7) (gCons (gName 5) gNil))) (tt := tYes) rfl scMoved.nd (pi_enum rfl T.zEnum (pa_cons (pv 2) pa_nil)) (blkOk_by (N := ["world", "roots", "order", "table", "cells", "address", "cell", "k", "value"]) (sc := C8.fnScope sMoved) (by decide +kernel))
        (fun _ _ _ _ _ => pg_tupK K rfl (pgs_cons (pg_name (i := 7) scMoved.nd rfl (.inl rfl)) (pgs_cons (pg_name (i := 5) scMoved.nd rfl (.inl rfl)) pgs_nil))) (fun _ _ _ _ _ => pts_nil) (fun _ _ _ _ _ => pv 5) (fun _ _ _ _ _ => pe_op op_add (pe_fldK K (pv 0) rfl) (pv 7))))
    (pss_cons (ps_set (i := 4) scMoved.nd rfl (Or.inl rfl) pe_dnewK)
    (pss_cons (ps_for PassesOwn.never rfl (pi_list (pv 2)) (pg_name (i := 5) scMoved.nd rfl (Or.inl rfl))
      (pss_cons (ps_set (i := 6) scMoved.nd rfl (Or.inl rfl) (pe_dget hu (pe_fld (pv 0) rfl) (pv 5) (fun _ _ => rfl)))
      (pss_one (ps_dput hu (pv 4) (pe_dget hu (pv 3) (pv 5) (fun _ _ => rfl)) (pe_lst (StX.pa_star (pe_slice sl_list (pv 6) po_none (po_some (pe_un un_neg pe_int)))
        (pa_cons (pe_lc (own := [("value", 8)]) (g := gName 8) (tt := tYes) rfl scMoved.nd (pi_list (pe_ix ix_list (pv 6) (pe_un un_neg pe_int) (fun _ _ => rfl))) (blkOk_by (N := ["world", "roots", "order", "table", "cells", "address", "cell", "k", "value"]) (sc := C8.fnScope sMoved) (by decide +kernel)) (fun _ _ _ _ _ => pg_name (i := 8) scMoved.nd rfl (Or.inl rfl))
          (fun _ _ _ _ _ => pts_nil) (fun _ _ _ _ _ => C8.pe_c (ok_movedV T) hr (by decide) rfl (pa_cons (pv 8) (pa_cons (pv 3) pa_nil)))) pa_nil))) rfl))))
    (pss_cons (ps_fld (pv 0) (pv 4) rfl)
    (pss_cons (ps_fld (pv 0) (pe_op op_add (pe_fld (pv 0) rfl) (pe_callB call_len_seq rfl T.zLen PySem.boot_len (pa_cons (pv 2) pa_nil))) rfl)
    (pss_one (ps_ret (pe_lc (own := [("value", 8)]) (g := gName 8) (tt := tYes) rfl scMoved.nd (pi_list (pv 1)) (blkOk_by (N := ["world", "roots", "order", "table", "cells", "address", "cell", "k", "value"]) (sc := C8.fnScope sMoved) (by decide +kernel)) (fun _ _ _ _ _ => pg_name (i := 8) scMoved.nd rfl (Or.inl rfl))
          (fun _ _ _ _ _ => pts_nil) (fun _ _ _ _ _ => C8.pe_c (ok_movedV T) hr (by decide) rfl (pa_cons (pv 8) (pa_cons (pv 3) pa_nil))))))))))), ?_⟩
  have rcl := rg_cl W.an cls
  obtain ⟨G, oc, lo, _⟩ := B.closed rcl dom ⟨List.nodup_nil, fun a h => by cases h⟩ (fun a h => by cases h)
  have ol : order.length ≤ 200 := by
    have := G.len
    rw [List.length_map] at this
    have := W.rn
    omega
  refine ⟨_, rfl, _, rfl, A, S, l, xs, n, order, rfl, W, lvr, x100, v4, cls, dom, B, fun O H1 s1 hO eO => ?_⟩
  refine ⟨_, rfl, O, _, rfl, SqL.of eO, fun Tb hTb => ?_⟩
  have lom : (order.map V.int).length = order.length := List.length_map _
  have hTb0 : H Tb = none := L2.Same.free s1 hTb
  have OTb : O ≠ Tb := ne_of_none eO hTb
  refine dc_it (walk_enum (K := K) (a := O) (xs := order.map V.int)) (fun i H2 => Same H1 H2 ∧ H2 Tb = some (.dK (tabK S.fr 0 (order.take i)))) ⟨same_new hTb _, upd_same⟩ (fun i H2 _ h => SqL.of (h.1 _ _ eO)) ?_ ?_
  · rintro i x H2 H3 hi ⟨s2, t2⟩ ⟨t, _, y, rfl, ht, rfl, ex, ey⟩
    have ex := Option.some.inj ex
    subst ex
    obtain ⟨a, ea, rfl⟩ : ∃ a, order[i]? = some a ∧ V.int a = y := by
      have ey : (order.map V.int)[i]? = some y := ey
      rw [List.getElem?_map] at ey
      exact Option.map_eq_some_iff.mp ey
    have s3 : Same H2 (upd H2 t (.tup [V.int (i : Nat), V.int a])) := same_new ht _
    have s13 := L2.Same.trans s1 (L2.Same.trans s2 s3)
    have an : a ∉ order.take i := fun z => by
      obtain ⟨j, hj⟩ := List.getElem?_of_mem z
      have hjl : j < i := by
        have := (List.getElem?_eq_some_iff.mp hj).1
        rw [List.length_take] at this
        omega
      rw [List.getElem?_take_of_lt hjl] at hj
      have := nd_ix G.nd hj ea
      omega
    refine ⟨t, _, rfl, SqT.of upd_same, rfl, _, _, rfl, _, _, rfl, rfl, rfl, _, rfl, _, rfl, A.p, CW, dx, fs, _, rfl, s13 _ _ h1, T.cW, T.nFr, (h2 _).trans wl_fr, _, rfl, _, _, rfl, rfl, _, Sum.inl a, rfl, s3 _ _ t2, ?_, ?_, ?_⟩
    · rw [tabK_len, List.length_take]
      exact small1000 (by omega)
    · exact fun b o e => by
        rw [upd_ne (ne_of_none e hTb)]
        exact s3 _ _ (s2 _ _ e)
    · have il : i < order.length := (List.getElem?_eq_some_iff.mp ea).1
      rw [upd_same, putK_new _ (tabK_none S.fr 0 an), take_snoc ea, tabK_snoc, List.length_take, Nat.zero_add, Nat.min_eq_left (Nat.le_of_lt il)]
  rintro H2 ⟨s2, t2⟩
  rw [lom, List.take_length] at t2
  intro NC hNC
  have s12 := L2.Same.trans s1 s2
  have o2 := s2 _ _ eO
  let H3 : Hp := upd H2 NC (.dK [])
  have s3 : Same H2 H3 := same_new hNC _
  have s13 : Same H H3 := L2.Same.trans s12 s3
  have hNC0 : H NC = none := L2.Same.free s12 hNC
  have NCO : NC ≠ O := fun z => by rw [z, o2] at hNC; cases hNC
  have NCT : NC ≠ Tb := fun z => by rw [z, t2] at hNC; cases hNC
  refine ⟨_, rfl, O, rfl, ⟨_, SqL.of (s3 _ _ o2)⟩, ?_⟩
  refine for_list (K := K) (a := O) (xs := order.map V.int) (fun i σ H4 => ∃ o5 o6 rows', σ = [some (.ref A.p), some (.ref l), some (.ref O), some (.ref Tb), some (.ref NC), o5, o6, none, none] ∧ Same H H4 ∧ H4 O = some (.lst (order.map V.int)) ∧ H4 Tb = some (.dK (tabK S.fr 0 order)) ∧
      H4 NC = some (.dK (ceK rows')) ∧ rows'.length = i ∧ (∀ (j : Nat) (r' : Row), rows'[j]? = some r' → ∃ r ∈ S.rows, order[j]? = some r.a ∧ r'.a = S.fr + (j : Nat) ∧ r'.c = r.c.re (tOf S.fr order)) ∧
      (∀ r' ∈ rows', RowAt H4 r' ∧ H r'.cl = none ∧ H r'.vl = none ∧ r'.cl ≠ r'.vl) ∧ (∀ r' ∈ rows', ∀ r'' ∈ rows', r'.a ≠ r''.a → r'.cl ≠ r''.cl ∧ r'.cl ≠ r''.vl ∧ r'.vl ≠ r''.vl))
    ⟨none, none, [], rfl, s13, s3 _ _ o2, s3 _ _ t2, upd_same, rfl, (fun j r' h => by cases h), (fun r' h => by cases h), (fun r' h => by cases h)⟩ (fun i σ H4 _ ⟨_, _, _, _, _, h, _⟩ => SqL.of h) ?_ ?_
  · rintro i x σ H4 hi ⟨o5, o6, rows', rfl, s4, O4, T4, N4, rl, rget, rat, rap⟩
    obtain ⟨a, ea, rfl⟩ : ∃ a, order[i]? = some a ∧ V.int a = x := by
      rw [List.getElem?_map] at hi
      exact Option.map_eq_some_iff.mp hi
    obtain ⟨r, hrow, rfl⟩ := mem_ceK (G.sub a (List.mem_of_getElem? ea))
    have W4 := W.same s4
    have R4 := W4.rw r hrow
    obtain ⟨ps, hv1, hv2⟩ := R4.vl
    have il : i < order.length := (List.getElem?_eq_some_iff.mp ea).1
    refine ⟨_, rfl, A.p, CW, dx, fs, _, rfl, s4 _ _ h1, T.cW, T.nCe, (h2 _).trans wl_ce, _, rfl, A.ce, V.ref r.cl, rfl, dgetR (k := Sum.inl r.a) (.inl W4.ce) (row_val W.an hrow), ?_⟩
    have cl4 := R4.cl
    refine ⟨_, rfl, _, rfl, _, rfl, r.cl, _, rfl, SqL.of cl4, fun Z hZ => ?_⟩
    rw [cut_head]
    let H5 : Hp := upd H4 Z (.lst (head r.c r.vl).dropLast)
    have s5 : Same H4 H5 := same_new hZ _
    refine ⟨Z, _, rfl, .inr (SqL.of (show H5 Z = _ from upd_same)), _, rfl, _, rfl, r.cl, _, _, _, rfl, rfl, SqL.of (s5 _ _ cl4), atLast r.c r.vl, r.vl, rfl, ⟨_, SqL.of (s5 _ _ hv1)⟩, fun VL hVL => ?_⟩
    have s45 : Same H H5 := L2.Same.trans s4 s5
    have VL0 : H VL = none := L2.Same.free s45 hVL
    have TbVL : Tb ≠ VL := ne_of_none (s5 _ _ T4) hVL
    have lv : (ps.map V.ref).length = r.c.vs.length := by rw [List.length_map, hv2.length]
    have vr := v4 r hrow
    refine lc_list (K := K) (a := r.vl) (xs := ps.map V.ref) (fun j H6 => Same H5 H6 ∧ ∃ ps', H6 VL = some (.lst (ps'.map V.ref)) ∧ VsAt H6 ps' ((r.c.vs.take j).map (Vl.re (tOf S.fr order)))) ⟨same_new hVL _, [], upd_same, .nil⟩ (fun j H6 _ h => SqL.of (h.1 _ _ (s5 _ _ hv1))) ?_ ?_
    · rintro j y H6 hj ⟨s6, ps', e6, va6⟩
      obtain ⟨p, v, rfl, _, ev, hp⟩ := hv2.item hj
      have hp6 : VAt H6 p v := VAt.same s6 (VAt.same s5 hp)
      have T6 : H6 Tb = some (.dK (tabK S.fr 0 order)) := s6 _ _ (s5 _ _ T4)
      have l6 : ps'.length = j := by
        rw [va6.length, List.length_map, List.length_take]
        have := (List.getElem?_eq_some_iff.mp ev).1
        omega
      have lt6 : (ps'.map V.ref).length < sizeLine := by
        rw [List.length_map, l6]
        have := (List.getElem?_eq_some_iff.mp ev).1
        exact small1000 (by omega)
      -- what is appended
      have fin : ∀ (p' : Addr) (H7 : Hp), Same H6 H7 → VAt H7 p' (v.re (tOf S.fr order)) → H7 VL = some (.lst (ps'.map V.ref)) ∧ Same H5 (upd H7 VL (.lst (ps'.map V.ref ++ [V.ref p']))) ∧ ∃ ps2, (upd H7 VL (.lst (ps'.map V.ref ++ [V.ref p']))) VL = some (.lst (ps2.map V.ref)) ∧ VsAt (upd H7 VL (.lst (ps'.map V.ref ++ [V.ref p']))) ps2 ((r.c.vs.take (j + 1)).map (Vl.re (tOf S.fr order))) := fun p' H7 s7 hp7 => by
        have e7 := s7 _ _ e6
        have nt : NT (fun b => b = VL) H7 := fun b hb xs e => by
          subst hb
          rw [e7] at e
          cases e
        have k7 : Kp (fun b => b = VL) H7 (upd H7 VL (.lst (ps'.map V.ref ++ [V.ref p']))) := kp_upd (fun b o e _ => e) rfl
        refine ⟨e7, fun b o e => ?_, ps' ++ [p'], ?_, ?_⟩
        · rw [upd_ne (ne_of_none e hVL)]
          exact s7 _ _ (s6 _ _ e)
        · rw [upd_same, List.map_append]
          rfl
        · rw [take_snoc ev, List.map_append]
          exact pair_app ((va6.same s7).kp nt k7) (.cons (hp7.kp nt k7) .nil)
      refine ⟨rfl, _, rfl, _, rfl, p, v, Tb, _, rfl, hp6, T6, fun a ea2 => ?_, fun hn => ?_⟩
      · subst ea2
        have ain : a ∈ order := oc r.a (List.mem_of_getElem? ea) a (by rw [rg_of W.an hrow]; exact mem_refs (List.mem_of_getElem? ev))
        refine ⟨tOf S.fr order a, ?_, fun p' hp' => ?_⟩
        · rw [tabK_val S.fr 0 ain, Nat.zero_add]
          rfl
        · obtain ⟨f1, f2, f3⟩ := fin p' _ (same_new hp' _) upd_same
          exact ⟨_, f1, lt6, f2, f3⟩
      · have ev2 : v.re (tOf S.fr order) = v := by cases v <;> first | rfl | cases hn
        obtain ⟨f1, f2, f3⟩ := fin p H6 (L2.Same.refl _) (by rw [ev2]; exact hp6)
        exact ⟨_, f1, lt6, f2, f3⟩
    · rintro H6 ⟨s6, ps', e6, va6⟩
      rw [lv, List.take_length] at va6
      have hdl2 : ((head r.c r.vl).dropLast ++ [V.ref VL]) = head (r.c.re (tOf S.fr order)) VL := head_re _ _ _ _
      refine ⟨?_, fun CL hCL => ?_⟩
      · show ((head r.c r.vl).dropLast ++ [V.ref VL]).length ≤ sizeLine
        rw [hdl2]
        unfold head
        cases (r.c.re (tOf S.fr order)).kind <;> first | (show 2 ≤ sizeLine; decide) | (show 3 ≤ sizeLine; decide)
      have s46 : Same H4 H6 := L2.Same.trans s5 s6
      let H7 : Hp := upd H6 CL (.lst ((head r.c r.vl).dropLast ++ [V.ref VL]))
      have c7 : H7 CL = some (.lst (head (r.c.re (tOf S.fr order)) VL)) := by
        show (upd H6 CL _) CL = _
        rw [upd_same, hdl2]
      have s7 : Same H6 H7 := same_new hCL _
      have s47 : Same H4 H7 := L2.Same.trans s46 s7
      have N7 := s47 _ _ N4
      have T7 := s47 _ _ T4
      have ain := List.mem_of_getElem? ea
      have tv : valV (tabK S.fr 0 order) (Sum.inl r.a : Key) = some (.int (S.fr + (i : Nat))) := by
        rw [tabK_val S.fr 0 ain, Nat.zero_add, ixOf_nd G.nd ea]
      have anew : ∀ r' ∈ rows', r'.a ≠ S.fr + (i : Nat) := fun r' hr' z => by
        obtain ⟨j, hj⟩ := List.getElem?_of_mem hr'
        have := (List.getElem?_eq_some_iff.mp hj).1
        obtain ⟨_, _, _, e, _⟩ := rget j r' hj
        omega
      refine ⟨_, rfl, _, rfl, _, rfl, Tb, _, rfl, dget (k := Sum.inl r.a) T7 tv, NC, _, rfl, DPut.k (k := Sum.inl (S.fr + (i : Nat))) N7 ?_, ?_⟩
      · unfold ceK
        rw [List.length_map, rl]
        exact small1000 (by omega)
      let H8 : Hp := upd H7 NC (.dK (putK (ceK rows') (Sum.inl (S.fr + (i : Nat))) (V.ref CL)))
      have k8 : Kp (fun b => b = NC) H7 H8 := kp_upd (fun b o e _ => e) rfl
      have nt8 : NT (fun b => b = NC) H7 := fun b hb xs e => by
        subst hb
        rw [N7] at e
        cases e
      have CLN : CL ≠ NC := fun z => by rw [z, s46 _ _ N4] at hCL; cases hCL
      have VLN : VL ≠ NC := (ne_of_none (s5 _ _ N4) hVL).symm
      have CLV : CL ≠ VL := fun z => by rw [z, e6] at hCL; cases hCL
      have VL4 : H4 VL = none := L2.Same.free s5 hVL
      have CL4 : H4 CL = none := L2.Same.free s46 hCL
      have s48 : ∀ b o, H4 b = some o → b ≠ NC → H8 b = some o := fun b o e hb => k8 _ _ (s47 _ _ e) hb
      have up : ∀ r' ∈ rows', RowAt H8 r' := fun r' hr' => by
        obtain ⟨R', _⟩ := rat r' hr'
        have z1 : r'.cl ≠ NC := fun z => by have := R'.cl; rw [z, N4] at this; cases this
        have z2 : r'.vl ≠ NC := fun z => by obtain ⟨_, this, _⟩ := R'.vl; rw [z, N4] at this; cases this
        exact (RowAt.same s47 R').kp nt8 k8 z1 z2
      have new8 : RowAt H8 ⟨S.fr + (i : Nat), r.c.re (tOf S.fr order), CL, VL⟩ := by
        refine ⟨k8 _ _ c7 CLN, ps', k8 _ _ (s7 _ _ e6) VLN, ?_⟩
        exact (va6.same s7).kp nt8 k8
      have mem : ∀ r' ∈ rows' ++ [(⟨S.fr + (i : Nat), r.c.re (tOf S.fr order), CL, VL⟩ : Row)], r' ∈ rows' ∨ r' = ⟨S.fr + (i : Nat), r.c.re (tOf S.fr order), CL, VL⟩ := fun r' h => (List.mem_append.mp h).imp id List.mem_singleton.mp
      refine ⟨_, _, rows' ++ [⟨S.fr + (i : Nat), r.c.re (tOf S.fr order), CL, VL⟩], rfl, fun b o e => s48 _ _ (s4 _ _ e) (ne_of_none e hNC0), s48 _ _ O4 NCO.symm, s48 _ _ T4 NCT.symm, ?_, ?_, fun j r' hj => ?_, fun r' hr' => ?_, fun r' hr' r'' hr'' ne => ?_⟩
      · show (upd H7 NC _) NC = _
        rw [upd_same, putK_new _ (row_none anew), ceK_app]
        rfl
      · rw [List.length_append, List.length_singleton, rl]
      · by_cases jl : j < rows'.length
        · rw [List.getElem?_append_left jl] at hj
          exact rget j r' hj
        · rw [List.getElem?_append_right (by omega)] at hj
          have e0 : j - rows'.length = 0 := by
            have := (List.getElem?_eq_some_iff.mp hj).1
            rw [List.length_singleton] at this
            omega
          rw [e0] at hj
          have e1 := Option.some.inj hj
          subst e1
          have ej : j = i := by omega
          subst ej
          exact ⟨r, hrow, ea, rfl, rfl⟩
      · rcases mem r' hr' with h | rfl
        · obtain ⟨_, a1, a2, a3⟩ := rat r' h
          exact ⟨up r' h, a1, a2, a3⟩
        · exact ⟨new8, L2.Same.free s4 CL4, L2.Same.free s4 VL4, CLV⟩
      · have old : ∀ r' ∈ rows', (r'.cl ≠ CL ∧ r'.cl ≠ VL) ∧ r'.vl ≠ CL ∧ r'.vl ≠ VL := fun r' h => by
          obtain ⟨R', _⟩ := rat r' h
          obtain ⟨_, g, _⟩ := R'.vl
          exact ⟨⟨ne_of_none R'.cl CL4, ne_of_none R'.cl VL4⟩, ne_of_none g CL4, ne_of_none g VL4⟩
        rcases mem r' hr' with h | rfl
        · rcases mem r'' hr'' with h' | rfl
          · exact rap r' h r'' h' ne
          · obtain ⟨⟨a1, a2⟩, a3, a4⟩ := old r' h
            exact ⟨a1, a2, a4⟩
        · rcases mem r'' hr'' with h' | rfl
          · obtain ⟨⟨a1, a2⟩, a3, a4⟩ := old r'' h'
            exact ⟨a1.symm, a3.symm, a4.symm⟩
          · exact absurd rfl ne
  · rintro σ H4 ⟨o5, o6, rows', rfl, s4, O4, T4, N4, rl, rget, rat, rap⟩
    rw [lom] at rl
    -- world.cells = cells; world.fresh = world.fresh + len(order)
    let f1 := putF "cells" (.ref NC) fs
    let H5 : Hp := upd H4 A.p (.ins CW dx f1)
    have p4 := s4 _ _ h1
    have p5 : H5 A.p = some (.ins CW dx f1) := upd_same
    have l1 : ∀ g, f1.lookup g = wl { A with ce := NC } S.fr pr g := fun g => by
      show (putF "cells" (.ref NC) fs).lookup g = _
      rw [lookup_putF, h2 g]
      exact wl_put_ce g
    have ln1 : f1.length ≤ 20 := by
      show (putF "cells" (.ref NC) fs).length ≤ 20
      rw [putF_len ((h2 _).trans wl_ce)]
      exact hfl
    have OA : O ≠ A.p := fun z => by rw [z, p4] at O4; cases O4
    have O5 : H5 O = some (.lst (order.map V.int)) := (upd_ne OA).trans O4
    refine ⟨_, rfl, _, rfl, A.p, CW, dx, fs, rfl, p4, T.cW, T.nCe, by omega, ?_⟩
    let f2 := putF "fresh" (.int (S.fr + ((order.map V.int).length : Nat))) f1
    let H6 : Hp := upd H5 A.p (.ins CW dx f2)
    have p6 : H6 A.p = some (.ins CW dx f2) := upd_same
    have l2 : ∀ g, f2.lookup g = wl { A with ce := NC } (S.fr + (order.length : Nat)) pr g := fun g => by
      show (putF "fresh" (.int (S.fr + ((order.map V.int).length : Nat))) f1).lookup g = _
      rw [lookup_putF, l1 g, lom]
      exact wl_put_fr g
    have ln2 : f2.length ≤ 20 := by
      show (putF "fresh" (.int (S.fr + ((order.map V.int).length : Nat))) f1).length ≤ 20
      rw [putF_len ((l1 _).trans wl_fr)]
      exact ln1
    have k46 : Kp (fun b => b = A.p) H4 H6 := kp_upd (kp_upd (fun b o e _ => e) rfl) rfl
    have k6 : Kp (fun b => b = A.p) H H6 := fun b o e hb => k46 _ _ (s4 _ _ e) hb
    have nt : NT (fun b => b = A.p) H := fun b hb => W.nt b (by subst hb; exact own_p)
    have nt4 : NT (fun b => b = A.p) H4 := fun b hb xs e => by
      subst hb
      rw [p4] at e
      cases e
    have ap := ap_of W.hd
    have neq : ∀ {b b' : Addr} {o : HO}, H b = some o → H b' = none → b' ≠ b := fun e z w => by subst w; rw [z] at e; cases e
    have NCn : NotH A NC := by
      obtain ⟨qs, g2, _⟩ := W.sh
      exact ⟨neq h1 hNC0, neq g2 hNC0, neq W.ki hNC0, neq W.ch hNC0, neq W.wi hNC0, neq W.ce hNC0⟩
    have fresh6 : ∀ b, H b = none → b ≠ NC → b ∉ hdl { A with ce := NC } := fun b hb hn => by
      obtain ⟨qs, g2, _⟩ := W.sh
      exact hdl_of ⟨neq h1 hb, neq g2 hb, neq W.ki hb, neq W.ch hb, neq W.wi hb, hn⟩
    have clNC : ∀ r' ∈ rows', r'.cl ≠ NC ∧ r'.vl ≠ NC := fun r' hr' => by
      obtain ⟨R', _⟩ := rat r' hr'
      obtain ⟨_, g, _⟩ := R'.vl
      exact ⟨(fun z => by have := R'.cl; rw [z, N4] at this; cases this), (fun z => by rw [z, N4] at g; cases g)⟩
    have as : rows'.map (·.a) = (List.range order.length).map (fun (i : Nat) => S.fr + (i : Int)) := by
      refine List.ext_getElem? fun i => ?_
      rw [List.getElem?_map, List.getElem?_map]
      by_cases hi : i < order.length
      · rw [List.getElem?_range hi]
        have : rows'[i]? = some rows'[i] := List.getElem?_eq_getElem (by omega)
        obtain ⟨_, _, _, e, _⟩ := rget i _ this
        rw [this]
        exact congrArg some e
      · rw [List.getElem?_eq_none (by omega), List.getElem?_eq_none (by rw [List.length_range]; omega)]
        rfl
    have W6 : WorldAt CW H6 { A with ce := NC } { S with rows := rows', fr := S.fr + (order.length : Nat) } := by
      refine ⟨⟨dx, f2, pr, p6, ln2, l2⟩, W.sh.kp nt k6 ap.psh.symm, k6 _ _ W.ki ap.pki.symm, k6 _ _ W.ch ap.pch.symm, k6 _ _ W.wi ap.pwi.symm, k46 _ _ N4 NCn.p, fun r' hr' => ?_, ?_, fun r' hr' => ?_, rap, ?_, ⟨?_, fun r' hr' => ?_⟩, W.m5, W.wk, ?_, fun r' hr' hk => ?_⟩
      · obtain ⟨R', c1, c2, _⟩ := rat r' hr'
        exact R'.kp nt4 k46 (neq h1 c1) (neq h1 c2)
      · show [A.p, A.sh, A.ki, A.ch, A.wi, NC].Nodup
        simp only [List.nodup_cons, List.mem_cons, List.not_mem_nil, or_false, not_or, not_false_eq_true, and_true, List.nodup_nil]
        exact ⟨⟨ap.psh, ap.pki, ap.pch, ap.pwi, NCn.p.symm⟩, ⟨ap.shki, ap.shch, ap.shwi, NCn.sh.symm⟩, ⟨ap.kich, ap.kiwi, NCn.ki.symm⟩, ⟨ap.chwi, NCn.ch.symm⟩, NCn.wi.symm⟩
      · obtain ⟨_, c1, c2, c3⟩ := rat r' hr'
        obtain ⟨d1, d2⟩ := clNC r' hr'
        exact ⟨fresh6 _ c1 d1, fresh6 _ c2 d2, c3⟩
      · show (rows'.map (·.a)).Nodup
        rw [as]
        exact List.pairwise_map.mpr (List.nodup_range.imp fun h e => h (by omega))
      · show 0 ≤ S.fr + (order.length : Nat)
        have := W.fr.1
        omega
      · obtain ⟨i, hi⟩ := List.getElem?_of_mem hr'
        have il : i < rows'.length := (List.getElem?_eq_some_iff.mp hi).1
        obtain ⟨_, _, _, e, _⟩ := rget i r' hi
        show 0 ≤ r'.a ∧ r'.a < S.fr + (order.length : Nat)
        have := W.fr.1
        omega
      · show rows'.length ≤ 200
        omega
      · obtain ⟨i, hi⟩ := List.getElem?_of_mem hr'
        obtain ⟨r, hrow, _, _, e⟩ := rget i r' hi
        rw [e] at hk ⊢
        obtain ⟨m1, m2⟩ := W.kk r hrow hk
        refine ⟨by show (r.c.vs.map _).length ≤ _; rw [List.length_map]; exact m1, fun k v hv ht => ?_⟩
        have hv : (r.c.vs.map (Vl.re (tOf S.fr order)))[k]? = some v := hv
        rw [List.getElem?_map] at hv
        obtain ⟨u, hu1, rfl⟩ := Option.map_eq_some_iff.mp hv
        rw [isSm_re]
        exact m2 k u hu1 ht
    refine ⟨_, rfl, A.p, CW, dx, f1, _, rfl, p5, T.cW, T.nFr, (l1 _).trans wl_fr, _, rfl, O, _, rfl, .inl (SqL.of O5), _, _, rfl, rfl, _, rfl, A.p, CW, dx, f1, rfl, p5, T.cW, T.nFr, by omega, ?_⟩
    obtain ⟨ps, hl1, hl2⟩ := lvr
    have lp : l ≠ A.p := fun z => by rw [z, h1] at hl1; cases hl1
    have l6 := k6 _ _ hl1 lp
    have Tp : Tb ≠ A.p := fun z => by rw [z, p4] at T4; cases T4
    have T6 : H6 Tb = some (.dK (tabK S.fr 0 order)) := k46 _ _ T4 Tp
    have v6 : VsAt H6 ps xs := hl2.kp nt k6
    have lenx : (ps.map V.ref).length = xs.length := by rw [List.length_map, hl2.length]
    refine ⟨_, rfl, l, rfl, ⟨_, SqL.of l6⟩, fun D hD => ?_⟩
    refine lc_list (K := K) (a := l) (xs := ps.map V.ref) (fun j H7 => Same H6 H7 ∧ ∃ ps', H7 D = some (.lst (ps'.map V.ref)) ∧ VsAt H7 ps' ((xs.take j).map (Vl.re (tOf S.fr order)))) ⟨same_new hD _, [], upd_same, .nil⟩ (fun j H7 _ h => SqL.of (h.1 _ _ l6)) ?_ ?_
    · rintro j y H7 hj ⟨s7, ps', e7, va7⟩
      obtain ⟨p, v, rfl, _, ev, hp⟩ := v6.item hj
      have hp7 : VAt H7 p v := VAt.same s7 hp
      have T7 := s7 _ _ T6
      have jl := (List.getElem?_eq_some_iff.mp ev).1
      have lt7 : (ps'.map V.ref).length < sizeLine := by
        rw [List.length_map, va7.length, List.length_map, List.length_take]
        exact small1000 (by omega)
      have fin : ∀ (p' : Addr) (H8 : Hp), Same H7 H8 → VAt H8 p' (v.re (tOf S.fr order)) → H8 D = some (.lst (ps'.map V.ref)) ∧ Same H6 (upd H8 D (.lst (ps'.map V.ref ++ [V.ref p']))) ∧ ∃ ps2, (upd H8 D (.lst (ps'.map V.ref ++ [V.ref p']))) D = some (.lst (ps2.map V.ref)) ∧ VsAt (upd H8 D (.lst (ps'.map V.ref ++ [V.ref p']))) ps2 ((xs.take (j + 1)).map (Vl.re (tOf S.fr order))) := fun p' H8 s8 hp8 => by
        have e8 := s8 _ _ e7
        have nt8 : NT (fun b => b = D) H8 := fun b hb xs e => by
          subst hb
          rw [e8] at e
          cases e
        have k8 : Kp (fun b => b = D) H8 (upd H8 D (.lst (ps'.map V.ref ++ [V.ref p']))) := kp_upd (fun b o e _ => e) rfl
        refine ⟨e8, fun b o e => ?_, ps' ++ [p'], ?_, ?_⟩
        · rw [upd_ne (ne_of_none e hD)]
          exact s8 _ _ (s7 _ _ e)
        · rw [upd_same, List.map_append]
          rfl
        · rw [take_snoc ev, List.map_append]
          exact pair_app ((va7.same s8).kp nt8 k8) (.cons (hp8.kp nt8 k8) .nil)
      refine ⟨rfl, _, rfl, _, rfl, p, v, Tb, _, rfl, hp7, T7, fun a ea2 => ?_, fun hn => ?_⟩
      · subst ea2
        have ain : a ∈ order := lo a (mem_refs (List.mem_of_getElem? ev))
        refine ⟨tOf S.fr order a, ?_, fun p' hp' => ?_⟩
        · rw [tabK_val S.fr 0 ain, Nat.zero_add]
          rfl
        · obtain ⟨f1, f2, f3⟩ := fin p' _ (same_new hp' _) upd_same
          exact ⟨_, f1, lt7, f2, f3⟩
      · have ev2 : v.re (tOf S.fr order) = v := by cases v <;> first | rfl | cases hn
        obtain ⟨f1, f2, f3⟩ := fin p H7 (L2.Same.refl _) (by rw [ev2]; exact hp7)
        exact ⟨_, f1, lt7, f2, f3⟩
    · rintro H7 ⟨s7, ps', e7, va7⟩
      rw [lenx, List.take_length] at va7
      have D0 : H D = none := by
        cases z : H D with
        | none => rfl
        | some o =>
          by_cases zp : D = A.p
          · exact absurd zp.symm (ne_of_none p6 hD)
          · exact absurd rfl (ne_of_none (k6 _ _ z zp) hD)
      refine q D H7 NC rows' (WorldAt.same s7 W6) ⟨rl, rget⟩ (fun b o e hb => s7 _ _ (k6 _ _ e hb)) (fun b hb => ?_) D0 ⟨ps', e7, va7⟩
      rcases hb with hb | ⟨r', hr', hb⟩
      · have hb : b ∈ [A.p, A.sh, A.ki, A.ch, A.wi, NC] := hb
        simp only [List.mem_cons, List.not_mem_nil, or_false] at hb
        rcases hb with rfl | rfl | rfl | rfl | rfl | rfl
        · exact .inl (by simp [hdl])
        · exact .inl (by simp [hdl])
        · exact .inl (by simp [hdl])
        · exact .inl (by simp [hdl])
        · exact .inl (by simp [hdl])
        · exact .inr hNC0
      · obtain ⟨_, c1, c2, _⟩ := rat r' hr'
        rcases hb with rfl | rfl
        · exact .inr c1
        · exact .inr c2
end
end K4

namespace K4
open PySem PySem.Spec PyProof.Rows L2
section
variable {P : Program} {w : World} {K : PySem.W.Frag} {mg : Str → Option Value} {base : Heap} {CW CD : Addr}
/-! ### _law_draws -/
def DrAt (H : Hp) (d : Addr) : Prop := ∃ ds : List Int, H d = some (.lst (ds.map V.int)) ∧ ds.length ≤ 4000
theorem DrAt.same {H H' : Hp} {d : Addr} (s : Same H H') (h : DrAt H d) : DrAt H' d := by
  obtain ⟨ds, a, b⟩ := h
  exact ⟨ds, s _ _ a, b⟩
def spDraws (K : PySem.W.Frag) : Sp := fun vs H Q _ => ∃ (a : Addr) (ns : List Int), vs = [.ref a] ∧ SqL K H a (ns.map V.int) ∧ ns.length ≤ 63 ∧ ∀ r H', Same H H' → DrAt H' r → Q (.ref r) H'
theorem scDraws : FnScope ["script", "draws", "k", "rest", "turn", "stirred"] ["script"] (C8.fnScope sDraws) := C8.fnScope_by (by decide +kernel)
theorem len_small {H : Hp} {D : Addr} {ds : List Int} {n : Nat} (h : ds.length ≤ n) (hn : n ≤ 4000) : (ds.map V.int).length < sizeLine := by
  rw [List.length_map]
  exact Nat.lt_of_le_of_lt (Nat.le_trans h hn) (by decide)
theorem ok_draws (T : Txt K mg CW CD) : C8.Cal P w K mg base 1 "_law_draws" (spDraws K) [] := by
  refine cal1 T.dDraws scDraws (fun vs H Q E h => ?_) fun f cdv A outer s H vs Q E hr h => ?_
  · obtain ⟨_, _, rfl, _⟩ := h
    rfl
  obtain ⟨a, ns, rfl, hS, hn, q⟩ := h
  refine ⟨_, pss_cons (ps_set (i := 1) scDraws.nd rfl (Or.inl rfl) (pe_lst pa_nil))
    (pss_cons (ps_for PassesOwn.never rfl (pi_range1 rfl T.zRange (pa_cons (pe_callB (call_min2 rfl) rfl T.zMin (by decide +kernel) (pa_cons pe_int (pa_cons (pe_callB call_len_seq rfl T.zLen PySem.boot_len (pa_cons (pv 0) pa_nil)) pa_nil))) pa_nil)) (pg_name (i := 2) scDraws.nd rfl (Or.inl rfl))
      (pss_cons (ps_set (i := 3) scDraws.nd rfl (Or.inl rfl) (pe_callB call_abs rfl T.zAbs (by decide +kernel) (pa_cons (pe_ix ix_list (pv 0) (pv 2) (fun _ _ => rfl)) pa_nil)))
      (pss_one (ps_if (pt_cmpR op_ge (pv 3) (pe_op op_pow pe_int pe_int) (nomark _))
        (pss_one (ps_for PassesOwn.never rfl (pi_range1 rfl T.zRange (pa_cons pe_int pa_nil)) (pg_name (i := 4) scDraws.nd rfl (Or.inl rfl))
          (pss_one (ps_if (pt_cmpR op_gt (pv 3) pe_int (nomark _))
            (pss_cons (ps_expr (pe_bm PySem.F.plainAttrs_list PySem.F.slot_list_append PySem.F.type_list_append mt_append (pv 1) (pa_cons (pe_op op_mod (pe_callTy call_int1 (by rfl) T.zInt (by decide +kernel) (pa_cons (pv 3) pa_nil)) pe_int) pa_nil)))
            (pss_one (ps_set (i := 3) scDraws.nd rfl (Or.inl rfl) (pe_op op_fdiv (pv 3) pe_int)))) pss_nil))))
        (pss_cons (ps_set (i := 5) scDraws.nd rfl (Or.inl rfl) (pe_op op_mod (pe_callTy call_int1 (by rfl) T.zInt (by decide +kernel) (pa_cons (pe_op op_add (pe_op op_mul (pv 3) pe_int) (pe_op op_mul (pe_op op_add (pv 2) pe_int) pe_int)) pa_nil)) pe_int))
        (pss_cons (ps_set (i := 5) scDraws.nd rfl (Or.inl rfl) (pe_op op_mod (pe_callTy call_int1 (by rfl) T.zInt (by decide +kernel) (pa_cons (pe_op op_add (pe_op op_add (pe_op op_mul (pv 5) pe_int) (pe_op op_mul pe_int (pv 2))) pe_int) pa_nil)) pe_int))
        (pss_cons (ps_expr (pe_bm PySem.F.plainAttrs_list PySem.F.slot_list_append PySem.F.type_list_append mt_append (pv 1) (pa_cons (pe_op op_mod (pe_callTy call_int1 (by rfl) T.zInt (by decide +kernel) (pa_cons (pv 5) pa_nil)) pe_int) pa_nil)))
        (pss_one (ps_expr (pe_bm PySem.F.plainAttrs_list PySem.F.slot_list_append PySem.F.type_list_append mt_append (pv 1) (pa_cons (pe_op op_mod (pe_callTy call_int1 (by rfl) T.zInt (by decide +kernel) (pa_cons (pe_op op_fdiv (pv 5) pe_int) pa_nil)) pe_int) pa_nil)))))))))))
    (pss_one (ps_ret (pv 1)))), ?_⟩
  refine ⟨by show 0 ≤ sizeLine; decide, fun D hD => ?_⟩
  have s0 : Same H (upd H D (.lst [])) := same_new hD _
  have lml : (ns.map V.int).length = ns.length := List.length_map _
  refine ⟨_, rfl, a, _, rfl, .inl (s0.seq hS), _, _, rfl, _, rfl, ?_, ?_, ?_⟩
  · rw [lml]; split <;> omega
  · rw [lml]; split <;> omega
  have en : (if (((ns.map V.int).length : Nat) : Int) < 63 then (((ns.map V.int).length : Nat) : Int) else 63).toNat = ns.length := by
    rw [lml]; split <;> omega
  rw [en]
  have app : ∀ {H1 : Hp} (z : Int) (ds : List Int), Same H H1 → H1 D = some (.lst (ds.map V.int)) → Same H (upd H1 D (.lst (ds.map V.int ++ [V.int z]))) ∧ (upd H1 D (.lst (ds.map V.int ++ [V.int z]))) D = some (.lst ((ds ++ [z]).map V.int)) := fun {H1} z ds s1 h1 => by
    refine ⟨fun b o e => ?_, ?_⟩
    · rw [upd_ne (ne_of_none e hD)]
      exact s1 _ _ e
    · rw [upd_same, List.map_append]
      rfl
  refine for_range (lo := 0) (n := ns.length) (fun i σ H1 => ∃ k r t u ds, σ = [some (.ref a), some (.ref D), k, r, t, u] ∧ Same H H1 ∧ H1 D = some (.lst (ds.map V.int)) ∧ ds.length ≤ 60 * i) ⟨none, none, none, none, [], rfl, s0, upd_same, Nat.le_refl _⟩ ?_ ?_
  · rintro i σ H1 hi ⟨k0, r0, t0, u0, ds, rfl, s1, d1, l1⟩
    rw [Int.zero_add]
    have ei : (ns.map V.int)[i]? = some (V.int ns[i]) := by rw [List.getElem?_map, List.getElem?_eq_getElem hi]; rfl
    refine ⟨_, rfl, _, rfl, a, _, _, _, rfl, rfl, s1.seq hS, atI_nat ei, _, rfl, ?_⟩
    generalize (if ns[i] < 0 then -ns[i] else ns[i]) = rest
    refine ⟨_, rfl, _, _, rfl, rfl, ⟨by decide, by decide, by decide⟩, _, _, rfl, rfl, _, rfl, ite2 (fun _ => ?_) (fun _ => ?_)⟩
    · refine ⟨60, rfl, by decide, by decide, ?_⟩
      refine for_range (lo := 0) (n := 60) (fun j σ H2 => ∃ (t u : Option V) (r : Int) (ds' : List Int), σ = [some (.ref a), some (.ref D), some (.int (i : Nat)), some (.int r), t, u] ∧ Same H H2 ∧ H2 D = some (.lst (ds'.map V.int)) ∧ ds'.length ≤ ds.length + j) ⟨t0, u0, rest, ds, rfl, s1, d1, Nat.le_refl _⟩ ?_ ?_
      · rintro j σ H2 hj ⟨t, u, r, ds', rfl, s2, d2, l2⟩
        refine ⟨_, rfl, _, _, rfl, rfl, _, rfl, ite2 (fun _ => ?_) (fun _ => ?_)⟩
        · refine ⟨_, rfl, .inl ⟨rfl, _, SqL.of d2⟩, _, rfl, .inl ⟨_, rfl, _, _, rfl, rfl, by show (0 : Int) < 65536; decide, D, _, _, rfl, rfl, d2, len_small (H := H2) (D := D) (n := 4000) (by omega) (Nat.le_refl _), ?_⟩⟩
          obtain ⟨s3, d3⟩ := app (r % 65536) ds' s2 d2
          refine ⟨_, rfl, _, _, rfl, rfl, ⟨by decide, by decide⟩, _, _, _, _, rfl, s3, d3, ?_⟩
          rw [List.length_append, List.length_singleton]
          omega
        · exact ⟨_, _, _, _, rfl, s2, d2, by omega⟩
      · rintro σ H2 ⟨t, u, r, ds', rfl, s2, d2, l2⟩
        exact ⟨_, _, _, _, _, rfl, s2, d2, by omega⟩
    · refine ⟨_, rfl, _, _, rfl, rfl, .inr ⟨by decide, by decide⟩, _, rfl, _, _, rfl, rfl, _, _, rfl, rfl, .inr ⟨by decide, by decide⟩, _, _, rfl, rfl, .inl ⟨_, rfl, _, _, rfl, rfl, by show (0 : Int) < 2147483647; decide, ?_⟩⟩
      refine ⟨_, rfl, _, _, rfl, rfl, .inr ⟨by decide, by decide⟩, _, rfl, _, _, rfl, rfl, .inl ⟨by decide, by decide⟩, _, _, rfl, rfl, _, _, rfl, rfl, .inl ⟨_, rfl, _, _, rfl, rfl, by show (0 : Int) < 2147483629; decide, ?_⟩⟩
      refine ⟨_, rfl, .inl ⟨rfl, _, SqL.of d1⟩, _, rfl, .inl ⟨_, rfl, _, _, rfl, rfl, by show (0 : Int) < 65536; decide, D, _, _, rfl, rfl, d1, len_small (H := H1) (D := D) (n := 4000) (by omega) (Nat.le_refl _), ?_⟩⟩
      obtain ⟨s3, d3⟩ := app _ ds s1 d1
      refine ⟨_, rfl, .inl ⟨rfl, _, SqL.of d3⟩, _, rfl, _, _, rfl, rfl, ⟨by decide, by decide⟩, .inl ⟨_, rfl, _, _, rfl, rfl, by show (0 : Int) < 32768; decide, D, _, _, rfl, rfl, d3, len_small (H := H1) (D := D) (n := 4000) (by rw [List.length_append, List.length_singleton]; omega) (Nat.le_refl _), ?_⟩⟩
      obtain ⟨s4, d4⟩ := app _ _ s3 d3
      refine ⟨_, _, _, _, _, rfl, s4, d4, ?_⟩
      rw [List.length_append, List.length_append, List.length_singleton, List.length_singleton]
      omega
  · rintro σ H1 ⟨_, _, _, _, ds, rfl, s1, d1, l1⟩
    exact ⟨_, rfl, q D H1 s1 ⟨ds, d1, by omega⟩⟩
/-! ### _law_mix: some number below its last argument -/
def spMix : Sp := fun vs H Q _ => ∃ (d : Addr) (k m : Int), vs = [.ref d, .int k, .int m] ∧ DrAt H d ∧ 0 < m ∧ ∀ r : Int, 0 ≤ r → r < m → Q (.int r) H
theorem scMix : FnScope ["draws", "k", "many", "cell"] ["draws", "k", "many"] (C8.fnScope sMix) := C8.fnScope_by (by decide +kernel)
theorem ok_mix (T : Txt K mg CW CD) : C8.Cal P w K mg base 1 "_law_mix" spMix [] := by
  refine cal1 T.dMix scMix (fun vs H Q E h => ?_) fun f cdv A outer s H vs Q E hr h => ?_
  · obtain ⟨_, _, _, rfl, _⟩ := h
    rfl
  obtain ⟨d, k, m, rfl, ⟨ds, hd, hl⟩, hm, q⟩ := h
  refine ⟨_, pss_cons (ps_set (i := 3) scMix.nd rfl (Or.inl rfl) pe_int)
    (pss_cons (ps_if (pt_cmpR op_gt (pe_callB call_len_seq rfl T.zLen PySem.boot_len (pa_cons (pv 0) pa_nil)) pe_int (nomark _))
      (pss_one (ps_set (i := 3) scMix.nd rfl (Or.inl rfl) (pe_ix ix_list (pv 0) (pe_op op_mod (pe_callTy call_int1 (by rfl) T.zInt (by decide +kernel) (pa_cons (pv 1) pa_nil)) (pe_callB call_len_seq rfl T.zLen PySem.boot_len (pa_cons (pv 0) pa_nil))) (fun _ _ => rfl)))) pss_nil)
    (pss_cons (ps_if (pt_cmpR op_lt (pv 1) (pe_callB call_len_seq rfl T.zLen PySem.boot_len (pa_cons (pv 0) pa_nil)) (nomark _))
      (pss_one (ps_ret (pe_op op_mod (pe_callTy call_int1 (by rfl) T.zInt (by decide +kernel) (pa_cons (pv 3) pa_nil)) (pv 2)))) pss_nil)
    (pss_one (ps_ret (pe_op op_mod (pe_callTy call_int1 (by rfl) T.zInt (by decide +kernel) (pa_cons (pe_op op_fdiv (pe_callTy call_int1 (by rfl) T.zInt (by decide +kernel) (pa_cons (pe_op op_add (pe_op op_mul (pv 3) pe_int) (pe_op op_mul (pv 1) pe_int)) pa_nil)) pe_int) pa_nil)) (pv 2)))))), ?_⟩
  have lml : (ds.map V.int).length = ds.length := List.length_map _
  have rng : ∀ z : Int, 0 ≤ z % m ∧ z % m < m := fun z => ⟨Int.emod_nonneg _ (by omega), Int.emod_lt_of_pos _ hm⟩
  have last : ∀ c : Int, Q (.int ((c) % m)) H := fun c => q _ (rng c).1 (rng c).2
  -- behind the first if
  refine ⟨_, rfl, d, _, rfl, .inl (SqL.of hd), _, _, rfl, rfl, _, rfl, ite2 (fun c1 => ?_) (fun _ => ?_)⟩
  · have c1 : (0 : Int) < (((ds.map V.int).length : Nat) : Int) := of_decide_eq_true c1
    rw [lml] at c1
    obtain ⟨j, ej, hj⟩ : ∃ j : Nat, k % (((ds.map V.int).length : Nat) : Int) = (j : Int) ∧ j < ds.length := by
      rw [lml]
      have h1 := Int.emod_nonneg k (show (ds.length : Int) ≠ 0 by omega)
      have h2 := Int.emod_lt_of_pos k c1
      exact ⟨(k % (ds.length : Int)).toNat, by omega, by omega⟩
    have ei : (ds.map V.int)[j]? = some (V.int ds[j]) := by rw [List.getElem?_map, List.getElem?_eq_getElem hj]; rfl
    refine ⟨_, rfl, _, rfl, .inl ⟨_, rfl, _, rfl, d, _, rfl, .inl (SqL.of hd), _, _, rfl, rfl, by rw [lml]; exact c1, d, _, _, V.int ds[j], rfl, rfl, SqL.of hd, ?_, ?_⟩⟩
    · rw [ej]
      exact atI_nat ei
    refine ⟨_, rfl, _, rfl, d, _, rfl, .inl (SqL.of hd), _, _, rfl, rfl, _, rfl, ite2 (fun _ => ?_) (fun _ => ?_)⟩
    · exact ⟨_, rfl, .inl ⟨_, rfl, _, rfl, _, _, rfl, rfl, hm, last _⟩⟩
    · exact ⟨_, rfl, _, _, rfl, rfl, .inr ⟨by decide, by decide⟩, _, rfl, _, _, rfl, rfl, .inr ⟨by decide, by decide⟩, _, _, rfl, rfl, .inl ⟨_, rfl, _, _, rfl, rfl, ⟨by decide, by decide⟩, .inl ⟨_, rfl, _, rfl, _, _, rfl, rfl, hm, last _⟩⟩⟩
  · refine ⟨_, rfl, _, rfl, d, _, rfl, .inl (SqL.of hd), _, _, rfl, rfl, _, rfl, ite2 (fun _ => ?_) (fun _ => ?_)⟩
    · exact ⟨_, rfl, .inl ⟨_, rfl, _, rfl, _, _, rfl, rfl, hm, last _⟩⟩
    · exact ⟨_, rfl, _, _, rfl, rfl, .inr ⟨by decide, by decide⟩, _, rfl, _, _, rfl, rfl, .inr ⟨by decide, by decide⟩, _, _, rfl, rfl, .inl ⟨_, rfl, _, _, rfl, rfl, ⟨by decide, by decide⟩, .inl ⟨_, rfl, _, rfl, _, _, rfl, rfl, hm, last _⟩⟩⟩
end
end K4

namespace K4
open PySem PySem.Spec PyProof.Rows L2
/-! ### the law's cells in the heap -/
def kd : Kd → Str
  | .lst => "list" | .obj => "object" | .clo => "closure"
def CAt (H : Hp) (p : Addr) (c : Cl) : Prop := ∃ vl, H p = some (.tup [.str (kd c.kind), .int c.f, .ref vl]) ∧ LV H vl c.vs
def CsAt (H : Hp) (l : Addr) (cs : List Cl) : Prop := ∃ ps : List Addr, H l = some (.lst (ps.map V.ref)) ∧ Paired (CAt H) ps cs
theorem CAt.same {H H' : Hp} {p : Addr} {c : Cl} (s : Same H H') (h : CAt H p c) : CAt H' p c := by
  obtain ⟨vl, a, b⟩ := h
  exact ⟨vl, s _ _ a, b.same s⟩
theorem CsAt.same {H H' : Hp} {l : Addr} {cs : List Cl} (s : Same H H') (h : CsAt H l cs) : CsAt H' l cs := by
  obtain ⟨ps, a, b⟩ := h
  exact ⟨ps, s _ _ a, Paired.mono (fun _ _ h => CAt.same s h) b⟩
theorem dec_kd (k : Kd) (x : Str) (b : Bool) (h : (kd k == x) = b) : decide (V.str (kd k) = V.str x) = b := by
  cases b with
  | true =>
    have e : kd k = x := eq_of_beq h
    rw [e]
    exact decide_eq_true rfl
  | false =>
    refine decide_eq_false fun z => ?_
    injection z with z
    rw [z, beq_self_eq_true] at h
    cases h
theorem kd_clo (k : Kd) : decide (V.str (kd k) = V.str "closure") = decide (k = .clo) := by
  cases k
  · exact dec_kd .lst "closure" false (by decide +kernel)
  · exact dec_kd .obj "closure" false (by decide +kernel)
  · exact dec_kd .clo "closure" true (by decide +kernel)
theorem kd_lst (k : Kd) : decide (V.str (kd k) = V.str "list") = decide (k = .lst) := by
  cases k
  · exact dec_kd .lst "list" true (by decide +kernel)
  · exact dec_kd .obj "list" false (by decide +kernel)
  · exact dec_kd .clo "list" false (by decide +kernel)
theorem kd_obj (k : Kd) : decide (V.str (kd k) = V.str "object") = decide (k = .obj) := by
  cases k
  · exact dec_kd .lst "object" false (by decide +kernel)
  · exact dec_kd .obj "object" true (by decide +kernel)
  · exact dec_kd .clo "object" false (by decide +kernel)
/-- well formed -/
structure WF (cs : List Cl) : Prop where
  n1 : 1 ≤ cs.length
  n12 : cs.length ≤ 12
  ok : ∀ c ∈ cs, cOk c
  rf : ∀ c ∈ cs, ∀ b, Vl.ref b ∈ c.vs → 0 ≤ b ∧ b < cs.length
/-- functions hold of functions such as come ahead -/
def Ahead (cs : List Cl) : Prop := ∀ (a : Nat) (c : Cl), cs[a]? = some c → c.kind = .clo → ∀ b : Int, Vl.ref b ∈ c.vs → b < a ∨ ∀ c' : Cl, cs[b.toNat]? = some c' → c'.kind ≠ .clo
/-- a cell by its number -/
theorem CsAt.get {H : Hp} {l : Addr} {cs : List Cl} (h : CsAt H l cs) {a : Int} {c : Cl} (h0 : 0 ≤ a) (hc : cs[a.toNat]? = some c) : ∃ (ps : List Addr) (p vl : Addr), H l = some (.lst (ps.map V.ref)) ∧ ps.length = cs.length ∧ atI (ps.map V.ref) a = some (.ref p) ∧ H p = some (.tup [.str (kd c.kind), .int c.f, .ref vl]) ∧ LV H vl c.vs := by
  obtain ⟨ps, e, pr⟩ := h
  obtain ⟨p, hp, vl, x, y⟩ := pair_get pr hc
  refine ⟨ps, p, vl, e, pr.length, ?_, x, y⟩
  have ea : a = ((a.toNat : Nat) : Int) := by omega
  rw [ea]
  exact atI_nat (map_get hp)
section
variable {P : Program} {w : World} {K : PySem.W.Frag} {mg : Str → Option Value} {base : Heap} {CW CD : Addr}
/-! ### _law_at -/
def spAt : Sp := fun vs H Q _ => ∃ t l kvs xs, ∃ τ : Int → Int, vs = [.ref t, .ref l] ∧ H t = some (.dK kvs) ∧ LV H l xs ∧ xs.length ≤ 1000 ∧ (∀ a, Vl.ref a ∈ xs → ∃ q, valV kvs (Sum.inl a : Key) = some (.ref q) ∧ VAt H q (.ref (τ a))) ∧
  ∀ r H', Same H H' → H r = none → LV H' r (xs.map (Vl.re τ)) → Q (.ref r) H'
theorem scAt : FnScope ["table", "roots", "found", "value"] ["table", "roots"] (C8.fnScope sAt) := C8.fnScope_by (by decide +kernel)
/-- a value more in a new list -/
theorem lv_snoc {H H1 : Hp} {F : Addr} {ps : List Addr} {vs : List Vl} {p : Addr} {v : Vl} (hF : H F = none) (s : Same H H1) (f : H1 F = some (.lst (ps.map V.ref))) (va : VsAt H1 ps vs) (hp : VAt H1 p v) :
    Same H (upd H1 F (.lst (ps.map V.ref ++ [V.ref p]))) ∧ (upd H1 F (.lst (ps.map V.ref ++ [V.ref p]))) F = some (.lst ((ps ++ [p]).map V.ref)) ∧ VsAt (upd H1 F (.lst (ps.map V.ref ++ [V.ref p]))) (ps ++ [p]) (vs ++ [v]) := by
  have nt : NT (fun b => b = F) H1 := fun b hb xs e => by
    subst hb
    rw [f] at e
    cases e
  have k : Kp (fun b => b = F) H1 (upd H1 F (.lst (ps.map V.ref ++ [V.ref p]))) := kp_upd (fun b o e _ => e) rfl
  refine ⟨fun b o e => ?_, ?_, pair_app (va.kp nt k) (.cons (hp.kp nt k) .nil)⟩
  · rw [upd_ne (ne_of_none e hF)]
    exact s _ _ e
  · rw [upd_same, List.map_append]
    rfl
theorem ok_at (T : Txt K mg CW CD) : C8.Cal P w K mg base 1 "_law_at" spAt [] := by
  refine cal1 T.dAt scAt (fun vs H Q E h => ?_) fun f cdv A outer s H vs Q E hr h => ?_
  · obtain ⟨_, _, _, _, _, rfl, _⟩ := h
    rfl
  obtain ⟨t, l, kvs, xs, τ, rfl, ht, ⟨ps, hl, hv⟩, xl, tab, q⟩ := h
  have hu := hu_of hr
  refine ⟨_, pss_cons (ps_set (i := 2) scAt.nd rfl (Or.inl rfl) (pe_lst pa_nil))
    (pss_cons (ps_for PassesOwn.never rfl (pi_list (pv 1)) (pg_name (i := 3) scAt.nd rfl (Or.inl rfl))
      (pss_one (ps_if (pt_cmpR op_eq (pe_ix ix_tup (pv 3) pe_int (fun _ _ => rfl)) pe_str (nomark _))
        (pss_one (ps_expr (pe_bm PySem.F.plainAttrs_list PySem.F.slot_list_append PySem.F.type_list_append mt_append (pv 2) (pa_cons (pe_dget hu (pv 0) (pe_ix ix_tup (pv 3) pe_int (fun _ _ => rfl)) (fun _ _ => rfl)) pa_nil))))
        (pss_one (ps_expr (pe_bm PySem.F.plainAttrs_list PySem.F.slot_list_append PySem.F.type_list_append mt_append (pv 2) (pa_cons (pv 3) pa_nil)))))))
    (pss_one (ps_ret (pv 2)))), ?_⟩
  refine ⟨by show 0 ≤ sizeLine; decide, fun F hF => ?_⟩
  have s0 : Same H (upd H F (.lst [])) := same_new hF _
  have len : (ps.map V.ref).length = xs.length := by rw [List.length_map, hv.length]
  refine ⟨_, rfl, l, rfl, ⟨_, SqL.of (s0 _ _ hl)⟩, for_list (K := K) (a := l) (xs := ps.map V.ref) (fun i σ H1 => ∃ o ps', σ = [some (.ref t), some (.ref l), some (.ref F), o] ∧ Same H H1 ∧ H1 F = some (.lst (ps'.map V.ref)) ∧ VsAt H1 ps' ((xs.take i).map (Vl.re τ)))
    ⟨none, [], rfl, s0, upd_same, .nil⟩ (fun i σ H1 _ ⟨_, _, _, s1, _⟩ => SqL.of (s1 _ _ hl)) ?_ ?_⟩
  · rintro i x σ H1 hi ⟨o, ps', rfl, s1, f1, va⟩
    obtain ⟨p, v, rfl, _, ev, hp⟩ := hv.item hi
    have hp1 : VAt H1 p v := VAt.same s1 hp
    have il := (List.getElem?_eq_some_iff.mp ev).1
    have sz : (ps'.map V.ref).length < sizeLine := by
      rw [List.length_map, va.length, List.length_map, List.length_take]
      exact small1000 (by omega)
    have et : (xs.take (i + 1)).map (Vl.re τ) = (xs.take i).map (Vl.re τ) ++ [v.re τ] := by rw [take_snoc ev, List.map_append]; rfl
    refine ⟨_, rfl, p, _, _, _, rfl, rfl, hp1.sq, at0, rfl, _, rfl, ?_⟩
    rw [dec_ref v]
    cases v with
    | ref a =>
      obtain ⟨q', e1, e2⟩ := tab a (List.mem_of_getElem? ev)
      obtain ⟨z1, z2, z3⟩ := lv_snoc hF s1 f1 va (VAt.same s1 e2)
      exact iteT ⟨_, rfl, .inl ⟨rfl, _, SqL.of f1⟩, _, rfl, _, rfl, p, _, _, _, rfl, rfl, hp1.sq, at1 (by intro e; cases e), t, V.ref q', rfl, dget (k := Sum.inl a) (s1 _ _ ht) e1, F, _, _, rfl, rfl, f1, sz, _, _, rfl, z1, z2, by rw [et]; exact z3⟩
    | int _ =>
      obtain ⟨z1, z2, z3⟩ := lv_snoc hF s1 f1 va hp1
      exact iteF ⟨_, rfl, .inl ⟨rfl, _, SqL.of f1⟩, _, rfl, F, _, _, rfl, rfl, f1, sz, _, _, rfl, z1, z2, by rw [et]; exact z3⟩
    | txt _ =>
      obtain ⟨z1, z2, z3⟩ := lv_snoc hF s1 f1 va hp1
      exact iteF ⟨_, rfl, .inl ⟨rfl, _, SqL.of f1⟩, _, rfl, F, _, _, rfl, rfl, f1, sz, _, _, rfl, z1, z2, by rw [et]; exact z3⟩
    | null =>
      obtain ⟨z1, z2, z3⟩ := lv_snoc hF s1 f1 va hp1
      exact iteF ⟨_, rfl, .inl ⟨rfl, _, SqL.of f1⟩, _, rfl, F, _, _, rfl, rfl, f1, sz, _, _, rfl, z1, z2, by rw [et]; exact z3⟩
    | bool _ =>
      obtain ⟨z1, z2, z3⟩ := lv_snoc hF s1 f1 va hp1
      exact iteF ⟨_, rfl, .inl ⟨rfl, _, SqL.of f1⟩, _, rfl, F, _, _, rfl, rfl, f1, sz, _, _, rfl, z1, z2, by rw [et]; exact z3⟩
    | fn _ =>
      obtain ⟨z1, z2, z3⟩ := lv_snoc hF s1 f1 va hp1
      exact iteF ⟨_, rfl, .inl ⟨rfl, _, SqL.of f1⟩, _, rfl, F, _, _, rfl, rfl, f1, sz, _, _, rfl, z1, z2, by rw [et]; exact z3⟩
  · rintro σ H1 ⟨o, ps', rfl, s1, f1, va⟩
    rw [len, List.take_length] at va
    exact ⟨_, rfl, q F H1 s1 hF ⟨ps', f1, va⟩⟩
/-! ### _law_layers -/
def gl (cs : List Cl) (a : Int) : Option Cl := if 0 ≤ a then cs[a.toNat]? else none
def lg (cs : List Cl) (a : Int) : List Int := match gl cs a with
  | some c => refs c.vs
  | none => []
def spLayers : Sp := fun vs H Q _ => ∃ l r0 cs xs, vs = [.ref l, .ref r0] ∧ CsAt H l cs ∧ WF cs ∧ LV H r0 xs ∧ xs.length ≤ 100 ∧ (∀ b, Vl.ref b ∈ xs → 0 ≤ b ∧ b < cs.length) ∧
  ∀ r H', Same H H' → H r = none → H' r = some (.lst ((bfs (lg cs) (cs.length + 1) (refs xs) []).map V.int)) → Q (.ref r) H'
theorem scLayers : FnScope ["cells", "roots", "found", "line", "turn", "later", "a", "value"] ["cells", "roots"] (C8.fnScope sLayers) := C8.fnScope_by (by decide +kernel)
def dom (n : Nat) : List Int := (List.range n).map (fun (i : Nat) => (i : Int))
theorem mem_dom {n : Nat} {a : Int} : a ∈ dom n ↔ 0 ≤ a ∧ a < n := by
  unfold dom
  constructor
  · intro h
    obtain ⟨i, hi, rfl⟩ := List.mem_map.mp h
    have := List.mem_range.mp hi
    omega
  · intro h
    exact List.mem_map.mpr ⟨a.toNat, List.mem_range.mpr (by omega), by omega⟩
theorem dom_len (n : Nat) : (dom n).length = n := by unfold dom; rw [List.length_map, List.length_range]
theorem gl_some {cs : List Cl} {a : Int} (h0 : 0 ≤ a) (h1 : a < cs.length) : ∃ c, gl cs a = some c ∧ cs[a.toNat]? = some c ∧ c ∈ cs := by
  have h : a.toNat < cs.length := by omega
  refine ⟨cs[a.toNat], ?_, List.getElem?_eq_getElem h, List.getElem_mem h⟩
  unfold gl
  rw [if_pos h0]
  exact List.getElem?_eq_getElem h
theorem lg_cl {cs : List Cl} (W : WF cs) : ∀ a ∈ dom cs.length, ∀ b ∈ lg cs a, b ∈ dom cs.length := fun a ha b hb => by
  obtain ⟨h0, h1⟩ := mem_dom.mp ha
  obtain ⟨c, e, _, hc⟩ := gl_some h0 h1
  unfold lg at hb
  rw [e] at hb
  exact mem_dom.mpr (W.rf c hc b (refs_mem hb))
/-- the comprehension that picks the references -/
theorem lc_refs {K : PySem.W.Frag} {l D : Addr} {H0 : Hp} {ps : List Addr} {xs : List Vl} {x0 x1 x2 x3 x4 x5 x6 x7 : Option V} {Qd : Hp → Prop} (hl : H0 l = some (.lst (ps.map V.ref))) (hv : VsAt H0 ps xs) (xl : xs.length ≤ 100) (hD : H0 D = none) (hd : ∀ H1, Same H0 H1 → H1 D = some (.lst ((refs xs).map V.int)) → Qd H1) :
    ∃ W : Nat → Nat → Hp → Prop, (∃ m, W 0 m (upd H0 D (.lst []))) ∧ ∀ i m H, W i m H →
      ((Itl K l).stop i H ∧ Qd H) ∨ ((Itl K l).go i H ∧ ∃ Nx : Hp → Prop, (∀ H', Nx H' → ∃ m', m' < m ∧ W (i + 1) m' H') ∧ ∀ x H', (Itl K l).yld i H x H' → gName 7 x (wipe [x0, x1, x2, x3, x4, x5, x6, x7] [7]) H' fun σ2 H2 => wipe σ2 [7] = wipe [x0, x1, x2, x3, x4, x5, x6, x7] [7] ∧
        tTest (tOp rEq (tOp (rIxT K) (tVar 7) (tC (.int 0))) (tC (.str "ref"))) σ2 H2 fun b H3 =>
        if b = true then tOp (rIxT K) (tVar 7) (tC (.int 1)) σ2 H3 fun y H4 => ∃ acc, H4 D = some (.lst acc) ∧ acc.length < sizeLine ∧ Nx (upd H4 D (.lst (acc ++ [y]))) else Nx H3) := by
  have len : (ps.map V.ref).length = xs.length := by rw [List.length_map, hv.length]
  refine lc_list (K := K) (a := l) (xs := ps.map V.ref) (fun i H1 => Same H0 H1 ∧ H1 D = some (.lst ((refs (xs.take i)).map V.int))) ⟨same_new hD _, upd_same⟩ (fun i H1 _ h => SqL.of (h.1 _ _ hl)) ?_ ?_
  · rintro i x H1 hi ⟨hs, hd⟩
    obtain ⟨p, v, rfl, _, ev, hp⟩ := hv.item hi
    have hp1 : VAt H1 p v := VAt.same hs hp
    refine ⟨rfl, _, rfl, p, _, _, _, rfl, rfl, hp1.sq, at0, rfl, _, rfl, ?_⟩
    rw [dec_ref v]
    have et := take_snoc ev
    cases v with
    | ref a =>
      refine iteT ⟨_, rfl, p, _, _, _, rfl, rfl, hp1.sq, at1 (by intro e; cases e), _, hd, ?_, ?_⟩
      · rw [List.length_map]
        have := refs_len (xs.take i)
        have := List.length_take (i := i) (l := xs)
        exact small1000 (by omega)
      · refine ⟨?_, ?_⟩
        · intro b o e
          rw [upd_ne (fun z => by subst z; rw [hD] at e; cases e)]
          exact hs b o e
        · rw [upd_same, et, refs_app, List.map_append]
          rfl
    | txt _ => refine iteF ⟨hs, ?_⟩; rw [hd, et, refs_app]; show _ = some (HO.lst ((refs (xs.take i) ++ []).map V.int)); rw [List.append_nil]
    | null => refine iteF ⟨hs, ?_⟩; rw [hd, et, refs_app]; show _ = some (HO.lst ((refs (xs.take i) ++ []).map V.int)); rw [List.append_nil]
    | bool _ => refine iteF ⟨hs, ?_⟩; rw [hd, et, refs_app]; show _ = some (HO.lst ((refs (xs.take i) ++ []).map V.int)); rw [List.append_nil]
    | fn _ => refine iteF ⟨hs, ?_⟩; rw [hd, et, refs_app]; show _ = some (HO.lst ((refs (xs.take i) ++ []).map V.int)); rw [List.append_nil]
    | int _ => refine iteF ⟨hs, ?_⟩; rw [hd, et, refs_app]; show _ = some (HO.lst ((refs (xs.take i) ++ []).map V.int)); rw [List.append_nil]
  · rintro H1 ⟨hs, hd2⟩
    rw [len, List.take_length] at hd2
    exact hd H1 hs hd2
theorem ok_layers (T : Txt K mg CW CD) : C8.Cal P w K mg base 1 "_law_layers" spLayers [] := by
  refine cal1 T.dLayers scLayers (fun vs H Q E h => ?_) fun f cdv A outer s H vs Q E hr h => ?_
  · obtain ⟨_, _, _, _, rfl, _⟩ := h
    rfl
  obtain ⟨l, r0, cs, xs, rfl, C, W, ⟨ps, hl, hv⟩, xl, xr, q⟩ := h
  refine ⟨_, pss_cons (ps_par (i := 2) (j := 3) (by rfl) scLayers.nd rfl rfl (by decide) rfl rfl (pa_cons (pe_lst pa_nil) (pa_cons
        (pe_lc (own := [("value", 7)]) (g := gName 7) rfl scLayers.nd (pi_list (pv 1)) (blkOk_by (N := ["cells", "roots", "found", "line", "turn", "later", "a", "value"]) (sc := C8.fnScope sLayers) (by decide +kernel)) (fun _ _ _ _ _ => pg_name (i := 7) scLayers.nd rfl (Or.inl rfl))
          (fun _ _ _ _ _ => pts_one (pt_cmpR op_eq (pe_ix (ixT K) (pv 7) pe_int (fun _ _ => rfl)) pe_str (nomark _))) (fun _ _ _ _ _ => pe_ix (ixT K) (pv 7) pe_int (fun _ _ => rfl))) pa_nil)) (by rfl))
    (pss_cons (ps_for PassesOwn.never rfl (pi_range1 rfl T.zRange (pa_cons (pe_op op_add (pe_callB call_len_seq rfl T.zLen PySem.boot_len (pa_cons (pv 0) pa_nil)) pe_int) pa_nil)) (pg_name (i := 4) scLayers.nd rfl (Or.inl rfl))
      (pss_cons (ps_set (i := 5) scLayers.nd rfl (Or.inl rfl) (pe_lst pa_nil))
      (pss_cons (ps_for PassesOwn.never rfl (pi_list (pv 3)) (pg_name (i := 6) scLayers.nd rfl (Or.inl rfl))
        (pss_one (ps_if (pt_cmpR op_notIn_seq (pv 6) (pv 2) rfl)
          (pss_cons (ps_expr (pe_bm PySem.F.plainAttrs_list PySem.F.slot_list_append PySem.F.type_list_append mt_append (pv 2) (pa_cons (pv 6) pa_nil)))
          (pss_one (ps_set (i := 5) scLayers.nd rfl (Or.inl rfl) (pe_op op_cat (pv 5)
            (pe_lc (own := [("value", 7)]) (g := gName 7) rfl scLayers.nd (pi_list (pe_ix ix_tup (pe_ix ix_list (pv 0) (pv 6) (fun _ _ => rfl)) pe_int (fun _ _ => rfl))) (blkOk_by (N := ["cells", "roots", "found", "line", "turn", "later", "a", "value"]) (sc := C8.fnScope sLayers) (by decide +kernel)) (fun _ _ _ _ _ => pg_name (i := 7) scLayers.nd rfl (Or.inl rfl))
              (fun _ _ _ _ _ => pts_one (pt_cmpR op_eq (pe_ix (ixT K) (pv 7) pe_int (fun _ _ => rfl)) pe_str (nomark _))) (fun _ _ _ _ _ => pe_ix (ixT K) (pv 7) pe_int (fun _ _ => rfl))))))) pss_nil)))
      (pss_one (ps_set (i := 3) scLayers.nd rfl (Or.inl rfl) (pv 5))))))
    (pss_one (ps_ret (pv 2)))), ?_⟩
  have rcl := lg_cl W
  have n12 := W.n12
  obtain ⟨psC, eC, prC⟩ := id C
  have lC : (psC.map V.ref).length = cs.length := by rw [List.length_map, prC.length]
  refine ⟨by show 0 ≤ sizeLine; decide, fun F hF => ?_⟩
  have s0 : Same H (upd H F (.lst [])) := same_new hF _
  refine ⟨_, rfl, r0, rfl, ⟨_, SqL.of (s0 _ _ hl)⟩, fun L hL => ?_⟩
  have FL : F ≠ L := ne_of_none (show (upd H F (.lst [])) F = some (.lst []) from upd_same) hL
  refine lc_refs (s0 _ _ hl) (VsAt.same s0 hv) xl hL fun H1 s1 eL => ?_
  have s01 : Same H H1 := L2.Same.trans s0 s1
  have F1 : H1 F = some (.lst ([].map V.int)) := s1 _ _ upd_same
  have C1 := C.same s01
  refine ⟨_, _, rfl, ?_⟩
  refine ⟨_, rfl, l, _, rfl, .inl (SqL.of (s01 _ _ eC)), _, _, rfl, rfl, _, rfl, by omega, by omega, ?_⟩
  have en : ((((psC.map V.ref).length : Nat) : Int) + 1).toNat = cs.length + 1 := by rw [lC]; omega
  rw [en]
  have dm0 : ∀ a ∈ refs xs, a ∈ dom cs.length := fun a ha => mem_dom.mpr (xr a (refs_mem ha))
  -- the state: found, line, and what the rest of the turns gives
  refine for_range (lo := 0) (n := cs.length + 1) (fun i σ H2 => ∃ (Ln : Addr) (line f : List Int) (o1 o2 o3 : Option V), σ = [some (.ref l), some (.ref r0), some (.ref F), some (.ref Ln), o1, o2, o3, none] ∧ Ln ≠ F ∧ Same H H2 ∧ H2 F = some (.lst (f.map V.int)) ∧ H2 Ln = some (.lst (line.map V.int)) ∧
      Gd (dom cs.length) f ∧ (∀ a ∈ line, a ∈ dom cs.length) ∧ bfs (lg cs) (cs.length + 1 - i) line f = bfs (lg cs) (cs.length + 1) (refs xs) [])
    ⟨L, refs xs, [], none, none, none, rfl, FL.symm, s01, F1, eL, ⟨List.nodup_nil, fun a h => by cases h⟩, dm0, rfl⟩ ?_ ?_
  · rintro i σ H2 hi ⟨Ln, line, f, o1, o2, o3, rfl, LnF, s2, f2, l2, G, dl, eb⟩
    have ei : cs.length + 1 - i = (cs.length + 1 - (i + 1)) + 1 := by omega
    rw [ei] at eb
    have eb : bfs (lg cs) (cs.length + 1 - (i + 1)) (lay (lg cs) line f []).2 (lay (lg cs) line f []).1 = _ := eb
    refine ⟨by show 0 ≤ sizeLine; decide, fun Lt hLt => ?_⟩
    have s3 : Same H2 (upd H2 Lt (.lst [])) := same_new hLt _
    have LtF : Lt ≠ F := fun z => by rw [z, f2] at hLt; cases hLt
    have lml : (line.map V.int).length = line.length := List.length_map _
    have hLt0 : H Lt = none := L2.Same.free s2 hLt
    have LtLn : Lt ≠ Ln := fun z => by rw [z, l2] at hLt; cases hLt
    have D4 : ∀ a ∈ dom cs.length, (lg cs a).length ≤ 4 := fun a ha => by
      obtain ⟨h0, h1⟩ := mem_dom.mp ha
      obtain ⟨c, e, _, hc⟩ := gl_some h0 h1
      unfold lg
      rw [e]
      exact Nat.le_trans (refs_len _) (W.ok c hc).le
    refine ⟨_, rfl, Ln, rfl, ⟨_, SqL.of (s3 _ _ l2)⟩, ?_⟩
    refine for_list (K := K) (a := Ln) (xs := line.map V.int) (fun j σ H3 => ∃ (La : Addr) (o3 : Option V), σ = [some (.ref l), some (.ref r0), some (.ref F), some (.ref Ln), some (.int (0 + (i : Nat))), some (.ref La), o3, none] ∧ La ≠ F ∧ Same H H3 ∧ H3 F = some (.lst ((lay (lg cs) (line.take j) f []).1.map V.int)) ∧
        H3 Ln = some (.lst (line.map V.int)) ∧ H3 La = some (.lst ((lay (lg cs) (line.take j) f []).2.map V.int))) ⟨Lt, o3, rfl, LtF, L2.Same.trans s2 s3, s3 _ _ f2, s3 _ _ l2, upd_same⟩ (fun j σ H3 _ ⟨_, _, _, _, _, _, h, _⟩ => SqL.of h) ?_ ?_
    · rintro j x σ H3 hj ⟨La, o3, rfl, LaF, s4, f3, l3, t3⟩
      obtain ⟨a, ea, rfl⟩ : ∃ a, line[j]? = some a ∧ V.int a = x := by
        rw [List.getElem?_map] at hj
        exact Option.map_eq_some_iff.mp hj
      have dt : ∀ b ∈ line.take j, b ∈ dom cs.length := fun b hb => dl b (List.mem_of_mem_take hb)
      obtain ⟨x1, x2, _⟩ := lay_ok rcl dt G (l := []) (fun a h => by cases h)
      have x3 := lay_len rcl D4 (f := f) (l := []) dt
      have x4 := x1.len
      rw [dom_len] at x4
      have sn := lay_snoc (lg cs) a (line.take j) f []
      rw [← take_snoc ea] at sn
      generalize eL : lay (lg cs) (line.take j) f [] = Q1 at *
      obtain ⟨f1, l1⟩ := Q1
      obtain ⟨h0, h1⟩ := mem_dom.mp (dl a (List.mem_of_getElem? ea))
      obtain ⟨c, egl, ecs, hc⟩ := gl_some h0 h1
      refine ⟨_, rfl, _, rfl, F, _, rfl, .inl (SqL.of f3), rfl, flat_ints _, _, rfl, ?_⟩
      show if (!inV (V.int a) (f1.map V.int)) = true then _ else _
      rw [inV_ints]
      by_cases e : a ∈ f1
      · rw [decide_eq_true e]
        have sn : lay (lg cs) (line.take (j + 1)) f [] = (f1, l1) := by rw [sn]; exact if_pos e
        refine iteF ⟨La, _, rfl, LaF, s4, ?_, l3, ?_⟩
        · rw [sn]; exact f3
        · rw [sn]; exact t3
      · rw [decide_eq_false e]
        have sn : lay (lg cs) (line.take (j + 1)) f [] = (f1 ++ [a], l1 ++ lg cs a) := by rw [sn]; exact if_neg e
        have f12 : f1.length ≤ 12 := by
          have x4 : f1.length ≤ cs.length := x4
          omega
        have l1l : l1.length ≤ 100 := by
          have z : l1.length + 4 * f.length ≤ ([] : List Int).length + 4 * f1.length := x3
          rw [List.length_nil] at z
          omega
        have C4 := C.same s4
        let H5 : Hp := upd H3 F (.lst (f1.map V.int ++ [V.int a]))
        have s5 : Same H H5 := fun b o e => by
          show (upd H3 F _) b = _
          rw [upd_ne (ne_of_none e hF)]
          exact s4 _ _ e
        have t5 : H5 La = some (.lst (l1.map V.int)) := (upd_ne LaF).trans t3
        obtain ⟨psx, p, vl, y1, _, y2, y3, pv4, y4, y5⟩ := (C.same s5).get h0 ecs
        have cle := (W.ok c hc).le
        refine iteT ⟨_, rfl, .inl ⟨rfl, _, SqL.of f3⟩, _, rfl, F, _, _, rfl, rfl, f3, by rw [List.length_map]; exact small1000 (by omega), ?_⟩
        refine ⟨_, rfl, _, rfl, _, rfl, l, _, _, _, rfl, rfl, SqL.of y1, y2, p, _, _, V.ref vl, rfl, rfl, SqT.of y3, rfl, vl, rfl, ⟨_, SqL.of y4⟩, fun D hD => ?_⟩
        refine lc_refs y4 y5 (by omega) hD fun H6 s6 eD => ?_
        have rl := refs_len c.vs
        refine ⟨La, D, _, _, rfl, rfl, s6 _ _ t5, eD, Nat.le_trans (show (l1.map V.int).length + ((refs c.vs).map V.int).length ≤ 1000 by rw [List.length_map, List.length_map]; omega) (by decide), fun Z hZ => ?_⟩
        have s7 : Same H6 (upd H6 Z (.lst (l1.map V.int ++ (refs c.vs).map V.int))) := same_new hZ _
        have F6 : H6 F = some (.lst ((f1 ++ [a]).map V.int)) := by
          rw [List.map_append]
          exact s6 _ _ (show (upd H3 F _) F = _ from upd_same)
        have ZF : Z ≠ F := fun z => by rw [z, F6] at hZ; cases hZ
        refine ⟨Z, _, rfl, ZF, L2.Same.trans (L2.Same.trans s5 s6) s7, ?_, s7 _ _ (s6 _ _ ((upd_ne LnF).trans l3)), ?_⟩
        · rw [sn]
          exact s7 _ _ F6
        · have elg : lg cs a = refs c.vs := by unfold lg; rw [egl]
          rw [sn, upd_same, elg, List.map_append]
    · rintro σ H3 ⟨La, o3, rfl, LaF, s4, f3, l3, t3⟩
      rw [lml, List.take_length] at f3 t3
      obtain ⟨x1, x2, _⟩ := lay_ok rcl dl G (l := []) (fun a h => by cases h)
      exact ⟨_, rfl, La, _, _, _, _, _, rfl, LaF, s4, f3, t3, x1, x2, eb⟩
  · rintro σ H2 ⟨Ln, line, f, o1, o2, o3, rfl, LnF, s2, f2, l2, G, dl, eb⟩
    rw [Nat.sub_self] at eb
    have eb : f = _ := eb
    rw [eb] at f2
    exact ⟨_, rfl, q F H2 s2 hF f2⟩
end
end K4

namespace K4
open PySem PySem.Spec PyProof.Rows L2
/-! ### values as data -/
def dat : Vl → PyData
  | .int n => .tuple [.str "int", .int n]
  | .txt s => .tuple [.str "text", .str s]
  | .null => .tuple [.str "null"]
  | .bool b => .tuple [.str "bool", .bool b]
  | .fn n => .tuple [.str "fun", .int n]
  | .ref a => .tuple [.str "ref", .int a]
def txtOk : Vl → Prop
  | .txt s => PyData.strOk s = true
  | _ => True
theorem dat_dp {K : PySem.W.Frag} {H : Hp} {p : Addr} {v : Vl} (h : VAt H p v) : Dp K H (.ref p) (dat v) := by
  have hs : SqT K H p (enc v) := h.sq
  cases v with
  | int n => exact .tup hs (.cons (.str _) (.cons (.int _) .nil))
  | txt n => exact .tup hs (.cons (.str _) (.cons (.str _) .nil))
  | null => exact .tup hs (.cons (.str _) .nil)
  | bool n => exact .tup hs (.cons (.str _) (.cons (.bl _) .nil))
  | fn n => exact .tup hs (.cons (.str _) (.cons (.int _) .nil))
  | ref n => exact .tup hs (.cons (.str _) (.cons (.int _) .nil))
theorem dats_dp {K : PySem.W.Frag} {H : Hp} : ∀ {ps : List Addr} {vs : List Vl}, VsAt H ps vs → DpAll K H (ps.map V.ref) (vs.map dat)
  | _, _, .nil => .nil
  | _, _, .cons h t => .cons (dat_dp h) (dats_dp t)
theorem lv_dp {K : PySem.W.Frag} {H : Hp} {l : Addr} {vs : List Vl} (h : LV H l vs) : Dp K H (.ref l) (.list (vs.map dat)) := by
  obtain ⟨ps, e, va⟩ := h
  exact .lst (SqL.of e) (dats_dp va)
theorem dat_can {v : Vl} (h : txtOk v) : (dat v).canLay0 = true ∧ (dat v).depth ≤ 1 := by
  cases v with
  | int n => exact ⟨by simp only [dat, PyData.canLay0, PyData.canLayAll0]; decide +kernel, by simp [dat, PyData.depth, PyData.depthAll]⟩
  | txt n =>
    refine ⟨?_, by simp [dat, PyData.depth, PyData.depthAll]⟩
    simp only [dat, PyData.canLay0, PyData.canLayAll0]
    have : PyData.strOk n = true := h
    rw [this]
    decide +kernel
  | null => exact ⟨by simp only [dat, PyData.canLay0, PyData.canLayAll0]; decide +kernel, by simp [dat, PyData.depth, PyData.depthAll]⟩
  | bool n => exact ⟨by simp only [dat, PyData.canLay0, PyData.canLayAll0]; decide +kernel, by simp [dat, PyData.depth, PyData.depthAll]⟩
  | fn n => exact ⟨by simp only [dat, PyData.canLay0, PyData.canLayAll0]; decide +kernel, by simp [dat, PyData.depth, PyData.depthAll]⟩
  | ref n => exact ⟨by simp only [dat, PyData.canLay0, PyData.canLayAll0]; decide +kernel, by simp [dat, PyData.depth, PyData.depthAll]⟩
theorem dats_can : ∀ {vs : List Vl}, (∀ v ∈ vs, txtOk v) → PyData.canLayAll0 (vs.map dat) = true ∧ PyData.depthAll (vs.map dat) ≤ 1
  | [], _ => ⟨rfl, Nat.zero_le _⟩
  | v :: r, h => by
    obtain ⟨a, b⟩ := dat_can (h v List.mem_cons_self)
    obtain ⟨c, d⟩ := dats_can (vs := r) fun u hu => h u (List.mem_cons_of_mem _ hu)
    refine ⟨?_, ?_⟩
    · show ((dat v).canLay0 && PyData.canLayAll0 (r.map dat)) = true
      rw [a, c]
      rfl
    · show max (dat v).depth (PyData.depthAll (r.map dat)) ≤ 1
      omega
theorem dats_shaped {vs : List Vl} (h : ∀ v ∈ vs, txtOk v) : SeqAt.shaped (.list (vs.map dat)) = true := by
  obtain ⟨a, b⟩ := dats_can h
  unfold SeqAt.shaped
  have h1 : (PyData.list (vs.map dat)).canLay0 = true := a
  have h2 : (PyData.list (vs.map dat)).depth = PyData.depthAll (vs.map dat) + 1 := rfl
  rw [h1, h2, decide_eq_true (by omega)]
  rfl
theorem shaped_nil : SeqAt.shaped (.list []) = true := by decide +kernel
theorem shaped_refl {d : PyData} (h : SeqAt.shaped d = true) : PyData.eqv d d = true := PySem.SeqAt.eqv_refl d (SeqAt.canLay_of_shaped h)
section
variable {P : Program} {w : World} {K : PySem.W.Frag} {mg : Str → Option Value} {base : Heap} {CW CD : Addr}
def CAtN (F : Addr) (H : Hp) (p : Addr) (c : Cl) : Prop := ∃ vl, vl ≠ F ∧ H p = some (.tup [.str (kd c.kind), .int c.f, .ref vl]) ∧ LV H vl c.vs
theorem CAtN.to {F : Addr} {H : Hp} {p : Addr} {c : Cl} (h : CAtN F H p c) : CAt H p c := by
  obtain ⟨vl, _, a, b⟩ := h
  exact ⟨vl, a, b⟩
theorem CAtN.same {F : Addr} {H H' : Hp} {p : Addr} {c : Cl} (s : Same H H') (h : CAtN F H p c) : CAtN F H' p c := by
  obtain ⟨vl, n, a, b⟩ := h
  exact ⟨vl, n, s _ _ a, b.same s⟩
theorem CAtN.kp {F : Addr} {H H' : Hp} {p : Addr} {c : Cl} (nt : NT (fun b => b = F) H) (k : Kp (fun b => b = F) H H') (h : CAtN F H p c) : CAtN F H' p c := by
  obtain ⟨vl, n, a, b⟩ := h
  exact ⟨vl, n, k _ _ a (fun z => nt p z _ a), b.kp nt k n⟩
/-! ### _law_let -/
structure LetOk (cs cs' : List Cl) : Prop where
  len : cs'.length = cs.length
  get : ∀ (a : Nat) (c' : Cl), cs'[a]? = some c' → ∃ c, cs[a]? = some c ∧ c'.kind = c.kind ∧ c'.f = c.f ∧ c'.vs.length = c.vs.length ∧ ∀ v ∈ c'.vs, (v ∈ c.vs ∨ v = .null) ∧ (c.kind = .clo → ∀ b, v = .ref b → b < a ∨ ∀ c2 : Cl, cs[b.toNat]? = some c2 → c2.kind ≠ .clo)
theorem vOk_null : vOk .null := ⟨by decide +kernel, by decide, by decide +kernel⟩
theorem LetOk.wf {cs cs' : List Cl} (L : LetOk cs cs') (W : WF cs) : WF cs' ∧ Ahead cs' := by
  have mem : ∀ c' ∈ cs', ∃ c ∈ cs, c'.kind = c.kind ∧ c'.f = c.f ∧ c'.vs.length = c.vs.length ∧ ∀ v ∈ c'.vs, v ∈ c.vs ∨ v = .null := fun c' h => by
    obtain ⟨a, ha⟩ := List.getElem?_of_mem h
    obtain ⟨c, e, e1, e2, e3, e4⟩ := L.get a c' ha
    exact ⟨c, List.mem_of_getElem? e, e1, e2, e3, fun v hv => (e4 v hv).1⟩
  have len := L.len
  have n1 := W.n1
  have n12 := W.n12
  refine ⟨⟨by omega, by omega, fun c' h => ?_, fun c' h b hb => ?_⟩, fun a c' ha hk b hb => ?_⟩
  · obtain ⟨c, hc, e1, e2, e3, e4⟩ := mem c' h
    have ok := W.ok c hc
    have eo : opener c' = opener c := by unfold opener; rw [e1, e2]
    refine ⟨by rw [e2]; exact ok.fb, by rw [e3]; exact ok.le, fun v hv => ?_, by rw [eo]; exact ok.op, by rw [eo]; exact ok.opc⟩
    rcases e4 v hv with z | rfl
    · exact ok.vs v z
    · exact vOk_null
  · obtain ⟨c, hc, e1, e2, e3, e4⟩ := mem c' h
    rcases e4 _ hb with z | z
    · have := W.rf c hc b z
      omega
    · cases z
  · obtain ⟨c, e, e1, e2, e3, e4⟩ := L.get a c' ha
    rcases (e4 _ hb).2 (by rw [← e1]; exact hk) b rfl with z | z
    · exact .inl z
    · refine .inr fun c2' h2 => ?_
      obtain ⟨c2, f, f1, _⟩ := L.get b.toNat c2' h2
      rw [f1]
      exact z c2 f
def spLet : Sp := fun vs H Q _ => ∃ l cs, vs = [.ref l] ∧ CsAt H l cs ∧ WF cs ∧ ∀ r H' cs', Same H H' → CsAt H' r cs' → LetOk cs cs' → Q (.ref r) H'
theorem scLet : FnScope ["cells", "found", "a", "kind", "f", "values", "told", "value"] ["cells"] (C8.fnScope sLet) := C8.fnScope_by (by decide +kernel)
theorem ok_let (T : Txt K mg CW CD) : C8.Cal P w K mg base 1 "_law_let" spLet [] := by
  refine cal1 T.dLet scLet (fun vs H Q E h => ?_) fun f cdv A outer s H vs Q E hr h => ?_
  · obtain ⟨_, _, rfl, _⟩ := h
    rfl
  obtain ⟨l, cs, rfl, C, W, q⟩ := h
  refine ⟨_, pss_cons (ps_set (i := 1) scLet.nd rfl (Or.inl rfl) (pe_lst pa_nil))
    (pss_cons (ps_for PassesOwn.never rfl (pi_range1 rfl T.zRange (pa_cons (pe_callB call_len_seq rfl T.zLen PySem.boot_len (pa_cons (pv 0) pa_nil)) pa_nil)) (pg_name (i := 2) scLet.nd rfl (Or.inl rfl))
      (pss_cons (ps_asg (pe_ix ix_list (pv 0) (pv 2) (fun _ _ => rfl)) (pg_tup rfl (pgs_cons (pg_name (i := 3) scLet.nd rfl (.inl rfl)) (pgs_cons (pg_name (i := 4) scLet.nd rfl (.inl rfl)) (pgs_cons (pg_name (i := 5) scLet.nd rfl (.inl rfl)) pgs_nil)))))
      (pss_cons (ps_set (i := 6) scLet.nd rfl (Or.inl rfl) (pe_lst pa_nil))
      (pss_cons (ps_for PassesOwn.never rfl (pi_list (pv 5)) (pg_name (i := 7) scLet.nd rfl (Or.inl rfl))
        (pss_one (ps_if (PW.pt (pw_and (pt_cmpR op_eq (pv 3) pe_str (nomark _)) (pw_and (pt_cmpR op_eq (pe_ix ix_tup (pv 7) pe_int (fun _ _ => rfl)) pe_str (nomark _)) (pw_and (pt_cmpR op_ge (pe_ix ix_tup (pv 7) pe_int (fun _ _ => rfl)) (pv 2) (nomark _))
            (pw_and1 (pt_cmpR op_eq (pe_ix ix_tup (pe_ix ix_list (pv 0) (pe_ix ix_tup (pv 7) pe_int (fun _ _ => rfl)) (fun _ _ => rfl)) pe_int (fun _ _ => rfl)) pe_str (nomark _)))))))
          (pss_one (ps_expr (pe_bm PySem.F.plainAttrs_list PySem.F.slot_list_append PySem.F.type_list_append mt_append (pv 6) (pa_cons (pe_tup (pa_cons pe_str pa_nil)) pa_nil))))
          (pss_one (ps_expr (pe_bm PySem.F.plainAttrs_list PySem.F.slot_list_append PySem.F.type_list_append mt_append (pv 6) (pa_cons (pv 7) pa_nil)))))))
      (pss_one (ps_expr (pe_bm PySem.F.plainAttrs_list PySem.F.slot_list_append PySem.F.type_list_append mt_append (pv 1) (pa_cons (pe_tup (pa_cons (pv 3) (pa_cons (pv 4) (pa_cons (pv 6) pa_nil)))) pa_nil))))))))
    (pss_one (ps_ret (pv 1)))), ?_⟩
  obtain ⟨psC, eC, prC⟩ := id C
  have n12 := W.n12
  have lC : (psC.map V.ref).length = cs.length := by rw [List.length_map, prC.length]
  refine ⟨by show 0 ≤ sizeLine; decide, fun F hF => ?_⟩
  have s0 : Same H (upd H F (.lst [])) := same_new hF _
  refine ⟨_, rfl, l, _, rfl, .inl (SqL.of (s0 _ _ eC)), _, rfl, by omega, by omega, ?_⟩
  have en : (((psC.map V.ref).length : Nat) : Int).toNat = cs.length := by rw [lC]; omega
  rw [en]
  refine for_range (lo := 0) (n := cs.length) (fun i σ H1 => ∃ (o2 o3 o4 o5 o6 o7 : Option V) (ps : List Addr) (cs' : List Cl), σ = [some (.ref l), some (.ref F), o2, o3, o4, o5, o6, o7] ∧ Same H H1 ∧ H1 F = some (.lst (ps.map V.ref)) ∧ Paired (CAtN F H1) ps cs' ∧ cs'.length = i ∧
      ∀ (a : Nat) (c' : Cl), cs'[a]? = some c' → ∃ c, cs[a]? = some c ∧ c'.kind = c.kind ∧ c'.f = c.f ∧ c'.vs.length = c.vs.length ∧ ∀ v ∈ c'.vs, (v ∈ c.vs ∨ v = .null) ∧ (c.kind = .clo → ∀ b, v = .ref b → b < a ∨ ∀ c2 : Cl, cs[b.toNat]? = some c2 → c2.kind ≠ .clo))
    ⟨none, none, none, none, none, none, [], [], rfl, s0, upd_same, .nil, rfl, fun a c' h => by cases h⟩ ?_ ?_
  · rintro i σ H1 hi ⟨o2, o3, o4, o5, o6, o7, ps, cs', rfl, s1, f1, pr, l1, got⟩
    rw [Int.zero_add]
    have ec : cs[i]? = some cs[i] := List.getElem?_eq_getElem hi
    generalize cs[i] = c at ec
    have hc := List.mem_of_getElem? ec
    have cle := (W.ok c hc).le
    obtain ⟨psx, p, vl, y1, _, y2, y3, pv4, y4, y5⟩ := (C.same s1).get (a := (i : Int)) (by omega) (by rw [Int.toNat_natCast]; exact ec)
    refine ⟨_, rfl, _, rfl, l, _, _, _, rfl, rfl, SqL.of y1, y2, p, _, rfl, SqT.of y3, rfl, _, _, rfl, _, _, rfl, _, _, rfl, rfl, ?_⟩
    refine ⟨by show 0 ≤ sizeLine; decide, fun G hG => ?_⟩
    have s2 : Same H1 (upd H1 G (.lst [])) := same_new hG _
    have G0 : H G = none := L2.Same.free s1 hG
    have GF : G ≠ F := fun z => by rw [z, f1] at hG; cases hG
    have lv : (pv4.map V.ref).length = c.vs.length := by rw [List.length_map, y5.length]
    refine ⟨_, rfl, vl, rfl, ⟨_, SqL.of (s2 _ _ y4)⟩, ?_⟩
    refine for_list (K := K) (a := vl) (xs := pv4.map V.ref) (fun j σ H3 => ∃ (o7 : Option V) (ps2 : List Addr) (us : List Vl), σ = [some (.ref l), some (.ref F), some (.int (i : Nat)), some (.str (kd c.kind)), some (.int c.f), some (.ref vl), some (.ref G), o7] ∧ Same H1 H3 ∧ H3 G = some (.lst (ps2.map V.ref)) ∧ VsAt H3 ps2 us ∧ us.length = j ∧
        ∀ v ∈ us, (v ∈ c.vs ∨ v = .null) ∧ (c.kind = .clo → ∀ b, v = .ref b → b < i ∨ ∀ c2 : Cl, cs[b.toNat]? = some c2 → c2.kind ≠ .clo))
      ⟨o7, [], [], rfl, s2, upd_same, .nil, rfl, fun v h => by cases h⟩ (fun j σ H3 _ ⟨_, _, _, _, h, _⟩ => SqL.of (h _ _ y4)) ?_ ?_
    · rintro j x σ H3 hj ⟨o7, ps2, us, rfl, s3, g3, va, lu, prop⟩
      obtain ⟨p2, v, rfl, _, ev, hp⟩ := y5.item hj
      have hp3 : VAt H3 p2 v := VAt.same s3 hp
      have jl := (List.getElem?_eq_some_iff.mp ev).1
      have vmem := List.mem_of_getElem? ev
      have sz : (ps2.map V.ref).length < sizeLine := by
        rw [List.length_map, va.length]
        exact small1000 (by omega)
      -- the value itself
      have keep : (c.kind = .clo → ∀ b, v = .ref b → b < i ∨ ∀ c2 : Cl, cs[b.toNat]? = some c2 → c2.kind ≠ .clo) → ∃ (o7' : Option V) (ps2' : List Addr) (us' : List Vl), [some (V.ref l), some (.ref F), some (.int (i : Nat)), some (.str (kd c.kind)), some (.int c.f), some (.ref vl), some (.ref G), some (.ref p2)] = [some (V.ref l), some (.ref F), some (.int (i : Nat)), some (.str (kd c.kind)), some (.int c.f), some (.ref vl), some (.ref G), o7'] ∧
          Same H1 (upd H3 G (.lst (ps2.map V.ref ++ [V.ref p2]))) ∧ (upd H3 G (.lst (ps2.map V.ref ++ [V.ref p2]))) G = some (.lst (ps2'.map V.ref)) ∧ VsAt (upd H3 G (.lst (ps2.map V.ref ++ [V.ref p2]))) ps2' us' ∧ us'.length = j + 1 ∧
          ∀ v ∈ us', (v ∈ c.vs ∨ v = .null) ∧ (c.kind = .clo → ∀ b, v = .ref b → b < i ∨ ∀ c2 : Cl, cs[b.toNat]? = some c2 → c2.kind ≠ .clo) := fun hcl => by
        obtain ⟨z1, z2, z3⟩ := lv_snoc hG s3 g3 va hp3
        refine ⟨_, _, us ++ [v], rfl, z1, z2, z3, by rw [List.length_append, List.length_singleton, lu], fun u hu => ?_⟩
        rcases List.mem_append.mp hu with h | h
        · exact prop u h
        · rw [List.mem_singleton.mp h]
          exact ⟨.inl vmem, hcl⟩
      refine ⟨_, rfl, rfl, _, rfl, ?_⟩
      rw [kd_clo]
      by_cases hk : c.kind = .clo
      · rw [decide_eq_true hk]
        refine iteT ⟨_, rfl, p2, _, _, _, rfl, rfl, hp3.sq, at0, rfl, _, rfl, ?_⟩
        rw [dec_ref]
        cases v with
        | ref b =>
          obtain ⟨b0, b1⟩ := W.rf c hc b vmem
          obtain ⟨c2, _, ec2, hc2⟩ := gl_some b0 b1
          refine iteT ⟨_, rfl, p2, _, _, _, rfl, rfl, hp3.sq, at1 (by intro e; cases e), _, rfl, _, _, rfl, rfl, _, rfl, ?_⟩
          by_cases hb : (i : Int) ≤ b
          · refine iteTb (decide_eq_true hb) ?_
            obtain ⟨psy, p', vl', w1, _, w2, w3, _, _, _⟩ := (C.same (L2.Same.trans s1 s3)).get b0 ec2
            refine ⟨_, rfl, _, rfl, p2, _, _, _, rfl, rfl, hp3.sq, at1 (by intro e; cases e), l, _, _, _, rfl, rfl, SqL.of w1, w2, p', _, _, V.str (kd c2.kind), rfl, rfl, SqT.of w3, rfl, rfl, _, rfl, ?_⟩
            rw [kd_clo]
            by_cases hk2 : c2.kind = .clo
            · rw [decide_eq_true hk2]
              refine iteT ⟨_, rfl, .inl ⟨rfl, _, SqL.of g3⟩, by show 1 ≤ sizeLine; decide, fun p3 hp3' => ?_⟩
              have s4 : Same H3 (upd H3 p3 (.tup [V.str "null"])) := same_new hp3' _
              refine ⟨G, _, _, rfl, rfl, s4 _ _ g3, sz, ?_⟩
              obtain ⟨z1, z2, z3⟩ := lv_snoc (v := .null) (p := p3) hG (L2.Same.trans s3 s4) (s4 _ _ g3) (va.same s4) upd_same
              refine ⟨_, _, us ++ [.null], rfl, z1, z2, z3, by rw [List.length_append, List.length_singleton, lu], fun u hu => ?_⟩
              rcases List.mem_append.mp hu with h | h
              · exact prop u h
              · rw [List.mem_singleton.mp h]
                exact ⟨.inr rfl, fun _ b hb => by cases hb⟩
            · rw [decide_eq_false hk2]
              refine iteF ⟨_, rfl, .inl ⟨rfl, _, SqL.of g3⟩, _, rfl, G, _, _, rfl, rfl, g3, sz, keep fun _ b' e => ?_⟩
              cases e
              refine .inr fun c3 e3 => ?_
              rw [ec2] at e3
              cases e3
              exact hk2
          · refine iteFb (decide_eq_false hb) (iteF ⟨_, rfl, .inl ⟨rfl, _, SqL.of g3⟩, _, rfl, G, _, _, rfl, rfl, g3, sz, keep fun _ b' e => ?_⟩)
            cases e
            exact .inl (by omega)
        | int _ => exact iteF (iteF ⟨_, rfl, .inl ⟨rfl, _, SqL.of g3⟩, _, rfl, G, _, _, rfl, rfl, g3, sz, keep fun _ b' e => by cases e⟩)
        | txt _ => exact iteF (iteF ⟨_, rfl, .inl ⟨rfl, _, SqL.of g3⟩, _, rfl, G, _, _, rfl, rfl, g3, sz, keep fun _ b' e => by cases e⟩)
        | null => exact iteF (iteF ⟨_, rfl, .inl ⟨rfl, _, SqL.of g3⟩, _, rfl, G, _, _, rfl, rfl, g3, sz, keep fun _ b' e => by cases e⟩)
        | bool _ => exact iteF (iteF ⟨_, rfl, .inl ⟨rfl, _, SqL.of g3⟩, _, rfl, G, _, _, rfl, rfl, g3, sz, keep fun _ b' e => by cases e⟩)
        | fn _ => exact iteF (iteF ⟨_, rfl, .inl ⟨rfl, _, SqL.of g3⟩, _, rfl, G, _, _, rfl, rfl, g3, sz, keep fun _ b' e => by cases e⟩)
      · rw [decide_eq_false hk]
        exact iteF (iteF ⟨_, rfl, .inl ⟨rfl, _, SqL.of g3⟩, _, rfl, G, _, _, rfl, rfl, g3, sz, keep fun z => absurd z hk⟩)
    · rintro σ H3 ⟨o7, ps2, us, rfl, s3, g3, va, lu, prop⟩
      rw [lv] at lu
      have f3 := s3 _ _ f1
      have sz : (ps.map V.ref).length < sizeLine := by
        rw [List.length_map, pr.length]
        exact small1000 (by omega)
      refine ⟨_, rfl, .inl ⟨rfl, _, SqL.of f3⟩, _, rfl, _, rfl, _, rfl, by show 3 ≤ sizeLine; decide, fun t ht => ?_⟩
      have s4 : Same H3 (upd H3 t (.tup [V.str (kd c.kind), V.int c.f, V.ref G])) := same_new ht _
      refine ⟨F, _, _, rfl, rfl, s4 _ _ f3, sz, ?_⟩
      let H5 : Hp := upd (upd H3 t (.tup [V.str (kd c.kind), V.int c.f, V.ref G])) F (.lst (ps.map V.ref ++ [V.ref t]))
      have k5 : Kp (fun b => b = F) (upd H3 t (.tup [V.str (kd c.kind), V.int c.f, V.ref G])) H5 := kp_upd (fun b o e _ => e) rfl
      have nt5 : NT (fun b => b = F) (upd H3 t (.tup [V.str (kd c.kind), V.int c.f, V.ref G])) := fun b hb xs e => by
        subst hb
        rw [s4 _ _ f3] at e
        cases e
      have tF : t ≠ F := fun z => by rw [z, f3] at ht; cases ht
      refine ⟨_, _, _, _, _, _, ps ++ [t], cs' ++ [⟨c.kind, c.f, us⟩], rfl, fun b o e => ?_, ?_, ?_, by rw [List.length_append, List.length_singleton, l1], fun a c' ha => ?_⟩
      · rw [upd_ne (ne_of_none e hF)]
        exact s4 _ _ (s3 _ _ (s1 _ _ e))
      · rw [upd_same, List.map_append]
        rfl
      · refine pair_app (Paired.mono (fun _ _ h => CAtN.kp nt5 k5 (CAtN.same s4 (CAtN.same s3 h))) pr) (.cons ⟨G, GF, ?_, ps2, ?_, ?_⟩ .nil)
        · rw [upd_ne tF]
          exact upd_same
        · rw [upd_ne GF]
          exact s4 _ _ g3
        · exact (va.same s4).kp nt5 k5
      · by_cases al : a < cs'.length
        · rw [List.getElem?_append_left al] at ha
          exact got a c' ha
        · rw [List.getElem?_append_right (by omega)] at ha
          have e0 : a - cs'.length = 0 := by
            have := (List.getElem?_eq_some_iff.mp ha).1
            rw [List.length_singleton] at this
            omega
          rw [e0] at ha
          have e1 := Option.some.inj ha
          subst e1
          have ej : a = i := by omega
          subst ej
          exact ⟨c, ec, rfl, rfl, lu, prop⟩
  · rintro σ H1 ⟨o2, o3, o4, o5, o6, o7, ps, cs', rfl, s1, f1, pr, l1, got⟩
    exact ⟨_, rfl, q F H1 cs' s1 ⟨ps, f1, Paired.mono (fun _ _ h => CAtN.to h) pr⟩ ⟨l1, got⟩⟩
end
end K4

namespace K4
open PySem PySem.Spec PyProof.Rows L2
/-! ### the values that are drawn -/
theorem int_all : ∀ n < 100, (cod (plain (.int ((n : Nat) - 50 : Int)))).length ≤ 40 ∧ (cod (plain (.int ((n : Nat) - 50 : Int)))).all (fun c => decide (c < 1114112)) = true := by decide +kernel
theorem vOk_int {r : Int} (h0 : 0 ≤ r) (h1 : r < 100) : vOk (.int (r - 50)) := by
  obtain ⟨a, b⟩ := int_all r.toNat (by omega)
  have e : ((r.toNat : Nat) : Int) = r := by omega
  rw [e] at a b
  exact ⟨a, by show (r - 50).natAbs < 2 ^ 60; omega, b⟩
theorem vOk_7 : vOk (.int 7) := ⟨by decide +kernel, by decide, by decide +kernel⟩
theorem vOk_1000 : vOk (.int 1000) := ⟨by decide +kernel, by decide, by decide +kernel⟩
theorem vOk_txt : vOk (.txt "a b") := ⟨by decide +kernel, by decide, by decide +kernel⟩
theorem vOk_true : vOk (.bool true) := ⟨by decide +kernel, by decide, by decide +kernel⟩
theorem vOk_fn : vOk (.fn 3) := ⟨by decide +kernel, by decide, by decide +kernel⟩
theorem vOk_ref (a : Int) : vOk (.ref a) := ⟨by show (0 : Nat) ≤ 40; decide, by show (0 : Int).natAbs < 2 ^ 60; decide, rfl⟩
theorem op_all : ∀ n < 7, (cod (("fun " : Str) ++ toString ((n : Nat) : Int) ++ "(")).length ≤ 40 ∧ (cod (("fun " : Str) ++ toString ((n : Nat) : Int) ++ "(")).all (fun c => decide (c < 1114112)) = true := by decide +kernel
theorem cOk_mk {k : Kd} {f : Int} {vs : List Vl} (h0 : 0 ≤ f) (h1 : f < 7) (hl : vs.length ≤ 4) (hv : ∀ v ∈ vs, vOk v) : cOk ⟨k, f, vs⟩ := by
  obtain ⟨a, b⟩ := op_all f.toNat (by omega)
  have e : ((f.toNat : Nat) : Int) = f := by omega
  rw [e] at a b
  refine ⟨by show f.natAbs < 2 ^ 60; omega, hl, hv, ?_, ?_⟩
  · cases k
    · show (cod ("[" : Str)).length ≤ 40; decide +kernel
    · show (cod ("{" : Str)).length ≤ 40; decide +kernel
    · exact a
  · cases k
    · show (cod ("[" : Str)).all _ = true; decide +kernel
    · show (cod ("{" : Str)).all _ = true; decide +kernel
    · exact b
/-- a value that may be held by one of m cells -/
structure Gv (m : Int) (v : Vl) : Prop where
  ok : vOk v
  tx : txtOk v
  rf : ∀ b, v = .ref b → 0 ≤ b ∧ b < m
  nb : v ≠ .bool false
/-- no value is false -/
def Tru (cs : List Cl) : Prop := ∀ c ∈ cs, ∀ v ∈ c.vs, v ≠ .bool false
theorem LetOk.tru {cs cs' : List Cl} (L : LetOk cs cs') (t : Tru cs) : Tru cs' := fun c' h v hv => by
  obtain ⟨a, ha⟩ := List.getElem?_of_mem h
  obtain ⟨c, e, _, _, _, e4⟩ := L.get a c' ha
  rcases (e4 v hv).1 with z | z
  · exact t c (List.mem_of_getElem? e) v z
  · rw [z]; intro z; cases z
theorem key6 {HZ : Hp} {m : Nat} {a0 b0 : Int} {p1 p2 p3 p4 p5 p6 : Addr} (a1 : 0 ≤ a0) (a2 : a0 < 100) (b1 : 0 ≤ b0) (b2 : b0 < m) (x1 : VAt HZ p1 (.int (a0 - 50))) (x2 : VAt HZ p2 (.txt "a b")) (x3 : VAt HZ p3 .null) (x4 : VAt HZ p4 (.bool true)) (x5 : VAt HZ p5 (.fn 3)) (x6 : VAt HZ p6 (.ref b0)) :
    ∀ r : Nat, r < 11 → ∃ p v, ([V.ref p1, .ref p2, .ref p3, .ref p4, .ref p5] ++ (List.replicate (6 : Int).toNat [V.ref p6]).flatten)[r]? = some (.ref p) ∧ VAt HZ p v ∧ Gv m v := by
  have g6 : Gv m (.ref b0) := ⟨vOk_ref _, True.intro, (fun b e => by cases e; omega), fun z => by cases z⟩
  intro r hr
  match r with
  | 0 => exact ⟨p1, _, rfl, x1, vOk_int a1 a2, True.intro, (fun b e => by cases e), fun z => by cases z⟩
  | 1 => exact ⟨p2, _, rfl, x2, vOk_txt, (by show PyData.strOk "a b" = true; decide +kernel), (fun b e => by cases e), fun z => by cases z⟩
  | 2 => exact ⟨p3, _, rfl, x3, vOk_null, True.intro, (fun b e => by cases e), fun z => by cases z⟩
  | 3 => exact ⟨p4, _, rfl, x4, vOk_true, True.intro, (fun b e => by cases e), fun z => by cases z⟩
  | 4 => exact ⟨p5, _, rfl, x5, vOk_fn, True.intro, (fun b e => by cases e), fun z => by cases z⟩
  | 5 => exact ⟨p6, _, rfl, x6, g6⟩
  | 6 => exact ⟨p6, _, rfl, x6, g6⟩
  | 7 => exact ⟨p6, _, rfl, x6, g6⟩
  | 8 => exact ⟨p6, _, rfl, x6, g6⟩
  | 9 => exact ⟨p6, _, rfl, x6, g6⟩
  | 10 => exact ⟨p6, _, rfl, x6, g6⟩
  | n + 11 => omega
theorem kd3 {k : Int} (h0 : 0 ≤ k) (h1 : k < 3) : ∃ c : Kd, atI [V.str "list", .str "object", .str "closure"] k = some (.str (kd c)) := by
  have e : k = ((k.toNat : Nat) : Int) := by omega
  have h : k.toNat < 3 := by omega
  rw [e]
  generalize k.toNat = n at h
  match n with
  | 0 => exact ⟨.lst, rfl⟩
  | 1 => exact ⟨.obj, rfl⟩
  | 2 => exact ⟨.clo, rfl⟩
  | n + 3 => omega
theorem kd2 {k : Int} (h0 : 0 ≤ k) (h1 : k < 2) : ∃ c : Kd, atI [V.str "list", .str "object"] k = some (.str (kd c)) := by
  have e : k = ((k.toNat : Nat) : Int) := by omega
  have h : k.toNat < 2 := by omega
  rw [e]
  generalize k.toNat = n at h
  match n with
  | 0 => exact ⟨.lst, rfl⟩
  | 1 => exact ⟨.obj, rfl⟩
  | n + 2 => omega
section
variable {P : Program} {w : World} {K : PySem.W.Frag} {mg : Str → Option Value} {base : Heap} {CW CD : Addr}
/-! ### _law_cells -/
def spCells : Sp := fun vs H Q _ => ∃ d, vs = [.ref d] ∧ DrAt H d ∧ ∀ r H' cs, Same H H' → CsAt H' r cs → WF cs → Ahead cs → Tru cs → Q (.ref r) H'
theorem scCells : FnScope ["draws", "many", "found", "a", "at", "values", "t", "rows", "kind"] ["draws"] (C8.fnScope sCells) := C8.fnScope_by (by decide +kernel)
theorem ok_cells (T : Txt K mg CW CD) : C8.Cal P w K mg base 2 "_law_cells" spCells [] := by
  refine cal1 T.dCells scCells (fun vs H Q E h => ?_) fun f cdv A outer s H vs Q E hr h => ?_
  · obtain ⟨_, rfl, _⟩ := h
    rfl
  obtain ⟨d, rfl, hd, q⟩ := h
  refine ⟨_, pss_cons (ps_par (i := 1) (j := 2) (by rfl) scCells.nd rfl rfl (by decide) rfl rfl (pa_cons (pe_op op_add pe_int (C8.pe_c (ok_mix T) hr (by decide) rfl (pa_cons (pv 0) (pa_cons pe_int (pa_cons pe_int pa_nil))))) (pa_cons (pe_lst pa_nil) pa_nil)) (by rfl))
    (pss_cons (ps_for PassesOwn.never rfl (pi_range1 rfl T.zRange (pa_cons (pv 1) pa_nil)) (pg_name (i := 3) scCells.nd rfl (Or.inl rfl))
      (pss_cons (ps_set (i := 4) scCells.nd rfl (Or.inl rfl) (pe_op op_add pe_int (pe_op op_mul pe_int (pv 3))))
      (pss_cons (ps_set (i := 5) scCells.nd rfl (Or.inl rfl) (pe_lst pa_nil))
      (pss_cons (ps_for PassesOwn.never rfl (pi_range1 rfl T.zRange (pa_cons (C8.pe_c (ok_mix T) hr (by decide) rfl (pa_cons (pv 0) (pa_cons (pv 4) (pa_cons pe_int pa_nil)))) pa_nil)) (pg_name (i := 6) scCells.nd rfl (Or.inl rfl))
        (pss_cons (ps_set (i := 7) scCells.nd rfl (Or.inl rfl) (pe_op op_cat
            (pe_lst (pa_cons (pe_tup (pa_cons pe_str (pa_cons (pe_op op_sub (C8.pe_c (ok_mix T) hr (by decide) rfl (pa_cons (pv 0) (pa_cons (pe_op op_add (pe_op op_add (pv 4) pe_int) (pe_op op_mul pe_int (pv 6))) (pa_cons pe_int pa_nil)))) pe_int) pa_nil)))
              (pa_cons (pe_tup (pa_cons pe_str (pa_cons pe_str pa_nil))) (pa_cons (pe_tup (pa_cons pe_str pa_nil)) (pa_cons (pe_tup (pa_cons pe_str (pa_cons pe_bl pa_nil))) (pa_cons (pe_tup (pa_cons pe_str (pa_cons pe_int pa_nil))) pa_nil))))))
            (pe_op op_rep (pe_lst (pa_cons (pe_tup (pa_cons pe_str (pa_cons (C8.pe_c (ok_mix T) hr (by decide) rfl (pa_cons (pv 0) (pa_cons (pe_op op_add (pe_op op_add (pv 4) pe_int) (pe_op op_mul pe_int (pv 6))) (pa_cons (pv 1) pa_nil)))) pa_nil))) pa_nil)) pe_int)))
        (pss_one (ps_expr (pe_bm PySem.F.plainAttrs_list PySem.F.slot_list_append PySem.F.type_list_append mt_append (pv 5) (pa_cons (pe_ix ix_list (pv 7) (C8.pe_c (ok_mix T) hr (by decide) rfl (pa_cons (pv 0) (pa_cons (pe_op op_add (pe_op op_add (pv 4) pe_int) (pe_op op_mul pe_int (pv 6))) (pa_cons pe_int pa_nil)))) (fun _ _ => rfl)) pa_nil))))))
      (pss_cons (ps_set (i := 8) scCells.nd rfl (Or.inl rfl) (pe_ix ix_list (pe_lst (pa_cons pe_str (pa_cons pe_str (pa_cons pe_str pa_nil)))) (C8.pe_c (ok_mix T) hr (by decide) rfl (pa_cons (pv 0) (pa_cons (pe_op op_add (pv 4) pe_int) (pa_cons pe_int pa_nil)))) (fun _ _ => rfl)))
      (pss_cons (ps_if (pt_cmpR (op_eqD hr.units) (pv 5) (pe_lst pa_nil) (nomark _))
        (pss_one (ps_set (i := 8) scCells.nd rfl (Or.inl rfl) (pe_ix ix_list (pe_lst (pa_cons pe_str (pa_cons pe_str pa_nil))) (C8.pe_c (ok_mix T) hr (by decide) rfl (pa_cons (pv 0) (pa_cons (pe_op op_add (pv 4) pe_int) (pa_cons pe_int pa_nil)))) (fun _ _ => rfl)))) pss_nil)
      (pss_one (ps_expr (pe_bm PySem.F.plainAttrs_list PySem.F.slot_list_append PySem.F.type_list_append mt_append (pv 2) (pa_cons (pe_tup (pa_cons (pv 8) (pa_cons (C8.pe_c (ok_mix T) hr (by decide) rfl (pa_cons (pv 0) (pa_cons (pe_op op_add (pv 4) pe_int) (pa_cons pe_int pa_nil)))) (pa_cons (pv 5) pa_nil)))) pa_nil))))))))))
    (pss_one (ps_ret (C8.pe_c (ok_let T) hr (by decide) rfl (pa_cons (pv 2) pa_nil))))), ?_⟩
  refine ⟨_, rfl, d, 1, 12, rfl, hd, by decide, fun m0 m1 m2 => ?_⟩
  refine ⟨_, _, rfl, rfl, by show 0 ≤ sizeLine; decide, fun F hF => ⟨_, _, rfl, ?_⟩⟩
  have s0 : Same H (upd H F (.lst [])) := same_new hF _
  obtain ⟨m, em, mb1, mb2⟩ : ∃ m : Nat, (1 + m0 : Int) = (m : Int) ∧ 1 ≤ m ∧ m ≤ 12 := ⟨(1 + m0).toNat, by omega, by omega, by omega⟩
  refine ⟨_, rfl, _, rfl, by omega, by omega, ?_⟩
  have en : (1 + m0 : Int).toNat = m := by omega
  rw [en]
  refine for_range (lo := 0) (n := m) (fun i σ H1 => ∃ (o3 o4 o5 o6 o7 o8 : Option V) (ps : List Addr) (cs' : List Cl), σ = [some (.ref d), some (.int (1 + m0)), some (.ref F), o3, o4, o5, o6, o7, o8] ∧ Same H H1 ∧ H1 F = some (.lst (ps.map V.ref)) ∧ Paired (CAtN F H1) ps cs' ∧ cs'.length = i ∧
      ∀ c ∈ cs', cOk c ∧ (∀ b, Vl.ref b ∈ c.vs → 0 ≤ b ∧ b < m) ∧ ∀ v ∈ c.vs, v ≠ .bool false)
    ⟨none, none, none, none, none, none, [], [], rfl, s0, upd_same, .nil, rfl, fun c h => by cases h⟩ ?_ ?_
  · rintro i σ H1 hi ⟨o3, o4, o5, o6, o7, o8, ps, cs', rfl, s1, f1, pr, l1, got⟩
    refine ⟨_, rfl, _, _, rfl, rfl, .inl ⟨by decide, by decide⟩, _, _, rfl, rfl, ?_⟩
    generalize (100 + 50 * (0 + (i : Int)) : Int) = at' 
    refine ⟨by show 0 ≤ sizeLine; decide, fun G hG => ?_⟩
    have s2 : Same H1 (upd H1 G (.lst [])) := same_new hG _
    have G0 : H G = none := L2.Same.free s1 hG
    have GF : G ≠ F := fun z => by rw [z, f1] at hG; cases hG
    refine ⟨_, rfl, _, rfl, d, _, 5, rfl, hd.same (L2.Same.trans s1 s2), by decide, fun n0 n1 n2 => ?_⟩
    refine ⟨_, rfl, by omega, by omega, ?_⟩
    refine for_range (lo := 0) (n := (n0 : Int).toNat) (fun j σ H3 => ∃ (o6 o7 o8 : Option V) (ps2 : List Addr) (us : List Vl), σ = [some (.ref d), some (.int (1 + m0)), some (.ref F), some (.int (0 + (i : Nat))), some (.int (100 + 50 * (0 + (i : Nat)))), some (.ref G), o6, o7, o8] ∧ Same H1 H3 ∧ H3 G = some (.lst (ps2.map V.ref)) ∧ VsAt H3 ps2 us ∧ us.length = j ∧
        ∀ v ∈ us, Gv m v)
      ⟨o6, o7, o8, [], [], rfl, s2, upd_same, .nil, rfl, fun v h => by cases h⟩ ?_ ?_
    · rintro j σ H3 hj ⟨o6, o7, o8, ps2, us, rfl, s3, g3, va, lu, prop⟩
      have d3 : ∀ {H' : Hp}, Same H3 H' → DrAt H' d := fun s => hd.same (L2.Same.trans (L2.Same.trans s1 s3) s)
      refine ⟨_, rfl, _, rfl, _, _, rfl, rfl, _, rfl, _, _, rfl, rfl, .inl ⟨by decide, by decide⟩, _, _, rfl, rfl, d, _, 100, rfl, d3 (fun _ _ h => h), by decide, fun a0 a1 a2 => ?_⟩
      refine ⟨_, _, rfl, rfl, by show 2 ≤ sizeLine; decide, fun p1 f1' => ?_⟩
      refine ⟨by show 2 ≤ sizeLine; decide, fun p2 f2' => ⟨by show 1 ≤ sizeLine; decide, fun p3 f3' => ⟨by show 2 ≤ sizeLine; decide, fun p4 f4' => ⟨by show 2 ≤ sizeLine; decide, fun p5 f5' => ⟨by show 5 ≤ sizeLine; decide, fun R fR => ?_⟩⟩⟩⟩⟩
      have e1 := same_new f1' (.tup (enc (.int (a0 - 50))))
      have e2 := same_new f2' (.tup (enc (.txt "a b")))
      have e3 := same_new f3' (.tup (enc .null))
      have e4 := same_new f4' (.tup (enc (.bool true)))
      have e5 := same_new f5' (.tup (enc (.fn 3)))
      have e6 := same_new fR (.lst [.ref p1, .ref p2, .ref p3, .ref p4, .ref p5])
      have t5 := L2.Same.trans e5 e6
      have t4 := L2.Same.trans e4 t5
      have t3 := L2.Same.trans e3 t4
      have t2 := L2.Same.trans e2 t3
      have t1 := L2.Same.trans e1 t2
      refine ⟨_, rfl, _, rfl, _, _, rfl, rfl, _, rfl, _, _, rfl, rfl, .inl ⟨by decide, by decide⟩, _, _, rfl, rfl, _, rfl, d, _, 1 + m0, rfl, d3 t1, by omega, fun b0 b1 b2 => ?_⟩
      refine ⟨by show 2 ≤ sizeLine; decide, fun p6 f6' => ⟨by show 1 ≤ sizeLine; decide, fun S fS => ?_⟩⟩
      have e7 := same_new f6' (.tup (enc (.ref b0)))
      have e8 := same_new fS (.lst [.ref p6])
      refine ⟨S, 6, _, rfl, rfl, upd_same, by decide, by decide, by show 1 * 6 ≤ sizeLine; decide, fun U fU => ?_⟩
      have e9 := same_new fU (.lst (List.replicate (6 : Int).toNat [V.ref p6]).flatten)
      have t9 := L2.Same.trans e7 (L2.Same.trans e8 e9)
      refine ⟨R, U, _, _, rfl, rfl, t9 _ _ upd_same, upd_same, by show 5 + 6 ≤ sizeLine; decide, fun V' fV => ?_⟩
      have e10 := same_new fV (.lst ([V.ref p1, .ref p2, .ref p3, .ref p4, .ref p5] ++ (List.replicate (6 : Int).toNat [V.ref p6]).flatten))
      have t10 := L2.Same.trans t9 e10
      have tA := L2.Same.trans t1 t10
      have key := key6 (m := m) a1 a2 b1 (by omega) (VAt.same (v := .int (a0 - 50)) (p := p1) (L2.Same.trans t2 t10) upd_same) (VAt.same (v := .txt "a b") (p := p2) (L2.Same.trans t3 t10) upd_same) (VAt.same (v := .null) (p := p3) (L2.Same.trans t4 t10) upd_same)
        (VAt.same (v := .bool true) (p := p4) (L2.Same.trans t5 t10) upd_same) (VAt.same (v := .fn 3) (p := p5) (L2.Same.trans e6 t10) upd_same) (VAt.same (v := .ref b0) (p := p6) (L2.Same.trans e8 (L2.Same.trans e9 e10)) upd_same)
      refine ⟨_, rfl, .inl ⟨rfl, _, SqL.of (tA _ _ g3)⟩, _, rfl, _, rfl, _, rfl, _, _, rfl, rfl, _, rfl, _, _, rfl, rfl, .inl ⟨by decide, by decide⟩, _, _, rfl, rfl, d, _, 11, rfl, d3 tA, by decide, fun c0 c1 c2 => ?_⟩
      obtain ⟨p, v, k1, k2, k3⟩ := key c0.toNat (by omega)
      have ec0 : c0 = ((c0.toNat : Nat) : Int) := by omega
      have sz : (ps2.map V.ref).length < sizeLine := by
        rw [List.length_map, va.length]
        exact small1000 (by omega)
      refine ⟨V', _, c0, _, rfl, rfl, SqL.of upd_same, (by rw [ec0]; exact atI_nat k1), G, _, _, rfl, rfl, tA _ _ g3, sz, ?_⟩
      obtain ⟨z1, z2, z3⟩ := lv_snoc hG (L2.Same.trans s3 tA) (tA _ _ g3) (va.same tA) k2
      refine ⟨_, _, _, _, us ++ [v], rfl, z1, z2, z3, by rw [List.length_append, List.length_singleton, lu], fun u hu => ?_⟩
      rcases List.mem_append.mp hu with h | h
      · exact prop u h
      · rw [List.mem_singleton.mp h]
        exact k3
    · rintro σ H3 ⟨o6, o7, o8, ps2, us, rfl, s3, g3, va, lu, prop⟩
      have d3 : ∀ {H' : Hp}, Same H3 H' → DrAt H' d := fun s => hd.same (L2.Same.trans (L2.Same.trans s1 s3) s)
      have ul : us.length ≤ 4 := by rw [lu]; omega
      have g3l : LV H3 G us := ⟨ps2, g3, va⟩
      -- what is appended
      have fin : ∀ (k : Kd) (H4 : Hp) (f0 : Int) (t : Addr) (o6' o7' : Option V), Same H3 H4 → 0 ≤ f0 → f0 < 7 → H4 t = none → ∃ (o3 o4 o5 o6 o7 o8 : Option V) (qs : List Addr) (cs' : List Cl),
          [some (V.ref d), some (.int (1 + m0)), some (.ref F), some (.int (0 + (i : Nat))), some (.int (100 + 50 * (0 + (i : Nat)))), some (.ref G), o6', o7', some (.str (kd k))] = [some (.ref d), some (.int (1 + m0)), some (.ref F), o3, o4, o5, o6, o7, o8] ∧
          Same H (upd (upd H4 t (.tup [.str (kd k), .int f0, .ref G])) F (.lst (ps.map V.ref ++ [V.ref t]))) ∧ (upd (upd H4 t (.tup [.str (kd k), .int f0, .ref G])) F (.lst (ps.map V.ref ++ [V.ref t]))) F = some (.lst (qs.map V.ref)) ∧ Paired (CAtN F (upd (upd H4 t (.tup [.str (kd k), .int f0, .ref G])) F (.lst (ps.map V.ref ++ [V.ref t])))) qs cs' ∧ cs'.length = i + 1 ∧
          ∀ c ∈ cs', cOk c ∧ (∀ b, Vl.ref b ∈ c.vs → 0 ≤ b ∧ b < m) ∧ ∀ v ∈ c.vs, v ≠ .bool false := by
        intro k H4 f0 t o6' o7' s4 q0 q1 ht
        have f4 := s4 _ _ (s3 _ _ f1)
        have g4 := g3l.same s4
        obtain ⟨ps4, g41, g42⟩ := g4
        let H5 : Hp := upd H4 t (.tup [V.str (kd k), V.int f0, V.ref G])
        have s5 : Same H4 H5 := same_new ht _
        have k6 : Kp (fun b => b = F) H5 (upd H5 F (.lst (ps.map V.ref ++ [V.ref t]))) := kp_upd (fun b o e _ => e) rfl
        have nt5 : NT (fun b => b = F) H5 := fun b hb xs e => by
          subst hb
          rw [s5 _ _ f4] at e
          cases e
        have tF : t ≠ F := fun z => by rw [z, f4] at ht; cases ht
        have h5t : H5 t = some (.tup [V.str (kd k), V.int f0, V.ref G]) := upd_same
        refine ⟨_, _, _, _, _, _, ps ++ [t], cs' ++ [⟨k, f0, us⟩], rfl, fun b o e => ?_, ?_, ?_, by rw [List.length_append, List.length_singleton, l1], fun c hc => ?_⟩
        · show (upd H5 F _) b = _
          rw [upd_ne (ne_of_none e hF)]
          exact s5 _ _ (s4 _ _ (s3 _ _ (s1 _ _ e)))
        · rw [upd_same, List.map_append]
          rfl
        · refine pair_app (Paired.mono (fun _ _ h => CAtN.kp nt5 k6 (CAtN.same s5 (CAtN.same s4 (CAtN.same s3 h)))) pr) (.cons ⟨G, GF, ?_, ps4, ?_, ?_⟩ .nil)
          · show (upd H5 F _) t = _
            rw [upd_ne tF]
            exact h5t
          · show (upd H5 F _) G = _
            rw [upd_ne GF]
            exact s5 _ _ g41
          · exact (g42.same s5).kp nt5 k6
        · rcases List.mem_append.mp hc with h | h
          · exact got c h
          · rw [List.mem_singleton.mp h]
            exact ⟨cOk_mk q0 q1 ul fun v hv => (prop v hv).ok, (fun b hb => (prop _ hb).rf b rfl), fun v hv => (prop v hv).nb⟩
      have sz : (ps.map V.ref).length < sizeLine := by
        rw [List.length_map, pr.length]
        exact small1000 (by omega)
      have f3 := s3 _ _ f1
      refine ⟨by show 3 ≤ sizeLine; decide, fun L hL => ?_⟩
      have s4 : Same H3 (upd H3 L (.lst [.str "list", .str "object", .str "closure"])) := same_new hL _
      refine ⟨_, rfl, _, rfl, _, _, rfl, rfl, d, _, 3, rfl, d3 s4, by decide, fun k0 k1 k2 => ?_⟩
      obtain ⟨k, ek⟩ := kd3 k1 k2
      refine ⟨L, _, k0, _, rfl, rfl, SqL.of upd_same, ek, _, rfl, by show 0 ≤ sizeLine; decide, fun M hM => ?_⟩
      have s5 := L2.Same.trans s4 (same_new hM (.lst []))
      refine ⟨_, _, lv_dp (g3l.same s5), .lst (SqL.of upd_same) .nil, dats_shaped fun v hv => (prop v hv).tx, shaped_nil, _, rfl, ?_⟩
      cases us with
      | nil =>
        refine iteTb (by rfl) ⟨by show 2 ≤ sizeLine; decide, fun N hN => ?_⟩
        have s6 := L2.Same.trans s5 (same_new hN (.lst [.str "list", .str "object"]))
        refine ⟨_, rfl, _, rfl, _, _, rfl, rfl, d, _, 2, rfl, d3 s6, by decide, fun k3 k4 k5 => ?_⟩
        obtain ⟨k', ek'⟩ := kd2 k4 k5
        refine ⟨N, _, k3, _, rfl, rfl, SqL.of upd_same, ek', ?_⟩
        refine ⟨_, rfl, .inl ⟨rfl, _, SqL.of (s6 _ _ f3)⟩, _, rfl, _, rfl, _, rfl, _, _, rfl, rfl, d, _, 7, rfl, d3 s6, by decide, fun f0 q0 q1 => ⟨_, rfl, by show 3 ≤ sizeLine; decide, fun t ht => ?_⟩⟩
        exact ⟨F, _, _, rfl, rfl, same_new ht _ _ _ (s6 _ _ f3), sz, fin k' _ f0 t _ _ s6 q0 q1 ht⟩
      | cons u us =>
        refine iteFb (by rfl) ?_
        refine ⟨_, rfl, .inl ⟨rfl, _, SqL.of (s5 _ _ f3)⟩, _, rfl, _, rfl, _, rfl, _, _, rfl, rfl, d, _, 7, rfl, d3 s5, by decide, fun f0 q0 q1 => ⟨_, rfl, by show 3 ≤ sizeLine; decide, fun t ht => ?_⟩⟩
        exact ⟨F, _, _, rfl, rfl, same_new ht _ _ _ (s5 _ _ f3), sz, fin k _ f0 t _ _ s5 q0 q1 ht⟩
  · rintro σ H1 ⟨o3, o4, o5, o6, o7, o8, ps, cs', rfl, s1, f1, pr, l1, got⟩
    have W : WF cs' := ⟨by omega, by omega, fun c hc => (got c hc).1, fun c hc b hb => by rw [l1]; exact (got c hc).2.1 b hb⟩
    exact ⟨_, rfl, F, cs', rfl, ⟨ps, f1, Paired.mono (fun _ _ h => CAtN.to h) pr⟩, W, fun r H' cs2 s2 C2 lo => q r H' cs2 (L2.Same.trans s1 s2) C2 (LetOk.wf lo W).1 (LetOk.wf lo W).2 (LetOk.tru lo fun c hc => (got c hc).2.2)⟩
end
end K4

namespace K4
open PySem PySem.Spec PyProof.Rows L2
theorem len_1921 {i : Int} (h : i.natAbs.log2 < 1920) : (toString i : Str).length ≤ 1921 := by
  have h := int_text_length_le (by decide) h
  show (Str.ofString (toString i)).length ≤ 1921
  rw [PySem.ofString_length]
  exact h
/-! ### str of what stands last -/
def sv : Vl → Str
  | .int n => toString n
  | .txt s => s
  | .null => "null"
  | .bool b => if b then "True" else "False"
  | .fn n => toString n
  | .ref a => toString a
def lgOk : Vl → Prop
  | .int n => n.natAbs.log2 < 1920
  | .fn n => n.natAbs.log2 < 1920
  | .ref n => n.natAbs.log2 < 1920
  | _ => True
def rStrA : List V → Hp → VK → Prop := fun xs H Q => ∃ v : Vl, xs = [pay v] ∧ lgOk v ∧ Q (.str (sv v)) H
theorem call_strA {X : Cx} : CallR X (.type "str") rStrA := by
  intro pins s σ H xs us Q I r h
  obtain ⟨v, rfl, hz, q⟩ := h
  cases v with
  | int n => exact call_str_int pins s σ H _ us Q I r ⟨n, rfl, hz, q⟩
  | fn n => exact call_str_int pins s σ H _ us Q I r ⟨n, rfl, hz, q⟩
  | ref n => exact call_str_int pins s σ H _ us Q I r ⟨n, rfl, hz, q⟩
  | txt n =>
    obtain ⟨u, rfl, t, rfl⟩ := vals1 r
    exact PySem.P.str_of_str ⟨.str n, H, I, ⟨t, rfl⟩, q⟩
  | null =>
    obtain ⟨u, rfl, t, rfl⟩ := vals1 r
    exact PySem.P.str_of_str ⟨.str "null", H, I, ⟨t, rfl⟩, q⟩
  | bool b =>
    obtain ⟨u, rfl, r1⟩ := vals1 r
    cases r1
    exact PySem.P.str_of_bool ⟨.str _, H, I.tok _, ⟨_, rfl⟩, q⟩
theorem at9 {v : Vl} : atI (enc v) (-1) = some (pay v) := by cases v <;> rfl
theorem sz40 {n : Nat} (h : n ≤ 100000) : n ≤ sizeLine := by rw [sizeLine_eq]; omega
theorem sv_len {v : Vl} (h : vOk v) (hr : isRef v = false) : (sv v).length ≤ 40 := by
  have l := h.len
  rw [cod_len] at l
  cases v with
  | int n => exact l
  | fn n =>
    have l' : ((("fun " : Str) ++ toString n ++ "()").length) ≤ 40 := l
    rw [len_app, len_app] at l'
    show (toString n : Str).length ≤ 40
    omega
  | ref n => cases hr
  | txt n =>
    have l' : ((("'" : Str) ++ n ++ "'").length) ≤ 40 := l
    rw [len_app, len_app] at l'
    show n.length ≤ 40
    omega
  | null => decide +kernel
  | bool b => cases b <;> decide +kernel
def rowsK (v : Vl) : List (Key × V) := [(Sum.inr "int", .str (sv v)), (Sum.inr "text", .str (("'" : Str) ++ sv v ++ "'")), (Sum.inr "null", .str "null"), (Sum.inr "bool", .str "true"), (Sum.inr "fun", .str (("fun " : Str) ++ sv v ++ "()"))]
theorem rows_val {v : Vl} (hr : isRef v = false) (hb : v ≠ .bool false) : valV (mergeK [] (rowsK v)) (Sum.inr (tag v) : Key) = some (.str (plain v)) := by
  cases v with
  | int n => rfl
  | fn n => rfl
  | ref n => cases hr
  | txt n => rfl
  | null => rfl
  | bool b =>
    cases b
    · exact absurd rfl hb
    · rfl
def endK (a b c : Str) : List (Key × V) := [(Sum.inr "list", .str a), (Sum.inr "object", .str b), (Sum.inr "closure", .str c)]
theorem end_val (a b c : Str) (k : Kd) : valV (mergeK [] (endK a b c)) (Sum.inr (kd k) : Key) = some (.str (match k with | .lst => a | .obj => b | .clo => c)) := by
  cases k <;> rfl
/-! ### the law's graph -/
theorem gl_of {cs : List Cl} {a : Int} {c : Cl} (h0 : 0 ≤ a) (h : cs[a.toNat]? = some c) : gl cs a = some c := by
  unfold gl
  rw [if_pos h0, h]
theorem gl_get {cs : List Cl} {a : Int} {c : Cl} (h : gl cs a = some c) : 0 ≤ a ∧ a < cs.length ∧ cs[a.toNat]? = some c := by
  unfold gl at h
  by_cases h0 : 0 ≤ a
  · rw [if_pos h0] at h
    have := (List.getElem?_eq_some_iff.mp h).1
    exact ⟨h0, by omega, h⟩
  · rw [if_neg h0] at h
    cases h
theorem gl_dom {cs : List Cl} {a : Int} (h : (gl cs a).isSome = true) : 0 ≤ a ∧ a < cs.length := by
  cases e : gl cs a with
  | none => rw [e] at h; cases h
  | some c => obtain ⟨x, y, _⟩ := gl_get e; exact ⟨x, y⟩
theorem gl_ok {cs : List Cl} (W : WF cs) : Gok (gl cs) cs.length := by
  refine ⟨by have := W.n12; omega, fun a c h => ?_, fun m nd dm => ?_⟩
  · exact W.ok c (List.mem_of_getElem? (gl_get h).2.2)
  · have := nd_len (D := dom cs.length) nd fun a ha => mem_dom.mpr (gl_dom (dm a ha))
    rwa [dom_len] at this
theorem Dmp.mono {g : Int → Option Cl} {n its m sg m'} (d : Dmp g n its m sg m') : m.length ≤ m'.length := by
  induction d with
  | nil => exact Nat.le_refl _
  | s _ ih => exact ih
  | v o _ ih =>
    rcases opn_cases o with ⟨a, _, _, _, rfl⟩ | ⟨a, c, _, _, _, _, rfl⟩ | ⟨_, _, rfl⟩
    · exact ih
    · rw [List.length_append] at ih
      omega
    · exact ih
theorem joinL_snoc (S : List Nat) (p : List Nat) : ∀ ps : List (List Nat), TL.joinL S (ps ++ [p]) = TL.joinL S ps ++ ((if ps.length > 0 then S else []) ++ p)
  | [] => rfl
  | [q] => rfl
  | q :: r :: t => by
    have ih := joinL_snoc S p (r :: t)
    show q ++ (S ++ TL.joinL S (r :: t ++ [p])) = (q ++ (S ++ TL.joinL S (r :: t))) ++ (S ++ p)
    rw [ih]
    show q ++ (S ++ (TL.joinL S (r :: t) ++ (S ++ p))) = _
    simp only [List.append_assoc]
theorem cod_app (a b : Str) : cod (a ++ b) = cod a ++ cod b := TL.tl_append a b
theorem cod_joinS (y : Str) (ys : List Str) : cod (Txt.join y ys) = TL.joinL (cod y) (ys.map cod) := by
  show TL.tl _ = _
  rw [TL.join_eq, TL.tl_join]
theorem mk_cod (x : Str) : mkS (cod x) = x := (mkS_cod rfl).symm
theorem str_assoc (a b c : Str) : a ++ b ++ c = a ++ (b ++ c) := by
  rw [← mk_cod (a ++ b ++ c), ← mk_cod (a ++ (b ++ c)), cod_app, cod_app, cod_app, cod_app, List.append_assoc]
theorem sep_cod (n : Nat) : cod (sep n) = if n > 0 then cod ", " else [] := by
  unfold sep
  split <;> rfl
/-- one value more of a cell -/
theorem Dmp.betw {g : Int → Option Cl} {nms : List Str} {vs : List Vl} {v : Vl} {n k : Nat} {m m1 m2 : List Int} {ys : List Str} {sg : List Nat} (d : Dmp g n (betw nms 0 vs) m (TL.joinL (cod ", ") (ys.map cod)) m1) (e : ys.length = vs.length) (h : Dmp g k [.v v] m1 sg m2) :
    Dmp g (n + (k + 1)) (K4.betw nms 0 (vs ++ [v])) m (TL.joinL (cod ", ") ((ys ++ [nmOf nms vs.length ++ mkS sg]).map cod)) m2 := by
  have h1 : Dmp g (k + 1) [.s (sep (0 + vs.length) ++ nmOf nms (0 + vs.length)), .v v] m1 (cod (sep (0 + vs.length) ++ nmOf nms (0 + vs.length)) ++ sg) m2 := .s h
  rw [Nat.zero_add] at h1
  have h2 := d.app h1
  rw [betw_snoc, Nat.zero_add, List.map_append]
  show Dmp g _ _ _ (TL.joinL (cod ", ") (ys.map cod ++ [cod (nmOf nms vs.length ++ mkS sg)])) _
  rw [joinL_snoc, cod_app, cod_mkS, List.length_map, e, ← sep_cod, ← List.append_assoc (cod (sep vs.length)), ← cod_app]
  exact h2
section
variable {P : Program} {w : World} {K : PySem.W.Frag} {mg : Str → Option Value} {base : Heap} {CW CD : Addr}
/-- the cells stand apart from the list mt -/
def CsN (mt : Addr) (H : Hp) (l : Addr) (cs : List Cl) : Prop := l ≠ mt ∧ ∃ ps : List Addr, H l = some (.lst (ps.map V.ref)) ∧ Paired (CAtN mt H) ps cs
theorem CsN.kp {mt l : Addr} {H H' : Hp} {cs : List Cl} (nt : NT (fun b => b = mt) H) (k : Kp (fun b => b = mt) H H') (h : CsN mt H l cs) : CsN mt H' l cs := by
  obtain ⟨a, ps, b, c⟩ := h
  exact ⟨a, ps, k _ _ b a, Paired.mono (fun _ _ h => CAtN.kp nt k h) c⟩
theorem CsN.to {mt l : Addr} {H : Hp} {cs : List Cl} (h : CsN mt H l cs) : CsAt H l cs := by
  obtain ⟨a, ps, b, c⟩ := h
  exact ⟨ps, b, Paired.mono (fun _ _ h => CAtN.to h) c⟩
theorem CsN.get {mt l : Addr} {H : Hp} {cs : List Cl} (h : CsN mt H l cs) {a : Int} {c : Cl} (h0 : 0 ≤ a) (hc : cs[a.toNat]? = some c) : ∃ (ps : List Addr) (p vl : Addr), H l = some (.lst (ps.map V.ref)) ∧ atI (ps.map V.ref) a = some (.ref p) ∧ H p = some (.tup [.str (kd c.kind), .int c.f, .ref vl]) ∧ LV H vl c.vs ∧ vl ≠ mt := by
  obtain ⟨_, ps, e, pr⟩ := h
  obtain ⟨p, hp, vl, x, y, z⟩ := pair_get pr hc
  refine ⟨ps, p, vl, e, ?_, y, z, x⟩
  have ea : a = ((a.toNat : Nat) : Int) := by omega
  rw [ea]
  exact atI_nat (map_get hp)
/-! ### _law_dump -/
def spLD (n : Nat) : Sp := fun vs H Q _ => ∃ l p mt cs v met, vs = [.ref l, .ref p, .ref mt] ∧ CsN mt H l cs ∧ WF cs ∧ Tru cs ∧ VAt H p v ∧ vOk v ∧ v ≠ .bool false ∧ (∀ a, v = .ref a → 0 ≤ a ∧ a < cs.length) ∧ H mt = some (.lst (met.map V.int)) ∧ Mok (gl cs) met ∧ cs.length < met.length + n ∧
  ∀ k sg met' H', Kp (fun b => b = mt) H H' → H' mt = some (.lst (met'.map V.int)) → Dmp (gl cs) k [.v v] met sg met' → Q (.str (mkS sg)) H'
theorem scLD : FnScope ["cells", "value", "met", "rows", "kind", "f", "values", "told", "t", "whole"] ["cells", "value", "met"] (C8.fnScope sLDump) := C8.fnScope_by (by decide +kernel)
theorem ok_ld (T : Txt K mg CW CD) : ∀ n, C8.Cal P w K mg base (n + 1) "_law_dump" (spLD n) []
  | 0 => by
    refine cal1 T.dLDump scLD (fun vs H Q E h => ?_) fun f cdv A outer s H vs Q E hr h => ?_
    · obtain ⟨_, _, _, _, _, _, rfl, _⟩ := h
      rfl
    obtain ⟨l, p, mt, cs, v, met, _, _, W, _, _, _, _, _, _, M, lt, _⟩ := h
    have := (gl_ok W).le met M.nd M.dom
    omega
  | n + 1 => by
    have ih := ok_ld T n
    refine cal1 T.dLDump scLD (fun vs H Q E h => ?_) fun f cdv A outer s H vs Q E hr h => ?_
    · obtain ⟨_, _, _, _, _, _, rfl, _⟩ := h
      rfl
    have hu : (A.deeper (envOfC (Str.ofString "_law_dump") (C8.fnScope sLDump) s.heap.objs.size f cdv)).units + 1 < cLine := by have := hr.units; omega
    obtain ⟨l, p, mt, cs, v, met, rfl, C, W, tr, hv, vok, vnb, vrf, hm, M, lt, q⟩ := h
    refine ⟨_, pss_cons (ps_if (pt_cmpR op_ne (pe_ix ix_tup (pv 1) pe_int (fun _ _ => rfl)) pe_str (nomark _))
        (pss_cons (ps_set (i := 3) scLD.nd rfl (Or.inl rfl) (pe_disp
          (pps_cons pe_str (pe_callTy call_strA (by rfl) T.zStr (by decide +kernel) (pa_cons (pe_ix ix_tup (pv 1) (pe_un un_neg pe_int) (fun _ _ => rfl)) pa_nil))
          (pps_cons pe_str (pe_op op_add_str (pe_op op_add_str pe_str (pe_callTy call_strA (by rfl) T.zStr (by decide +kernel) (pa_cons (pe_ix ix_tup (pv 1) (pe_un un_neg pe_int) (fun _ _ => rfl)) pa_nil))) pe_str)
          (pps_cons pe_str pe_str (pps_cons pe_str pe_str
          (pps_cons pe_str (pe_op op_add_str (pe_op op_add_str pe_str (pe_callTy call_strA (by rfl) T.zStr (by decide +kernel) (pa_cons (pe_ix ix_tup (pv 1) (pe_un un_neg pe_int) (fun _ _ => rfl)) pa_nil))) pe_str) pps_nil))))) (by rfl) (by rfl) (by intro e; cases e) (by decide)))
        (pss_one (ps_ret (pe_dget hu (pv 3) (pe_ix ix_tup (pv 1) pe_int (fun _ _ => rfl)) (fun _ _ => rfl))))) pss_nil)
      (pss_cons (ps_if (pt_cmpR op_in_seq (pe_ix ix_tup (pv 1) pe_int (fun _ _ => rfl)) (pv 2) rfl)
        (pss_one (ps_ret (pe_op op_add_str pe_str (pe_callTy call_str_int (by rfl) T.zStr (by decide +kernel) (pa_cons (pe_bm PySem.F.plainAttrs_list PySem.F.slot_list_index PySem.F.type_list_index mt_index (pv 2) (pa_cons (pe_ix ix_tup (pv 1) pe_int (fun _ _ => rfl)) pa_nil)) pa_nil))))) pss_nil)
      (pss_cons (ps_expr (pe_bm PySem.F.plainAttrs_list PySem.F.slot_list_append PySem.F.type_list_append mt_append (pv 2) (pa_cons (pe_ix ix_tup (pv 1) pe_int (fun _ _ => rfl)) pa_nil)))
      (pss_cons (ps_asg (pe_ix ix_list (pv 0) (pe_ix ix_tup (pv 1) pe_int (fun _ _ => rfl)) (fun _ _ => rfl)) (pg_tup rfl (pgs_cons (pg_name (i := 4) scLD.nd rfl (.inl rfl)) (pgs_cons (pg_name (i := 5) scLD.nd rfl (.inl rfl)) (pgs_cons (pg_name (i := 6) scLD.nd rfl (.inl rfl)) pgs_nil)))))
      (pss_cons (ps_set (i := 7) scLD.nd rfl (Or.inl rfl) (pe_lst pa_nil))
      (pss_cons (ps_for PassesOwn.never rfl (pi_range1 rfl T.zRange (pa_cons (pe_callB call_len_seq rfl T.zLen PySem.boot_len (pa_cons (pv 6) pa_nil)) pa_nil)) (pg_name (i := 8) scLD.nd rfl (Or.inl rfl))
        (pss_one (ps_expr (pe_bm PySem.F.plainAttrs_list PySem.F.slot_list_append PySem.F.type_list_append mt_append (pv 7) (pa_cons (pe_op op_add_str
          (pe_ix ix_list (pe_lst (pa_cons pe_str (pa_cons (pe_op op_add_str (pe_ix ix_str pe_str (pv 8) (fun _ _ => rfl)) pe_str) pa_nil))) (pe_callTy call_int1 (by rfl) T.zInt (by decide +kernel) (pa_cons (pe_cmpR op_eq (pv 4) pe_str (nomark _)) pa_nil)) (fun _ _ => rfl))
          (C8.pe_c ih hr (by omega) rfl (pa_cons (pv 0) (pa_cons (pe_ix ix_list (pv 6) (pv 8) (fun _ _ => rfl)) (pa_cons (pv 2) pa_nil))))) pa_nil)))))
      (pss_cons (ps_set (i := 9) scLD.nd rfl (Or.inl rfl) (pe_join pe_str (pv 7)))
      (pss_one (ps_ret (pe_dget hu (pe_disp
          (pps_cons pe_str (pe_op op_add_str (pe_op op_add_str pe_str (pv 9)) pe_str)
          (pps_cons pe_str (pe_op op_add_str (pe_op op_add_str pe_str (pv 9)) pe_str)
          (pps_cons pe_str (pe_op op_add_str (pe_op op_add_str (pe_op op_add_str (pe_op op_add_str pe_str (pe_callTy call_str_int (by rfl) T.zStr (by decide +kernel) (pa_cons (pv 5) pa_nil))) pe_str) (pv 9)) pe_str) pps_nil))) (by rfl) (by rfl) (by intro e; cases e) (by decide)) (pv 4) (fun _ _ => rfl)))))))))), ?_⟩
    have nt : NT (fun b => b = mt) H := fun b hb xs e => by
      subst hb
      rw [hm] at e
      cases e
    have G := gl_ok W
    have n12 := W.n12
    have ml := G.le met M.nd M.dom
    refine ⟨_, rfl, p, _, _, _, rfl, rfl, hv.sq, at0, rfl, _, rfl, ?_⟩
    rw [dec_ref v]
    cases hr0 : isRef v with
    | false =>
      have lg : lgOk v := by
        cases v with
        | int n => exact log_ok vok.num
        | fn n => exact log_ok vok.num
        | ref n => cases hr0
        | _ => exact True.intro
      have sl := sv_len vok hr0
      have e1 : ("'" : Str).length = 1 := by decide +kernel
      have e2 : ("fun " : Str).length = 4 := by decide +kernel
      have e3 : ("()" : Str).length = 2 := by decide +kernel
      refine iteT fun D hD => ?_
      have s1 : Same H (upd H D (.dK [])) := same_new hD _
      have hv1 := hv.same s1
      refine ⟨_, rfl, _, rfl, p, _, _, _, rfl, rfl, hv1.sq, at9, v, rfl, lg, ?_⟩
      refine ⟨_, rfl, _, rfl, p, _, _, _, rfl, rfl, hv1.sq, at9, v, rfl, lg, _, _, rfl, rfl, sz40 (by omega), _, _, rfl, rfl, sz40 (by rw [len_app]; omega), ?_⟩
      refine ⟨_, rfl, _, rfl, p, _, _, _, rfl, rfl, hv1.sq, at9, v, rfl, lg, _, _, rfl, rfl, sz40 (by omega), _, _, rfl, rfl, sz40 (by rw [len_app]; omega), ?_⟩
      refine ⟨upd_same, rowsK v, rfl, by show 5 ≤ 15; decide, ?_⟩
      have s2 : Same H (upd (upd H D (.dK [])) D (.dK (mergeK [] (rowsK v)))) := fun b o e => by
        rw [upd_ne (ne_of_none e hD)]
        exact s1 _ _ e
      refine ⟨_, rfl, _, rfl, p, _, _, _, rfl, rfl, (hv.same s2).sq, at0, D, _, rfl, dget upd_same (rows_val hr0 vnb), ?_⟩
      have z := q 2 (cod (plain v)) met _ (fun b o e _ => s2 b o e) (s2 _ _ hm) (.v (opn_plain hr0) Dmp.one)
      rw [mk_cod] at z
      exact z
    | true =>
      obtain ⟨a, rfl⟩ : ∃ a, v = .ref a := by
        cases v with
        | ref a => exact ⟨a, rfl⟩
        | _ => cases hr0
      obtain ⟨a0, a1⟩ := vrf a rfl
      refine iteF ⟨_, rfl, p, _, _, _, rfl, rfl, hv.sq, at1 (by intro e; cases e), _, rfl, mt, _, rfl, .inl (SqL.of hm), rfl, flat_ints _, _, rfl, ?_⟩
      show if inV (V.int a) (met.map V.int) = true then _ else _
      rw [inV_ints]
      by_cases ha : a ∈ met
      · rw [decide_eq_true ha]
        obtain ⟨g1, g2⟩ := ixOf_get ha
        have il := ixOf_lt ha
        have nl := num_len (ixOf a met) (by omega)
        refine iteT ⟨_, rfl, .inl ⟨rfl, _, SqL.of hm⟩, _, rfl, p, _, _, _, rfl, rfl, hv.sq, at1 (by intro e; cases e), mt, _, _, ixOf a met, V.int a, rfl, rfl, SqL.of hm, rfl, flat_ints _, ?_, by simp [eqV, pay], ?_, _, rfl, log_ok ?_, _, _, rfl, rfl, ?_, ?_⟩
        · rw [List.getElem?_map, g1]
          rfl
        · intro j z' hj hz
          rw [List.getElem?_map] at hz
          obtain ⟨z, hz2, rfl⟩ := Option.map_eq_some_iff.mp hz
          have := g2 j z hj hz2
          simp [eqV, pay, this]
        · have : ixOf a met < 100 := by omega
          omega
        · rw [cod_len, len_app] at nl
          exact sz40 (by omega)
        · have z := q 2 (cod (("#" : Str) ++ toString ((ixOf a met : Nat) : Int))) met H (fun b o e _ => e) hm (.v (opn_ref_met ha) Dmp.one)
          rw [mk_cod] at z
          exact z
      · rw [decide_eq_false ha]
        obtain ⟨c, gc, ec, hc⟩ := gl_some a0 a1
        have ok := W.ok c hc
        have c4 := ok.le
        have M0 : Mok (gl cs) (met ++ [a]) := (opn_ok G (opn_ref_new ha gc) vok M).2.1
        have ml0 := G.le _ M0.nd M0.dom
        have el : (met ++ [a]).length = met.length + 1 := by rw [List.length_append]; rfl
        let H1 : Hp := upd H mt (.lst (met.map V.int ++ [V.int a]))
        have m1 : H1 mt = some (.lst ((met ++ [a]).map V.int)) := by
          show (upd H mt _) mt = _
          rw [upd_same, List.map_append]
          rfl
        have k1 : Kp (fun b => b = mt) H H1 := kp_upd (fun b o e _ => e) rfl
        have nt1 : NT (fun b => b = mt) H1 := fun b hb xs e => by
          subst hb
          rw [m1] at e
          cases e
        have C1 : CsN mt H1 l cs := C.kp nt k1
        have v1 : VAt H1 p (.ref a) := hv.kp nt k1
        refine iteF ⟨_, rfl, .inl ⟨rfl, _, SqL.of hm⟩, _, rfl, p, _, _, _, rfl, rfl, hv.sq, at1 (by intro e; cases e), mt, _, _, rfl, rfl, hm, by rw [List.length_map]; exact small1000 (by omega), ?_⟩
        obtain ⟨psx, pc, vl, y1, y2, y3, y4, vlm⟩ := C1.get a0 ec
        obtain ⟨pv4, y5, y6⟩ := id y4
        refine ⟨_, rfl, _, rfl, p, _, _, _, rfl, rfl, v1.sq, at1 (by intro e; cases e), l, _, _, _, rfl, rfl, SqL.of y1, y2, pc, _, rfl, SqT.of y3, rfl, _, _, rfl, _, _, rfl, _, _, rfl, rfl, ?_⟩
        refine ⟨by show 0 ≤ sizeLine; decide, fun F hF => ?_⟩
        have s2 : Same H1 (upd H1 F (.lst [])) := same_new hF _
        have lv : (pv4.map V.ref).length = c.vs.length := by rw [List.length_map, y6.length]
        have Fm : F ≠ mt := fun z => by
          have hF' : H1 F = none := hF
          rw [z, m1] at hF'
          cases hF'
        refine ⟨_, rfl, vl, _, rfl, .inl (SqL.of (s2 _ _ y5)), _, rfl, by omega, by omega, ?_⟩
        have en : (((pv4.map V.ref).length : Nat) : Int).toNat = c.vs.length := by rw [lv]; omega
        rw [en]
        refine for_range (lo := 0) (n := c.vs.length) (fun i σ H3 => ∃ (o3 o8 o9 : Option V) (ys : List Str) (mi : List Int) (n' : Nat), σ = [some (.ref l), some (.ref p), some (.ref mt), o3, some (.str (kd c.kind)), some (.int c.f), some (.ref vl), some (.ref F), o8, o9] ∧ Kp (fun b => b = mt) H1 H3 ∧
            H3 mt = some (.lst (mi.map V.int)) ∧ H3 F = some (.lst (ys.map V.str)) ∧ ys.length = i ∧ Dmp (gl cs) n' (betw (nmsOf c) 0 (c.vs.take i)) (met ++ [a]) (TL.joinL (cod ", ") (ys.map cod)) mi ∧ (ys.map (·.length)).sum ≤ 6000 * i)
          ⟨none, none, none, [], met ++ [a], 0, rfl, fun b o e _ => s2 b o e, s2 _ _ m1, upd_same, rfl, .nil, Nat.le_refl _⟩ ?_ ?_
        · rintro i σ H3 hi ⟨o3, o8, o9, ys, mi, n', rfl, k3, m3, f3, yl, D3, sm⟩
          rw [Int.zero_add]
          have Mi : Mok (gl cs) mi := (D3.size G M0 (betw_ok fun v hv => ok.vs v (List.mem_of_mem_take hv))).2
          have mil := D3.mono
          have miG := G.le _ Mi.nd Mi.dom
          have ev : c.vs[i]? = some c.vs[i] := List.getElem?_eq_getElem hi
          generalize c.vs[i] = v2 at ev
          have hv2 := List.mem_of_getElem? ev
          obtain ⟨p2, ep2, hp2⟩ := pair_get y6 ev
          have nx : nmOf (nmsOf c) i = if c.kind = .obj then nm i ++ ": " else "" := by
            unfold nmOf nmsOf
            cases c.kind with
            | obj =>
              have e1 : (names c.vs.length).getD i "" = nm i := by
                unfold names
                rw [List.getD_eq_getElem?_getD, List.getElem?_map, List.getElem?_range hi]
                rfl
              have e2 : (names c.vs.length).length > 0 := by rw [names_length]; omega
              show (if (names c.vs.length).length > 0 then (names c.vs.length).getD i "" ++ ": " else "") = _
              rw [if_pos e2, e1, if_pos rfl]
            | lst => rfl
            | clo => rfl
          refine ⟨_, rfl, .inl ⟨rfl, _, SqL.of f3⟩, _, rfl, "pqrst", i, 112 + i, rfl, rfl, by decide +kernel, ?_, _, _, rfl, rfl, ?_, ?_⟩
          · have hi4 : i < 4 := by omega
            revert hi4
            generalize i = j
            intro hj
            match j with
            | 0 => decide +kernel
            | 1 => decide +kernel
            | 2 => decide +kernel
            | 3 => decide +kernel
            | n + 4 => omega
          · have : (": " : Str).length = 2 := by decide +kernel
            exact sz40 (by show 1 + _ ≤ _; omega)
          refine ⟨by show 2 ≤ sizeLine; decide, fun L hL => ?_⟩
          have s4 : Same H3 (upd H3 L (.lst [.str "", .str (nm i ++ ": ")])) := same_new hL _
          refine ⟨_, rfl, rfl, .inr ⟨_, rfl, ?_⟩⟩
          rw [kd_obj]
          have ix : atI [V.str "", V.str (nm i ++ ": ")] (if decide (c.kind = .obj) = true then 1 else 0) = some (.str (nmOf (nmsOf c) i)) := by
            rw [nx]
            by_cases hk : c.kind = .obj
            · rw [decide_eq_true hk, if_pos rfl, if_pos hk]
              rfl
            · rw [decide_eq_false hk, if_neg (by decide), if_neg hk]
              rfl
          refine ⟨L, _, _, _, rfl, rfl, SqL.of upd_same, ix, ?_⟩
          have nt3 : NT (fun b => b = mt) H3 := fun b hb xs e => by
            subst hb
            rw [m3] at e
            cases e
          have k13 : Kp (fun b => b = mt) H1 (upd H3 L (.lst [.str "", .str (nm i ++ ": ")])) := fun b o e hb => s4 _ _ (k3 b o e hb)
          refine ⟨_, rfl, _, rfl, _, rfl, vl, _, _, _, rfl, rfl, SqL.of (k13 _ _ y5 vlm), atI_nat (map_get ep2), _, rfl, l, p2, mt, cs, v2, mi, rfl, C1.kp nt1 k13, W, tr, hp2.kp nt1 k13, ok.vs v2 hv2, tr c hc v2 hv2, ?_, s4 _ _ m3, Mi, by omega, fun k sg met2 H5 k5 m5 D5 => ?_⟩
          · intro b e
            exact W.rf c hc b (by rw [← e]; exact hv2)
          have sl := (D5.size G Mi fun i hi => by rw [List.mem_singleton.mp hi]; exact ok.vs v2 hv2).1
          have sl1 : sg.length ≤ 5000 := by
            have : wt [.v v2] = 50 := rfl
            omega
          have sl2 : (mkS sg).length = sg.length := rfl
          have nl : (nmOf (nmsOf c) i).length ≤ 3 := by
            have := nmOf_len c i
            rwa [cod_len] at this
          have f5 : H5 F = some (.lst (ys.map V.str)) := k5 _ _ (s4 _ _ f3) Fm
          refine ⟨_, _, rfl, rfl, sz40 (by omega), F, _, _, rfl, rfl, f5, by rw [List.length_map, yl]; exact small1000 (by omega), ?_⟩
          refine ⟨_, _, _, ys ++ [nmOf (nmsOf c) i ++ mkS sg], met2, n' + (k + 1), rfl, fun b o e hb => ?_, ?_, ?_, by rw [List.length_append, yl]; rfl, ?_, ?_⟩
          · rw [upd_ne (ne_of_none e hF)]
            exact k5 _ _ (k13 b o e hb) hb
          · rw [upd_ne Fm.symm]
            exact m5
          · rw [upd_same, List.map_append]
            rfl
          · rw [take_snoc ev]
            have il : (c.vs.take i).length = i := by rw [List.length_take]; omega
            have z := Dmp.betw D3 (yl.trans il.symm) D5
            rw [il] at z
            exact z
          · rw [List.map_append, sum_app]
            show _ + ((nmOf (nmsOf c) i ++ mkS sg).length + 0) ≤ _
            rw [len_app]
            omega
        · rintro σ H3 ⟨o3, o8, o9, ys, mi, n', rfl, k3, m3, f3, yl, D3, sm⟩
          have el2 : (", " : Str).length = 2 := by decide +kernel
          rw [List.take_length] at D3
          have sz := (D3.size G M0 (betw_ok fun v hv => ok.vs v hv)).1
          have bw := betw_wt c 0 c.vs
          have wl : (Txt.join ", " ys).length ≤ 6000 := by
            rw [← cod_len, cod_joinS]
            omega
          refine ⟨⟨_, rfl⟩, _, rfl, ", ", F, ys, rfl, rfl, .inl (SqL.of f3), ?_, ?_⟩
          · rw [el2]
            omega
          intro D hD
          have s4 : Same H3 (upd H3 D (.dK [])) := same_new hD _
          have z1 : ("[" : Str).length = 1 := by decide +kernel
          have z2 : ("]" : Str).length = 1 := by decide +kernel
          have z3 : ("{" : Str).length = 1 := by decide +kernel
          have z4 : ("}" : Str).length = 1 := by decide +kernel
          have z5 : ("fun " : Str).length = 4 := by decide +kernel
          have z6 : ("(" : Str).length = 1 := by decide +kernel
          have z7 : (")" : Str).length = 1 := by decide +kernel
          have tl : (toString c.f : Str).length ≤ 1921 := len_1921 (log_ok ok.fb)
          refine ⟨_, rfl, _, _, rfl, rfl, sz40 (by omega), _, _, rfl, rfl, sz40 (by rw [len_app]; omega), ?_⟩
          refine ⟨_, rfl, _, _, rfl, rfl, sz40 (by omega), _, _, rfl, rfl, sz40 (by rw [len_app]; omega), ?_⟩
          refine ⟨_, rfl, _, rfl, log_ok ok.fb, _, _, rfl, rfl, sz40 (by omega), _, _, rfl, rfl, sz40 (by rw [len_app]; omega), _, rfl, _, _, rfl, rfl, sz40 (by rw [len_app, len_app]; omega), _, _, rfl, rfl, sz40 (by rw [len_app, len_app, len_app]; omega), ?_⟩
          refine ⟨upd_same, endK _ _ _, rfl, by show 3 ≤ 15; decide, ?_⟩
          have s5 : Same H3 (upd (upd H3 D (.dK [])) D (.dK (mergeK [] (endK (("[" : Str) ++ Txt.join ", " ys ++ "]") (("{" : Str) ++ Txt.join ", " ys ++ "}") (("fun " : Str) ++ toString c.f ++ "(" ++ Txt.join ", " ys ++ ")"))))) := fun b o e => by
            rw [upd_ne (ne_of_none e hD)]
            exact s4 _ _ e
          refine ⟨_, rfl, D, _, rfl, dget (k := Sum.inr (kd c.kind)) upd_same (end_val _ _ _ c.kind), ?_⟩
          have D6 : Dmp (gl cs) (n' + 1 + 1) (pieces c) (met ++ [a]) (cod (opener c) ++ (TL.joinL (cod ", ") (ys.map cod) ++ cod (closer c))) mi := .s (D3.app Dmp.one)
          have D7 : Dmp (gl cs) (n' + 1 + 1 + 1) [.v (.ref a)] met (cod (opener c) ++ (TL.joinL (cod ", ") (ys.map cod) ++ cod (closer c))) mi := .v (opn_ref_new ha gc) (by rw [List.append_nil]; exact D6)
          have z := q _ _ mi _ (fun b o e hb => s5 _ _ (k3 _ _ (k1 b o e hb) hb)) (s5 _ _ m3) D7
          have ee : mkS (cod (opener c) ++ (TL.joinL (cod ", ") (ys.map cod) ++ cod (closer c))) = opener c ++ Txt.join ", " ys ++ closer c := by
            rw [← cod_joinS, ← cod_app, ← cod_app, mk_cod]
            exact (str_assoc _ _ _).symm
          rw [ee] at z
          unfold opener closer at z
          cases hk : c.kind with
          | lst => rw [hk] at z; exact z
          | obj => rw [hk] at z; exact z
          | clo => rw [hk] at z; exact z
end
end K4

namespace K4
open PySem PySem.Spec PyProof.Rows L2
section
variable {P : Program} {w : World} {K : PySem.W.Frag} {mg : Str → Option Value} {base : Heap} {CW CD : Addr}
/-! ### _law_dumps -/
def spLDs : Sp := fun vs H Q _ => ∃ l r0 cs xs, vs = [.ref l, .ref r0] ∧ CsAt H l cs ∧ WF cs ∧ Tru cs ∧ LV H r0 xs ∧ xs.length ≤ 100 ∧ (∀ v ∈ xs, vOk v ∧ v ≠ .bool false) ∧ (∀ b, Vl.ref b ∈ xs → 0 ≤ b ∧ b < cs.length) ∧
  ∀ r H' css met', Same H H' → H r = none → H' r = some (.lst (css.map fun c => .str (mkS c))) → Dmps (gl cs) xs [] css met' → Q (.ref r) H'
theorem scLDs : FnScope ["cells", "roots", "met", "value"] ["cells", "roots"] (C8.fnScope sLDumps) := C8.fnScope_by (by decide +kernel)
theorem CsAt.toN {H H' : Hp} {mt l : Addr} {cs : List Cl} (C : CsAt H l cs) (s : Same H H') (hn : H mt = none) : CsN mt H' l cs := by
  obtain ⟨ps, a, b⟩ := C
  refine ⟨ne_of_none a hn, ps, s _ _ a, Paired.mono (fun p c h => ?_) b⟩
  obtain ⟨vl, x, y⟩ := h
  obtain ⟨ps2, z, _⟩ := id y
  exact ⟨vl, ne_of_none z hn, s _ _ x, y.same s⟩
theorem ok_lds (T : Txt K mg CW CD) : C8.Cal P w K mg base 15 "_law_dumps" spLDs [] := by
  refine cal1 T.dLDumps scLDs (fun vs H Q E h => ?_) fun f cdv A outer s H vs Q E hr h => ?_
  · obtain ⟨_, _, _, _, rfl, _⟩ := h
    rfl
  obtain ⟨l, r0, cs, xs, rfl, C, W, tr, ⟨ps, hl, hv⟩, xl, vok, rf, q⟩ := h
  refine ⟨_, pss_cons (ps_set (i := 2) scLDs.nd rfl (Or.inr rfl) (pe_lst pa_nil))
    (pss_one (ps_ret (pe_lc (own := [("value", 3)]) (g := gName 3) (tt := tYes) rfl scLDs.nd (pi_list (pv 1)) (blkOk_by (N := ["cells", "roots", "met", "value"]) (sc := C8.fnScope sLDumps) (by decide +kernel)) (fun _ _ _ _ _ => pg_name (i := 3) scLDs.nd rfl (Or.inl rfl))
      (fun _ _ _ _ _ => pts_nil) (fun _ _ _ _ _ => C8.pe_c (ok_ld T 13) hr (by decide) rfl (pa_cons (pv 0) (pa_cons (pv 3) (pa_cons (pv 2) pa_nil))))))), ?_⟩
  refine ⟨by show 0 ≤ sizeLine; decide, fun m hm => ?_⟩
  have s1 : Same H (upd H m (.lst [])) := same_new hm _
  refine ⟨_, rfl, r0, rfl, ⟨_, SqL.of (s1 _ _ hl)⟩, fun D' hD => ?_⟩
  have len : (ps.map V.ref).length = xs.length := by rw [List.length_map, hv.length]
  have G := gl_ok W
  have n12 := W.n12
  have D0 : H D' = none := L2.Same.free s1 hD
  have m1 : (upd H m (.lst [])) m = some (.lst []) := upd_same
  have Dm : D' ≠ m := fun z => by rw [z, m1] at hD; cases hD
  refine lc_list (K := K) (a := r0) (xs := ps.map V.ref) (fun i H2 => Same H H2 ∧ ∃ css mi, H2 D' = some (.lst (css.map fun c => V.str (mkS c))) ∧ css.length = i ∧ Dmps (gl cs) (xs.take i) [] css mi ∧ H2 m = some (.lst (mi.map V.int)))
    ⟨Same.new s1 hD _, [], [], upd_same, rfl, .nil, (same_new hD _) _ _ m1⟩ (fun i H2 _ h => SqL.of (h.1 _ _ hl)) ?_ ?_
  · rintro i x H2 hi ⟨s2, css, mi, hd2, cl, Da, hm2⟩
    obtain ⟨p, v, rfl, _, ev, hp⟩ := hv.item hi
    have hil : i < xs.length := (List.getElem?_eq_some_iff.mp ev).1
    have M := Da.mok G Mok.nil fun v hv => (vok v (List.mem_of_mem_take hv)).1
    have vm := List.mem_of_getElem? ev
    refine ⟨rfl, ?_⟩
    refine ⟨_, rfl, _, rfl, _, rfl, l, p, m, cs, v, mi, rfl, C.toN s2 hm, W, tr, hp.same s2, (vok v vm).1, (vok v vm).2, (fun a e => rf a (by rw [← e]; exact vm)), hm2, M, by omega, fun k sg met' H3 k3 m3 D3 => ?_⟩
    have hd3 := k3 _ _ hd2 Dm
    refine ⟨_, hd3, ?_, fun b o e => ?_, css ++ [sg], met', ?_, by rw [List.length_append, cl]; rfl, ?_, ?_⟩
    · rw [List.length_map, cl]
      exact small1000 (by omega)
    · rw [upd_ne (ne_of_none e D0)]
      exact k3 _ _ (s2 _ _ e) (ne_of_none e hm)
    · rw [upd_same, List.map_append]
      rfl
    · rw [take_snoc ev]
      exact Da.snoc D3
    · rw [upd_ne Dm.symm]
      exact m3
  · rintro H2 ⟨s2, css, mi, hd2, cl, Da, hm2⟩
    rw [len, List.take_length] at Da
    exact q D' H2 css mi s2 D0 hd2 Da
end
end K4

namespace K4
open PySem PySem.Spec PyProof.Rows L2
/-! ### a world that is being made of the law's cells -/
def jk (c : Cl) : Prop := c.kind = .lst ∧ c.f = 0 ∧ ∃ t : Int, c.vs = [.int t] ∧ 0 ≤ t ∧ t < 3
structure TW (C : Addr) (H0 H : Hp) (A : WA) (S : WS) (tb : Addr) (kvs : List (Key × V)) (τ : Int → Int) (D : Int → Prop) (cur : Int → Cl) (n : Nat) : Prop where
  W : WorldAt C H A S
  sm : Same H0 H
  ow : ∀ b, Own A S.rows b → H0 b = none
  tb0 : H0 tb = none
  tb1 : H tb = some (.dK kvs)
  tbo : ¬ Own A S.rows tb
  kl : kvs.length ≤ n
  rl : S.rows.length ≤ n
  fb : S.fr ≤ n
  tv : ∀ a, D a → ∃ q, valV kvs (Sum.inl a : Key) = some (.ref q) ∧ VAt H q (.ref (τ a))
  inj : ∀ a b, D a → D b → τ a = τ b → a = b
  row : ∀ a, D a → ∃ r ∈ S.rows, r.a = τ a ∧ r.c = cur a
  jun : ∀ r ∈ S.rows, (∃ a, D a ∧ r.a = τ a) ∨ jk r.c
section
variable {C : Addr} {H0 H H' : Hp} {A : WA} {S : WS} {tb : Addr} {kvs : List (Key × V)} {τ : Int → Int} {D : Int → Prop} {cur : Int → Cl} {n : Nat}
theorem TW.like {D' : Int → Prop} {cur' : Int → Cl} {n' : Nat} (t : TW C H0 H A S tb kvs τ D cur n) (hD : ∀ a, D' a ↔ D a) (hc : ∀ a, D a → cur' a = cur a) (hn : n ≤ n') : TW C H0 H A S tb kvs τ D' cur' n' :=
  ⟨t.W, t.sm, t.ow, t.tb0, t.tb1, t.tbo, Nat.le_trans t.kl hn, Nat.le_trans t.rl hn, Int.le_trans t.fb (by omega), fun a h => t.tv a ((hD a).mp h), fun a b ha hb => t.inj a b ((hD a).mp ha) ((hD b).mp hb),
   fun a h => by obtain ⟨r, x, y, z⟩ := t.row a ((hD a).mp h); exact ⟨r, x, y, z.trans (hc a ((hD a).mp h)).symm⟩,
   fun r hr => (t.jun r hr).elim (fun ⟨a, x, y⟩ => .inl ⟨a, (hD a).mpr x, y⟩) .inr⟩
theorem TW.same (t : TW C H0 H A S tb kvs τ D cur n) (s : Same H H') : TW C H0 H' A S tb kvs τ D cur n :=
  ⟨t.W.same s, L2.Same.trans t.sm s, t.ow, t.tb0, s _ _ t.tb1, t.tbo, t.kl, t.rl, t.fb, fun a h => by obtain ⟨q, x, y⟩ := t.tv a h; exact ⟨q, x, y.same s⟩, t.inj, t.row, t.jun⟩
theorem TW.smk (t : TW C H0 H A S tb kvs τ D cur n) (k : Kp (Own A S.rows) H H') : Same H0 H' := fun b o e => k _ _ (t.sm _ _ e) fun z => by
  rw [t.ow b z] at e
  cases e
theorem own_add {c : Cl} {cl vl b : Addr} (h : Own A (addR S c cl vl).rows b) : Own A S.rows b ∨ b = cl ∨ b = vl := by
  rcases h with h | ⟨r, hr, h⟩
  · exact .inl (.inl h)
  · rcases List.mem_append.mp hr with z | z
    · exact .inl (.inr ⟨r, z, h⟩)
    · rw [List.mem_singleton.mp z] at h
      exact .inr h
theorem TW.addJ (t : TW C H0 H A S tb kvs τ D cur n) {c : Cl} {cl vl : Addr} (W' : WorldAt C H' A (addR S c cl vl)) (k : Kp (Own A S.rows) H H') (hc : H cl = none) (hv : H vl = none) (j : jk c) : TW C H0 H' A (addR S c cl vl) tb kvs τ D cur (n + 1) := by
  refine ⟨W', t.smk k, fun b hb => ?_, t.tb0, k _ _ t.tb1 t.tbo, fun z => ?_, Nat.le_succ_of_le t.kl, ?_, (by have := t.fb; show S.fr + 1 ≤ _; omega), fun a h => ?_, t.inj, fun a h => ?_, fun r hr => ?_⟩
  · rcases own_add hb with z | rfl | rfl
    · exact t.ow b z
    · exact L2.Same.free t.sm hc
    · exact L2.Same.free t.sm hv
  · rcases own_add z with z | rfl | rfl
    · exact t.tbo z
    · rw [t.tb1] at hc; cases hc
    · rw [t.tb1] at hv; cases hv
  · show (S.rows ++ [_]).length ≤ _
    rw [List.length_append]
    exact Nat.succ_le_succ t.rl
  · obtain ⟨q, x, y⟩ := t.tv a h
    exact ⟨q, x, y.kp t.W.nt k⟩
  · obtain ⟨r, x, y, z⟩ := t.row a h
    exact ⟨r, List.mem_append_left _ x, y, z⟩
  · rcases List.mem_append.mp hr with z | z
    · exact t.jun r z
    · rw [List.mem_singleton.mp z]
      exact .inr j
theorem TW.lt (t : TW C H0 H A S tb kvs τ D cur n) {a : Int} (h : D a) : τ a < S.fr := by
  obtain ⟨r, x, y, _⟩ := t.row a h
  rw [← y]
  exact (t.W.fr.2 r x).2
theorem TW.add (t : TW C H0 H A S tb kvs τ D cur n) {c : Cl} {cl vl q : Addr} {a : Int} (W' : WorldAt C H' A (addR S c cl vl)) (k : Kp (Own A S.rows) H H') (hc : H cl = none) (hv : H vl = none) (hq : VAt H' q (.ref S.fr)) (nd : ¬ D a) :
    TW C H0 (upd H' tb (.dK (putK kvs (Sum.inl a) (.ref q)))) A (addR S c cl vl) tb (putK kvs (Sum.inl a) (.ref q)) (fun x => if x = a then S.fr else τ x) (fun x => D x ∨ x = a) (fun x => if x = a then c else cur x) (n + 1) := by
  have tb1' : H' tb = some (.dK kvs) := k _ _ t.tb1 t.tbo
  have tbo' : ¬ Own A (addR S c cl vl).rows tb := fun z => by
    rcases own_add z with z | rfl | rfl
    · exact t.tbo z
    · have := t.tb1; rw [hc] at this; cases this
    · have := t.tb1; rw [hv] at this; cases this
  have nt : NT (fun b => b = tb) H' := fun b hb xs e => by
    subst hb
    rw [tb1'] at e
    cases e
  have kt : Kp (fun b => b = tb) H' (upd H' tb (.dK (putK kvs (Sum.inl a) (.ref q)))) := kp_upd (fun b o e _ => e) rfl
  have sm' := t.smk k
  refine ⟨W'.kpO nt kt fun b hb => by subst hb; exact tbo', fun b o e => ?_, fun b hb => ?_, t.tb0, upd_same, tbo', ?_, ?_, (by have := t.fb; show S.fr + 1 ≤ _; omega), fun x h => ?_, fun x y hx hy e => ?_, fun x h => ?_, fun r hr => ?_⟩
  · rw [upd_ne (ne_of_none e t.tb0)]
    exact sm' _ _ e
  · rcases own_add hb with z | rfl | rfl
    · exact t.ow b z
    · exact L2.Same.free t.sm hc
    · exact L2.Same.free t.sm hv
  · exact Nat.le_trans (length_putK kvs (Sum.inl a) (.ref q)) (Nat.succ_le_succ t.kl)
  · show (S.rows ++ [_]).length ≤ _
    rw [List.length_append]
    exact Nat.succ_le_succ t.rl
  · by_cases e : x = a
    · subst e
      refine ⟨q, by rw [valV_put, if_pos rfl], ?_⟩
      show VAt _ q (.ref (if x = x then S.fr else τ x))
      rw [if_pos rfl]
      exact hq.kp nt kt
    · obtain ⟨q', u, v⟩ := t.tv x (h.resolve_right e)
      refine ⟨q', by rw [valV_put, if_neg fun z => e (Sum.inl.inj z)]; exact u, ?_⟩
      show VAt _ q' (.ref (if x = a then S.fr else τ x))
      rw [if_neg e]
      exact (v.kp t.W.nt k).kp nt kt
  · have e : (if x = a then S.fr else τ x) = (if y = a then S.fr else τ y) := e
    by_cases ex : x = a
    · by_cases ey : y = a
      · exact ex.trans ey.symm
      · rw [if_pos ex, if_neg ey] at e
        have := t.lt (hy.resolve_right ey)
        omega
    · by_cases ey : y = a
      · rw [if_neg ex, if_pos ey] at e
        have := t.lt (hx.resolve_right ex)
        omega
      · rw [if_neg ex, if_neg ey] at e
        exact t.inj x y (hx.resolve_right ex) (hy.resolve_right ey) e
  · by_cases e : x = a
    · refine ⟨⟨S.fr, c, cl, vl⟩, List.mem_append_right _ List.mem_cons_self, ?_, ?_⟩
      · exact (if_pos e).symm
      · exact (if_pos e).symm
    · obtain ⟨r, u, v, z⟩ := t.row x (h.resolve_right e)
      exact ⟨r, List.mem_append_left _ u, v.trans (if_neg e).symm, z.trans (if_neg e).symm⟩
  · rcases List.mem_append.mp hr with z | z
    · rcases t.jun r z with ⟨x, hx, e⟩ | z
      · refine .inl ⟨x, .inl hx, e.trans (if_neg fun z => ?_).symm⟩
        subst z
        exact nd hx
      · exact .inr z
    · rw [List.mem_singleton.mp z]
      exact .inl ⟨a, .inr rfl, (if_pos rfl).symm⟩
theorem TW.upd (t : TW C H0 H A S tb kvs τ D cur n) {S' : WS} {c : Cl} {a : Int} (W' : WorldAt C H' A S') (e : S'.rows = updC S.rows (τ a) c) (ef : S'.fr = S.fr) (k : Kp (Own A S.rows) H H') (ha : D a) :
    TW C H0 H' A S' tb kvs τ D (fun x => if x = a then c else cur x) n := by
  have ow : ∀ {b}, Own A S'.rows b ↔ Own A S.rows b := fun {b} => by rw [e]; exact updC_own
  refine ⟨W', t.smk k, fun b hb => t.ow b (ow.mp hb), t.tb0, k _ _ t.tb1 t.tbo, fun z => t.tbo (ow.mp z), t.kl, ?_, (by rw [ef]; exact t.fb), fun x h => ?_, t.inj, fun x h => ?_, fun r hr => ?_⟩
  · rw [e]
    unfold updC
    rw [List.length_map]
    exact t.rl
  · obtain ⟨q, x, y⟩ := t.tv x h
    exact ⟨q, x, y.kp t.W.nt k⟩
  · obtain ⟨r, u, v, z⟩ := t.row x h
    by_cases ex : x = a
    · subst ex
      refine ⟨{ r with c := c }, ?_, v, (if_pos rfl).symm⟩
      rw [e]
      exact List.mem_map.mpr ⟨r, u, if_pos v⟩
    · refine ⟨r, ?_, v, z.trans (if_neg ex).symm⟩
      rw [e]
      exact List.mem_map.mpr ⟨r, u, if_neg fun w => ex (t.inj x a h ha (v.symm.trans w))⟩
  · rw [e] at hr
    obtain ⟨y, hy, e1, e2, e3, e4⟩ := updC_mem hr
    rcases e4 with ⟨e4, e5⟩ | ⟨e4, e5⟩
    · exact .inl ⟨a, ha, e1.trans e4⟩
    · rw [e5]
      exact t.jun y hy
end
/-! ### cells as a world has them -/
def nzc (c : Cl) : Cl := ⟨c.kind, if c.kind = .clo then c.f else 0, c.vs⟩
def cO (cs : List Cl) (a : Int) : Cl := (gl cs a).getD ⟨.lst, 0, []⟩
theorem cO_of {cs : List Cl} {a : Int} {c : Cl} (h : gl cs a = some c) : cO cs a = c := by unfold cO; rw [h]; rfl
theorem re_congr {t t' : Int → Int} {c : Cl} (h : ∀ b, Vl.ref b ∈ c.vs → t b = t' b) : c.re t = c.re t' := by
  unfold Cl.re
  congr 1
  refine List.map_congr_left fun v hv => ?_
  cases v with
  | ref b => show Vl.ref _ = Vl.ref _; rw [h b hv]
  | _ => rfl
end K4

namespace K4
open PySem PySem.Spec PyProof.Rows L2
section
variable {P : Program} {w : World} {K : PySem.W.Frag} {mg : Str → Option Value} {base : Heap} {CW CD : Addr}
theorem pq_get {i : Nat} (h : i < 4) : atI ("pqrst" : Str).cps.toList (i : Int) = some (112 + i) := by
  match i, h with
  | 0, _ => decide +kernel
  | 1, _ => decide +kernel
  | 2, _ => decide +kernel
  | 3, _ => decide +kernel
/-- what the row holds behind one value more -/
def cuX (cs : List Cl) (ord : List Int) (i : Nat) (c : Cl) (a : Int) (τ : Int → Int) : Nat → Int → Cl := fun j x => if x = a then (if c.kind = .clo then (nzc c).re τ else ⟨c.kind, 0, (c.vs.take j).map (Vl.re τ)⟩) else (if (cO cs x).kind = .clo ∨ x ∈ ord.take i then (nzc (cO cs x)).re τ else ⟨(cO cs x).kind, 0, []⟩)
theorem curS {cs : List Cl} {ord : List Int} {i : Nat} (c : Cl) (a : Int) (j : Nat) (τ : Int → Int) {v : Vl} {rc : Cl} (ev : c.vs[j]? = some v) (hk : c.kind ≠ .clo) (hr : rc = ⟨c.kind, 0, (c.vs.take j).map (Vl.re τ)⟩) (x : Int) :
    cuX cs ord i c a τ (j + 1) x = if x = a then more rc (v.re τ) else cuX cs ord i c a τ j x := by
  unfold cuX
  by_cases e : x = a
  · rw [if_pos e, if_pos e, if_neg hk, take_snoc ev, List.map_append, hr]
    rfl
  · rw [if_neg e, if_neg e, if_neg e]
theorem curC {cs : List Cl} {ord : List Int} {i : Nat} (c : Cl) (a : Int) (j : Nat) (τ : Int → Int) (hk : c.kind = .clo) (x : Int) : cuX cs ord i c a τ (j + 1) x = cuX cs ord i c a τ j x := by
  unfold cuX
  by_cases e : x = a
  · rw [if_pos e, if_pos e, if_pos hk, if_pos hk]
  · rw [if_neg e, if_neg e]
def spLW (C : Addr) : Sp := fun vs H Q _ => ∃ l o m cs, ∃ ord : List Int, vs = [.ref l, .ref o, .int m] ∧ CsAt H l cs ∧ WF cs ∧ Ahead cs ∧ H o = some (.lst (ord.map V.int)) ∧ ord.Nodup ∧ (∀ a, a ∈ ord ↔ 0 ≤ a ∧ a < cs.length) ∧ 0 ≤ m ∧ m < 3 ∧
  ∀ r H' A S tb kvs τ, H r = none → H' r = some (.tup [.ref A.p, .ref tb]) → TW C H H' A S tb kvs τ (fun a => 0 ≤ a ∧ a < cs.length) (fun a => (nzc (cO cs a)).re τ) 60 → Q (.ref r) H'
theorem scLW : FnScope ["cells", "order", "more", "world", "table", "a", "t", "kind", "f", "values", "told"] ["cells", "order", "more"] (C8.fnScope sLWorld) := C8.fnScope_by (by decide +kernel)
theorem ok_lw (T : Txt K mg CW CD) : C8.Cal P w K mg base 5 "_law_world" (spLW CW) [] := by
  refine cal1 T.dLWorld scLW (fun vs H Q E h => ?_) fun f cdv A0 outer s H vs Q E hr h => ?_
  · obtain ⟨_, _, _, _, _, rfl, _⟩ := h
    rfl
  obtain ⟨l, o, m, cs, ord, rfl, C, WF, AH, ho, ond, om, m0, m1, q⟩ := h
  have hu := hu_of hr
  obtain ⟨fI, fdI, psI, dsI, MI, FI, hmI, bI, dI⟩ := (ok_initW (P := P) (w := w) (base := base) T).ex
  refine ⟨_, pss_cons (ps_par (i := 3) (j := 4) (by rfl) scLW.nd rfl rfl (by decide) rfl rfl (pa_cons (pe_make0 MI FI (hr.mono (by decide)) rfl hmI bI dI (C8.pass0 (E := C8.E0))) (pa_cons pe_dnewK pa_nil)) (by rfl))
    (pss_cons (ps_for PassesOwn.never rfl (pi_list (pv 1)) (pg_name (i := 5) scLW.nd rfl (Or.inl rfl))
      (pss_cons (ps_for PassesOwn.never rfl (pi_range1 rfl T.zRange (pa_cons (pv 2) pa_nil)) (pg_name (i := 6) scLW.nd rfl (Or.inl rfl))
        (pss_one (ps_expr (C8.pe_mt (ok_newList T) hr (by decide) (pv 3) (pa_cons (pe_lst (pa_cons (pe_tup (pa_cons pe_str (pa_cons (pv 6) pa_nil))) pa_nil)) pa_nil)))))
      (pss_one (ps_if (pt_cmpR op_eq (pe_ix ix_tup (pe_ix ix_list (pv 0) (pv 5) (fun _ _ => rfl)) pe_int (fun _ _ => rfl)) pe_str (nomark _))
        (pss_one (ps_dput hu (pv 4) (pv 5) (C8.pe_mt (ok_newList T) hr (by decide) (pv 3) (pa_cons (pe_lst pa_nil) pa_nil)) rfl))
        (pss_one (ps_if (pt_cmpR op_eq (pe_ix ix_tup (pe_ix ix_list (pv 0) (pv 5) (fun _ _ => rfl)) pe_int (fun _ _ => rfl)) pe_str (nomark _))
          (pss_one (ps_dput hu (pv 4) (pv 5) (C8.pe_mt0 (ok_newObj T) hr (by decide) (pv 3)) rfl)) pss_nil))))))
    (pss_cons (ps_for PassesOwn.never rfl (pi_range1 rfl T.zRange (pa_cons (pe_callB call_len_seq rfl T.zLen PySem.boot_len (pa_cons (pv 0) pa_nil)) pa_nil)) (pg_name (i := 5) scLW.nd rfl (Or.inl rfl))
      (pss_cons (ps_asg (pe_ix ix_list (pv 0) (pv 5) (fun _ _ => rfl)) (pg_tup rfl (pgs_cons (pg_name (i := 7) scLW.nd rfl (.inl rfl)) (pgs_cons (pg_name (i := 8) scLW.nd rfl (.inl rfl)) (pgs_cons (pg_name (i := 9) scLW.nd rfl (.inl rfl)) pgs_nil)))))
      (pss_one (ps_if (pt_cmpR op_eq (pv 7) pe_str (nomark _))
        (pss_one (ps_dput hu (pv 4) (pv 5) (C8.pe_mt (ok_newClo T) hr (by decide) (pv 3) (pa_cons (pv 8) (pa_cons (C8.pe_c (ok_at T) hr (by decide) rfl (pa_cons (pv 4) (pa_cons (pv 9) pa_nil))) pa_nil))) rfl)) pss_nil))))
    (pss_cons (ps_for PassesOwn.never rfl (pi_list (pv 1)) (pg_name (i := 5) scLW.nd rfl (Or.inl rfl))
      (pss_cons (ps_asg (pe_ix ix_list (pv 0) (pv 5) (fun _ _ => rfl)) (pg_tup rfl (pgs_cons (pg_name (i := 7) scLW.nd rfl (.inl rfl)) (pgs_cons (pg_name (i := 8) scLW.nd rfl (.inl rfl)) (pgs_cons (pg_name (i := 9) scLW.nd rfl (.inl rfl)) pgs_nil)))))
      (pss_one (ps_for PassesOwn.never rfl (pi_range1 rfl T.zRange (pa_cons (pe_callB call_len_seq rfl T.zLen PySem.boot_len (pa_cons (pv 9) pa_nil)) pa_nil)) (pg_name (i := 6) scLW.nd rfl (Or.inl rfl))
        (pss_cons (ps_set (i := 10) scLW.nd rfl (Or.inl rfl) (pe_ix ix_list (pv 9) (pv 6) (fun _ _ => rfl)))
        (pss_cons (ps_if (pt_cmpR op_eq (pe_ix ix_tup (pv 10) pe_int (fun _ _ => rfl)) pe_str (nomark _))
          (pss_one (ps_set (i := 10) scLW.nd rfl (Or.inl rfl) (pe_dget hu (pv 4) (pe_ix ix_tup (pv 10) pe_int (fun _ _ => rfl)) (fun _ _ => rfl)))) pss_nil)
        (pss_one (ps_if (pt_cmpR op_eq (pv 7) pe_str (nomark _))
          (pss_one (ps_expr (C8.pe_mt (ok_append T) hr (by decide) (pv 3) (pa_cons (pe_dget hu (pv 4) (pv 5) (fun _ _ => rfl)) (pa_cons (pv 10) pa_nil)))))
          (pss_one (ps_if (pt_cmpR op_eq (pv 7) pe_str (nomark _))
            (pss_one (ps_expr (C8.pe_mt (ok_put T) hr (by decide) (pv 3) (pa_cons (pe_dget hu (pv 4) (pv 5) (fun _ _ => rfl)) (pa_cons (pe_ix ix_str pe_str (pv 6) (fun _ _ => rfl)) (pa_cons (pv 10) pa_nil))))))
            pss_nil))))))))))
    (pss_one (ps_ret (pe_tup (pa_cons (pv 3) (pa_cons (pv 4) pa_nil)))))))), ?_⟩
  have n12 := WF.n12
  have ol : ord.length ≤ cs.length := by
    have := nd_len (D := dom cs.length) ond fun a ha => mem_dom.mpr ((om a).mp ha)
    rwa [dom_len] at this
  obtain ⟨psC, eC, prC⟩ := id C
  refine fun wp wdx nw ndx ne => ⟨wp, wdx, rfl, upd_same, fun H1 A ep W1 keep own => ⟨rfl, fun tb htb => ?_⟩⟩
  subst ep
  have sm1 : Same H H1 := Same.made nw ndx keep
  have sm2 : Same H1 (upd H1 tb (.dK [])) := same_new htb _
  have ow0 : ∀ b, Own A ([] : List Row) b → H b = none := fun b hb => by
    rcases hb with hb | ⟨r, hr, _⟩
    · rcases own b hb with e | e
      · rw [e]; exact nw
      · cases z : H b with
        | none => rfl
        | some o' =>
          have z2 : (upd (upd H wdx (.own A.p)) A.p (.ins CW wdx [])) b = some o' := by
            rw [upd_ne (ne_of_none z nw), upd_ne (ne_of_none z ndx)]
            exact z
          rw [e] at z2
          cases z2
    · cases hr
  have tt0 : TW CW H (upd H1 tb (.dK [])) A ⟨[], [], [], 0⟩ tb [] (fun x => x) (fun _ => False) (fun _ => ⟨.lst, 0, []⟩) 0 :=
    ⟨W1.same sm2, L2.Same.trans sm1 sm2, ow0, L2.Same.free sm1 htb, upd_same, not_own W1 htb, Nat.le_refl _, Nat.le_refl _, Int.le_refl _, fun a h => h.elim, fun a b h => h.elim, fun a h => h.elim, fun r hr => by cases hr⟩
  have ho2 : ∀ {H2 : Hp}, Same H H2 → SqL K H2 o (ord.map V.int) := fun s => SqL.of (s _ _ ho)
  have kO : ∀ {a : Int} {c : Cl}, cs[a.toNat]? = some c → 0 ≤ a → cO cs a = c := fun e h0 => cO_of (gl_of h0 e)
  refine ⟨_, _, rfl, _, rfl, o, rfl, ⟨_, ho2 (L2.Same.trans sm1 sm2)⟩, ?_⟩
  -- the empty ones
  refine for_list (K := K) (a := o) (xs := ord.map V.int) (fun i σ H1 => ∃ (o5 o6 : Option V) (S : WS) (kvs : List (Key × V)) (τ : Int → Int), σ = [some (.ref l), some (.ref o), some (.int m), some (.ref A.p), some (.ref tb), o5, o6, none, none, none, none] ∧
      TW CW H H1 A S tb kvs τ (fun a => a ∈ ord.take i ∧ (cO cs a).kind ≠ .clo) (fun a => ⟨(cO cs a).kind, 0, []⟩) (3 * i))
    ⟨none, none, _, _, _, rfl, tt0.like (fun a => ⟨(fun h => by cases h.1), fun h => h.elim⟩) (fun a h => h.elim) (Nat.le_refl _)⟩ (fun i σ H1 _ ⟨_, _, _, _, _, _, t⟩ => ho2 t.sm) ?_ ?_
  · rintro i x σ H1 hi ⟨o5, o6, S, kvs, τ, rfl, t1⟩
    obtain ⟨a, ea, rfl⟩ : ∃ a, ord[i]? = some a ∧ V.int a = x := by
      rw [List.getElem?_map] at hi
      exact Option.map_eq_some_iff.mp hi
    have il := (List.getElem?_eq_some_iff.mp ea).1
    have am := List.mem_of_getElem? ea
    obtain ⟨a0, a1⟩ := (om a).mp am
    obtain ⟨c, gc, ec, hc⟩ := gl_some a0 a1
    have ck : cO cs a = c := cO_of gc
    have an : a ∉ ord.take i := fun z => by
      obtain ⟨j, hj⟩ := List.getElem?_of_mem z
      have jl : j < i := by
        have := (List.getElem?_eq_some_iff.mp hj).1
        rw [List.length_take] at this
        omega
      rw [List.getElem?_take, if_pos jl] at hj
      have := nd_ix ond hj ea
      omega
    refine ⟨_, rfl, m, rfl, by omega, by omega, ?_⟩
    refine for_range (lo := 0) (n := m.toNat) (fun j σ H2 => ∃ (o6 : Option V) (S : WS), σ = [some (.ref l), some (.ref o), some (.int m), some (.ref A.p), some (.ref tb), some (.int a), o6, none, none, none, none] ∧
        TW CW H H2 A S tb kvs τ (fun a => a ∈ ord.take i ∧ (cO cs a).kind ≠ .clo) (fun a => ⟨(cO cs a).kind, 0, []⟩) (3 * i + j))
      ⟨_, S, rfl, t1⟩ ?_ ?_
    · rintro j σ H2 hj ⟨o6, S, rfl, t2⟩
      obtain ⟨dx, fs, pr, h1, hl, h2⟩ := t2.W.ob
      have rl := t2.rl
      refine ⟨_, rfl, A.p, dx, fs, rfl, h1, (h2 _).trans (wl_no (by decide +kernel)), _, rfl, by show 2 ≤ sizeLine; decide, fun p1 hp1 => ⟨by show 1 ≤ sizeLine; decide, fun L hL => ?_⟩⟩
      have s1 : Same H2 (upd H2 p1 (.tup [.str "int", .int (0 + (j : Int))])) := same_new hp1 _
      have s2 := L2.Same.trans s1 (same_new hL (.lst [V.ref p1]))
      have t3 := t2.same s2
      refine ⟨A, S, L, [.int (0 + (j : Int))], rfl, t3.W, by omega, ⟨[p1], upd_same, .cons ((same_new hL (.lst [V.ref p1])) _ _ upd_same) .nil⟩, fun H3 cl vl q3 W3 k3 c3 v3 e3 => ?_⟩
      exact ⟨_, _, rfl, t3.addJ W3 k3 c3 v3 ⟨rfl, rfl, _, rfl, by omega, by omega⟩⟩
    · rintro σ H2 ⟨o6, S, rfl, t2⟩
      obtain ⟨dx, fs, pr, h1, hl, h2⟩ := t2.W.ob
      have rl := t2.rl
      have kl := t2.kl
      obtain ⟨psx, p, vl, y1, _, y2, y3, y4⟩ := (C.same t2.sm).get a0 ec
      have tk : ∀ x, x ∈ ord.take (i + 1) ↔ x ∈ ord.take i ∨ x = a := fun x => by
        rw [take_snoc ea, List.mem_append, List.mem_singleton]
      have step : ∀ {S' : WS} {kvs' : List (Key × V)} {H' : Hp}, c.kind ≠ .clo → TW CW H H' A S' tb kvs' (fun x => if x = a then S.fr else τ x) (fun x => (x ∈ ord.take i ∧ (cO cs x).kind ≠ .clo) ∨ x = a) (fun x => if x = a then ⟨c.kind, 0, []⟩ else ⟨(cO cs x).kind, 0, []⟩) (3 * i + m.toNat + 1) →
          TW CW H H' A S' tb kvs' (fun x => if x = a then S.fr else τ x) (fun x => x ∈ ord.take (i + 1) ∧ (cO cs x).kind ≠ .clo) (fun x => ⟨(cO cs x).kind, 0, []⟩) (3 * (i + 1)) := fun hk t => by
        refine t.like (fun x => ⟨fun h => ?_, fun h => ?_⟩) (fun x h => ?_) (by omega)
        · exact ((tk x).mp h.1).elim (fun z => .inl ⟨z, h.2⟩) .inr
        · rcases h with h | rfl
          · exact ⟨(tk x).mpr (.inl h.1), h.2⟩
          · exact ⟨(tk x).mpr (.inr rfl), by rw [ck]; exact hk⟩
        · by_cases e : x = a
          · subst e; rw [if_pos rfl, ck]
          · rw [if_neg e]
      have nd : ¬ (a ∈ ord.take i ∧ (cO cs a).kind ≠ .clo) := fun z => an z.1
      refine ⟨_, rfl, _, rfl, l, _, _, _, rfl, rfl, SqL.of y1, y2, p, _, _, V.str (kd c.kind), rfl, rfl, SqT.of y3, rfl, rfl, _, rfl, ?_⟩
      rw [kd_lst]
      by_cases hk : c.kind = .lst
      · rw [decide_eq_true hk]
        refine iteT ⟨_, rfl, A.p, dx, fs, rfl, h1, (h2 _).trans (wl_no (by decide +kernel)), by show 0 ≤ sizeLine; decide, fun L hL => ?_⟩
        have s2 : Same H2 (upd H2 L (.lst [])) := same_new hL _
        have t3 := t2.same s2
        refine ⟨A, S, L, [], rfl, t3.W, by omega, ⟨[], upd_same, .nil⟩, fun H3 cl vl q3 W3 k3 c3 v3 e3 => ?_⟩
        have t4 := t3.add (a := a) W3 k3 c3 v3 e3 nd
        refine ⟨_, rfl, _, rfl, tb, _, rfl, .inl ⟨kvs, Sum.inl a, k3 _ _ t3.tb1 t3.tbo, rfl, small1000 (by omega), rfl⟩, ?_⟩
        exact ⟨_, _, _, _, _, rfl, step (by rw [hk]; intro z; cases z) (by rw [hk]; exact t4)⟩
      · rw [decide_eq_false hk]
        refine iteF ⟨_, rfl, _, rfl, l, _, _, _, rfl, rfl, SqL.of y1, y2, p, _, _, V.str (kd c.kind), rfl, rfl, SqT.of y3, rfl, rfl, _, rfl, ?_⟩
        rw [kd_obj]
        by_cases hk2 : c.kind = .obj
        · rw [decide_eq_true hk2]
          refine iteT ⟨_, rfl, A.p, dx, fs, rfl, h1, (h2 _).trans (wl_no (by decide +kernel)), A, S, rfl, t2.W, by omega, fun H3 cl vl q3 W3 k3 c3 v3 e3 => ?_⟩
          have t4 := t2.add (a := a) W3 k3 c3 v3 e3 nd
          refine ⟨_, rfl, _, rfl, tb, _, rfl, .inl ⟨kvs, Sum.inl a, k3 _ _ t2.tb1 t2.tbo, rfl, small1000 (by omega), rfl⟩, ?_⟩
          exact ⟨_, _, _, _, _, rfl, step (by rw [hk2]; intro z; cases z) (by rw [hk2]; exact t4)⟩
        · rw [decide_eq_false hk2]
          have hk3 : c.kind = .clo := by cases hq : c.kind <;> first | rfl | exact absurd hq hk | exact absurd hq hk2
          refine iteF ⟨_, _, _, _, _, rfl, t2.like (fun x => ⟨fun h => ?_, fun h => ⟨(tk x).mpr (.inl h.1), h.2⟩⟩) (fun x h => rfl) (by omega)⟩
          rcases (tk x).mp h.1 with z | z
          · exact ⟨z, h.2⟩
          · subst z
            exact absurd hk3 (by rw [← ck]; exact h.2)
  rintro σ H1 ⟨o5, o6, S, kvs, τ, rfl, t1⟩
  have len1 : (ord.map V.int).length = ord.length := List.length_map ..
  rw [len1, List.take_length] at t1
  have sm1 := t1.sm
  refine ⟨_, rfl, l, _, rfl, .inl (SqL.of (sm1 _ _ eC)), _, rfl, by rw [List.length_map, prC.length]; omega, by rw [List.length_map, prC.length]; omega, ?_⟩
  have en : (((psC.map V.ref).length : Nat) : Int).toNat = cs.length := by rw [List.length_map, prC.length]; omega
  rw [en]
  -- the functions
  refine for_range (lo := 0) (n := cs.length) (fun i σ H1 => ∃ (o5 o6 o7 o8 o9 : Option V) (S : WS) (kvs : List (Key × V)) (τ : Int → Int), σ = [some (.ref l), some (.ref o), some (.int m), some (.ref A.p), some (.ref tb), o5, o6, o7, o8, o9, none] ∧
      TW CW H H1 A S tb kvs τ (fun a => (0 ≤ a ∧ a < cs.length) ∧ ((cO cs a).kind ≠ .clo ∨ a < i)) (fun a => if (cO cs a).kind = .clo then (nzc (cO cs a)).re τ else ⟨(cO cs a).kind, 0, []⟩) (36 + i))
    ⟨_, _, _, _, _, _, _, _, rfl, t1.like (fun a => ⟨fun h => ⟨(om a).mpr h.1, h.2.resolve_right (by omega)⟩, fun h => ⟨(om a).mp h.1, .inl h.2⟩⟩) (fun a h => if_neg h.2) (by omega)⟩ ?_ ?_
  · rintro i σ H1 hi ⟨o5, o6, o7, o8, o9, S, kvs, τ, rfl, t1⟩
    rw [Int.zero_add]
    obtain ⟨c, gc, ec, hc⟩ := gl_some (cs := cs) (a := (i : Int)) (by omega) (by omega)
    have ck : cO cs i = c := cO_of gc
    obtain ⟨psx, p, vl, y1, _, y2, y3, y4⟩ := (C.same t1.sm).get (a := (i : Int)) (by omega) ec
    obtain ⟨dx, fs, pr, h1, hl, h2⟩ := t1.W.ob
    have rl := t1.rl
    have kl := t1.kl
    have c4 := (WF.ok c hc).le
    refine ⟨_, rfl, _, rfl, l, _, _, _, rfl, rfl, SqL.of y1, y2, p, _, rfl, SqT.of y3, rfl, _, _, rfl, _, _, rfl, _, _, rfl, rfl, _, rfl, rfl, _, rfl, ?_⟩
    rw [kd_clo]
    by_cases hk : c.kind = .clo
    · rw [decide_eq_true hk]
      have rD : ∀ b, Vl.ref b ∈ c.vs → (0 ≤ b ∧ b < cs.length) ∧ ((cO cs b).kind ≠ .clo ∨ b < i) := fun b hb => by
        obtain ⟨b0, b1⟩ := WF.rf c hc b hb
        refine ⟨⟨b0, b1⟩, ?_⟩
        rcases AH i c (by rw [Int.toNat_natCast] at ec; exact ec) hk b hb with z | z
        · exact .inr z
        · obtain ⟨c2, gc2, ec2, _⟩ := gl_some b0 b1
          exact .inl (by rw [cO_of gc2]; exact z c2 ec2)
      have nd : ¬ ((0 ≤ (i : Int) ∧ (i : Int) < cs.length) ∧ ((cO cs i).kind ≠ .clo ∨ (i : Int) < i)) := fun z => by
        rcases z.2 with z | z
        · exact z (by rw [ck]; exact hk)
        · omega
      refine iteT ⟨_, rfl, A.p, dx, fs, rfl, h1, (h2 _).trans (wl_no (by decide +kernel)), _, rfl, _, rfl, _, rfl, tb, vl, kvs, c.vs, τ, rfl, t1.tb1, y4, by omega, (fun a ha => t1.tv a (rD a ha)), fun r H2 s2 hr2 lv => ?_⟩
      have t2 := t1.same s2
      refine ⟨A, S, r, c.vs.map (Vl.re τ), c.f, rfl, t2.W, by omega, lv, fun H3 cl vl3 q3 W3 k3 c3 v3 e3 => ?_⟩
      have t4 := t2.add (a := (i : Int)) W3 k3 c3 v3 e3 nd
      refine ⟨_, rfl, _, rfl, tb, _, rfl, .inl ⟨kvs, Sum.inl (i : Int), k3 _ _ t2.tb1 t2.tbo, rfl, small1000 (by omega), rfl⟩, ?_⟩
      refine ⟨_, _, _, _, _, _, _, _, rfl, t4.like (fun x => ⟨fun h => ?_, fun h => ?_⟩) (fun x h => ?_) (Nat.le_refl _)⟩
      · rcases h.2 with z | z
        · exact .inl ⟨h.1, .inl z⟩
        · by_cases e : x = i
          · exact .inr e
          · exact .inl ⟨h.1, .inr (by omega)⟩
      · rcases h with h | rfl
        · exact ⟨h.1, h.2.elim .inl fun z => .inr (by omega)⟩
        · exact ⟨by omega, .inr (by omega)⟩
      · have agree : ∀ b, ((0 ≤ b ∧ b < (cs.length : Int)) ∧ ((cO cs b).kind ≠ .clo ∨ b < i)) → (if b = (i : Int) then S.fr else τ b) = τ b := fun b hb => if_neg fun z => by
          subst z
          exact nd hb
        by_cases e : x = i
        · subst e
          rw [if_pos rfl, ck, if_pos hk]
          have z : (nzc c).re τ = ⟨.clo, c.f, c.vs.map (Vl.re τ)⟩ := by
            unfold nzc Cl.re
            rw [if_pos hk, hk]
          rw [← z]
          exact re_congr fun b hb => agree b (rD b hb)
        · rw [if_neg e]
          by_cases hx : (cO cs x).kind = .clo
          · rw [if_pos hx, if_pos hx]
            have hx2 := (h.resolve_right e)
            have xl : x < i := hx2.2.resolve_left fun z => z hx
            obtain ⟨cx, gx, ecx, hcx⟩ := gl_some hx2.1.1 hx2.1.2
            have ckx := cO_of gx
            rw [ckx] at hx ⊢
            refine re_congr fun b hb => agree b ?_
            obtain ⟨b0, b1⟩ := WF.rf cx hcx b hb
            refine ⟨⟨b0, b1⟩, ?_⟩
            rcases AH x.toNat cx ecx hx b hb with z | z
            · exact .inr (by omega)
            · obtain ⟨c2, gc2, ec2, _⟩ := gl_some b0 b1
              exact .inl (by rw [cO_of gc2]; exact z c2 ec2)
          · rw [if_neg hx, if_neg hx]
    · rw [decide_eq_false hk]
      refine iteF ⟨_, _, _, _, _, _, _, _, rfl, t1.like (fun x => ⟨fun h => ⟨h.1, ?_⟩, fun h => ⟨h.1, h.2.elim .inl fun z => .inr (by omega)⟩⟩) (fun x h => rfl) (by omega)⟩
      rcases h.2 with z | z
      · exact .inl z
      · by_cases e : x = i
        · subst e
          exact .inl (by rw [ck]; exact hk)
        · exact .inr (by omega)
  rintro σ H1 ⟨o5, o6, o7, o8, o9, S, kvs, τ, rfl, t1⟩
  have sm1 := t1.sm
  refine ⟨_, rfl, o, rfl, ⟨_, ho2 sm1⟩, ?_⟩
  -- what they hold
  have t1' : TW CW H H1 A S tb kvs τ (fun a => 0 ≤ a ∧ a < cs.length) (fun a => if (cO cs a).kind = .clo ∨ a ∈ ord.take 0 then (nzc (cO cs a)).re τ else ⟨(cO cs a).kind, 0, []⟩) 48 :=
    t1.like (fun a => ⟨fun h => ⟨h, .inr h.2⟩, fun h => h.1⟩) (fun a h => by
      by_cases hk : (cO cs a).kind = .clo
      · rw [if_pos (.inl hk), if_pos hk]
      · rw [if_neg (fun z => z.elim hk fun z => by cases z), if_neg hk]) (by omega)
  refine for_list (K := K) (a := o) (xs := ord.map V.int) (fun i σ H1 => ∃ (o5 o6 o7 o8 o9 o10 : Option V) (S : WS), σ = [some (.ref l), some (.ref o), some (.int m), some (.ref A.p), some (.ref tb), o5, o6, o7, o8, o9, o10] ∧
      TW CW H H1 A S tb kvs τ (fun a => 0 ≤ a ∧ a < cs.length) (fun a => if (cO cs a).kind = .clo ∨ a ∈ ord.take i then (nzc (cO cs a)).re τ else ⟨(cO cs a).kind, 0, []⟩) 48)
    ⟨_, _, _, _, _, _, _, rfl, t1'⟩ (fun i σ H1 _ ⟨_, _, _, _, _, _, _, _, t⟩ => ho2 t.sm) ?_ ?_
  · rintro i x σ H1 hi ⟨o5, o6, o7, o8, o9, o10, S, rfl, t1⟩
    obtain ⟨a, ea, rfl⟩ : ∃ a, ord[i]? = some a ∧ V.int a = x := by
      rw [List.getElem?_map] at hi
      exact Option.map_eq_some_iff.mp hi
    have il := (List.getElem?_eq_some_iff.mp ea).1
    have am := List.mem_of_getElem? ea
    have ad := (om a).mp am
    obtain ⟨a0, a1⟩ := id ad
    obtain ⟨c, gc, ec, hc⟩ := gl_some a0 a1
    have ck : cO cs a = c := cO_of gc
    have c4 := (WF.ok c hc).le
    have an : a ∉ ord.take i := fun z => by
      obtain ⟨j, hj⟩ := List.getElem?_of_mem z
      have jl : j < i := by
        have := (List.getElem?_eq_some_iff.mp hj).1
        rw [List.length_take] at this
        omega
      rw [List.getElem?_take, if_pos jl] at hj
      have := nd_ix ond hj ea
      omega
    obtain ⟨psx, p, vl, y1H, _, y2, y3H, y4H⟩ := C.get a0 ec
    have y1 := t1.sm _ _ y1H
    have y3 := t1.sm _ _ y3H
    have y4 := y4H.same t1.sm
    obtain ⟨pv4, y5, y6⟩ := id y4
    have lv : (pv4.map V.ref).length = c.vs.length := by rw [List.length_map, y6.length]
    refine ⟨_, rfl, _, rfl, l, _, _, _, rfl, rfl, SqL.of y1, y2, p, _, rfl, SqT.of y3, rfl, _, _, rfl, _, _, rfl, _, _, rfl, rfl, ?_⟩
    refine ⟨_, rfl, vl, _, rfl, .inl (SqL.of y5), _, rfl, by omega, by omega, ?_⟩
    have en : (((pv4.map V.ref).length : Nat) : Int).toNat = c.vs.length := by rw [lv]; omega
    rw [en]
    let curX : Nat → Int → Cl := cuX cs ord i c a τ
    have cX0 : ∀ x, curX 0 x = (if (cO cs x).kind = .clo ∨ x ∈ ord.take i then (nzc (cO cs x)).re τ else ⟨(cO cs x).kind, 0, []⟩) := fun x => by
      show (if x = a then _ else _) = _
      by_cases e : x = a
      · subst e
        rw [if_pos rfl, ck]
        by_cases hk : c.kind = .clo
        · rw [if_pos hk, if_pos (.inl hk)]
        · rw [if_neg hk, if_neg fun z => z.elim hk an]
          rfl
      · rw [if_neg e]
    refine for_range (lo := 0) (n := c.vs.length) (fun j σ H2 => ∃ (o6 o10 : Option V) (S : WS), σ = [some (.ref l), some (.ref o), some (.int m), some (.ref A.p), some (.ref tb), some (.int a), o6, some (.str (kd c.kind)), some (.int c.f), some (.ref vl), o10] ∧
        TW CW H H2 A S tb kvs τ (fun a => 0 ≤ a ∧ a < cs.length) (curX j) 48)
      ⟨_, _, S, rfl, t1.like (fun _ => Iff.rfl) (fun x _ => cX0 x) (Nat.le_refl _)⟩ ?_ ?_
    · rintro j σ H2 hj ⟨o6, o10, S, rfl, t2⟩
      rw [Int.zero_add]
      have ev : c.vs[j]? = some c.vs[j] := List.getElem?_eq_getElem hj
      generalize c.vs[j] = v at ev
      have vm := List.mem_of_getElem? ev
      obtain ⟨dx, fs, pr, h1, hl, h2⟩ := t2.W.ob
      obtain ⟨pv5, z5, z6⟩ : LV H2 vl c.vs := y4H.same t2.sm
      obtain ⟨p2, ep2, hp2⟩ := pair_get z6 ev
      refine ⟨_, rfl, _, rfl, vl, _, _, _, rfl, rfl, SqL.of z5, atI_nat (map_get ep2), ?_⟩
      refine ⟨_, rfl, p2, _, _, _, rfl, rfl, hp2.sq, at0, rfl, _, rfl, ?_⟩
      rw [dec_ref]
      cases hrf : isRef v with
      | true =>
        obtain ⟨b, rfl⟩ : ∃ b, v = .ref b := by
          cases v with
          | ref b => exact ⟨b, rfl⟩
          | _ => cases hrf
        have bd := WF.rf c hc b vm
        obtain ⟨p', vp1, hp'⟩ := t2.tv b bd
        refine iteT ⟨_, rfl, _, rfl, p2, _, _, _, rfl, rfl, hp2.sq, at1 (by intro e; cases e), tb, _, rfl, dget (k := Sum.inl b) t2.tb1 vp1, _, rfl, rfl, _, rfl, ?_⟩
        have hp' : VAt H2 p' ((Vl.ref b).re τ) := hp'
        generalize Vl.ref b = v at *
        rw [kd_lst]
        by_cases hk : c.kind = .lst
        · rw [decide_eq_true hk]
          have hck : (curX j a) = ⟨c.kind, 0, (c.vs.take j).map (Vl.re τ)⟩ := by
            show (if a = a then (if c.kind = .clo then (nzc c).re τ else ⟨c.kind, 0, (c.vs.take j).map (Vl.re τ)⟩) else _) = _
            rw [if_pos rfl, if_neg (by rw [hk]; intro z; cases z)]
          obtain ⟨r, hr1, hr2, hr3⟩ := t2.row a ad
          rw [hck] at hr3
          have hlen : r.c.vs.length = j := by rw [hr3]; show ((c.vs.take j).map (Vl.re τ)).length = j; rw [List.length_map, List.length_take]; omega
          obtain ⟨qa, va1, va2⟩ := t2.tv a ad
          refine iteT ⟨_, rfl, A.p, dx, fs, rfl, h1, (h2 _).trans (wl_no (by decide +kernel)), _, rfl, _, rfl, tb, _, rfl, dget t2.tb1 va1, _, rfl, A, S, qa, p', r, v.re τ, rfl, t2.W, hr1, (by rw [hr2]; exact va2), hp', (by rw [hr3]; exact hk), by omega, fun H3 W3 k3 => ?_⟩
          have t3 := t2.upd (S' := { S with rows := updC S.rows r.a (more r.c (v.re τ)) }) (c := more r.c (v.re τ)) (a := a) W3 (by rw [hr2]) rfl k3 ad
          refine ⟨_, _, _, rfl, t3.like (fun _ => Iff.rfl) (fun x hx => ?_) (Nat.le_refl _)⟩
          exact curS c a j τ ev (by rw [hk]; intro z; cases z) hr3 x
        · rw [decide_eq_false hk]
          refine iteF ⟨_, rfl, rfl, _, rfl, ?_⟩
          rw [kd_obj]
          by_cases hk2 : c.kind = .obj
          · rw [decide_eq_true hk2]
            have hck : (curX j a) = ⟨c.kind, 0, (c.vs.take j).map (Vl.re τ)⟩ := by
              show (if a = a then (if c.kind = .clo then (nzc c).re τ else ⟨c.kind, 0, (c.vs.take j).map (Vl.re τ)⟩) else _) = _
              rw [if_pos rfl, if_neg (by rw [hk2]; intro z; cases z)]
            obtain ⟨r, hr1, hr2, hr3⟩ := t2.row a ad
            rw [hck] at hr3
            have hlen : r.c.vs.length = j := by rw [hr3]; show ((c.vs.take j).map (Vl.re τ)).length = j; rw [List.length_map, List.length_take]; omega
            obtain ⟨qa, va1, va2⟩ := t2.tv a ad
            refine iteT ⟨_, rfl, A.p, dx, fs, rfl, h1, (h2 _).trans (wl_no (by decide +kernel)), _, rfl, _, rfl, tb, _, rfl, dget t2.tb1 va1, _, rfl, "pqrst", j, 112 + j, rfl, rfl, by decide +kernel, pq_get (by omega), _, rfl, A, S, qa, p', r, v.re τ, (by rw [hlen]; rfl), t2.W, hr1, (by rw [hr2]; exact va2), hp', (by rw [hr3]; exact hk2), by omega, fun H3 S3 W3 e3 f3 k3 => ?_⟩
            have t3 := t2.upd (S' := S3) (c := more r.c (v.re τ)) (a := a) W3 (by rw [e3, hr2]) f3 k3 ad
            refine ⟨_, _, _, rfl, t3.like (fun _ => Iff.rfl) (fun x hx => ?_) (Nat.le_refl _)⟩
            exact curS c a j τ ev (by rw [hk2]; intro z; cases z) hr3 x
          · rw [decide_eq_false hk2]
            have hk3 : c.kind = .clo := by cases hq : c.kind <;> first | rfl | exact absurd hq hk | exact absurd hq hk2
            refine iteF ⟨_, _, _, rfl, t2.like (fun _ => Iff.rfl) (fun x hx => ?_) (Nat.le_refl _)⟩
            exact curC c a j τ hk3 x
      | false =>
        have hp' : VAt H2 p2 (v.re τ) := by
          have : v.re τ = v := by cases v <;> first | rfl | cases hrf
          rw [this]
          exact hp2
        generalize p2 = p' at *
        refine iteF ⟨_, rfl, rfl, _, rfl, ?_⟩
        rw [kd_lst]
        by_cases hk : c.kind = .lst
        · rw [decide_eq_true hk]
          have hck : (curX j a) = ⟨c.kind, 0, (c.vs.take j).map (Vl.re τ)⟩ := by
            show (if a = a then (if c.kind = .clo then (nzc c).re τ else ⟨c.kind, 0, (c.vs.take j).map (Vl.re τ)⟩) else _) = _
            rw [if_pos rfl, if_neg (by rw [hk]; intro z; cases z)]
          obtain ⟨r, hr1, hr2, hr3⟩ := t2.row a ad
          rw [hck] at hr3
          have hlen : r.c.vs.length = j := by rw [hr3]; show ((c.vs.take j).map (Vl.re τ)).length = j; rw [List.length_map, List.length_take]; omega
          obtain ⟨qa, va1, va2⟩ := t2.tv a ad
          refine iteT ⟨_, rfl, A.p, dx, fs, rfl, h1, (h2 _).trans (wl_no (by decide +kernel)), _, rfl, _, rfl, tb, _, rfl, dget t2.tb1 va1, _, rfl, A, S, qa, p', r, v.re τ, rfl, t2.W, hr1, (by rw [hr2]; exact va2), hp', (by rw [hr3]; exact hk), by omega, fun H3 W3 k3 => ?_⟩
          have t3 := t2.upd (S' := { S with rows := updC S.rows r.a (more r.c (v.re τ)) }) (c := more r.c (v.re τ)) (a := a) W3 (by rw [hr2]) rfl k3 ad
          refine ⟨_, _, _, rfl, t3.like (fun _ => Iff.rfl) (fun x hx => ?_) (Nat.le_refl _)⟩
          exact curS c a j τ ev (by rw [hk]; intro z; cases z) hr3 x
        · rw [decide_eq_false hk]
          refine iteF ⟨_, rfl, rfl, _, rfl, ?_⟩
          rw [kd_obj]
          by_cases hk2 : c.kind = .obj
          · rw [decide_eq_true hk2]
            have hck : (curX j a) = ⟨c.kind, 0, (c.vs.take j).map (Vl.re τ)⟩ := by
              show (if a = a then (if c.kind = .clo then (nzc c).re τ else ⟨c.kind, 0, (c.vs.take j).map (Vl.re τ)⟩) else _) = _
              rw [if_pos rfl, if_neg (by rw [hk2]; intro z; cases z)]
            obtain ⟨r, hr1, hr2, hr3⟩ := t2.row a ad
            rw [hck] at hr3
            have hlen : r.c.vs.length = j := by rw [hr3]; show ((c.vs.take j).map (Vl.re τ)).length = j; rw [List.length_map, List.length_take]; omega
            obtain ⟨qa, va1, va2⟩ := t2.tv a ad
            refine iteT ⟨_, rfl, A.p, dx, fs, rfl, h1, (h2 _).trans (wl_no (by decide +kernel)), _, rfl, _, rfl, tb, _, rfl, dget t2.tb1 va1, _, rfl, "pqrst", j, 112 + j, rfl, rfl, by decide +kernel, pq_get (by omega), _, rfl, A, S, qa, p', r, v.re τ, (by rw [hlen]; rfl), t2.W, hr1, (by rw [hr2]; exact va2), hp', (by rw [hr3]; exact hk2), by omega, fun H3 S3 W3 e3 f3 k3 => ?_⟩
            have t3 := t2.upd (S' := S3) (c := more r.c (v.re τ)) (a := a) W3 (by rw [e3, hr2]) f3 k3 ad
            refine ⟨_, _, _, rfl, t3.like (fun _ => Iff.rfl) (fun x hx => ?_) (Nat.le_refl _)⟩
            exact curS c a j τ ev (by rw [hk2]; intro z; cases z) hr3 x
          · rw [decide_eq_false hk2]
            have hk3 : c.kind = .clo := by cases hq : c.kind <;> first | rfl | exact absurd hq hk | exact absurd hq hk2
            refine iteF ⟨_, _, _, rfl, t2.like (fun _ => Iff.rfl) (fun x hx => ?_) (Nat.le_refl _)⟩
            exact curC c a j τ hk3 x
    · rintro σ H2 ⟨o6, o10, S, rfl, t2⟩
      refine ⟨_, _, _, _, _, _, S, rfl, t2.like (fun _ => Iff.rfl) (fun x hx => ?_) (Nat.le_refl _)⟩
      have tk : x ∈ ord.take (i + 1) ↔ x ∈ ord.take i ∨ x = a := by
        rw [take_snoc ea, List.mem_append, List.mem_singleton]
      show _ = (if x = a then _ else _)
      by_cases e : x = a
      · subst e
        rw [if_pos rfl, if_pos (.inr (tk.mpr (.inr rfl))), ck]
        by_cases hk : c.kind = .clo
        · rw [if_pos hk]
        · rw [if_neg hk, List.take_length]
          unfold nzc Cl.re
          rw [if_neg hk]
      · rw [if_neg e]
        by_cases h : (cO cs x).kind = .clo ∨ x ∈ ord.take i
        · rw [if_pos h, if_pos (h.imp id fun z => tk.mpr (.inl z))]
        · rw [if_neg h, if_neg fun z => h (z.imp id fun z => (tk.mp z).resolve_right e)]
  · rintro σ H1 ⟨o5, o6, o7, o8, o9, o10, S, rfl, t1⟩
    rw [len1, List.take_length] at t1
    refine ⟨_, rfl, _, rfl, by show 2 ≤ sizeLine; decide, fun r hr1 => ?_⟩
    refine q r _ A S tb kvs τ (L2.Same.free t1.sm hr1) upd_same ((t1.same (same_new hr1 _)).like (fun _ => Iff.rfl) (fun x hx => ?_) (by omega))
    rw [if_pos (.inr ((om x).mpr hx))]
end
end K4

namespace K4
open PySem PySem.Spec PyProof.Rows L2
/-! ### sum of lists, from a list on -/
theorem pairS_get {α β : Type} {F : α → β → Prop} : ∀ {xs : List α} {ys : List β} {i : Nat} {x : α}, Paired F xs ys → xs[i]? = some x → ∃ y, ys[i]? = some y ∧ F x y
  | _, _, _, _, .nil, h => by simp at h
  | _, _, 0, _, .cons r _, h => by
    have e := Option.some.inj h
    subst e
    exact ⟨_, rfl, r⟩
  | _, _, i + 1, x, .cons _ t, h => pairS_get (i := i) t h
def fl {α : Type} (xs : Nat → List α) : Nat → List α
  | 0 => []
  | i + 1 => fl xs i ++ xs i
theorem fl_len {α : Type} (xs : Nat → List α) {i : Nat} : ∀ {n : Nat}, i ≤ n → (fl xs i).length ≤ (fl xs n).length
  | 0, h => by
    have : i = 0 := by omega
    subst this
    exact Nat.le_refl _
  | n + 1, h => by
    by_cases e : i = n + 1
    · subst e; exact Nat.le_refl _
    · have := fl_len xs (i := i) (n := n) (by omega)
      show _ ≤ (fl xs n ++ xs n).length
      rw [List.length_append]
      omega
theorem args_sum2 (a b : Value) : argsOk "sum" ⟨[a, b], []⟩ := by unfold argsOk; kernel_rfl
section
variable {prog : Program} {w : World} {A : Around} {R : Result → Shared → Prop} {I : Addr} {fp wr : List Addr} {n : Nat} {P : Nat → Value → Prop} {St : Nat → Heap → Prop}
theorem sum_loopL (W : Walks prog w A.in1 I fp wr n P St) (hwr : ∀ i h, St i h → ∀ b ∈ wr, b < h.objs.size) (val : Nat → Addr) (xs : Nat → List Value) (hval : ∀ i v, P i v → v = .ref (val i)) (S : Addr) (hSf : S ∉ fp) (B : Nat) (hB : B ≤ S) (hBw : ∀ b ∈ wr, B ≤ b)
    (hz : (fl xs n).length ≤ sizeLine) :
    ∀ (k i : Nat) (s : Shared) (T : Addr) (c m : Nat), n - i = k → i ≤ n → St i s.heap → s.heap.get? S = some { cls := .type "list", dict := none, data := .seq #[.ref T] c, slots := #[] } → T ∉ wr → T ≠ S → IsL s.heap T (fl xs i).toArray m → (i = 0 ∨ B ≤ T) →
      (∀ j, j < n → val j < B ∧ ∃ m, IsL s.heap (val j) (xs j).toArray m) →
    (∀ h' tk T' m', (∀ b o, b < B → s.heap.get? b = some o → h'.get? b = some o) → (n = 0 ∨ B ≤ T') → IsL h' T' (fl xs n).toArray m' → R (.ok (.ret (.ref T'))) { s with heap := h', toks := tk }) →
    codeAny (model prog w) A (.builtin "sum.loop" ⟨[.ref I, .ref S, rawInt 2, rawInt 0], []⟩) R s := by
  have hSw : S ∉ wr := fun h => hSf (W.sub _ h)
  intro k
  induction k with
  | zero =>
    intro i s T c m hk hi hst hS hTw hTS hT hTB hv hR
    have hin : i = n := by omega
    subst hin
    refine codeAny_builtin F.entry_sum_loop ?_
    rw [Around.under_plainId F.plain_sum_loop _]
    show wpAny _ A.in1 (seqItems? (.ref S) >>= _) _ _ s
    refine wpAny_bind (wpAny_seqItems hS rfl ?_)
    show wpAny _ A.in1 (tryCatch (pyNext (.ref I)) _ >>= _) _ _ s
    refine wpAny_bind (wpAny_tryCatch (W.done s _ _ hst fun h' tk hk' => ?_))
    exact wpAny_pure (hR h' tk T m (fun b o hb e => hk' b o (fun z => Nat.not_le_of_lt hb (hBw b z)) e) hTB (hk' _ _ hTw hT))
  | succ k ih =>
    intro i s T c m hk hi hst hS hTw hTS hT hTB hv hR
    have hlt : i < n := by omega
    refine codeAny_builtin F.entry_sum_loop ?_
    rw [Around.under_plainId F.plain_sum_loop _]
    show wpAny _ A.in1 (seqItems? (.ref S) >>= _) _ _ s
    refine wpAny_bind (wpAny_seqItems hS rfl ?_)
    show wpAny _ A.in1 (tryCatch (pyNext (.ref I)) _ >>= _) _ _ s
    refine wpAny_bind (wpAny_tryCatch (W.item i s _ _ hlt hst fun v h' tk hP hst' hk' => ?_))
    have ev := hval i v hP
    subst ev
    have hS' := hk' S _ hSw hS
    have hT' := hk' T _ hTw hT
    obtain ⟨vB, vm, hvi⟩ := hv i hlt
    have hvi' := hk' (val i) _ (fun z => Nat.not_le_of_lt vB (hBw _ z)) hvi
    have hsz : (fl xs i).length + (xs i).length ≤ sizeLine := by
      have := fl_len xs (i := i + 1) (n := n) (by omega)
      have e : (fl xs (i + 1)).length = (fl xs i).length + (xs i).length := List.length_append
      omega
    show wpAny _ A.in1 ((holding [Value.ref (val i)] (binaryOp .Add (.ref T) (.ref (val i)))).attempt >>= _) _ _ _
    refine wpAny_bind (wpAny_attempt (wpAny_holding (PySem.P.add_list hT' hvi' ?_ (by rw [List.size_toArray, List.size_toArray]; exact hsz))))
    have eNew : IsL (h'.push { cls := .type "list", data := .seq ((fl xs i).toArray ++ (xs i).toArray) }) h'.objs.size (fl xs (i + 1)).toArray 0 := by
      have z := IsL.new h' ((fl xs i).toArray ++ (xs i).toArray)
      have ea : (fl xs i).toArray ++ (xs i).toArray = (fl xs (i + 1)).toArray := by
        show _ = (fl xs i ++ xs i).toArray
        simp
      rw [ea] at z ⊢
      exact z
    generalize hh : h'.push { cls := .type "list", data := .seq ((fl xs i).toArray ++ (xs i).toArray) } = h2 at *
    have kp : ∀ b o, h'.get? b = some o → h2.get? b = some o := fun b o e => by rw [← hh]; exact Heap.get?_push_of_some _ e
    have hS2 := kp _ _ hS'
    have sS : S < h'.objs.size := Heap.lt_size hS'
    show wpAny _ A.in1 (updateSeq S (fun _ => #[.ref h'.objs.size]) >>= _) _ _ _
    refine wpAny_bind ?_
    refine wpAny_updateSeq hS2 rfl ?_
    have hS3 := Heap.get?_update_self (Obj.mapSeq fun _ => #[Value.ref h'.objs.size]) hS2 rfl
    refine wpAny_bind (wpAny_letGo ?_)
    refine wpAny_bind ?_
    have oth : ∀ b o, b ≠ S → h'.get? b = some o → ((h2.update S (Obj.mapSeq fun _ => #[Value.ref h'.objs.size])).update S (Obj.mapSeq fun _ => #[Value.ref h'.objs.size])).get? b = some o := fun b o hb e =>
      (Heap.get?_update_other _ _ (Ne.symm hb)).trans ((Heap.get?_update_other _ _ (Ne.symm hb)).trans (kp _ _ e))
    refine wpAny_updateSeq hS3 rfl (wpAny_pure ⟨plainId_quiet F.plain_sum_loop _, ih (i + 1) _ h'.objs.size _ 0 (by omega) hlt (W.frame _ _ _ hst' fun b hb o e => oth b o (fun z => hSf (by rw [← z]; exact hb)) e) (Heap.get?_update_self _ hS3 rfl) (fun z => absurd (hwr _ _ hst' _ z) (Nat.lt_irrefl _)) (Nat.ne_of_gt sS) ?_ (.inr (Nat.le_of_lt (Nat.lt_of_le_of_lt hB sS))) (fun j hj => ?_) fun h'' tk'' T' m' hk'' hn' hT'' => ?_⟩)
    · exact (Heap.get?_update_other _ _ (Nat.ne_of_lt sS)).trans ((Heap.get?_update_other _ _ (Nat.ne_of_lt sS)).trans eNew)
    · obtain ⟨a, m2, b⟩ := hv j hj
      exact ⟨a, m2, oth _ _ (Nat.ne_of_lt (Nat.lt_of_lt_of_le a hB)) (hk' _ _ (fun z => Nat.not_le_of_lt a (hBw _ z)) b)⟩
    · exact hR h'' tk'' T' m' (fun b o hb e => hk'' b o hb (oth b o (Nat.ne_of_lt (Nat.lt_of_lt_of_le hb hB)) (hk' b o (fun z => Nat.not_le_of_lt hb (hBw _ z)) e))) hn' hT''
end
section
variable {prog : Program} {w : World} {A : Around} {E : Value → Shared → Prop} {s : Shared}
theorem call_sum_lists {Q : Value → Shared → Prop} (hh : A.handled = none) {l e : Addr} {n m me : Nat} (val : Nat → Addr) (xs : Nat → List Value) {its : Array Value} (hl : IsL s.heap l its m) (hn : its.size = n) (hval : ∀ (i : Nat) (v : Value), its[i]? = some v → v = Value.ref (val i)) (he : IsL s.heap e #[] me) (hn0 : 0 < n)
    (hv : ∀ j, j < n → ∃ m, IsL s.heap (val j) (xs j).toArray m) (hz : (fl xs n).length ≤ sizeLine)
    (h : ∀ h' tk T' m', (∀ b o, s.heap.get? b = some o → h'.get? b = some o) → s.heap.objs.size ≤ T' → IsL h' T' (fl xs n).toArray m' → Q (.ref T') { s with heap := h', toks := tk }) :
    wpAny (model prog w) A (call (.builtin "sum") [.ref l, .ref e]) Q E s := by
  subst hn
  refine call_function_tree F.kind_sum F.plain_sum F.entry_sum (args_sum2 _ _) ?_
  unfold Builtin.«sum»
  simp only [List.length_cons, List.length_nil]
  rw [if_neg (by decide)]
  refine wpAny_bind (wpAny_of_eq (show Builtin.Builtins.bindParams "sum" ["start"] 0 ⟨[.ref e], []⟩ = pure [some (.ref e)] from rfl) ?_)
  have hlt : l < s.heap.objs.size := Heap.lt_size hl
  have elt : e < s.heap.objs.size := Heap.lt_size he
  refine wpAny_bind (wpAny_pyIter_list hl.isList ?_)
  refine wpAny_bind (wpAny_pure ?_)
  have ty : Shared.TypeIs { s with heap := s.heap.push { cls := .type "list_iterator", data := .fields #[.ref l, .int 0 0] } } (.ref e) "list" := (IsL.push he _).isList.typeIs
  simp only [List.forIn_cons, List.forIn_nil]
  refine wpAny_bind (wpAny_bind (wpAny_bind (wpAny_isInstance (T := "list") (b := false) ty F.sub_list_str ?_)))
  simp only [Bool.false_eq_true, if_false]
  refine wpAny_pure (wpAny_bind (wpAny_bind (wpAny_isInstance (T := "list") (b := false) ty F.sub_list_bytes ?_)))
  simp only [Bool.false_eq_true, if_false]
  refine wpAny_pure (wpAny_bind (wpAny_bind (wpAny_isInstance (T := "list") (b := false) ty F.sub_list_bytearray ?_)))
  simp only [Bool.false_eq_true, if_false]
  refine wpAny_pure (wpAny_pure ?_)
  refine wpAny_bind (wpAny_newObj_type ?_)
  have hW := Walks.list (prog := prog) (w := w) (A := A.in1) (by exact hh) s.heap.objs.size l (Nat.ne_of_lt hlt) its
  have hsz1 : (s.heap.push { cls := .type "list_iterator", data := .fields #[.ref l, .int 0 0] }).objs.size = s.heap.objs.size + 1 := Heap.size_push ..
  have kk : ∀ b o, s.heap.get? b = some o → (((s.heap.push { cls := .type "list_iterator", data := .fields #[.ref l, .int 0 0] }).push { cls := .type "list", data := .seq #[.ref e] }).get? b = some o) := fun b o q => Heap.get?_push_of_some _ (Heap.get?_push_of_some _ q)
  refine wpAny_pure ⟨plainId_quiet F.plain_sum_loop _, sum_loopL hW (fun i h st b hb => ?_) val xs (fun i v z => hval i v z) _ ?_ s.heap.objs.size ?_ ?_ hz its.size 0 _ e 0 me rfl (Nat.zero_le _) ⟨⟨_, Heap.get?_push_of_some _ (Heap.get?_push_size _ rfl), rfl, rfl⟩, ((IsL.push hl _).push _).isList⟩ (Heap.get?_push_size _ rfl) ?_ ?_ ((IsL.push he _).push _) (.inl rfl) (fun j hj => ?_) fun h' tk T' m' hk hn' hT' => ?_⟩
  · rw [List.mem_singleton.mp hb]
    obtain ⟨o, q, _⟩ := st.1
    exact Heap.lt_size q
  · intro hm
    rw [hsz1] at hm
    simp only [List.mem_cons, List.not_mem_nil, or_false] at hm
    rcases hm with hm | hm
    · exact Nat.succ_ne_self _ hm
    · rw [← hm] at hlt
      exact Nat.not_succ_lt_self hlt
  · rw [hsz1]; exact Nat.le_succ _
  · intro b hb
    rw [List.mem_singleton.mp hb]
    exact Nat.le_refl _
  · intro hm
    rw [List.mem_singleton.mp hm] at elt
    exact Nat.lt_irrefl _ elt
  · rw [hsz1]; exact Nat.ne_of_lt (Nat.lt_succ_of_lt elt)
  · obtain ⟨m2, q⟩ := hv j hj
    exact ⟨Heap.lt_size q, m2, kk _ _ q⟩
  · exact h h' tk T' m' (fun b o q => hk b o (Heap.lt_size q) (kk _ _ q)) (hn'.resolve_left (by omega)) hT'
end
section
variable {X : Cx}
/-- sum(xs, e): xs a list of lists, not empty, e an empty list -/
def rSumL : List V → Hp → VK → Prop := fun vs H Q => ∃ (a e : Addr) (n : Nat) (val : Nat → Addr) (xs : Nat → List V), vs = [V.ref a, V.ref e] ∧ H a = some (.lst ((List.range n).map fun i => V.ref (val i))) ∧ H e = some (.lst []) ∧ 0 < n ∧ (∀ j, j < n → H (val j) = some (.lst (xs j))) ∧ (fl xs n).length ≤ sizeLine ∧
  ∀ p, H p = none → Q (.ref p) (upd H p (.lst (fl xs n)))
theorem vals_fl {xs : Nat → List V} {us : Nat → List Value} {n : Nat} (h : ∀ j, j < n → Vals (xs j) (us j)) : ∀ {i : Nat}, i ≤ n → Vals (fl xs i) (fl us i)
  | 0, _ => .nil
  | i + 1, hi => (vals_fl h (i := i) (by omega)).append (h i (by omega))
theorem call_sumL (hc : X.calm = true) : CallR X (.builtin "sum") rSumL := by
  intro pins s σ H vs us Q I r h
  obtain ⟨a, e, n, val, xs, rfl, ha, he, hn0, hx, hz, q⟩ := h
  have eu : us = [.ref a, .ref e] := by
    cases r with
    | cons r1 r => cases r with
      | cons r2 r =>
        cases r
        cases r1
        cases r2
        rfl
  subst eu
  obtain ⟨_, its, m, rv, ln, hl⟩ := I.lstM ha
  obtain ⟨_, its2, m2, rv2, _, he2⟩ := I.lstM he
  cases rv2
  have hv : ∀ j, ∃ u : List Value, j < n → Vals (xs j) u ∧ ∃ m, IsL s.heap (val j) u.toArray m := fun j => by
    by_cases hj : j < n
    · obtain ⟨_, u, m3, r3, _, h3⟩ := I.lstM (hx j hj)
      exact ⟨u, fun _ => ⟨r3, m3, h3⟩⟩
    · exact ⟨[], fun z => absurd z hj⟩
  have ⟨uf, hu⟩ := Classical.axiomOfChoice hv
  have ln2 : its.length = n := by rw [← ln, List.length_map, List.length_range]
  have rvf := vals_fl (xs := xs) (us := uf) (n := n) (fun j hj => (hu j hj).1) (Nat.le_refl n)
  refine call_sum_lists (I.ok.hd hc) val uf hl (by rw [List.size_toArray]; exact ln2) (fun i v hv => ?_) he2 hn0 (fun j hj => (hu j hj).2) (by rw [← rvf.length]; exact hz) fun h' tk T' m' hk hT hI => ?_
  · have hv' : its[i]? = some v := by simpa using hv
    have il : i < n := by have := (List.getElem?_eq_some_iff.mp hv').1; omega
    have hg : ((List.range n).map fun i => V.ref (val i))[i]? = some (.ref (val i)) := by rw [List.getElem?_map, List.getElem?_range il]; rfl
    obtain ⟨v2, e1, e2⟩ := pairS_get rv hg
    rw [hv'] at e1
    have e3 : v = v2 := Option.some.inj e1
    subst e3
    exact e2
  · exact ⟨.ref T', upd H T' (.lst (fl xs n)), I.laid hk hT ⟨hz, fl uf n, m', rvf, hI⟩, rfl, q _ (I.hok.fresh hT)⟩
end
end K4

namespace K4
open PySem PySem.Spec PyProof.Rows L2
/-! ### the law's cells and those of a world -/
theorem pieces_nz (c : Cl) : pieces (nzc c) = pieces c := by
  have e1 : nmsOf (nzc c) = nmsOf c := rfl
  have e2 : closer (nzc c) = closer c := rfl
  have e3 : opener (nzc c) = opener c := by
    unfold opener nzc
    cases hk : c.kind
    · rfl
    · rfl
    · simp
  unfold pieces
  rw [e1, e2, e3]
  rfl
def resG (cs : List Cl) (D : List Int) (a : Int) : Option Cl := if a ∈ D then some (nzc (cO cs a)) else none
def InD (D : List Int) : It → Prop
  | .v (.ref b) => b ∈ D
  | _ => True
structure Sub (cs : List Cl) (D : List Int) : Prop where
  dm : ∀ a ∈ D, 0 ≤ a ∧ a < cs.length
  cl : ∀ a ∈ D, ∀ b, Vl.ref b ∈ (cO cs a).vs → b ∈ D
theorem Sub.get {cs : List Cl} {D : List Int} (S : Sub cs D) {a : Int} (h : a ∈ D) : ∃ c ∈ cs, gl cs a = some c ∧ cO cs a = c := by
  obtain ⟨x, y⟩ := S.dm a h
  obtain ⟨c, e, _, hc⟩ := gl_some x y
  exact ⟨c, hc, e, cO_of e⟩
theorem Sub.dom {cs : List Cl} (W : WF cs) : Sub cs (dom cs.length) := ⟨fun a h => mem_dom.mp h, fun a h b hb => by
  obtain ⟨x, y⟩ := mem_dom.mp h
  obtain ⟨c, e, _, hc⟩ := gl_some x y
  rw [cO_of e] at hb
  exact mem_dom.mpr (W.rf c hc b hb)⟩
theorem betw_inD {D : List Int} {nms : List Str} : ∀ {k : Nat} {vs : List Vl}, (∀ b, Vl.ref b ∈ vs → b ∈ D) → ∀ i ∈ betw nms k vs, InD D i
  | _, [], _, i, hi => by cases hi
  | k, v :: r, h, i, hi => by
    rcases List.mem_cons.mp hi with e | hi
    · subst e; exact True.intro
    rcases List.mem_cons.mp hi with e | hi
    · subst e
      cases v with
      | ref b => exact h b List.mem_cons_self
      | _ => exact True.intro
    · exact betw_inD (fun b hb => h b (List.mem_cons_of_mem _ hb)) i hi
theorem Dmp.res {cs : List Cl} {D : List Int} (S : Sub cs D) {n its m sg m'} (d : Dmp (gl cs) n its m sg m') : (∀ i ∈ its, InD D i) → Dmp (resG cs D) n its m sg m' := by
  induction d with
  | nil => intro _; exact .nil
  | s _ ih => intro h; exact .s (ih fun i hi => h i (List.mem_cons_of_mem _ hi))
  | v o _ ih =>
    intro h
    have h0 := h _ List.mem_cons_self
    have ht : ∀ i ∈ _, InD D i := fun i hi => h i (List.mem_cons_of_mem _ hi)
    rcases opn_cases o with ⟨a, rfl, ha, rfl, rfl⟩ | ⟨a, c, rfl, ha, hc, rfl, rfl⟩ | ⟨hr, rfl, rfl⟩
    · exact .v (opn_ref_met ha) (ih fun i hi => (List.mem_append.mp hi).elim (fun z => by rw [List.mem_singleton.mp z]; exact True.intro) (ht i))
    · have aD : a ∈ D := h0
      have e : resG cs D a = some (nzc c) := by unfold resG; rw [if_pos aD, cO_of hc]
      have o2 := opn_ref_new (g := resG cs D) ha e
      rw [pieces_nz] at o2
      refine .v o2 (ih fun i hi => (List.mem_append.mp hi).elim (fun z => ?_) (ht i))
      rcases List.mem_cons.mp z with z | z
      · subst z; exact True.intro
      rcases List.mem_append.mp z with z | z
      · exact betw_inD (fun b hb => S.cl a aD b (by rw [cO_of hc]; exact hb)) i z
      · rw [List.mem_singleton.mp z]; exact True.intro
    · exact .v (opn_plain hr) (ih fun i hi => (List.mem_append.mp hi).elim (fun z => by rw [List.mem_singleton.mp z]; exact True.intro) (ht i))
theorem Dmps.res {cs : List Cl} {D : List Int} (S : Sub cs D) {vs m css m'} (d : Dmps (gl cs) vs m css m') : (∀ b, Vl.ref b ∈ vs → b ∈ D) → Dmps (resG cs D) vs m css m' := by
  induction d with
  | nil => intro _; exact .nil
  | @cons n v r m sg m1 css m' h _ ih =>
    intro hv
    refine .cons (Dmp.res S h fun i hi => ?_) (ih fun b hb => hv b (List.mem_cons_of_mem _ hb))
    rw [List.mem_singleton.mp hi]
    cases v with
    | ref b => exact hv b List.mem_cons_self
    | _ => exact True.intro
theorem Dmps.asc {g : Int → Option Cl} {N : Nat} (G : Gok g N) {vs m css m'} (d : Dmps g vs m css m') : Mok g m → (∀ v ∈ vs, vOk v) → ∀ sg ∈ css, K4.asc sg := by
  induction d with
  | nil => intro _ _ sg h; cases h
  | @cons n v r m sg m1 css m' h _ ih =>
    intro M hv sg' hs
    have hi : ∀ i ∈ [It.v v], iOk i := fun i hi => by
      rw [List.mem_singleton.mp hi]
      exact hv v List.mem_cons_self
    rcases List.mem_cons.mp hs with e | hs
    · subst e
      exact h.asc G M hi fun i hi => by
        rw [List.mem_singleton.mp hi]
        exact hv v List.mem_cons_self
    · exact ih (h.size G M hi).2 (fun v h => hv v (List.mem_cons_of_mem _ h)) sg' hs
/-- rows stand for the cells of D under the numbers t -/
structure Std (cs : List Cl) (rows : List Row) (t : Int → Int) (D : List Int) : Prop where
  sub : Sub cs D
  inj : ∀ a ∈ D, ∀ b ∈ D, t a = t b → a = b
  row : ∀ a ∈ D, ∃ r ∈ rows, r.a = t a ∧ r.c = (nzc (cO cs a)).re t
  jun : ∀ r ∈ rows, (∃ a ∈ D, r.a = t a) ∨ jk r.c
section
variable {cs : List Cl} {rows : List Row} {t : Int → Int} {D : List Int}
theorem Std.iso (S : Std cs rows t D) (nd : (rows.map (·.a)).Nodup) : Iso (resG cs D) (gr rows) t := by
  have mem : ∀ a, (resG cs D a).isSome = true → a ∈ D := fun a h => by
    unfold resG at h
    by_cases e : a ∈ D
    · exact e
    · rw [if_neg e] at h; cases h
  refine ⟨fun a b ha hb => S.inj a (mem a ha) b (mem b hb), fun a c h => ?_, fun a c h b hb => ?_⟩
  · have ha := mem a (by rw [h]; rfl)
    unfold resG at h
    rw [if_pos ha] at h
    have e := Option.some.inj h
    obtain ⟨r, hr, e1, e2⟩ := S.row a ha
    rw [← e1, gr_of nd hr, e2, e]
  · have ha := mem a (by rw [h]; rfl)
    unfold resG at h
    rw [if_pos ha] at h
    have e := Option.some.inj h
    have : b ∈ D := S.sub.cl a ha b (by rw [← e] at hb; exact hb)
    unfold resG
    rw [if_pos this]
    rfl
theorem Std.dmps (S : Std cs rows t D) (nd : (rows.map (·.a)).Nodup) {xs css met} (d : Dmps (gl cs) xs [] css met) (h : ∀ b, Vl.ref b ∈ xs → b ∈ D) : Dmps (gr rows) (xs.map (Vl.re t)) [] css (met.map t) :=
  Dmps.re (S.iso nd) (Dmps.res S.sub d h) (fun b hb => by cases hb) fun b hb => by
    unfold resG
    rw [if_pos (h b hb)]
    rfl
theorem cOk_jk {c : Cl} (h : jk c) : cOk c := by
  obtain ⟨k, f, vs⟩ := c
  obtain ⟨h1, h2, n, h3, h4, h5⟩ := h
  have h1 : k = .lst := h1
  have h2 : f = 0 := h2
  have h3 : vs = [.int n] := h3
  subst h1 h2 h3
  refine cOk_mk (by decide) (by decide) (by show 1 ≤ 4; decide) fun v hv => ?_
  rw [List.mem_singleton.mp hv]
  have e : n = (n + 50) - 50 := by omega
  rw [e]
  exact vOk_int (by omega) (by omega)
theorem cOk_nz {c : Cl} (h : cOk c) : cOk (nzc c) := by
  have e3 : opener (nzc c) = opener c := by
    unfold opener nzc
    cases hk : c.kind
    · rfl
    · rfl
    · simp
  refine ⟨?_, h.le, h.vs, by rw [e3]; exact h.op, by rw [e3]; exact h.opc⟩
  show (if c.kind = .clo then c.f else 0).natAbs < 2 ^ 60
  split
  · exact h.fb
  · decide
theorem vOk_re {v : Vl} (t : Int → Int) (h : vOk v) : vOk (v.re t) := by
  cases v with
  | ref b => exact vOk_ref _
  | _ => exact h
theorem cOk_re {c : Cl} (t : Int → Int) (h : cOk c) : cOk (c.re t) := by
  have e : opener (c.re t) = opener c := by unfold opener Cl.re; cases c.kind <;> rfl
  refine ⟨h.fb, by show (c.vs.map _).length ≤ 4; rw [List.length_map]; exact h.le, fun v hv => ?_, by rw [e]; exact h.op, by rw [e]; exact h.opc⟩
  obtain ⟨u, hu, rfl⟩ := List.mem_map.mp hv
  exact vOk_re t (h.vs u hu)
theorem Std.rc (S : Std cs rows t D) (nd : (rows.map (·.a)).Nodup) {r : Row} (hr : r ∈ rows) : (∃ a ∈ D, r.a = t a ∧ r.c = (nzc (cO cs a)).re t) ∨ jk r.c := by
  rcases S.jun r hr with ⟨a, ha, e⟩ | z
  · obtain ⟨r', hr', e1, e2⟩ := S.row a ha
    have : r = r' := nd_row nd hr hr' (e.trans e1.symm)
    subst this
    exact .inl ⟨a, ha, e, e2⟩
  · exact .inr z
theorem Std.ok (S : Std cs rows t D) (W : WF cs) (nd : (rows.map (·.a)).Nodup) : GokR rows := fun r hr => by
  rcases S.rc nd hr with ⟨a, ha, _, e⟩ | z
  · obtain ⟨c, hc, _, e2⟩ := S.sub.get ha
    rw [e, e2]
    exact cOk_re t (cOk_nz (W.ok c hc))
  · exact cOk_jk z
theorem gok_gr (ok : GokR rows) (h : rows.length ≤ 100) : Gok (gr rows) rows.length := by
  refine ⟨h, fun a c e => ?_, fun m nd dm => ?_⟩
  · obtain ⟨r, hr, _, e2⟩ := gr_some e
    rw [← e2]
    exact ok r hr
  · have := nd_len (D := rows.map (·.a)) nd fun a ha => by
      cases e : gr rows a with
      | none => have := dm a ha; rw [e] at this; cases this
      | some c =>
        obtain ⟨r, hr, e1, _⟩ := gr_some e
        exact List.mem_map.mpr ⟨r, hr, e1⟩
    rwa [List.length_map] at this
theorem Std.closed (S : Std cs rows t D) (nd : (rows.map (·.a)).Nodup) : Closed rows := fun r hr b hb => by
  rcases S.rc nd hr with ⟨a, ha, _, e⟩ | ⟨_, _, n, e, _⟩
  · rw [e] at hb
    have hb : Vl.ref b ∈ (cO cs a).vs.map (Vl.re t) := hb
    obtain ⟨u, hu, eu⟩ := List.mem_map.mp hb
    cases u with
    | ref b0 =>
      have eu : Vl.ref (t b0) = Vl.ref b := eu
      cases eu
      obtain ⟨r', hr', e1, _⟩ := S.row b0 (S.sub.cl a ha b0 hu)
      exact ⟨r', hr', e1⟩
    | int _ => cases eu
    | txt _ => cases eu
    | null => cases eu
    | bool _ => cases eu
    | fn _ => cases eu
  · rw [e] at hb
    cases List.mem_singleton.mp hb
theorem refs_re (t : Int → Int) : ∀ xs : List Vl, refs (xs.map (Vl.re t)) = (refs xs).map t
  | [] => rfl
  | .ref a :: r => by show t a :: refs (r.map _) = t a :: (refs r).map t; rw [refs_re t r]
  | .int _ :: r => refs_re t r
  | .txt _ :: r => refs_re t r
  | .null :: r => refs_re t r
  | .bool _ :: r => refs_re t r
  | .fn _ :: r => refs_re t r
theorem Std.rg (S : Std cs rows t D) (nd : (rows.map (·.a)).Nodup) {a : Int} (h : a ∈ D) : rg rows (t a) = (lg cs a).map t := by
  obtain ⟨r, hr, e1, e2⟩ := S.row a h
  obtain ⟨c, hc, e3, e4⟩ := S.sub.get h
  rw [← e1, rg_of nd hr, e2, e4]
  unfold lg
  rw [e3]
  exact refs_re t c.vs
theorem TW.std {C : Addr} {H0 H : Hp} {A : WA} {S : WS} {tb : Addr} {kvs : List (Key × V)} {τ : Int → Int} {n : Nat} (W : WF cs) (T : TW C H0 H A S tb kvs τ (fun a => 0 ≤ a ∧ a < cs.length) (fun a => (nzc (cO cs a)).re τ) n) : Std cs S.rows τ (dom cs.length) :=
  ⟨Sub.dom W, fun a ha b hb => T.inj a b (mem_dom.mp ha) (mem_dom.mp hb), fun a ha => T.row a (mem_dom.mp ha), fun r hr => (T.jun r hr).elim (fun ⟨a, x, y⟩ => .inl ⟨a, mem_dom.mpr x, y⟩) .inr⟩
/-- the layers -/
def lays (cs : List Cl) (xs : List Vl) : List Int := bfs (lg cs) (cs.length + 1) (refs xs) []
theorem lays_ok (W : WF cs) {xs : List Vl} (h : ∀ b, Vl.ref b ∈ xs → 0 ≤ b ∧ b < cs.length) : ∃ k, Bfs (lg cs) k (refs xs) [] (lays cs xs) := by
  obtain ⟨k, a, _⟩ := bfs_run (g := lg cs) (D := dom cs.length) (lg_cl W) (cs.length + 1) (line := refs xs) (f := []) (fun a ha => mem_dom.mpr (h a (refs_mem ha))) ⟨List.nodup_nil, fun a h => by cases h⟩ (by rw [dom_len]; omega)
  exact ⟨k, a⟩
structure Lays (cs : List Cl) (xs : List Vl) (L : List Int) : Prop where
  sub : Sub cs L
  nd : L.Nodup
  rt : ∀ b, Vl.ref b ∈ xs → b ∈ L
  le : L.length ≤ cs.length
theorem lays_sub (W : WF cs) {xs : List Vl} (h : ∀ b, Vl.ref b ∈ xs → 0 ≤ b ∧ b < cs.length) : Lays cs xs (lays cs xs) := by
  obtain ⟨k, B⟩ := lays_ok W h
  obtain ⟨G, c1, c2, _⟩ := B.closed (D := dom cs.length) (lg_cl W) (fun a ha => mem_dom.mpr (h a (refs_mem ha))) ⟨List.nodup_nil, fun a h => by cases h⟩ (fun a h => by cases h)
  refine ⟨⟨fun a ha => mem_dom.mp (G.sub a ha), fun a ha b hb => ?_⟩, G.nd, fun b hb => c2 b (mem_refs hb), by have := G.len; rwa [dom_len] at this⟩
  obtain ⟨x, y⟩ := mem_dom.mp (G.sub a ha)
  obtain ⟨c, e, _, _⟩ := gl_some x y
  refine c1 a ha b ?_
  unfold lg
  rw [e]
  rw [cO_of e] at hb
  exact mem_refs hb
theorem Std.bfs (S : Std cs rows t (K4.dom cs.length)) (W : WF cs) (nd : (rows.map (·.a)).Nodup) {xs : List Vl} (h : ∀ b, Vl.ref b ∈ xs → 0 ≤ b ∧ b < cs.length) : ∃ k, Bfs (K4.rg rows) k (refs (xs.map (Vl.re t))) [] ((lays cs xs).map t) := by
  obtain ⟨k, B⟩ := lays_ok W h
  have z := B.re (D := dom cs.length) S.inj (fun a ha => S.rg nd ha) (lg_cl W) (fun a ha => mem_dom.mpr (h a (refs_mem ha))) ⟨List.nodup_nil, fun a h => by cases h⟩
  rw [refs_re]
  exact ⟨k, z⟩
/-- behind a move -/
theorem tOf_re {fr : Int} {L : List Int} (inj : ∀ a ∈ L, ∀ b ∈ L, t a = t b → a = b) {a : Int} (h : a ∈ L) : tOf fr (L.map t) (t a) = tOf fr L a := by
  unfold tOf
  rw [ixOf_re (S := fun b => b ∈ L) (fun a b ha hb => inj a ha b hb) h fun b hb => hb]
theorem tOf_inj {fr : Int} {L : List Int} {a b : Int} (ha : a ∈ L) (hb : b ∈ L) (e : tOf fr L a = tOf fr L b) : a = b := by
  unfold tOf at e
  have e2 : ixOf a L = ixOf b L := by omega
  have x := (ixOf_get ha).1
  rw [e2, (ixOf_get hb).1] at x
  exact (Option.some.inj x).symm
theorem re_re (t u : Int → Int) (v : Vl) : (v.re t).re u = v.re (fun a => u (t a)) := by cases v <;> rfl
theorem Std.moved (S : Std cs rows t (K4.dom cs.length)) (nd : (rows.map (·.a)).Nodup) {fr : Int} {xs : List Vl} {L : List Int} (Y : Lays cs xs L) {rows' : List Row} (M : MovedTo fr (L.map t) rows rows') : Std cs rows' (tOf fr L) L := by
  have inD : ∀ a ∈ L, a ∈ K4.dom cs.length := fun a ha => mem_dom.mpr (Y.sub.dm a ha)
  have injL : ∀ a ∈ L, ∀ b ∈ L, t a = t b → a = b := fun a ha b hb => S.inj a (inD a ha) b (inD b hb)
  have ln := M.len
  rw [List.length_map] at ln
  refine ⟨Y.sub, fun a ha b hb => tOf_inj ha hb, fun a ha => ?_, fun r' hr' => ?_⟩
  · have il := ixOf_lt ha
    have hl : ixOf a L < rows'.length := by omega
    obtain ⟨r, hr, e1, e2, e3⟩ := M.get (ixOf a L) rows'[ixOf a L] (List.getElem?_eq_getElem hl)
    refine ⟨rows'[ixOf a L], List.getElem_mem hl, e2, ?_⟩
    rw [List.getElem?_map, (ixOf_get ha).1] at e1
    have e1 : t a = r.a := Option.some.inj e1
    obtain ⟨r2, hr2, f1, f2⟩ := S.row a (inD a ha)
    have : r = r2 := nd_row nd hr hr2 (e1.symm.trans f1.symm)
    subst this
    rw [e3, f2]
    unfold Cl.re
    congr 1
    rw [List.map_map]
    refine List.map_congr_left fun v hv => ?_
    show (v.re t).re _ = _
    rw [re_re]
    cases v with
    | ref b =>
      exact congrArg Vl.ref (tOf_re injL (Y.sub.cl a ha b hv))
    | _ => rfl
  · obtain ⟨i, hi⟩ := List.getElem?_of_mem hr'
    obtain ⟨r, hr, e1, e2, _⟩ := M.get i r' hi
    rw [List.getElem?_map] at e1
    obtain ⟨a, ea, e1⟩ := Option.map_eq_some_iff.mp e1
    have am := List.mem_of_getElem? ea
    refine .inl ⟨a, am, e2.trans ?_⟩
    unfold tOf
    rw [ixOf_nd Y.nd ea]
theorem told_eq (inj : ∀ a ∈ K4.dom cs.length, ∀ b ∈ K4.dom cs.length, t a = t b → a = b) {fr : Int} {xs : List Vl} {L : List Int} (Y : Lays cs xs L) : (xs.map (Vl.re t)).map (Vl.re (tOf fr (L.map t))) = xs.map (Vl.re (tOf fr L)) := by
  rw [List.map_map]
  refine List.map_congr_left fun v hv => ?_
  show (v.re t).re _ = _
  rw [re_re]
  cases v with
  | ref b =>
    exact congrArg Vl.ref (tOf_re (fun a ha b hb => inj a (mem_dom.mpr (Y.sub.dm a ha)) b (mem_dom.mpr (Y.sub.dm b hb))) (Y.rt b hv))
  | _ => rfl
end
/-! ### rows of texts and of numbers as data -/
theorem asc_strOk {l : List Nat} (h : asc l) : PyData.strOk (mkS l) = true := by
  show (mkS l).cps.all (fun c => decide (c < 0x110000)) = true
  rw [← Array.all_toList]
  exact h
theorem strs_can : ∀ {css : List (List Nat)}, (∀ s ∈ css, asc s) → PyData.canLayAll0 (css.map fun c => PyData.str (mkS c)) = true ∧ PyData.depthAll (css.map fun c => PyData.str (mkS c)) ≤ 1
  | [], _ => ⟨rfl, Nat.zero_le _⟩
  | s :: r, h => by
    obtain ⟨c, d⟩ := strs_can (css := r) fun u hu => h u (List.mem_cons_of_mem _ hu)
    refine ⟨?_, ?_⟩
    · show ((PyData.str (mkS s)).canLay0 && PyData.canLayAll0 (r.map fun c => PyData.str (mkS c))) = true
      rw [c, Bool.and_true]
      simp only [PyData.canLay0]
      exact asc_strOk (h s List.mem_cons_self)
    · show max (PyData.str (mkS s)).depth (PyData.depthAll (r.map fun c => PyData.str (mkS c))) ≤ 1
      have : (PyData.str (mkS s)).depth ≤ 1 := by simp [PyData.depth]
      omega
theorem ints_can : ∀ (l : List Int), PyData.canLayAll0 (l.map PyData.int) = true ∧ PyData.depthAll (l.map PyData.int) ≤ 1
  | [] => ⟨rfl, Nat.zero_le _⟩
  | n :: r => by
    obtain ⟨c, d⟩ := ints_can r
    refine ⟨?_, ?_⟩
    · show ((PyData.int n).canLay0 && PyData.canLayAll0 (r.map PyData.int)) = true
      rw [c, Bool.and_true]
      simp only [PyData.canLay0]
    · show max (PyData.int n).depth (PyData.depthAll (r.map PyData.int)) ≤ 1
      have : (PyData.int n).depth ≤ 1 := by simp [PyData.depth]
      omega
theorem list_shaped {ds : List PyData} (h1 : PyData.canLayAll0 ds = true) (h2 : PyData.depthAll ds ≤ 1) : SeqAt.shaped (.list ds) = true := by
  unfold SeqAt.shaped
  have e1 : (PyData.list ds).canLay0 = true := by simp only [PyData.canLay0]; exact h1
  have e2 : (PyData.list ds).depth = PyData.depthAll ds + 1 := rfl
  rw [e1, e2, decide_eq_true (by omega)]
  rfl
theorem strs_shaped {css : List (List Nat)} (h : ∀ s ∈ css, asc s) : SeqAt.shaped (.list (css.map fun c => PyData.str (mkS c))) = true := list_shaped (strs_can h).1 (strs_can h).2
theorem ints_shaped (l : List Int) : SeqAt.shaped (.list (l.map PyData.int)) = true := list_shaped (ints_can l).1 (ints_can l).2
theorem dpall_strs {K : PySem.W.Frag} {H : Hp} : ∀ css : List (List Nat), DpAll K H (css.map fun c => V.str (mkS c)) (css.map fun c => PyData.str (mkS c))
  | [] => .nil
  | s :: r => .cons (.str _) (dpall_strs r)
theorem dpall_ints {K : PySem.W.Frag} {H : Hp} : ∀ l : List Int, DpAll K H (l.map V.int) (l.map PyData.int)
  | [] => .nil
  | s :: r => .cons (.int _) (dpall_ints r)
theorem strs_dp {K : PySem.W.Frag} {H : Hp} {r : Addr} {css : List (List Nat)} (h : H r = some (.lst (css.map fun c => V.str (mkS c)))) : Dp K H (.ref r) (.list (css.map fun c => PyData.str (mkS c))) := .lst (SqL.of h) (dpall_strs css)
theorem ints_dp {K : PySem.W.Frag} {H : Hp} {r : Addr} {l : List Int} (h : H r = some (.lst (l.map V.int))) : Dp K H (.ref r) (.list (l.map PyData.int)) := .lst (SqL.of h) (dpall_ints l)
theorem eq_true {d : PyData} (h : SeqAt.shaped d = true) : PyData.eqv d d = true := shaped_refl h
/-! ### an order of the cells -/
def ordN (m : Nat) (first step : Int) : List Int := (List.range m).map fun (i : Nat) => (first + step * (i : Int)) % (m : Int)
theorem mul_small {m k d : Int} (hm : 1 ≤ m) (h : d = m * k) (h1 : d < m) (h2 : -m < d) : d = 0 := by
  rcases Int.lt_trichotomy k 0 with z | z | z
  · have := Int.mul_le_mul_of_nonneg_left (c := m) (show k ≤ -1 by omega) (by omega)
    rw [Int.mul_neg_one] at this
    omega
  · rw [z, Int.mul_zero] at h
    exact h
  · have := Int.mul_le_mul_of_nonneg_left (c := m) (show 1 ≤ k by omega) (by omega)
    rw [Int.mul_one] at this
    omega
theorem ordN_inj {m : Nat} {first step : Int} (hm : 1 ≤ m) (hs : step = 1 ∨ (step = m - 1)) {i j : Nat} (hi : i < m) (hj : j < m) (e : (first + step * (i : Int)) % (m : Int) = (first + step * (j : Int)) % (m : Int)) : i = j := by
  have z : ((first + step * (i : Int)) - (first + step * (j : Int))) % (m : Int) = 0 := Int.emod_eq_emod_iff_emod_sub_eq_zero.mp e
  obtain ⟨c, hc⟩ := Int.dvd_of_emod_eq_zero z
  have e1 : step * ((i : Int) - j) = m * c := by
    rw [Int.mul_sub]
    omega
  have key : ∃ k, ((i : Int) - j) = m * k := by
    rcases hs with h | h
    · rw [h, Int.one_mul] at e1
      exact ⟨c, e1⟩
    · rw [h, Int.sub_mul, Int.one_mul] at e1
      refine ⟨((i : Int) - j) - c, ?_⟩
      rw [Int.mul_sub]
      omega
  obtain ⟨k, hk⟩ := key
  have := mul_small (by omega) hk (by omega) (by omega)
  omega
theorem ordN_ok {m : Nat} {first step : Int} (hm : 1 ≤ m) (hs : step = 1 ∨ (step = m - 1)) : (ordN m first step).Nodup ∧ ∀ a, a ∈ ordN m first step ↔ 0 ≤ a ∧ a < m := by
  have nd : (ordN m first step).Nodup := by
    unfold ordN
    refine List.pairwise_map.mpr ?_
    refine List.Pairwise.imp_of_mem (fun {a b} ha hb (h : a ≠ b) e => ?_) (List.nodup_range (n := m))
    exact h (ordN_inj hm hs (List.mem_range.mp ha) (List.mem_range.mp hb) e)
  have fw : ∀ a, a ∈ ordN m first step → 0 ≤ a ∧ a < m := fun a h => by
    unfold ordN at h
    obtain ⟨i, _, rfl⟩ := List.mem_map.mp h
    exact ⟨Int.emod_nonneg _ (by omega), Int.emod_lt_of_pos _ (by omega)⟩
  refine ⟨nd, fun a => ⟨fw a, fun h => ?_⟩⟩
  by_cases z : a ∈ ordN m first step
  · exact z
  · have := nd_len (D := dom m) (f := a :: ordN m first step) (List.nodup_cons.mpr ⟨z, nd⟩) fun b hb => by
      rcases List.mem_cons.mp hb with e | e
      · rw [e]; exact mem_dom.mpr h
      · exact mem_dom.mpr (fw b e)
    rw [List.length_cons, dom_len] at this
    unfold ordN at this
    rw [List.length_map, List.length_range] at this
    omega
theorem dom_ok (m : Nat) : (dom m).Nodup ∧ ∀ a, a ∈ dom m ↔ 0 ≤ a ∧ a < m := by
  refine ⟨?_, fun a => mem_dom⟩
  unfold dom
  refine List.pairwise_map.mpr ?_
  exact List.Pairwise.imp_of_mem (fun {a b} _ _ (h : a ≠ b) e => h (by omega)) (List.nodup_range (n := m))
end K4

namespace K4
open PySem PySem.Spec PyProof.Rows L2
/-! ### what stands behind the head of law -/
structure LF (H : Hp) (dr l rt du la : Addr) (cs : List Cl) (xs : List Vl) (css : List (List Nat)) : Prop where
  hd : DrAt H dr
  C : CsAt H l cs
  R : LV H rt xs
  du : H du = some (.lst (css.map fun c => V.str (mkS c)))
  la : H la = some (.lst ((lays cs xs).map V.int))
theorem LF.same {H H' : Hp} {dr l rt du la : Addr} {cs : List Cl} {xs : List Vl} {css : List (List Nat)} (s : Same H H') (F : LF H dr l rt du la cs xs css) : LF H' dr l rt du la cs xs css :=
  ⟨F.hd.same s, F.C.same s, F.R.same s, s _ _ F.du, s _ _ F.la⟩
structure LP (cs : List Cl) (xs : List Vl) (css : List (List Nat)) (mv : Int) : Prop where
  W : WF cs
  AH : Ahead cs
  TR : Tru cs
  mv : mv = cs.length
  xl : xs.length ≤ 4
  gv : ∀ v ∈ xs, Gv cs.length v
  D : ∃ met, Dmps (gl cs) xs [] css met
theorem LP.rf {cs : List Cl} {xs : List Vl} {css : List (List Nat)} {mv : Int} (p : LP cs xs css mv) : ∀ b, Vl.ref b ∈ xs → 0 ≤ b ∧ b < cs.length := fun b hb => (p.gv _ hb).rf b rfl
theorem key3 {HZ : Hp} {m : Nat} {b0 c0 : Int} {p1 p2 p3 : Addr} (b1 : 0 ≤ b0) (b2 : b0 < m) (c1 : 0 ≤ c0) (c2 : c0 < m) (x1 : VAt HZ p1 (.ref b0)) (x2 : VAt HZ p2 (.int 7)) (x3 : VAt HZ p3 (.ref c0)) :
    ∀ r : Nat, r < 3 → ∃ p v, [V.ref p1, .ref p2, .ref p3][r]? = some (.ref p) ∧ VAt HZ p v ∧ Gv m v := by
  intro r hr
  match r with
  | 0 => exact ⟨p1, _, rfl, x1, vOk_ref _, True.intro, (fun b e => by cases e; omega), fun z => by cases z⟩
  | 1 => exact ⟨p2, _, rfl, x2, vOk_7, True.intro, (fun b e => by cases e), fun z => by cases z⟩
  | 2 => exact ⟨p3, _, rfl, x3, vOk_ref _, True.intro, (fun b e => by cases e; omega), fun z => by cases z⟩
  | n + 3 => omega
section
variable {P : Program} {w : World} {K : PySem.W.Frag} {mg : Str → Option Value} {base : Heap} {CW CD : Addr}
theorem call_lenK (K : PySem.W.Frag) {X : Cx} (h : X.K = K := by rfl) : CallR X (.builtin "len") (fun xs H Q => ∃ p ys, xs = [.ref p] ∧ (SqL K H p ys ∨ SqT K H p ys) ∧ Q (.int (ys.length : Nat)) H) := h ▸ call_len_seq
abbrev nmsLaw : List Str := ["script", "draws", "cells", "many", "roots", "due", "layers", "first", "step", "order", "some", "more", "world", "table", "there", "fresh", "told", "spots", "a", "t", "kind", "f", "values", "other", "bent", "k"]
theorem scLaw : FnScope nmsLaw ["script"] (C8.fnScope sLaw) := C8.fnScope_by (by decide +kernel)
def spLaw (K : PySem.W.Frag) : Sp := fun vs H Q _ => ∃ (a : Addr) (ns : List Int), vs = [.ref a] ∧ SqL K H a (ns.map V.int) ∧ ns.length ≤ 63 ∧ ∀ H', Q (.bl true) H'
/-- the rest of law, from the for on -/
def Rest (P : Program) (w : World) (K : PySem.W.Frag) (mg : Str → Option Value) (base : Heap) : Prop :=
  ∀ (f : Addr) (cdv : Value) (A : Around) (outer : List Env) (s : Shared) (H0 : Hp) (Q : VK) (E : XK), Room 15 (A.deeper (envOfC "law" (C8.fnScope sLaw) s.heap.objs.size f cdv)) → (∀ H', Q (.bl true) H') →
    ∃ t, PSs (cxOf C8.CX0 P w K mg base nmsLaw "law" (C8.fnScope sLaw) f cdv A outer s H0 E).nox ((C8.fnBody sLaw).drop 8) t ∧
      ∀ (a dr l rt du la od : Addr) (cs : List Cl) (xs : List Vl) (css : List (List Nat)) (mv fs st : Int) (ord : List Int) (H : Hp), LF H dr l rt du la cs xs css → LP cs xs css mv → H od = some (.lst (ord.map V.int)) → ord.Nodup → (∀ a, a ∈ ord ↔ 0 ≤ a ∧ a < cs.length) →
        t { nx := fun _ H' => Q .non H', rt := Q } [some (.ref a), some (.ref dr), some (.ref l), some (.int mv), some (.ref rt), some (.ref du), some (.ref la), some (.int fs), some (.int st), some (.ref od), none, none, none, none, none, none, none, none, none, none, none, none, none, none, none, none] H
theorem ok_law0 (T : Txt K mg CW CD) (RS : Rest P w K mg base) {f : Addr} {fd : FuncData} (F : C8.Fun K "law" "law" sLaw f fd) : FnOk P w K mg base C8.CX0 16 f fd ["script"] (spLaw K) := by
  refine C8.fn0 F scLaw (fun vs H Q E h => ?_) fun cdv A outer s H vs Q E hr h => ?_
  · obtain ⟨_, _, rfl, _⟩ := h
    rfl
  obtain ⟨a, ns, rfl, ha, nl, q⟩ := h
  have hu := hu_of hr
  obtain ⟨tR, hR, qR⟩ := RS f cdv A outer s H Q E hr q
  refine ⟨_, pss_cons (ps_set (i := 1) scLaw.nd rfl (by first | exact Or.inl rfl | exact Or.inr rfl) (C8.pe_c (ok_draws T) hr (by decide) rfl (pa_cons (pv 0) pa_nil)))
    (pss_cons (ps_set (i := 2) scLaw.nd rfl (by first | exact Or.inl rfl | exact Or.inr rfl) (C8.pe_c (ok_cells T) hr (by decide) rfl (pa_cons (pv 1) pa_nil)))
    (pss_cons (ps_set (i := 3) scLaw.nd rfl (by first | exact Or.inl rfl | exact Or.inr rfl) (pe_callB call_len_seq rfl T.zLen PySem.boot_len (pa_cons (pv 2) pa_nil)))
    (pss_cons (ps_setLc (i := 4) (own := [("t", 19)]) (g := gName 19) (tt := tYes) (by rfl) scLaw.nd rfl rfl (sw_true rfl rfl rfl (by decide +kernel)) (pi_range1 rfl T.zRange (pa_cons (C8.pe_c (ok_mix T) hr (by decide) rfl (pa_cons (pv 1) (pa_cons pe_int (pa_cons pe_int pa_nil)))) pa_nil)) (blkOk_by (N := nmsLaw) (sc := C8.fnScope sLaw) (by decide +kernel))
        (fun _ _ _ _ _ => pg_name (i := 19) scLaw.nd rfl (by first | exact Or.inl rfl | exact Or.inr rfl)) (fun _ _ _ _ _ => pts_nil)
        (fun _ _ _ _ _ => pe_ix (ixL K) (pe_lst (pa_cons (pe_tup (pa_cons pe_str (pa_cons (C8.pe_c (ok_mix T) hr (by decide) rfl (pa_cons (pv 1) (pa_cons (pe_op op_add pe_int (pv 19)) (pa_cons (pv 3) pa_nil)))) pa_nil)))
            (pa_cons (pe_tup (pa_cons pe_str (pa_cons pe_int pa_nil))) (pa_cons (pe_tup (pa_cons pe_str (pa_cons (C8.pe_c (ok_mix T) hr (by decide) rfl (pa_cons (pv 1) (pa_cons (pe_op op_add pe_int (pv 19)) (pa_cons (pv 3) pa_nil)))) pa_nil))) pa_nil))))
            (C8.pe_c (ok_mix T) hr (by decide) rfl (pa_cons (pv 1) (pa_cons (pe_op op_add pe_int (pv 19)) (pa_cons pe_int pa_nil)))) (fun _ _ => rfl)))
    (pss_cons (ps_asg (pe_tup (pa_cons (C8.pe_c (ok_lds T) hr (by decide) rfl (pa_cons (pv 2) (pa_cons (pv 4) pa_nil))) (pa_cons (C8.pe_c (ok_layers T) hr (by decide) rfl (pa_cons (pv 2) (pa_cons (pv 4) pa_nil))) (pa_cons (C8.pe_c (ok_mix T) hr (by decide) rfl (pa_cons (pv 1) (pa_cons pe_int (pa_cons (pv 3) pa_nil)))) pa_nil))))
        (pg_tup rfl (pgs_cons (pg_name (i := 5) scLaw.nd rfl (by first | exact Or.inl rfl | exact Or.inr rfl)) (pgs_cons (pg_name (i := 6) scLaw.nd rfl (by first | exact Or.inl rfl | exact Or.inr rfl)) (pgs_cons (pg_name (i := 7) scLaw.nd rfl (by first | exact Or.inl rfl | exact Or.inr rfl)) pgs_nil)))))
    (pss_cons (ps_set (i := 8) scLaw.nd rfl (by first | exact Or.inl rfl | exact Or.inr rfl) (pe_ix ix_list (pe_lst (pa_cons pe_int (pa_cons (pe_op op_sub (pv 3) pe_int) pa_nil))) (C8.pe_c (ok_mix T) hr (by decide) rfl (pa_cons (pv 1) (pa_cons pe_int (pa_cons pe_int pa_nil)))) (fun _ _ => rfl)))
    (pss_cons (ps_setLc (i := 9) (own := [("t", 19)]) (g := gName 19) (tt := tYes) (by rfl) scLaw.nd rfl rfl (sw_true rfl rfl rfl (by decide +kernel)) (pi_range1 rfl T.zRange (pa_cons (pv 3) pa_nil)) (blkOk_by (N := nmsLaw) (sc := C8.fnScope sLaw) (by decide +kernel))
        (fun _ _ _ _ _ => pg_name (i := 19) scLaw.nd rfl (by first | exact Or.inl rfl | exact Or.inr rfl)) (fun _ _ _ _ _ => pts_nil)
        (fun _ _ _ _ _ => pe_op op_mod (pe_callTy call_int1 (by rfl) T.zInt (by decide +kernel) (pa_cons (pe_op op_add (pv 7) (pe_op op_mul (pv 8) (pv 19))) pa_nil)) (pv 3)))
    (pss_cons (ps_if (pt_cmpR op_eq (pv 3) pe_int (nomark _)) (pss_one (ps_set (i := 9) scLaw.nd rfl (by first | exact Or.inl rfl | exact Or.inr rfl) (pe_lst (pa_cons pe_int pa_nil)))) pss_nil)
      hR))))))), ?_⟩
  refine ⟨_, rfl, a, ns, rfl, ha, nl, fun dr H1 s1 hd => ?_⟩
  refine ⟨_, rfl, dr, rfl, hd, fun l H2 cs s2 C W AH TR => ?_⟩
  have n1 := W.n1
  have n12 := W.n12
  obtain ⟨psC, eC, prC⟩ := id C
  have lC : ((psC.map V.ref).length : Int) = cs.length := by rw [List.length_map, prC.length]
  have hd2 := hd.same s2
  refine ⟨_, rfl, l, _, rfl, .inl (SqL.of eC), ?_⟩
  refine ⟨_, rfl, dr, 2, 5, rfl, hd2, by decide, fun r0 r1 r2 => ⟨_, rfl, by omega, by omega, fun D hD => ?_⟩⟩
  refine lc_range (lo := 0) (n := r0.toNat) (fun i H3 => ∃ (ps : List Addr) (xs : List Vl), Same H2 H3 ∧ H3 D = some (.lst (ps.map V.ref)) ∧ VsAt H3 ps xs ∧ xs.length = i ∧ ∀ v ∈ xs, Gv cs.length v)
    ⟨[], [], same_new hD _, upd_same, .nil, rfl, fun v h => by cases h⟩ ?_ ?_
  · rintro i H3 hi ⟨ps, xs, s3, d3, va, xl, gv⟩
    have hd3 : ∀ {H' : Hp}, Same H3 H' → DrAt H' dr := fun s => hd2.same (L2.Same.trans s3 s)
    refine ⟨rfl, ?_⟩
    refine ⟨_, rfl, _, rfl, _, _, rfl, rfl, _, rfl, dr, _, _, rfl, hd3 (fun _ _ h => h), by omega, fun b0 b1 b2 => ⟨by show 2 ≤ sizeLine; decide, fun p1 f1 => ⟨by show 2 ≤ sizeLine; decide, fun p2 f2 => ?_⟩⟩⟩
    have e1 := same_new f1 (.tup (enc (.ref b0)))
    have e2 := same_new f2 (.tup (enc (.int 7)))
    have t12 := L2.Same.trans e1 e2
    refine ⟨_, rfl, _, rfl, _, _, rfl, rfl, _, rfl, dr, _, _, rfl, hd3 t12, by omega, fun c0 c1 c2 => ⟨by show 2 ≤ sizeLine; decide, fun p3 f3 => ⟨by show 3 ≤ sizeLine; decide, fun L fL => ?_⟩⟩⟩
    have e3 := same_new f3 (.tup (enc (.ref c0)))
    have e4 := same_new fL (.lst [.ref p1, .ref p2, .ref p3])
    have t34 := L2.Same.trans e3 e4
    have tA := L2.Same.trans t12 t34
    refine ⟨_, rfl, _, rfl, _, _, rfl, rfl, dr, _, 3, rfl, hd3 tA, by decide, fun k0 k1 k2 => ?_⟩
    obtain ⟨p, v, q1, q2, q3⟩ := key3 (m := cs.length) b1 (by omega) c1 (by omega) (VAt.same (v := .ref b0) (p := p1) (L2.Same.trans e2 t34) upd_same) (VAt.same (v := .int 7) (p := p2) t34 upd_same) (VAt.same (v := .ref c0) (p := p3) e4 upd_same) k0.toNat (by omega)
    have ek : k0 = ((k0.toNat : Nat) : Int) := by omega
    refine ⟨L, _, k0, _, rfl, rfl, SqL.of upd_same, (by rw [ek]; exact atI_nat q1), ?_⟩
    obtain ⟨z1, z2, z3⟩ := lv_snoc hD (L2.Same.trans s3 tA) (tA _ _ d3) (va.same tA) q2
    refine ⟨_, tA _ _ d3, (by rw [List.length_map, va.length]; exact small1000 (by omega)), _, xs ++ [v], z1, z2, z3, by rw [List.length_append, xl]; rfl, fun u hu => ?_⟩
    rcases List.mem_append.mp hu with h | h
    · exact gv u h
    · rw [List.mem_singleton.mp h]; exact q3
  rintro H3 ⟨psx, xs, s3, d3, va, xl, gv⟩
  have R3 : LV H3 D xs := ⟨psx, d3, va⟩
  have xr : ∀ b, Vl.ref b ∈ xs → 0 ≤ b ∧ b < cs.length := fun b hb => (gv _ hb).rf b rfl
  refine ⟨_, rfl, _, rfl, l, D, cs, xs, rfl, C.same s3, W, TR, R3, by omega, (fun v hv => ⟨(gv v hv).ok, (gv v hv).nb⟩), xr, fun du H4 css met s4 fdu edu Dm => ?_⟩
  refine ⟨_, rfl, _, rfl, l, D, cs, xs, rfl, C.same (L2.Same.trans s3 s4), W, R3.same s4, by omega, xr, fun la H5 s5 fla ela => ?_⟩
  refine ⟨_, rfl, _, rfl, dr, 3, _, rfl, hd2.same (L2.Same.trans s3 (L2.Same.trans s4 s5)), by omega, fun f0 f1 f2 => ⟨by show 3 ≤ sizeLine; decide, fun tp ftp => ?_⟩⟩
  have s6 := same_new ftp (.tup [V.ref du, V.ref la, V.int f0])
  have s36 := L2.Same.trans s4 (L2.Same.trans s5 s6)
  have LF6 : LF _ dr l D du la cs xs css := ⟨hd2.same (L2.Same.trans s3 s36), C.same (L2.Same.trans s3 s36), R3.same s36, (L2.Same.trans s5 s6) _ _ edu, s6 _ _ ela⟩
  have LP6 : LP cs xs css ((psC.map V.ref).length : Int) := ⟨W, AH, TR, lC, by omega, gv, met, Dm⟩
  refine ⟨tp, _, rfl, SqT.of upd_same, rfl, _, _, rfl, _, _, rfl, _, _, rfl, rfl, ?_⟩
  refine ⟨_, rfl, _, _, rfl, rfl, by show 2 ≤ sizeLine; decide, fun L fL => ?_⟩
  have s7 := same_new fL (.lst [V.int 1, V.int (((psC.map V.ref).length : Int) - 1)])
  have LF7 := LF6.same s7
  refine ⟨_, rfl, dr, 4, 2, rfl, LF7.hd, by decide, fun k0 k1 k2 => ?_⟩
  obtain ⟨st, est, hst⟩ : ∃ st : Int, atI [V.int 1, V.int (((psC.map V.ref).length : Int) - 1)] k0 = some (.int st) ∧ (st = 1 ∨ st = cs.length - 1) := by
    have ek : k0 = ((k0.toNat : Nat) : Int) := by omega
    have hk : k0.toNat < 2 := by omega
    rw [ek]
    generalize k0.toNat = n at hk
    match n with
    | 0 => exact ⟨1, rfl, .inl rfl⟩
    | 1 => exact ⟨_, rfl, .inr (by omega)⟩
    | n + 2 => omega
  refine ⟨L, _, k0, _, rfl, rfl, SqL.of upd_same, est, ?_⟩
  refine ⟨_, rfl, _, rfl, by omega, by omega, fun od hod => ?_⟩
  have en : ((psC.map V.ref).length : Int).toNat = cs.length := by omega
  rw [en]
  refine lc_range (lo := 0) (n := cs.length) (fun i H3 => Same _ H3 ∧ H3 od = some (.lst (((List.range i).map fun (j : Nat) => (f0 + st * (j : Int)) % (cs.length : Int)).map V.int)))
    ⟨same_new hod _, upd_same⟩ ?_ ?_
  · rintro i H8 hi ⟨s8, o8⟩
    refine ⟨rfl, ?_⟩
    refine ⟨_, rfl, _, rfl, _, rfl, _, _, rfl, rfl, ?_, _, _, rfl, rfl, .inl ⟨_, rfl, _, rfl, _, _, rfl, rfl, ?_, ?_⟩⟩
    · exact .inl ⟨by show -(2 ^ 64) < st; omega, by show st < 2 ^ 64; omega⟩
    · show (0 : Int) < _
      omega
    · refine ⟨_, o8, by rw [List.length_map, List.length_map, List.length_range]; exact small1000 (by omega), fun b o e => ?_, ?_⟩
      · rw [upd_ne (ne_of_none e hod)]
        exact s8 _ _ e
      · rw [upd_same, lC, List.range_succ, List.map_append, List.map_append, Int.zero_add]
        rfl
  rintro H8 ⟨s8, o8⟩
  obtain ⟨od1, od2⟩ := ordN_ok (m := cs.length) (first := f0) (step := st) n1 hst
  refine ⟨_, rfl, rfl, _, rfl, ?_⟩
  by_cases h1 : ((psC.map V.ref).length : Int) = 1
  · refine iteTb (decide_eq_true (by rw [h1])) ⟨by show 1 ≤ sizeLine; decide, fun o2 ho2 => ?_⟩
    refine qR a dr l D du la o2 cs xs css _ f0 st [0] _ (LF7.same (L2.Same.trans s8 (same_new ho2 _))) LP6 upd_same (by simp) fun a => ?_
    rw [List.mem_singleton]
    omega
  · refine iteFb (decide_eq_false fun z => h1 (by injection z)) ?_
    exact qR a dr l D du la od cs xs css _ f0 st (ordN cs.length f0 st) H8 (LF7.same s8) LP6 o8 od1 od2
end
end K4

namespace K4
open PySem PySem.Spec PyProof.Rows L2
/-! ### every row has a dump -/
theorem Dmp.ex {g : Int → Option Cl} {N : Nat} (G : Gok g N) (cl : ∀ a c, g a = some c → ∀ b, Vl.ref b ∈ c.vs → (g b).isSome = true) : ∀ (k : Nat) (its : List It) (m : List Int), wt its + 400 * (N - m.length) ≤ k → Mok g m → (∀ i ∈ its, iOk i) → (∀ i ∈ its, InS g i) → ∃ n sg m', Dmp g n its m sg m'
  | _, [], m, _, _, _, _ => ⟨0, [], m, .nil⟩
  | 0, .s x :: r, m, h, _, _, _ => by
    have : wt (.s x :: r) = (cod x).length + 1 + wt r := rfl
    omega
  | 0, .v x :: r, m, h, _, _, _ => by
    have : wt (.v x :: r) = 50 + wt r := rfl
    omega
  | k + 1, .s x :: r, m, h, M, hi, hs => by
    have : wt (.s x :: r) = (cod x).length + 1 + wt r := rfl
    obtain ⟨n, sg, m', d⟩ := Dmp.ex G cl k r m (by omega) M (fun i h => hi i (List.mem_cons_of_mem _ h)) fun i h => hs i (List.mem_cons_of_mem _ h)
    exact ⟨n + 1, _, m', .s d⟩
  | k + 1, .v x :: r, m, h, M, hi, hs => by
    have e : wt (.v x :: r) = 50 + wt r := rfl
    have ho : ∃ its m1, opn g x m = some (its, m1) ∧ ∀ i ∈ its, InS g i := by
      cases hx : isRef x with
      | false => exact ⟨_, _, opn_plain hx, fun i hi => by rw [List.mem_singleton.mp hi]; exact True.intro⟩
      | true =>
        cases x with
        | ref a =>
          by_cases ha : a ∈ m
          · exact ⟨_, _, opn_ref_met ha, fun i hi => by rw [List.mem_singleton.mp hi]; exact True.intro⟩
          · have h1 : (g a).isSome = true := hs _ List.mem_cons_self
            cases gc : g a with
            | none => rw [gc] at h1; cases h1
            | some c => exact ⟨_, _, opn_ref_new ha gc, pieces_in (cl a c gc)⟩
        | _ => cases hx
    obtain ⟨its, m1, o, hin⟩ := ho
    obtain ⟨h1, h2, h3⟩ := opn_ok G o (hi _ List.mem_cons_self) M
    obtain ⟨n, sg, m', d⟩ := Dmp.ex G cl k (its ++ r) m1 (by rw [wt_app]; omega) h2 (fun i h => (List.mem_append.mp h).elim (h3 i) fun h => hi i (List.mem_cons_of_mem _ h)) fun i h => (List.mem_append.mp h).elim (hin i) fun h => hs i (List.mem_cons_of_mem _ h)
    exact ⟨n + 1, sg, m', .v o d⟩
theorem Dmps.ex {g : Int → Option Cl} {N : Nat} (G : Gok g N) (cl : ∀ a c, g a = some c → ∀ b, Vl.ref b ∈ c.vs → (g b).isSome = true) : ∀ (xs : List Vl) (m : List Int), Mok g m → (∀ v ∈ xs, vOk v) → (∀ b, Vl.ref b ∈ xs → (g b).isSome = true) → ∃ css m', Dmps g xs m css m'
  | [], m, _, _, _ => ⟨[], m, .nil⟩
  | v :: r, m, M, hv, hr => by
    have hi : ∀ i ∈ [It.v v], iOk i := fun i hi => by rw [List.mem_singleton.mp hi]; exact hv v List.mem_cons_self
    obtain ⟨n, sg, m1, d⟩ := Dmp.ex G cl _ [.v v] m (Nat.le_refl _) M hi fun i hi => by
      rw [List.mem_singleton.mp hi]
      cases v with
      | ref b => exact hr b List.mem_cons_self
      | _ => exact True.intro
    obtain ⟨css, m', ds⟩ := Dmps.ex G cl r m1 (d.size G M hi).2 (fun v h => hv v (List.mem_cons_of_mem _ h)) fun b h => hr b (List.mem_cons_of_mem _ h)
    exact ⟨_, m', .cons d ds⟩
theorem gl_isSome {cs : List Cl} {b : Int} (h : 0 ≤ b ∧ b < cs.length) : (gl cs b).isSome = true := by
  obtain ⟨c, e, _⟩ := gl_some h.1 h.2
  rw [e]; rfl
theorem Dmps.of {cs : List Cl} (W : WF cs) {xs : List Vl} (hv : ∀ v ∈ xs, vOk v) (hr : ∀ b, Vl.ref b ∈ xs → 0 ≤ b ∧ b < cs.length) : ∃ css m', Dmps (gl cs) xs [] css m' :=
  Dmps.ex (gl_ok W) (fun a c h b hb => gl_isSome (W.rf c (List.mem_of_getElem? (gl_get h).2.2) b hb)) xs [] Mok.nil hv fun b hb => gl_isSome (hr b hb)
/-! ### slices -/
theorem cut_take (xs : List V) {k : Int} (h0 : 0 ≤ k) : cutV xs none (some k) = xs.take k.toNat := by
  have e : k = ((k.toNat : Nat) : Int) := by omega
  unfold cutV
  rw [e, HT.sIx_nat, HT.sIx_none, List.drop_zero, Nat.sub_zero, Int.toNat_natCast]
  by_cases h : k.toNat ≤ xs.length
  · rw [Nat.min_eq_left h]
  · rw [Nat.min_eq_right (by omega), List.take_length, List.take_of_length_le (by omega)]
theorem cut_drop (xs : List V) {k : Int} (h0 : 0 ≤ k) : cutV xs (some k) none = xs.drop k.toNat := by
  have e : k = ((k.toNat : Nat) : Int) := by omega
  unfold cutV
  rw [e, HT.sIx_nat, HT.sIx_none, Int.toNat_natCast]
  by_cases h : k.toNat ≤ xs.length
  · rw [Nat.min_eq_left h, List.take_of_length_le (by rw [List.length_drop]; omega)]
  · rw [Nat.min_eq_right (by omega), List.drop_of_length_le (by omega), List.drop_of_length_le (by omega), List.take_nil]
/-! ### cells with one value changed -/
def bentC (c : Cl) (t : Nat) (o : Vl) : Cl := ⟨c.kind, c.f, c.vs.take t ++ [o] ++ c.vs.drop (t + 1)⟩
def bentS (cs : List Cl) (a : Nat) (c : Cl) : List Cl := cs.take a ++ [c] ++ cs.drop (a + 1)
theorem mem_bent {α : Type} {l : List α} {k : Nat} {x y : α} (h : y ∈ l.take k ++ [x] ++ l.drop (k + 1)) : y ∈ l ∨ y = x := by
  rcases List.mem_append.mp h with h | h
  · rcases List.mem_append.mp h with h | h
    · exact .inl (List.mem_of_mem_take h)
    · exact .inr (List.mem_singleton.mp h)
  · exact .inl (List.mem_of_mem_drop h)
theorem len_bent {α : Type} {l : List α} {k : Nat} {x : α} (h : k < l.length) : (l.take k ++ [x] ++ l.drop (k + 1)).length = l.length := by
  rw [List.length_append, List.length_append, List.length_take, List.length_drop, List.length_singleton]
  omega
theorem bent_wf {cs : List Cl} (W : WF cs) (TR : Tru cs) {a t : Nat} {c : Cl} {o : Vl} (ha : cs[a]? = some c) (ht : t < c.vs.length) (ho : Gv cs.length o) : WF (bentS cs a (bentC c t o)) ∧ Tru (bentS cs a (bentC c t o)) ∧ (bentS cs a (bentC c t o)).length = cs.length := by
  have al := (List.getElem?_eq_some_iff.mp ha).1
  have hc := List.mem_of_getElem? ha
  have ln : (bentS cs a (bentC c t o)).length = cs.length := len_bent al
  have ok := W.ok c hc
  have n1 := W.n1
  have n12 := W.n12
  refine ⟨⟨by omega, by omega, fun c' h => ?_, fun c' h b hb => ?_⟩, fun c' h v hv => ?_, ln⟩
  · rcases mem_bent h with z | z
    · exact W.ok c' z
    · subst z
      have eo : opener (bentC c t o) = opener c := rfl
      refine ⟨ok.fb, by show (c.vs.take t ++ [o] ++ c.vs.drop (t + 1)).length ≤ 4; rw [len_bent ht]; exact ok.le, fun v hv => ?_, by rw [eo]; exact ok.op, by rw [eo]; exact ok.opc⟩
      rcases mem_bent hv with z | z
      · exact ok.vs v z
      · rw [z]; exact ho.ok
  · rw [ln]
    rcases mem_bent h with z | z
    · exact W.rf c' z b hb
    · subst z
      rcases mem_bent hb with z | z
      · exact W.rf c hc b z
      · exact ho.rf b z.symm
  · rcases mem_bent h with z | z
    · exact TR c' z v hv
    · subst z
      rcases mem_bent hv with z | z
      · exact TR c hc v z
      · rw [z]; exact ho.nb
/-! ### pairs of numbers -/
def IsP (H : Hp) (x : V) : Prop := ∃ p i j, x = .ref p ∧ H p = some (.tup [.int i, .int j])
theorem pairs_dp {K : PySem.W.Frag} {H : Hp} : ∀ S : List V, (∀ x ∈ S, IsP H x) → ∃ ds, DpAll K H S ds ∧ PyData.canLayAll0 ds = true ∧ PyData.depthAll ds ≤ 1 ∧ ds.length = S.length
  | [], _ => ⟨[], .nil, rfl, Nat.zero_le _, rfl⟩
  | x :: r, h => by
    obtain ⟨ds, a, b, c, d⟩ := pairs_dp (K := K) r fun u hu => h u (List.mem_cons_of_mem _ hu)
    obtain ⟨p, i, j, rfl, e⟩ := h x List.mem_cons_self
    refine ⟨.tuple [.int i, .int j] :: ds, .cons (.tup (SqT.of e) (.cons (.int _) (.cons (.int _) .nil))) a, ?_, ?_, by rw [List.length_cons, d]; rfl⟩
    · show ((PyData.tuple [.int i, .int j]).canLay0 && PyData.canLayAll0 ds) = true
      rw [b, Bool.and_true]
      simp [PyData.canLay0, PyData.canLayAll0]
    · show max (PyData.tuple [.int i, .int j]).depth (PyData.depthAll ds) ≤ 1
      have : (PyData.tuple [.int i, .int j]).depth ≤ 1 := by simp [PyData.depth, PyData.depthAll]
      omega
theorem rgV_dom (n : Int) (m : Nat) (h : n = m) : rgV 0 n = (dom m).map V.int := by
  unfold rgV dom
  rw [List.map_map, h, Int.sub_zero, Int.toNat_natCast]
  refine List.map_congr_left fun i _ => ?_
  show V.int (0 + (i : Int)) = V.int (i : Int)
  rw [Int.zero_add]
theorem mem_fl {α : Type} {xs : Nat → List α} {x : α} : ∀ {n : Nat}, x ∈ fl xs n → ∃ j, j < n ∧ x ∈ xs j
  | 0, h => by cases h
  | n + 1, h => by
    rcases List.mem_append.mp h with h | h
    · obtain ⟨j, a, b⟩ := mem_fl h
      exact ⟨j, by omega, b⟩
    · exact ⟨n, by omega, h⟩
theorem len_fl {α : Type} {xs : Nat → List α} {k : Nat} : ∀ {n : Nat}, (∀ j, j < n → (xs j).length ≤ k) → (fl xs n).length ≤ k * n
  | 0, _ => Nat.le_refl _
  | n + 1, h => by
    have a := len_fl (xs := xs) (k := k) (n := n) fun j hj => h j (by omega)
    have b := h n (by omega)
    show (fl xs n ++ xs n).length ≤ _
    rw [List.length_append, Nat.mul_succ]
    omega
end K4

namespace K4
open PySem PySem.Spec PyProof.Rows L2
section
variable {P : Program} {w : World} {K : PySem.W.Frag} {mg : Str → Option Value} {base : Heap} {CW CD : Addr}
/-- what stands behind the for -/
def Tail (P : Program) (w : World) (K : PySem.W.Frag) (mg : Str → Option Value) (base : Heap) : Prop :=
  ∀ (f : Addr) (cdv : Value) (A : Around) (outer : List Env) (s : Shared) (H0 : Hp) (Q : VK) (E : XK), Room 15 (A.deeper (envOfC "law" (C8.fnScope sLaw) s.heap.objs.size f cdv)) → (∀ H', Q (.bl true) H') →
    ∃ t, PSs (cxOf C8.CX0 P w K mg base nmsLaw "law" (C8.fnScope sLaw) f cdv A outer s H0 E).nox ((C8.fnBody sLaw).drop 9) t ∧
      ∀ (a dr l rt du la od : Addr) (cs : List Cl) (xs : List Vl) (css : List (List Nat)) (mv fs st : Int) (o10 o11 o12 o13 o14 o15 o16 : Option V) (H : Hp), LF H dr l rt du la cs xs css → LP cs xs css mv →
        t { nx := fun _ H' => Q .non H', rt := Q } [some (.ref a), some (.ref dr), some (.ref l), some (.int mv), some (.ref rt), some (.ref du), some (.ref la), some (.int fs), some (.int st), some (.ref od), o10, o11, o12, o13, o14, o15, o16, none, none, none, none, none, none, none, none, none] H
theorem ok_tail (T : Txt K mg CW CD) : Tail P w K mg base := by
  intro f cdv A outer s H0 Q E hr q
  have hu := hu_of hr
  refine ⟨_, pss_cons (ps_set (i := 17) scLaw.nd rfl (by first | exact Or.inl rfl | exact Or.inr rfl) (pe_callB (call_sumL (by rfl)) rfl T.zSum (by decide +kernel) (pa_cons
        (pe_lc (own := [("a", 18)]) (g := gName 18) (tt := tYes) (by rfl) scLaw.nd (pi_range1 rfl T.zRange (pa_cons (pv 3) pa_nil)) (blkOk_by (N := nmsLaw) (sc := C8.fnScope sLaw) (by decide +kernel)) (fun _ _ _ _ _ => pg_name (i := 18) scLaw.nd rfl (by first | exact Or.inl rfl | exact Or.inr rfl)) (fun _ _ _ _ _ => pts_nil)
          (fun _ _ _ _ _ => pe_lc (own := [("t", 19)]) (g := gName 19) (tt := tYes) (by rfl) scLaw.nd (pi_range1 rfl T.zRange (pa_cons (pe_callB (call_lenK K) rfl T.zLen PySem.boot_len (pa_cons (pe_ix (ixT K) (pe_ix (ixL K) (pv 2) (pv 18) (fun _ _ => rfl)) pe_int (fun _ _ => rfl)) pa_nil)) pa_nil)) (blkOk_by (N := nmsLaw) (by rfl)) (fun _ _ _ _ _ => pg_name (i := 19) scLaw.nd rfl (by first | exact Or.inl rfl | exact Or.inr rfl)) (fun _ _ _ _ _ => pts_nil)
            (fun _ _ _ _ _ => pe_tup (pa_cons (pv 18) (pa_cons (pv 19) pa_nil))))) (pa_cons (pe_lst pa_nil) pa_nil))))
    (pss_cons (ps_if (pt_cmpR (op_eqD hr.units) (pv 17) (pe_lst pa_nil) (nomark _)) (pss_one (ps_ret pe_bl)) pss_nil)
    (pss_cons (ps_asg (pe_ix ix_list (pv 17) (C8.pe_c (ok_mix T) hr (by decide) rfl (pa_cons (pv 1) (pa_cons pe_int (pa_cons (pe_callB call_len_seq rfl T.zLen PySem.boot_len (pa_cons (pv 17) pa_nil)) pa_nil)))) (fun _ _ => rfl)) (pg_tup rfl (pgs_cons (pg_name (i := 18) scLaw.nd rfl (by first | exact Or.inl rfl | exact Or.inr rfl)) (pgs_cons (pg_name (i := 19) scLaw.nd rfl (by first | exact Or.inl rfl | exact Or.inr rfl)) pgs_nil))))
    (pss_cons (ps_asg (pe_ix ix_list (pv 2) (pv 18) (fun _ _ => rfl)) (pg_tup rfl (pgs_cons (pg_name (i := 20) scLaw.nd rfl (.inl rfl)) (pgs_cons (pg_name (i := 21) scLaw.nd rfl (.inl rfl)) (pgs_cons (pg_name (i := 22) scLaw.nd rfl (.inl rfl)) pgs_nil)))))
    (pss_cons (ps_set (i := 23) scLaw.nd rfl (by first | exact Or.inl rfl | exact Or.inr rfl) (pe_ix ix_list (pe_lst (pa_cons (pe_tup (pa_cons pe_str (pa_cons (C8.pe_c (ok_mix T) hr (by decide) rfl (pa_cons (pv 1) (pa_cons pe_int (pa_cons (pv 3) pa_nil)))) pa_nil))) (pa_cons (pe_tup (pa_cons pe_str (pa_cons pe_int pa_nil))) pa_nil)))
        (C8.pe_c (ok_mix T) hr (by decide) rfl (pa_cons (pv 1) (pa_cons pe_int (pa_cons pe_int pa_nil)))) (fun _ _ => rfl)))
    (pss_cons (ps_set (i := 24) scLaw.nd rfl (by first | exact Or.inl rfl | exact Or.inr rfl) (C8.pe_c (ok_let T) hr (by decide) rfl (pa_cons (pe_op op_cat (pe_op op_cat (pe_slice sl_list (pv 2) po_none (po_some (pv 18)))
        (pe_lst (pa_cons (pe_tup (pa_cons (pv 20) (pa_cons (pv 21) (pa_cons (pe_op op_cat (pe_op op_cat (pe_slice sl_list (pv 22) po_none (po_some (pv 19))) (pe_lst (pa_cons (pv 23) pa_nil))) (pe_slice sl_list (pv 22) (po_some (pe_op op_add (pv 19) pe_int)) po_none)) pa_nil)))) pa_nil)))
        (pe_slice sl_list (pv 2) (po_some (pe_op op_add (pv 18) pe_int)) po_none)) pa_nil)))
    (pss_cons (ps_asg (C8.pe_c (ok_lw T) hr (by decide) rfl (pa_cons (pv 24) (pa_cons (pe_listRg (by rfl) rfl T.zList (prg_1 rfl T.zRange (pv 3))) (pa_cons pe_int pa_nil)))) (pg_tup rfl (pgs_cons (pg_name (i := 12) scLaw.nd rfl (by first | exact Or.inl rfl | exact Or.inr rfl)) (pgs_cons (pg_name (i := 13) scLaw.nd rfl (by first | exact Or.inl rfl | exact Or.inr rfl)) pgs_nil))))
    (pss_one (ps_ret (pe_cmpR (op_eqD hr.units) (C8.pe_c (ok_dumped T) hr (by decide) rfl (pa_cons (pv 12) (pa_cons (C8.pe_c (ok_at T) hr (by decide) rfl (pa_cons (pv 13) (pa_cons (pv 4) pa_nil))) pa_nil))) (C8.pe_c (ok_lds T) hr (by decide) rfl (pa_cons (pv 24) (pa_cons (pv 4) pa_nil))) (nomark _)))))))))), ?_⟩
  intro a dr l rt du la od cs xs css mv fs st o10 o11 o12 o13 o14 o15 o16 H F L
  have W := L.W
  have n1 := W.n1
  have n12 := W.n12
  have emv := L.mv
  have C := F.C
  obtain ⟨psC, eC, prC⟩ := id C
  have lC : psC.length = cs.length := prC.length
  refine ⟨_, rfl, _, rfl, by omega, by omega, fun D hD => ?_⟩
  have en : mv.toNat = cs.length := by omega
  rw [en]
  let nv : Nat → Nat := fun j => (cO cs j).vs.length
  have nv4 : ∀ j, j < cs.length → nv j ≤ 4 := fun j hj => by
    obtain ⟨c, e, _, hc⟩ := gl_some (cs := cs) (a := (j : Int)) (by omega) (by omega)
    show (cO cs j).vs.length ≤ 4
    rw [cO_of e]
    exact (W.ok c hc).le
  refine lc_range (lo := 0) (n := cs.length) (fun i H1 => ∃ (val : Nat → Addr) (qs : Nat → Nat → Addr), Same H H1 ∧ H1 D = some (.lst ((List.range i).map fun j => V.ref (val j))) ∧ (∀ j, j < i → val j ≠ D ∧ H1 (val j) = some (.lst ((List.range (nv j)).map fun t => V.ref (qs j t))) ∧ ∀ t, t < nv j → H1 (qs j t) = some (.tup [.int (j : Int), .int (t : Int)])))
    ⟨fun _ => 0, fun _ _ => 0, same_new hD _, upd_same, fun j hj => by omega⟩ ?_ ?_
  · rintro i H1 hi ⟨val, qs, s1, d1, vals⟩
    refine ⟨rfl, ?_⟩
    rw [Int.zero_add]
    obtain ⟨c, gc, ec, hc⟩ := gl_some (cs := cs) (a := (i : Int)) (by omega) (by omega)
    have ck : cO cs i = c := cO_of gc
    have c4 := (W.ok c hc).le
    obtain ⟨psx, p, vl, y1, _, y2, y3, y4⟩ := (C.same s1).get (a := (i : Int)) (by omega) ec
    obtain ⟨pv4, y5, y6⟩ := id y4
    have lv : (pv4.map V.ref).length = c.vs.length := by rw [List.length_map, y6.length]
    refine ⟨_, rfl, _, rfl, l, _, _, _, rfl, rfl, SqL.of y1, y2, p, _, _, .ref vl, rfl, rfl, SqT.of y3, rfl, vl, _, rfl, .inl (SqL.of y5), _, rfl, by omega, by omega, fun D2 hD2 => ?_⟩
    have en2 : (((pv4.map V.ref).length : Nat) : Int).toNat = c.vs.length := by omega
    rw [en2]
    have D20 : H D2 = none := L2.Same.free s1 hD2
    have DD : D2 ≠ D := fun z => by rw [z, d1] at hD2; cases hD2
    refine lc_range (lo := 0) (n := c.vs.length) (fun t H2 => ∃ q2 : Nat → Addr, Same H1 H2 ∧ H2 D2 = some (.lst ((List.range t).map fun u => V.ref (q2 u))) ∧ ∀ u, u < t → H2 (q2 u) = some (.tup [.int (i : Int), .int (u : Int)]))
      ⟨fun _ => 0, same_new hD2 _, upd_same, fun u hu => by omega⟩ ?_ ?_
    · rintro t H2 ht ⟨q2, s2, d2, qq⟩
      refine ⟨rfl, ?_⟩
      refine ⟨_, rfl, _, rfl, by show 2 ≤ sizeLine; decide, fun tp htp => ?_⟩
      have s3 : Same H2 (upd H2 tp (.tup [V.int (i : Int), V.int (0 + (t : Int))])) := same_new htp _
      have tD : tp ≠ D2 := fun z => by rw [z, d2] at htp; cases htp
      refine ⟨_, s3 _ _ d2, by rw [List.length_map, List.length_range]; exact small1000 (by omega), fun u => if u = t then tp else q2 u, fun b o e => ?_, ?_, fun u hu => ?_⟩
      · rw [upd_ne (ne_of_none e hD2)]
        exact s3 _ _ (s2 _ _ e)
      · rw [upd_same, List.range_succ, List.map_append]
        have e1 : (List.range t).map (fun u => V.ref (if u = t then tp else q2 u)) = (List.range t).map fun u => V.ref (q2 u) := List.map_congr_left fun u hu => by
          have := List.mem_range.mp hu
          rw [if_neg (by omega)]
        rw [e1]
        show _ = some (HO.lst (_ ++ [V.ref (if t = t then tp else q2 t)]))
        rw [if_pos rfl]
      · dsimp only
        by_cases e : u = t
        · subst e
          rw [if_pos rfl, upd_ne tD, Int.zero_add]
          show (upd H2 tp _) tp = _
          rw [upd_same]
        · rw [if_neg e]
          have z := qq u (by omega)
          have qn : q2 u ≠ D2 := fun w => by rw [w, d2] at z; cases z
          rw [upd_ne qn]
          exact s3 _ _ z
    · rintro H2 ⟨q2, s2, d2, qq⟩
      refine ⟨_, s2 _ _ d1, by rw [List.length_map, List.length_range]; exact small1000 (by omega), fun j => if j = i then D2 else val j, fun j => if j = i then q2 else qs j, fun b o e => ?_, ?_, fun j hj => ?_⟩
      · rw [upd_ne (ne_of_none e hD)]
        exact s2 _ _ (s1 _ _ e)
      · rw [upd_same, List.range_succ, List.map_append]
        have e1 : (List.range i).map (fun j => V.ref (if j = i then D2 else val j)) = (List.range i).map fun j => V.ref (val j) := List.map_congr_left fun u hu => by
          have := List.mem_range.mp hu
          rw [if_neg (by omega)]
        rw [e1]
        show _ = some (HO.lst (_ ++ [V.ref (if i = i then D2 else val i)]))
        rw [if_pos rfl]
      · dsimp only
        by_cases e : j = i
        · subst e
          have env : nv j = c.vs.length := by show (cO cs j).vs.length = _; rw [ck]
          rw [if_pos rfl, if_pos rfl, env]
          refine ⟨DD, (upd_ne DD).trans d2, fun t ht => ?_⟩
          have z := qq t ht
          rw [upd_ne (fun w => by rw [w, s2 _ _ d1] at z; cases z)]
          exact z
        · rw [if_neg e, if_neg e]
          obtain ⟨a1, a2, a3⟩ := vals j (by omega)
          refine ⟨a1, (upd_ne a1).trans (s2 _ _ a2), fun t ht => ?_⟩
          have z := a3 t ht
          rw [upd_ne (fun w => by rw [w, d1] at z; cases z)]
          exact s2 _ _ z
  rintro H1 ⟨val, qs, s1, d1, vals⟩
  refine ⟨by show 0 ≤ sizeLine; decide, fun e0 he0 => ?_⟩
  have s2 := L2.Same.trans s1 (same_new he0 (.lst []))
  have se := same_new he0 (.lst [])
  let xsS : Nat → List V := fun j => (List.range (nv j)).map fun t => V.ref (qs j t)
  have lS : (fl xsS cs.length).length ≤ 4 * cs.length := len_fl fun j hj => by
    show ((List.range (nv j)).map _).length ≤ 4
    rw [List.length_map, List.length_range]
    exact nv4 j hj
  refine ⟨D, e0, cs.length, val, xsS, rfl, se _ _ d1, upd_same, n1, fun j hj => se _ _ (vals j hj).2.1, sz40 (by omega), fun sp hsp => ?_⟩
  have s3 := L2.Same.trans s2 (same_new hsp (.lst (fl xsS cs.length)))
  have pairs : ∀ x ∈ fl xsS cs.length, ∃ (p : Addr) (j t : Nat), x = .ref p ∧ H1 p = some (.tup [.int (j : Int), .int (t : Int)]) ∧ j < cs.length ∧ t < nv j := fun x hx => by
    obtain ⟨j, hj, hx⟩ := mem_fl hx
    obtain ⟨t, ht, rfl⟩ := List.mem_map.mp hx
    have ht := List.mem_range.mp ht
    exact ⟨qs j t, j, t, rfl, (vals j hj).2.2 t ht, hj, ht⟩
  have sH := L2.Same.trans se (same_new hsp (.lst (fl xsS cs.length)))
  refine ⟨_, rfl, by show 0 ≤ sizeLine; decide, fun e1 he1 => ?_⟩
  have sE := same_new he1 (.lst [])
  have sH1 := L2.Same.trans sH sE
  have s4 := L2.Same.trans s3 sE
  have spA := sE _ _ (show (upd _ sp (.lst (fl xsS cs.length))) sp = some (.lst (fl xsS cs.length)) from upd_same)
  obtain ⟨ds, dp, dc, dd, dl⟩ := pairs_dp (K := K) (H := upd (upd (upd H1 e0 (.lst [])) sp (.lst (fl xsS cs.length))) e1 (.lst [])) (fl xsS cs.length) fun x hx => by
    obtain ⟨p, j, t, e, h, _⟩ := pairs x hx
    exact ⟨p, _, _, e, sH1 _ _ h⟩
  refine ⟨_, _, .lst (SqL.of spA) dp, .lst (SqL.of upd_same) .nil, list_shaped dc dd, shaped_nil, _, rfl, ?_⟩
  cases ds with
  | nil => exact iteTb (by rfl) (q _)
  | cons d0 ds =>
    refine iteFb (by rfl) ?_
    have F4 := F.same s4
    have l0 : 0 < (fl xsS cs.length).length := by rw [← dl, List.length_cons]; omega
    refine ⟨_, rfl, _, rfl, _, rfl, sp, _, rfl, .inl (SqL.of spA), dr, 6, _, rfl, F4.hd, by omega, fun k0 k1 k2 => ?_⟩
    have ek : k0 = ((k0.toNat : Nat) : Int) := by omega
    have hx : (fl xsS cs.length)[k0.toNat]? = some (fl xsS cs.length)[k0.toNat] := List.getElem?_eq_getElem (by omega)
    obtain ⟨p, j, t, ep, hp, hj, ht⟩ := pairs _ (List.mem_of_getElem? hx)
    rw [ep] at hx
    refine ⟨sp, _, k0, _, rfl, rfl, SqL.of spA, (by rw [ek]; exact atI_nat hx), p, _, rfl, SqT.of (sH1 _ _ hp), rfl, _, _, rfl, _, _, rfl, rfl, ?_⟩
    obtain ⟨c, gc, ec, hc⟩ := gl_some (cs := cs) (a := (j : Int)) (by omega) (by omega)
    have ck : cO cs j = c := cO_of gc
    have c4 := (W.ok c hc).le
    have htc : t < c.vs.length := by have : t < (cO cs j).vs.length := ht; rwa [ck] at this
    obtain ⟨psx, pc, vl, y1, _, y2, y3, y4⟩ := F4.C.get (a := (j : Int)) (by omega) ec
    refine ⟨_, rfl, _, rfl, l, _, _, _, rfl, rfl, SqL.of y1, y2, pc, _, rfl, SqT.of y3, rfl, _, _, rfl, _, _, rfl, _, _, rfl, rfl, ?_⟩
    -- the other value
    refine ⟨_, rfl, _, rfl, dr, 7, _, rfl, F4.hd, by omega, fun b0 b1 b2 => ⟨by show 2 ≤ sizeLine; decide, fun p1 f1 => ⟨by show 2 ≤ sizeLine; decide, fun p2 f2 => ⟨by show 2 ≤ sizeLine; decide, fun L1 fL => ?_⟩⟩⟩⟩
    have e5 := same_new f1 (.tup (enc (.ref b0)))
    have e6 := same_new f2 (.tup (enc (.int 1000)))
    have e7 := same_new fL (.lst [.ref p1, .ref p2])
    have s57 := L2.Same.trans e5 (L2.Same.trans e6 e7)
    have F7 := F4.same s57
    refine ⟨_, rfl, dr, 8, 2, rfl, F7.hd, by decide, fun k3 k4 k5 => ?_⟩
    obtain ⟨po, o, eo, vo, go⟩ : ∃ po o, atI [V.ref p1, .ref p2] k3 = some (.ref po) ∧ VAt (upd (upd (upd _ p1 (.tup (enc (.ref b0)))) p2 (.tup (enc (.int 1000)))) L1 (.lst [.ref p1, .ref p2])) po o ∧ Gv cs.length o := by
      have ek : k3 = ((k3.toNat : Nat) : Int) := by omega
      have hk : k3.toNat < 2 := by omega
      rw [ek]
      generalize k3.toNat = n at hk
      match n with
      | 0 => exact ⟨p1, .ref b0, rfl, VAt.same (L2.Same.trans e6 e7) upd_same, vOk_ref _, True.intro, (fun b e => by cases e; omega), fun z => by cases z⟩
      | 1 => exact ⟨p2, .int 1000, rfl, VAt.same e7 upd_same, vOk_1000, True.intro, (fun b e => by cases e), fun z => by cases z⟩
      | n + 2 => omega
    refine ⟨L1, _, k3, _, rfl, rfl, SqL.of upd_same, eo, ?_⟩
    have y47 := y4.same s57
    obtain ⟨pvv, z1, z2⟩ := id y47
    have eC7 := (L2.Same.trans s4 s57) _ _ eC
    have lv : pvv.length = c.vs.length := z2.length
    have jn : ((j : Int)).toNat = j := Int.toNat_natCast j
    have tn : ((t : Int)).toNat = t := Int.toNat_natCast t
    have jn1 : ((j : Int) + 1).toNat = j + 1 := by omega
    have tn1 : ((t : Int) + 1).toNat = t + 1 := by omega
    have c1 : cutV (psC.map V.ref) none (some (j : Int)) = (psC.take j).map V.ref := by rw [cut_take _ (by omega), jn, List.map_take]
    have c2 : cutV (psC.map V.ref) (some ((j : Int) + 1)) none = (psC.drop (j + 1)).map V.ref := by rw [cut_drop _ (by omega), jn1, List.map_drop]
    have c3 : cutV (pvv.map V.ref) none (some (t : Int)) = (pvv.take t).map V.ref := by rw [cut_take _ (by omega), tn, List.map_take]
    have c4' : cutV (pvv.map V.ref) (some ((t : Int) + 1)) none = (pvv.drop (t + 1)).map V.ref := by rw [cut_drop _ (by omega), tn1, List.map_drop]
    have l1 := cutV_length (psC.map V.ref) none (some (j : Int))
    have l2 := cutV_length (psC.map V.ref) (some ((j : Int) + 1)) none
    have l3 := cutV_length (pvv.map V.ref) none (some (t : Int))
    have l4 := cutV_length (pvv.map V.ref) (some ((t : Int) + 1)) none
    rw [List.length_map] at l1 l2 l3 l4
    refine ⟨_, rfl, _, rfl, _, rfl, l, _, rfl, SqL.of eC7, fun u1 hu1 => ?_⟩
    have a1 := same_new hu1 (.lst (cutV (psC.map V.ref) none (some (j : Int))))
    refine ⟨_, rfl, _, rfl, _, rfl, _, rfl, _, rfl, vl, _, rfl, SqL.of (a1 _ _ z1), fun u2 hu2 => ⟨_, rfl, by show 1 ≤ sizeLine; decide, fun u3 hu3 => ?_⟩⟩
    have a2 := same_new hu2 (.lst (cutV (pvv.map V.ref) none (some (t : Int))))
    have a3 := same_new hu3 (.lst [V.ref po])
    refine ⟨u2, u3, _, _, rfl, rfl, a3 _ _ upd_same, upd_same, sz40 (by show _ + 1 ≤ _; omega), fun u4 hu4 => ?_⟩
    have a4 := same_new hu4 (.lst (cutV (pvv.map V.ref) none (some (t : Int)) ++ [V.ref po]))
    have a14 := L2.Same.trans a1 (L2.Same.trans a2 (L2.Same.trans a3 a4))
    refine ⟨_, rfl, _, rfl, _, _, rfl, rfl, _, rfl, vl, _, rfl, SqL.of (a14 _ _ z1), fun u5 hu5 => ?_⟩
    have a5 := same_new hu5 (.lst (cutV (pvv.map V.ref) (some ((t : Int) + 1)) none))
    refine ⟨u4, u5, _, _, rfl, rfl, a5 _ _ upd_same, upd_same, sz40 (by rw [List.length_append, List.length_singleton]; omega), fun u6 hu6 => ?_⟩
    have a6 := same_new hu6 (.lst ((cutV (pvv.map V.ref) none (some (t : Int)) ++ [V.ref po]) ++ cutV (pvv.map V.ref) (some ((t : Int) + 1)) none))
    refine ⟨by show 3 ≤ sizeLine; decide, fun tp htp => ⟨by show 1 ≤ sizeLine; decide, fun u7 hu7 => ?_⟩⟩
    have a7 := same_new htp (.tup [V.str (kd c.kind), V.int c.f, V.ref u6])
    have a8 := same_new hu7 (.lst [V.ref tp])
    have a58 := L2.Same.trans a5 (L2.Same.trans a6 (L2.Same.trans a7 a8))
    have a18 := L2.Same.trans a14 a58
    refine ⟨u1, u7, _, _, rfl, rfl, (L2.Same.trans a2 (L2.Same.trans a3 (L2.Same.trans a4 a58))) _ _ upd_same, upd_same, sz40 (by show _ + 1 ≤ _; omega), fun u8 hu8 => ?_⟩
    have a9 := same_new hu8 (.lst (cutV (psC.map V.ref) none (some (j : Int)) ++ [V.ref tp]))
    have a19 := L2.Same.trans a18 a9
    refine ⟨_, rfl, _, rfl, _, _, rfl, rfl, _, rfl, l, _, rfl, SqL.of (a19 _ _ eC7), fun u9 hu9 => ?_⟩
    have a10 := same_new hu9 (.lst (cutV (psC.map V.ref) (some ((j : Int) + 1)) none))
    refine ⟨u8, u9, _, _, rfl, rfl, a10 _ _ upd_same, upd_same, sz40 (by rw [List.length_append, List.length_singleton]; omega), fun u10 hu10 => ?_⟩
    have a11 := same_new hu10 (.lst ((cutV (psC.map V.ref) none (some (j : Int)) ++ [V.ref tp]) ++ cutV (psC.map V.ref) (some ((j : Int) + 1)) none))
    have aZ := L2.Same.trans a19 (L2.Same.trans a10 a11)
    have FZ := F7.same aZ
    obtain ⟨W2, T2, len2⟩ := bent_wf W L.TR (a := j) (t := t) (c := c) (o := o) (by rw [Int.toNat_natCast] at ec; exact ec) htc go
    refine ⟨u10, bentS cs j (bentC c t o), rfl, ?_, W2, fun bt Hb cs2 sb Cb lo => ?_⟩
    · have prZ := Paired.mono (fun _ _ h => CAt.same (L2.Same.trans s4 (L2.Same.trans s57 aZ)) h) prC
      refine ⟨psC.take j ++ [tp] ++ psC.drop (j + 1), ?_, pair_app (pair_app (pair_take j prZ) (.cons ⟨u6, (L2.Same.trans a8 (L2.Same.trans a9 (L2.Same.trans a10 a11))) _ _ upd_same, pvv.take t ++ [po] ++ pvv.drop (t + 1), ?_, ?_⟩ .nil)) (pair_drop (j + 1) prZ)⟩
      · rw [upd_same, c1, c2, List.map_append, List.map_append]
        rfl
      · have z := (L2.Same.trans a7 (L2.Same.trans a8 (L2.Same.trans a9 (L2.Same.trans a10 a11)))) _ _ (upd_same (H := _) (a := u6) (o := .lst ((cutV (pvv.map V.ref) none (some (t : Int)) ++ [V.ref po]) ++ cutV (pvv.map V.ref) (some ((t : Int) + 1)) none)))
        rw [z, c3, c4', List.map_append, List.map_append]
        rfl
      · have z2' := VsAt.same aZ z2
        exact pair_app (pair_app (pair_take t z2') (.cons (vo.same aZ) .nil)) (pair_drop (t + 1) z2')
    obtain ⟨W3, A3⟩ := lo.wf W2
    have T3 := lo.tru T2
    have len3 : cs2.length = cs.length := lo.len.trans len2
    have FB := FZ.same sb
    refine ⟨_, rfl, _, rfl, _, rfl, RgOk.of_le (by omega) (by omega) (by omega) (by omega), fun ol hol => ?_⟩
    obtain ⟨dn, dm⟩ := dom_ok cs2.length
    refine ⟨bt, ol, 0, cs2, dom cs2.length, rfl, Cb.same (same_new hol _), W3, A3, ?_, dn, dm, by decide, by decide, fun r Hw AW S tb kvs τ fr er tw => ?_⟩
    · rw [upd_same, rgV_dom mv cs2.length (by omega)]
    have sw := tw.sm
    have so := L2.Same.trans (same_new hol (.lst (rgV 0 mv))) sw
    have FW := FB.same so
    have CW2 := Cb.same so
    refine ⟨r, _, rfl, SqT.of er, rfl, _, _, rfl, _, _, rfl, rfl, ?_⟩
    have xr2 : ∀ b, Vl.ref b ∈ xs → 0 ≤ b ∧ b < cs2.length := fun b hb => by have := L.rf b hb; omega
    have xl := L.xl
    refine ⟨_, rfl, _, rfl, _, rfl, tb, rt, kvs, xs, τ, rfl, tw.tb1, FW.R, by omega, (fun b hb => tw.tv b (xr2 b hb)), fun th H9 s9 fth lv9 => ?_⟩
    have tw9 := tw.same s9
    have st9 := TW.std W3 tw9
    have nd9 := tw9.W.an
    have ok9 := st9.ok W3 nd9
    have rl9 := tw9.rl
    obtain ⟨css2, met2, D2⟩ := Dmps.of W3 (fun v hv => (L.gv v hv).ok) xr2
    refine ⟨AW, S, th, _, css2, _, _, rfl, tw9.W, lv9, by rw [List.length_map]; omega, fun v hv => ?_, ok9, gok_gr ok9 (by omega), st9.dmps nd9 D2 (fun b hb => mem_dom.mpr (xr2 b hb)), fun r1 HA sA fr1 er1 => ?_⟩
    · obtain ⟨u, hu, rfl⟩ := List.mem_map.mp hv
      exact vOk_re τ (L.gv u hu).ok
    have sB := L2.Same.trans s9 sA
    refine ⟨_, rfl, _, rfl, bt, rt, cs2, xs, rfl, CW2.same sB, W3, T3, FW.R.same sB, by omega, (fun v hv => ⟨(L.gv v hv).ok, (L.gv v hv).nb⟩), xr2, fun r2 HB css3 met3 sC fr2 er2 D3 => ?_⟩
    obtain ⟨e3, _⟩ := D2.fun D3
    subst e3
    have sh := strs_shaped (Dmps.asc (gl_ok W3) D2 Mok.nil fun v hv => (L.gv v hv).ok)
    have fin : Q (.bl (PyData.eqv (.list (css2.map fun c => PyData.str (mkS c))) (.list (css2.map fun c => PyData.str (mkS c))))) HB := by
      rw [shaped_refl sh]
      exact q _
    exact ⟨_, _, strs_dp (sC _ _ er1), strs_dp er2, sh, sh, fin⟩
end
end K4

namespace K4
open PySem PySem.Spec PyProof.Rows L2
theorem ent2 {Hs : Hp} {p1 p2 o1 od : Addr} {m : Int} {n : Nat} {ord : List Int} (h1 : Hs p1 = some (.tup [.ref o1, .int 0])) (h2 : Hs p2 = some (.tup [.ref od, .int m])) (e1 : Hs o1 = some (.lst ((dom n).map V.int))) (e2 : Hs od = some (.lst (ord.map V.int)))
    (nd : ord.Nodup) (mem : ∀ a, a ∈ ord ↔ 0 ≤ a ∧ a < n) (m0 : 0 ≤ m) (m3 : m < 3) : ∀ (i : Nat) (x : V), [V.ref p1, .ref p2][i]? = some x → ∃ (p oa : Addr) (ord' : List Int) (mm : Int), x = .ref p ∧ Hs p = some (.tup [.ref oa, .int mm]) ∧ Hs oa = some (.lst (ord'.map V.int)) ∧ ord'.Nodup ∧ (∀ a, a ∈ ord' ↔ 0 ≤ a ∧ a < n) ∧ 0 ≤ mm ∧ mm < 3 := by
  intro i x hx
  match i, hx with
  | 0, hx =>
    cases hx
    exact ⟨p1, o1, dom n, 0, rfl, h1, e1, (dom_ok n).1, (dom_ok n).2, by decide, by decide⟩
  | 1, hx =>
    cases hx
    exact ⟨p2, od, ord, m, rfl, h2, e2, nd, mem, m0, m3⟩
  | n + 2, hx => cases hx
theorem merge_no {k : Key} : ∀ {r acc : List (Key × V)}, (∀ p ∈ r, p.1 ≠ k) → valV (mergeK acc r) k = valV acc k
  | [], _, _ => rfl
  | p :: r, acc, h => by
    show valV (mergeK (putK acc p.1 p.2) r) k = _
    rw [merge_no fun q hq => h q (List.mem_cons_of_mem _ hq), valV_put, if_neg fun z => h p List.mem_cons_self z.symm]
theorem merge_at {k : Key} {v : V} : ∀ {r acc : List (Key × V)}, (r.map (·.1)).Nodup → (k, v) ∈ r → valV (mergeK acc r) k = some v
  | p :: r, acc, nd, h => by
    obtain ⟨n1, n2⟩ := List.nodup_cons.mp nd
    show valV (mergeK (putK acc p.1 p.2) r) k = _
    rcases List.mem_cons.mp h with e | h
    · subst e
      rw [merge_no fun q hq e => n1 (List.mem_map.mpr ⟨q, hq, e⟩), valV_put, if_pos rfl]
    · exact merge_at n2 h
theorem sorted_eq : ∀ {l r : List Int}, l.Perm r → l.Pairwise (· ≤ ·) → r.Pairwise (· ≤ ·) → l = r
  | [], r, p, _, _ => (List.nil_perm.mp p).symm
  | a :: l, [], p, _, _ => by simp at p
  | a :: l, b :: r, p, h1, h2 => by
    obtain ⟨x1, x2⟩ := List.pairwise_cons.mp h1
    obtain ⟨y1, y2⟩ := List.pairwise_cons.mp h2
    have e : a = b := by
      have ha : a ∈ b :: r := p.mem_iff.mp List.mem_cons_self
      have hb : b ∈ a :: l := p.mem_iff.mpr List.mem_cons_self
      rcases List.mem_cons.mp ha with z | z
      · exact z
      rcases List.mem_cons.mp hb with w | w
      · exact w.symm
      have := y1 a z
      have := x1 b w
      omega
    subst e
    rw [sorted_eq ((List.perm_cons a).mp p) x2 y2]
def rgI (a : Int) (n : Nat) : List Int := (List.range n).map fun (i : Nat) => a + (i : Int)
theorem rgI_sorted (a : Int) (n : Nat) : (rgI a n).Pairwise (· ≤ ·) := by
  unfold rgI
  refine List.pairwise_map.mpr ?_
  refine List.Pairwise.imp (fun {x y} (h : x < y) => ?_) (List.pairwise_lt_range (n := n))
  omega
theorem rgV_rgI {a b : Int} {n : Nat} (h : b = a + n) : rgV a b = (rgI a n).map V.int := by
  unfold rgV rgI
  have e : (b - a).toNat = n := by omega
  rw [e, List.map_map]
  rfl
theorem moved_keys {fr : Int} {order : List Int} {rows rows' : List Row} (M : MovedTo fr order rows rows') : rows'.map (·.a) = rgI fr order.length := by
  apply List.ext_getElem?
  intro i
  unfold rgI
  rw [List.getElem?_map, List.getElem?_map]
  by_cases h : i < rows'.length
  · have e := List.getElem?_eq_getElem h
    obtain ⟨r, _, _, e2, _⟩ := M.get i rows'[i] e
    rw [e, List.getElem?_range (by rw [← M.len]; exact h)]
    show some rows'[i].a = some (fr + (i : Int))
    rw [e2]
  · rw [List.getElem?_eq_none (by omega), List.getElem?_eq_none (by rw [List.length_range, ← M.len]; omega)]
    rfl
theorem txt_re {v : Vl} (t : Int → Int) (h : txtOk v) : txtOk (v.re t) := by cases v <;> first | exact h | exact True.intro
section
variable {P : Program} {w : World} {K : PySem.W.Frag} {mg : Str → Option Value} {base : Heap} {CW CD : Addr}
theorem ok_rest (T : Txt K mg CW CD) (TL0 : Tail P w K mg base) : Rest P w K mg base := by
  intro f cdv A outer s H0 Q E hr q
  have hu := hu_of hr
  obtain ⟨tT, hT, qT⟩ := TL0 f cdv A outer s H0 Q E hr q
  refine ⟨_, pss_cons (ps_for PassesOwn.never rfl (pi_list (pe_lst (pa_cons (pe_tup (pa_cons (pe_listRg (by rfl) rfl T.zList (prg_1 rfl T.zRange (pv 3))) (pa_cons pe_int pa_nil))) (pa_cons (pe_tup (pa_cons (pv 9) (pa_cons (C8.pe_c (ok_mix T) hr (by decide) rfl (pa_cons (pv 1) (pa_cons pe_int (pa_cons pe_int pa_nil)))) pa_nil))) pa_nil))))
        (pg_tup rfl (pgs_cons (pg_name (i := 10) scLaw.nd rfl (by first | exact Or.inl rfl | exact Or.inr rfl)) (pgs_cons (pg_name (i := 11) scLaw.nd rfl (by first | exact Or.inl rfl | exact Or.inr rfl)) pgs_nil)))
      (pss_cons (ps_asg (C8.pe_c (ok_lw T) hr (by decide) rfl (pa_cons (pv 2) (pa_cons (pv 10) (pa_cons (pv 11) pa_nil)))) (pg_tup rfl (pgs_cons (pg_name (i := 12) scLaw.nd rfl (by first | exact Or.inl rfl | exact Or.inr rfl)) (pgs_cons (pg_name (i := 13) scLaw.nd rfl (by first | exact Or.inl rfl | exact Or.inr rfl)) pgs_nil))))
      (pss_cons (ps_set (i := 14) scLaw.nd rfl (by first | exact Or.inl rfl | exact Or.inr rfl) (C8.pe_c (ok_at T) hr (by decide) rfl (pa_cons (pv 13) (pa_cons (pv 4) pa_nil))))
      (pss_cons (ps_if (PW.pt (pw_or (pt_cmpR (op_neD hr.units) (C8.pe_c (ok_dumped T) hr (by decide) rfl (pa_cons (pv 12) (pa_cons (pv 14) pa_nil))) (pv 5) (nomark _))
          (pw_or (pt_cmpR op_notBl (C8.pe_c (ok_isWorld T) hr (by decide) rfl (pa_cons (pv 12) pa_nil)) pe_bl (nomark _))
          (pw_or1 (pt_cmpR (op_neD hr.units) (C8.pe_c (ok_reached T) hr (by decide) rfl (pa_cons (pv 12) (pa_cons (pv 14) pa_nil)))
            (pe_lc (own := [("a", 18)]) (g := gName 18) (tt := tYes) (by rfl) scLaw.nd (pi_list (pv 6)) (blkOk_by (N := nmsLaw) (sc := C8.fnScope sLaw) (by decide +kernel)) (fun _ _ _ _ _ => pg_name (i := 18) scLaw.nd rfl (by first | exact Or.inl rfl | exact Or.inr rfl)) (fun _ _ _ _ _ => pts_nil)
              (fun _ _ _ _ _ => pe_ix (ixT K) (pe_dget hu (pv 13) (pv 18) (fun _ _ => rfl)) pe_int (fun _ _ => rfl))) (nomark _)))))) (pss_one (ps_ret pe_bl)) pss_nil)
      (pss_cons (ps_set (i := 15) scLaw.nd rfl (by first | exact Or.inl rfl | exact Or.inr rfl) (pe_fld (pv 12) rfl))
      (pss_cons (ps_set (i := 16) scLaw.nd rfl (by first | exact Or.inl rfl | exact Or.inr rfl) (C8.pe_c (ok_moved T) hr (by decide) rfl (pa_cons (pv 12) (pa_cons (pv 14) pa_nil))))
      (pss_cons (ps_if (pt_cmpR (op_neD hr.units) (pv 16) (C8.pe_c (ok_at T) hr (by decide) rfl (pa_cons (pe_callTy (call_dictP (by rfl)) (by rfl) T.zDict (by decide +kernel) (pa_cons
            (pe_lc (own := [("k", 25)]) (g := gName 25) (tt := tYes) (by rfl) scLaw.nd (pi_range1 rfl T.zRange (pa_cons (pe_callB call_len_seq rfl T.zLen PySem.boot_len (pa_cons (pv 6) pa_nil)) pa_nil)) (blkOk_by (N := nmsLaw) (sc := C8.fnScope sLaw) (by decide +kernel)) (fun _ _ _ _ _ => pg_name (i := 25) scLaw.nd rfl (by first | exact Or.inl rfl | exact Or.inr rfl)) (fun _ _ _ _ _ => pts_nil)
              (fun _ _ _ _ _ => pe_tup (pa_cons (pe_ix (ixL K) (pv 6) (pv 25) (fun _ _ => rfl)) (pa_cons (pe_tup (pa_cons pe_str (pa_cons (pe_op op_add (pv 15) (pv 25)) pa_nil))) pa_nil)))) pa_nil)) (pa_cons (pv 4) pa_nil))) (nomark _)) (pss_one (ps_ret pe_bl)) pss_nil)
      (pss_cons (ps_if (PW.pt (pw_or (pt_cmpR (op_neD hr.units) (pe_callB (call_sortedDI (by rfl)) rfl T.zSorted (by decide +kernel) (pa_cons (pe_fld (pv 12) rfl) pa_nil))
            (pe_listRg (by rfl) rfl T.zList (prg_2 rfl T.zRange (pv 15) (pe_op op_add (pv 15) (pe_callB call_len_seq rfl T.zLen PySem.boot_len (pa_cons (pv 6) pa_nil))))) (nomark _))
          (pw_or1 (pt_cmpR op_ne (pe_fld (pv 12) rfl) (pe_op op_add (pv 15) (pe_callB call_len_seq rfl T.zLen PySem.boot_len (pa_cons (pv 6) pa_nil))) (nomark _))))) (pss_one (ps_ret pe_bl)) pss_nil)
      (pss_one (ps_if (PW.pt (pw_or (pt_cmpR (op_neD hr.units) (C8.pe_c (ok_dumped T) hr (by decide) rfl (pa_cons (pv 12) (pa_cons (pv 16) pa_nil))) (pv 5) (nomark _))
          (pw_or (pt_cmpR op_notBl (C8.pe_c (ok_isWorld T) hr (by decide) rfl (pa_cons (pv 12) pa_nil)) pe_bl (nomark _))
          (pw_or1 (pt_cmpR (op_neD hr.units) (C8.pe_c (ok_dumped T) hr (by decide) rfl (pa_cons (pv 12) (pa_cons (pe_revL (pv 16)) pa_nil))) (C8.pe_c (ok_lds T) hr (by decide) rfl (pa_cons (pv 2) (pa_cons (pe_revL (pv 4)) pa_nil))) (nomark _)))))) (pss_one (ps_ret pe_bl)) pss_nil)))))))))) hT, ?_⟩
  intro a dr l rt du la od cs xs css mv fs st ord H F L eod ond om
  have W := L.W
  have n1 := W.n1
  have n12 := W.n12
  have emv := L.mv
  have xl := L.xl
  obtain ⟨met, Dm⟩ := L.D
  have YL := lays_sub W L.rf
  have shd := strs_shaped (Dmps.asc (gl_ok W) Dm Mok.nil fun v hv => (L.gv v hv).ok)
  refine ⟨_, rfl, _, rfl, RgOk.of_le (by omega) (by omega) (by omega) (by omega), fun o1 ho1 => ⟨by show 2 ≤ sizeLine; decide, fun p1 hp1 => ?_⟩⟩
  have b1 := same_new ho1 (.lst (rgV 0 mv))
  have b2 := same_new hp1 (.tup [V.ref o1, V.int 0])
  refine ⟨_, rfl, _, rfl, dr, 5, 3, rfl, (F.same (L2.Same.trans b1 b2)).hd, by decide, fun mm m0 m3 => ⟨by show 2 ≤ sizeLine; decide, fun p2 hp2 => ⟨by show 2 ≤ sizeLine; decide, fun LL hLL => ?_⟩⟩⟩
  have b3 := same_new hp2 (.tup [V.ref od, V.int mm])
  have b4 := same_new hLL (.lst [V.ref p1, V.ref p2])
  have b14 := L2.Same.trans b1 (L2.Same.trans b2 (L2.Same.trans b3 b4))
  have FS := F.same b14
  have ent := ent2 (n := cs.length) ((L2.Same.trans b3 b4) _ _ upd_same) (b4 _ _ upd_same) ((L2.Same.trans b2 (L2.Same.trans b3 b4)) _ _ (by rw [upd_same, rgV_dom mv cs.length emv])) (b14 _ _ eod) ond om m0 m3
  refine ⟨LL, rfl, ⟨_, SqL.of upd_same⟩, ?_⟩
  refine for_list (K := K) (a := LL) (xs := [V.ref p1, V.ref p2]) (fun i σ H1 => ∃ (o10 o11 o12 o13 o14 o15 o16 : Option V), σ = [some (.ref a), some (.ref dr), some (.ref l), some (.int mv), some (.ref rt), some (.ref du), some (.ref la), some (.int fs), some (.int st), some (.ref od), o10, o11, o12, o13, o14, o15, o16, none, none, none, none, none, none, none, none, none] ∧ Same _ H1)
    ⟨none, none, none, none, none, none, none, rfl, fun _ _ e => e⟩ (fun i σ H1 _ ⟨_, _, _, _, _, _, _, _, s1⟩ => SqL.of (s1 _ _ upd_same)) ?_ ?_
  · rintro i x σ H1 hi ⟨o10, o11, o12, o13, o14, o15, o16, rfl, s1⟩
    obtain ⟨p, oa, ord', mo, rfl, e1, e2, ond', om', mo0, mo3⟩ := ent i x hi
    have F1 := FS.same s1
    refine ⟨p, _, rfl, SqT.of (s1 _ _ e1), rfl, _, _, rfl, _, _, rfl, rfl, ?_⟩
    refine ⟨_, rfl, _, rfl, _, rfl, l, oa, mo, cs, ord', rfl, F1.C, W, L.AH, s1 _ _ e2, ond', om', mo0, mo3, fun r H2 AW S tb kvs τ fr2 er2 tw => ?_⟩
    refine ⟨r, _, rfl, SqT.of er2, rfl, _, _, rfl, _, _, rfl, rfl, ?_⟩
    have F2 := F1.same tw.sm
    refine ⟨_, rfl, _, rfl, tb, rt, kvs, xs, τ, rfl, tw.tb1, F2.R, by omega, (fun b hb => tw.tv b (L.rf b hb)), fun th H3 s3 fth lv3 => ?_⟩
    have t3 := tw.same s3
    have F3 := F2.same s3
    have st3 := TW.std W t3
    have nd3 := t3.W.an
    have ok3 := st3.ok W nd3
    have rl3 := t3.rl
    have cl3 := st3.closed nd3
    have vk : ∀ (u : Int → Int), ∀ v ∈ xs.map (Vl.re u), vOk v := fun u v hv => by
      obtain ⟨u', hu', rfl⟩ := List.mem_map.mp hv
      exact vOk_re u (L.gv u' hu').ok
    have inD : ∀ b, Vl.ref b ∈ xs → b ∈ dom cs.length := fun b hb => mem_dom.mpr (L.rf b hb)
    obtain ⟨kB, B⟩ := st3.bfs W nd3 L.rf
    have dom3 : ∀ a ∈ refs (xs.map (Vl.re τ)), a ∈ S.rows.map (·.a) := fun a ha => by
      rw [refs_re] at ha
      obtain ⟨b, hb, rfl⟩ := List.mem_map.mp ha
      obtain ⟨r', hr', e, _⟩ := st3.row b (inD b (refs_mem hb))
      exact List.mem_map.mpr ⟨r', hr', e⟩
    have xl' : (xs.map (Vl.re τ)).length ≤ 100 := by rw [List.length_map]; omega
    -- dumped(world, there) != due
    refine ⟨_, rfl, _, rfl, AW, S, th, _, css, _, _, rfl, t3.W, lv3, xl', vk τ, ok3, gok_gr ok3 (by omega), st3.dmps nd3 Dm inD, fun r4 H4 s4 fr4 er4 => ?_⟩
    have t4 := t3.same s4
    have F4 := F3.same s4
    refine ⟨_, rfl, _, _, strs_dp er4, strs_dp F4.du, shd, shd, _, rfl, iteFb (by rw [shaped_refl shd]; rfl) ?_⟩
    -- is_world
    refine ⟨_, rfl, AW, S, rfl, t4.W, cl3, (fun r hr => by have := (ok3 r hr).le; omega), fun H5 s5 => ?_⟩
    have t5 := t4.same s5
    have F5 := F4.same s5
    refine ⟨_, _, rfl, rfl, _, rfl, iteFb (by rfl) ?_⟩
    -- reached
    have lv5 := lv3.same (L2.Same.trans s4 s5)
    refine ⟨_, rfl, _, rfl, AW, S, th, _, kB, _, rfl, t5.W, lv5, xl', (fun r hr => (ok3 r hr).le), cl3, dom3, B, fun r6 H6 s6 fr6 er6 => ?_⟩
    have t6 := t5.same s6
    have F6 := F5.same s6
    refine ⟨_, rfl, la, rfl, ⟨_, SqL.of F6.la⟩, fun D hD => ?_⟩
    refine lc_list (K := K) (a := la) (xs := (lays cs xs).map V.int) (fun i H7 => Same H6 H7 ∧ H7 D = some (.lst ((((lays cs xs).take i).map τ).map V.int))) ⟨same_new hD _, upd_same⟩ (fun i H7 _ h => SqL.of (h.1 _ _ F6.la)) ?_ ?_
    · rintro j x H7 hj ⟨s7, d7⟩
      obtain ⟨b, eb, rfl⟩ : ∃ b, (lays cs xs)[j]? = some b ∧ V.int b = x := by
        rw [List.getElem?_map] at hj
        exact Option.map_eq_some_iff.mp hj
      obtain ⟨qa, v1, v2⟩ := (t6.same s7).tv b (YL.sub.dm b (List.mem_of_getElem? eb))
      have jl := (List.getElem?_eq_some_iff.mp eb).1
      have yl := YL.le
      refine ⟨rfl, ?_⟩
      refine ⟨_, rfl, _, rfl, tb, _, rfl, dget (k := Sum.inl b) (t6.same s7).tb1 v1, qa, _, _, _, rfl, rfl, v2.sq, at1 (by intro e; cases e), _, d7, by rw [List.length_map, List.length_map, List.length_take]; exact small1000 (by omega), fun b' o e => ?_, ?_⟩
      · rw [upd_ne (ne_of_none e hD)]
        exact s7 _ _ e
      · rw [upd_same, take_snoc eb, List.map_append, List.map_append]
        rfl
    rintro H7 ⟨s7, d7⟩
    rw [List.length_map, List.take_length] at d7
    have t7 := t6.same s7
    have F7 := F6.same s7
    have shi := ints_shaped ((lays cs xs).map τ)
    refine ⟨_, _, ints_dp (s7 _ _ er6), ints_dp d7, shi, shi, _, rfl, iteFb (by rw [shaped_refl shi]; rfl) ?_⟩
    -- fresh, moved
    obtain ⟨dx, ff, pr, h1, hl, h2⟩ := t7.W.ob
    refine ⟨_, rfl, AW.p, CW, dx, ff, _, rfl, h1, T.cW, T.nFr, (h2 _).trans wl_fr, ?_⟩
    have lv7 := lv5.same (L2.Same.trans s6 s7)
    refine ⟨_, rfl, _, rfl, AW, S, th, _, kB, _, rfl, t7.W, lv7, xl', (fun r hr => (ok3 r hr).le), cl3, dom3, B, fun r8 H8 ce8 rows8 W8 M8 k8 own8 fr8 lv8 => ?_⟩
    have S18 : Same H1 H8 := fun b o e => k8 _ _ (t7.sm _ _ e) (ne_of_none e (tw.ow AW.p own_p))
    have F8 := F1.same S18
    have st8 := st3.moved nd3 YL M8
    have nd8 : (rows8.map (·.a)).Nodup := W8.an
    have ok8 := st8.ok W nd8
    have cl8 := st8.closed nd8
    have ln8 : rows8.length = (lays cs xs).length := by have := M8.len; rwa [List.length_map] at this
    have yl := YL.le
    have r100 : rows8.length ≤ 100 := by omega
    have frw := t7.W.fr.1
    rw [told_eq st3.inj YL] at lv8
    have lnL : ((((lays cs xs).map τ).length : Nat) : Int) = (lays cs xs).length := by rw [List.length_map]
    have lnN : ((((lays cs xs).map V.int).length : Nat) : Int).toNat = (lays cs xs).length := by rw [List.length_map]; omega
    refine ⟨_, rfl, _, rfl, la, _, rfl, .inl (SqL.of F8.la), _, rfl, by rw [List.length_map]; omega, by rw [List.length_map]; omega, fun D9 hD9 => ?_⟩
    rw [lnN]
    refine lc_range (lo := 0) (n := (lays cs xs).length) (fun i H9 => ∃ pa qa : Nat → Addr, Same H8 H9 ∧ H9 D9 = some (.lst ((List.range i).map fun j => V.ref (pa j))) ∧ ∀ j, j < i → ∀ b, (lays cs xs)[j]? = some b → H9 (pa j) = some (.tup [.int b, .ref (qa j)]) ∧ VAt H9 (qa j) (.ref (S.fr + (j : Int))))
      ⟨fun _ => 0, fun _ => 0, same_new hD9 _, upd_same, fun j hj => by omega⟩ ?_ ?_
    · rintro j H9 hj ⟨pa, qa, s9, d9, vals⟩
      rw [Int.zero_add]
      have eb : (lays cs xs)[j]? = some (lays cs xs)[j] := List.getElem?_eq_getElem hj
      generalize (lays cs xs)[j] = b at eb
      refine ⟨rfl, ?_⟩
      refine ⟨_, rfl, _, rfl, la, _, _, _, rfl, rfl, SqL.of (s9 _ _ F8.la), atI_nat (by rw [List.getElem?_map, eb]; rfl), _, rfl, _, rfl, _, _, rfl, rfl, by show 2 ≤ sizeLine; decide, fun q1 hq1 => ⟨by show 2 ≤ sizeLine; decide, fun q2 hq2 => ?_⟩⟩
      have c1 := same_new hq1 (.tup [V.str "ref", V.int (S.fr + (j : Int))])
      have c2 := same_new hq2 (.tup [V.int b, V.ref q1])
      have c12 := L2.Same.trans c1 c2
      have d92 := c12 _ _ d9
      have ne : ∀ {b'} {vs : List V}, (upd (upd H9 q1 (.tup [V.str "ref", V.int (S.fr + (j : Int))])) q2 (.tup [V.int b, V.ref q1])) b' = some (.tup vs) → b' ≠ D9 := fun z w => by rw [w, d92] at z; cases z
      refine ⟨_, d92, by rw [List.length_map, List.length_range]; exact small1000 (by omega), fun u => if u = j then q2 else pa u, fun u => if u = j then q1 else qa u, fun b' o e => ?_, ?_, fun u hu b' hb' => ?_⟩
      · rw [upd_ne (ne_of_none e hD9)]
        exact c12 _ _ (s9 _ _ e)
      · rw [upd_same, List.range_succ, List.map_append]
        have e1 : (List.range j).map (fun u => V.ref (if u = j then q2 else pa u)) = (List.range j).map fun u => V.ref (pa u) := List.map_congr_left fun u hu => by
          have := List.mem_range.mp hu
          rw [if_neg (by omega)]
        rw [e1]
        show _ = some (HO.lst (_ ++ [V.ref (if j = j then q2 else pa j)]))
        rw [if_pos rfl]
      · dsimp only
        by_cases e : u = j
        · subst e
          rw [hb'] at eb
          cases eb
          rw [if_pos rfl, if_pos rfl]
          have z1 : (upd (upd H9 q1 (.tup [V.str "ref", V.int (S.fr + (u : Int))])) q2 (.tup [V.int b, V.ref q1])) q2 = some (.tup [V.int b, V.ref q1]) := upd_same
          have z2 := c2 _ _ (show (upd H9 q1 (.tup [V.str "ref", V.int (S.fr + (u : Int))])) q1 = some (.tup [V.str "ref", V.int (S.fr + (u : Int))]) from upd_same)
          exact ⟨(upd_ne (ne z1)).trans z1, (upd_ne (ne z2)).trans z2⟩
        · rw [if_neg e, if_neg e]
          obtain ⟨z1, z2⟩ := vals u (by omega) b' hb'
          have z1 := c12 _ _ z1
          have z2 := c12 _ _ z2
          exact ⟨(upd_ne (ne z1)).trans z1, (upd_ne (ne z2)).trans z2⟩
    rintro H9 ⟨pa, qa, s9, d9, vals⟩
    let kvL : List (Key × V) := (List.range (lays cs xs).length).map fun j => ((Sum.inl ((lays cs xs).getD j 0) : Key), V.ref (qa j))
    have gD : ∀ j, j < (lays cs xs).length → (lays cs xs)[j]? = some ((lays cs xs).getD j 0) := fun j hj => by
      rw [List.getD_eq_getElem?_getD, List.getElem?_eq_getElem hj]
      rfl
    refine ⟨D9, (List.range (lays cs xs).length).map pa, kvL, rfl, SqL.of (by rw [List.map_map]; exact d9), ?_, fun d2 hd2 => ?_⟩
    · have : ∀ l : List Nat, (∀ j ∈ l, j < (lays cs xs).length) → Paired (fun p (kv : Key × V) => SqT K H9 p [kV kv.1, kv.2]) (l.map pa) (l.map fun j => ((Sum.inl ((lays cs xs).getD j 0) : Key), V.ref (qa j))) := fun l => by
        induction l with
        | nil => intro _; exact .nil
        | cons j r ih =>
          intro h
          have hj := h j List.mem_cons_self
          exact .cons (SqT.of (vals j hj _ (gD j hj)).1) (ih fun j hj => h j (List.mem_cons_of_mem _ hj))
      exact this _ fun j hj => List.mem_range.mp hj
    have s10 := same_new hd2 (.dK (mergeK [] kvL))
    have s90 := L2.Same.trans s9 s10
    have F10 := F8.same s90
    have kn : (kvL.map (·.1)).Nodup := by
      show (((List.range (lays cs xs).length).map fun j => ((Sum.inl ((lays cs xs).getD j 0) : Key), V.ref (qa j))).map (·.1)).Nodup
      rw [List.map_map]
      refine List.pairwise_map.mpr ?_
      refine List.Pairwise.imp_of_mem (fun {x y} hx hy (h : x ≠ y) e => ?_) (List.nodup_range (n := (lays cs xs).length))
      have hx := List.mem_range.mp hx
      have hy := List.mem_range.mp hy
      have e : (lays cs xs).getD x 0 = (lays cs xs).getD y 0 := Sum.inl.inj e
      have ex := gD x hx
      have ey := gD y hy
      rw [e] at ex
      exact h (nd_ix YL.nd ex ey)
    refine ⟨_, rfl, d2, rt, mergeK [] kvL, xs, tOf S.fr (lays cs xs), rfl, upd_same, F10.R, by omega, (fun b hb => ?_), fun r10 H11 s11 fr11 lv11 => ?_⟩
    · have hm := YL.rt b hb
      have il := ixOf_lt hm
      have ig := (ixOf_get hm).1
      obtain ⟨z1, z2⟩ := vals _ il _ ig
      refine ⟨qa (ixOf b (lays cs xs)), merge_at kn ?_, s10 _ _ z2⟩
      refine List.mem_map.mpr ⟨ixOf b (lays cs xs), List.mem_range.mpr il, ?_⟩
      rw [List.getD_eq_getElem?_getD, ig]
      rfl
    have shv := dats_shaped (vs := xs.map (Vl.re (tOf S.fr (lays cs xs)))) fun v hv => by
      obtain ⟨u, hu, rfl⟩ := List.mem_map.mp hv
      exact txt_re _ (L.gv u hu).tx
    have s911 := L2.Same.trans s90 s11
    have lv8' := lv8.same s911
    refine ⟨_, _, lv_dp lv8', lv_dp lv11, shv, shv, _, rfl, iteFb (by rw [shaped_refl shv]; rfl) ?_⟩
    have F11 := F8.same s911
    have W11 := W8.same s911
    -- sorted(world.cells)
    obtain ⟨dx, ff, pr, h1, hl, h2⟩ := W11.ob
    have mk := moved_keys M8
    rw [List.length_map] at mk
    refine ⟨_, rfl, AW.p, CW, dx, ff, _, rfl, h1, T.cW, T.nCe, (h2 _).trans wl_ce, ce8, ceK rows8, rgI S.fr (lays cs xs).length, rfl, .inl W11.ce, ?_, ?_, fun ys pS perm srt hpS => ?_⟩
    · rw [← mk]
      unfold ceK
      rw [List.map_map, List.map_map]
      rfl
    · unfold rgI
      rw [List.length_map, List.length_range]
      omega
    have s12 := same_new hpS (.lst (ys.map V.int))
    have F12 := F11.same s12
    refine ⟨_, rfl, _, rfl, _, rfl, la, _, rfl, .inl (SqL.of F12.la), _, _, rfl, rfl, _, _, rfl, rfl, ?_, fun q3 hq3 => ?_⟩
    · rw [List.length_map]
      have := t7.fb
      exact RgOk.of_le frw (by omega) (by omega) (by omega)
    have eys : ys = rgI S.fr (lays cs xs).length := sorted_eq perm srt (rgI_sorted _ _)
    subst eys
    have s13 := same_new hq3 (.lst (rgV S.fr (S.fr + (((lays cs xs).map V.int).length : Nat))))
    have shr := ints_shaped (rgI S.fr (lays cs xs).length)
    refine ⟨_, _, ints_dp (s13 _ _ upd_same), ints_dp (by rw [upd_same, rgV_rgI (n := (lays cs xs).length) (by rw [List.length_map])]), shr, shr, _, rfl, iteFb (by rw [shaped_refl shr]; rfl) ?_⟩
    have s1213 := L2.Same.trans s12 s13
    have F13 := F12.same s13
    have W13 := W11.same s1213
    obtain ⟨dx, ff, pr, h1, hl, h2⟩ := W13.ob
    refine ⟨_, rfl, AW.p, CW, dx, ff, _, rfl, h1, T.cW, T.nFr, (h2 _).trans wl_fr, _, rfl, _, rfl, la, _, rfl, .inl (SqL.of F13.la), _, _, rfl, rfl, rfl, _, rfl, iteFb ?_ ?_⟩
    · have e : (S.fr + ((((lays cs xs).map τ).length : Nat) : Int)) = S.fr + ((((lays cs xs).map V.int).length : Nat) : Int) := by rw [List.length_map, List.length_map]
      show (!decide (V.int (S.fr + ((((lays cs xs).map τ).length : Nat) : Int)) = V.int (S.fr + ((((lays cs xs).map V.int).length : Nat) : Int)))) = false
      rw [e, decide_eq_true rfl]
      rfl
    -- the dumps stay
    have lv13 := lv8'.same s1213
    have xl8 : (xs.map (Vl.re (tOf S.fr (lays cs xs)))).length ≤ 100 := by rw [List.length_map]; omega
    refine ⟨_, rfl, _, rfl, { AW with ce := ce8 }, _, r8, _, css, _, _, rfl, W13, lv13, xl8, vk _, ok8, gok_gr ok8 r100, st8.dmps nd8 Dm YL.rt, fun r14 H14 s14 fr14 er14 => ?_⟩
    have F14 := F13.same s14
    have W14 := W13.same s14
    refine ⟨_, rfl, _, _, strs_dp er14, strs_dp F14.du, shd, shd, _, rfl, iteFb (by rw [shaped_refl shd]; rfl) ?_⟩
    refine ⟨_, rfl, { AW with ce := ce8 }, _, rfl, W14, cl8, (fun r hr => by have := (ok8 r hr).le; omega), fun H15 s15 => ?_⟩
    have F15 := F14.same s15
    have W15 := W14.same s15
    refine ⟨_, _, rfl, rfl, _, rfl, iteFb (by rfl) ?_⟩
    obtain ⟨css', met', D'⟩ := Dmps.of W (xs := xs.reverse) (fun v hv => (L.gv v (List.mem_reverse.mp hv)).ok) (fun b hb => L.rf b (List.mem_reverse.mp hb))
    have shd' := strs_shaped (Dmps.asc (gl_ok W) D' Mok.nil fun v hv => (L.gv v (List.mem_reverse.mp hv)).ok)
    obtain ⟨ps8, x8, v8⟩ := lv13.same (L2.Same.trans s14 s15)
    refine ⟨_, rfl, _, rfl, r8, _, rfl, SqL.of x8, fun pr hpr => ?_⟩
    have s16 := same_new hpr (.lst (ps8.map V.ref).reverse)
    refine ⟨{ AW with ce := ce8 }, _, pr, xs.reverse.map (Vl.re (tOf S.fr (lays cs xs))), css', _, _, rfl, W15.same s16, ⟨ps8.reverse, (by rw [upd_same, List.map_reverse]), ?_⟩, (by rw [List.length_map, List.length_reverse]; omega), (fun v hv => ?_), ok8, gok_gr ok8 r100, st8.dmps nd8 D' (fun b hb => YL.rt b (List.mem_reverse.mp hb)), fun r17 H17 s17 fr17 er17 => ?_⟩
    · rw [List.map_reverse]
      exact pair_rev (v8.same s16)
    · obtain ⟨u, hu, rfl⟩ := List.mem_map.mp hv
      exact vOk_re _ (L.gv u (List.mem_reverse.mp hu)).ok
    have F17 := F15.same (L2.Same.trans s16 s17)
    obtain ⟨psR, xR, vR⟩ := F17.R
    refine ⟨_, rfl, _, rfl, rt, _, rfl, SqL.of xR, fun pq hpq => ?_⟩
    have s18 := same_new hpq (.lst (psR.map V.ref).reverse)
    refine ⟨l, pq, cs, xs.reverse, rfl, F17.C.same s18, W, L.TR, ⟨psR.reverse, (by rw [upd_same, List.map_reverse]), pair_rev (vR.same s18)⟩, (by rw [List.length_reverse]; omega), (fun v hv => ⟨(L.gv v (List.mem_reverse.mp hv)).ok, (L.gv v (List.mem_reverse.mp hv)).nb⟩), (fun b hb => L.rf b (List.mem_reverse.mp hb)), fun r19 H19 css19 met19 s19 fr19 er19 D19 => ?_⟩
    obtain ⟨e19, _⟩ := D'.fun D19
    subst e19
    refine ⟨_, _, strs_dp ((L2.Same.trans s18 s19) _ _ er17), strs_dp er19, shd', shd', _, rfl, iteFb (by rw [shaped_refl shd']; rfl) ?_⟩
    refine ⟨_, _, _, _, _, _, _, rfl, ?_⟩
    exact L2.Same.trans s1 (L2.Same.trans S18 (L2.Same.trans s911 (L2.Same.trans s1213 (L2.Same.trans s14 (L2.Same.trans s15 (L2.Same.trans s16 (L2.Same.trans s17 (L2.Same.trans s18 s19))))))))
  · rintro σ H1 ⟨o10, o11, o12, o13, o14, o15, o16, rfl, s1⟩
    exact qT a dr l rt du la od cs xs css mv fs st o10 o11 o12 o13 o14 o15 o16 H1 (FS.same s1) L
end
end K4

namespace K4
open PySem PySem.Spec PyProof.Rows L2
/-! ### what the top has written -/
theorem def_mk {K : PySem.W.Frag} {h : Heap} {mg : Str → Option Value} {x : Str} {st : Stmt} {ps : List Str} {f : Addr} {od an : Option Addr} {sl : Array (Option Value)} {oc kV dc pm cd ct : Value} (X : K.In h) (G : h.Ns mainGlobals mg) (a : PySem.W.nsIn K mainGlobals x = some (some (.ref f)))
    (l : K.lookup f = some ⟨oc, od, .func (PySem.W.fnOf x x (C8.fnArgs st) (C8.fnBody st) (C8.fnScope st) .none kV dc pm an cd ct), sl⟩) (c : PySem.W.codeIn K cd x = true) (k : PySem.W.keepIn K (.ref f) = true)
    (b : ∀ (kV doc pm : Value) (an : Option Addr) (cdv ct : Value) (us : List Value), us.length = ps.length → bindArgs (PySem.W.fnOf x x (C8.fnArgs st) (C8.fnBody st) (C8.fnScope st) .none kV doc pm an cdv ct) ⟨us, []⟩ = pure (ps.zip us)) : DefT K mg x st ps := by
  have F : C8.Fun K x x st f (PySem.W.fnOf x x (C8.fnArgs st) (C8.fnBody st) (C8.fnScope st) .none kV dc pm an cd ct) := ⟨⟨oc, od, .none, kV, dc, pm, an, cd, ct, sl, rfl, l, c⟩⟩
  exact ⟨f, _, ⟨F, PySem.W.mg_of X G a, k⟩, F.binds rfl b⟩
theorem met_mk {K : PySem.W.Frag} {C : Addr} {m qual : Str} {st : Stmt} {ps : List Str} {f : Addr} {od an : Option Addr} {sl : Array (Option Value)} {oc kV dc pm cd ct : Value} (a : PySem.W.findIn K (.ref C) m = some (some (.ref f))) (i : PySem.W.isFn K (.ref f) = true)
    (l : K.lookup f = some ⟨oc, od, .func (PySem.W.fnOf m qual (C8.fnArgs st) (C8.fnBody st) (C8.fnScope st) .none kV dc pm an cd ct), sl⟩) (c : PySem.W.codeIn K cd qual = true) (k : PySem.W.keepIn K (.ref f) = true)
    (b : ∀ (kV doc pm : Value) (an : Option Addr) (cdv ct : Value) (us : List Value), us.length = ps.length → bindArgs (PySem.W.fnOf m qual (C8.fnArgs st) (C8.fnBody st) (C8.fnScope st) .none kV doc pm an cdv ct) ⟨us, []⟩ = pure (ps.zip us)) : MetT K C m qual st ps := by
  have F : C8.Fun K m qual st f (PySem.W.fnOf m qual (C8.fnArgs st) (C8.fnBody st) (C8.fnScope st) .none kV dc pm an cd ct) := ⟨⟨oc, od, .none, kV, dc, pm, an, cd, ct, sl, rfl, l, c⟩⟩
  exact ⟨f, _, ⟨a, i, k⟩, F, F.binds rfl b⟩
theorem mak_mk {K : PySem.W.Frag} {h : Heap} {mg : Str → Option Value} {C : Addr} {x qual : Str} {st : Stmt} {ps : List Str} {f : Addr} {od an : Option Addr} {sl : Array (Option Value)} {oc kV dc pm cd ct : Value} (X : K.In h) (G : h.Ns mainGlobals mg) (g : PySem.W.nsIn K mainGlobals x = some (some (.ref C)))
    (mk : PySem.W.makesIn K C = true) (kc : PySem.W.keepIn K (.ref C) = true) (a : PySem.W.findIn K (.ref C) "__init__" = some (some (.ref f))) (i : PySem.W.isFn K (.ref f) = true)
    (l : K.lookup f = some ⟨oc, od, .func (PySem.W.fnOf "__init__" qual (C8.fnArgs st) (C8.fnBody st) (C8.fnScope st) .none kV dc pm an cd ct), sl⟩) (c : PySem.W.codeIn K cd qual = true)
    (b : ∀ (kV doc pm : Value) (an : Option Addr) (cdv ct : Value) (us : List Value), us.length = ps.length → bindArgs (PySem.W.fnOf "__init__" qual (C8.fnArgs st) (C8.fnBody st) (C8.fnScope st) .none kV doc pm an cdv ct) ⟨us, []⟩ = pure (ps.zip us)) : MakT K mg C x qual st ps := by
  have F : C8.Fun K "__init__" qual st f (PySem.W.fnOf "__init__" qual (C8.fnArgs st) (C8.fnBody st) (C8.fnScope st) .none kV dc pm an cd ct) := ⟨⟨oc, od, .none, kV, dc, pm, an, cd, ct, sl, rfl, l, c⟩⟩
  exact ⟨f, _, ⟨mk, a, i, kc⟩, PySem.W.mg_of X G g, F, F.binds rfl b⟩
theorem all_mk {l : PySem.W.OpenLaw} {w : World} {K : PySem.W.Frag} {h : Heap} {mg : Str → Option Value} {fa CW CD fL : Addr} (X : K.In h) (G : h.Ns mainGlobals mg) (hfa : mg "law" = some (.ref fa))
    {tk_gLeast : Tok}
    {tk_gMost : Tok}
    {f1 : Addr} {od1 an1 : Option Addr} {sl1 : Array (Option Value)} {oc1 kV1 dc1 pm1 cd1 ct1 : Value}
    {f2 : Addr} {od2 an2 : Option Addr} {sl2 : Array (Option Value)} {oc2 kV2 dc2 pm2 cd2 ct2 : Value}
    {f3 : Addr} {od3 an3 : Option Addr} {sl3 : Array (Option Value)} {oc3 kV3 dc3 pm3 cd3 ct3 : Value}
    {f4 : Addr} {od4 an4 : Option Addr} {sl4 : Array (Option Value)} {oc4 kV4 dc4 pm4 cd4 ct4 : Value}
    {f5 : Addr} {od5 an5 : Option Addr} {sl5 : Array (Option Value)} {oc5 kV5 dc5 pm5 cd5 ct5 : Value}
    {f6 : Addr} {od6 an6 : Option Addr} {sl6 : Array (Option Value)} {oc6 kV6 dc6 pm6 cd6 ct6 : Value}
    {f7 : Addr} {od7 an7 : Option Addr} {sl7 : Array (Option Value)} {oc7 kV7 dc7 pm7 cd7 ct7 : Value}
    {f8 : Addr} {od8 an8 : Option Addr} {sl8 : Array (Option Value)} {oc8 kV8 dc8 pm8 cd8 ct8 : Value}
    {f9 : Addr} {od9 an9 : Option Addr} {sl9 : Array (Option Value)} {oc9 kV9 dc9 pm9 cd9 ct9 : Value}
    {f10 : Addr} {od10 an10 : Option Addr} {sl10 : Array (Option Value)} {oc10 kV10 dc10 pm10 cd10 ct10 : Value}
    {f11 : Addr} {od11 an11 : Option Addr} {sl11 : Array (Option Value)} {oc11 kV11 dc11 pm11 cd11 ct11 : Value}
    {f12 : Addr} {od12 an12 : Option Addr} {sl12 : Array (Option Value)} {oc12 kV12 dc12 pm12 cd12 ct12 : Value}
    {f13 : Addr} {od13 an13 : Option Addr} {sl13 : Array (Option Value)} {oc13 kV13 dc13 pm13 cd13 ct13 : Value}
    {f14 : Addr} {od14 an14 : Option Addr} {sl14 : Array (Option Value)} {oc14 kV14 dc14 pm14 cd14 ct14 : Value}
    {f15 : Addr} {od15 an15 : Option Addr} {sl15 : Array (Option Value)} {oc15 kV15 dc15 pm15 cd15 ct15 : Value}
    {f16 : Addr} {od16 an16 : Option Addr} {sl16 : Array (Option Value)} {oc16 kV16 dc16 pm16 cd16 ct16 : Value}
    {f17 : Addr} {od17 an17 : Option Addr} {sl17 : Array (Option Value)} {oc17 kV17 dc17 pm17 cd17 ct17 : Value}
    {f18 : Addr} {od18 an18 : Option Addr} {sl18 : Array (Option Value)} {oc18 kV18 dc18 pm18 cd18 ct18 : Value}
    {f19 : Addr} {od19 an19 : Option Addr} {sl19 : Array (Option Value)} {oc19 kV19 dc19 pm19 cd19 ct19 : Value}
    {f20 : Addr} {od20 an20 : Option Addr} {sl20 : Array (Option Value)} {oc20 kV20 dc20 pm20 cd20 ct20 : Value}
    {f21 : Addr} {od21 an21 : Option Addr} {sl21 : Array (Option Value)} {oc21 kV21 dc21 pm21 cd21 ct21 : Value}
    {f22 : Addr} {od22 an22 : Option Addr} {sl22 : Array (Option Value)} {oc22 kV22 dc22 pm22 cd22 ct22 : Value}
    {f23 : Addr} {od23 an23 : Option Addr} {sl23 : Array (Option Value)} {oc23 kV23 dc23 pm23 cd23 ct23 : Value}
    {f24 : Addr} {od24 an24 : Option Addr} {sl24 : Array (Option Value)} {oc24 kV24 dc24 pm24 cd24 ct24 : Value}
    {f25 : Addr} {od25 an25 : Option Addr} {sl25 : Array (Option Value)} {oc25 kV25 dc25 pm25 cd25 ct25 : Value}
    {f26 : Addr} {od26 an26 : Option Addr} {sl26 : Array (Option Value)} {oc26 kV26 dc26 pm26 cd26 ct26 : Value}
    {f27 : Addr} {od27 an27 : Option Addr} {sl27 : Array (Option Value)} {oc27 kV27 dc27 pm27 cd27 ct27 : Value}
    {f28 : Addr} {od28 an28 : Option Addr} {sl28 : Array (Option Value)} {oc28 kV28 dc28 pm28 cd28 ct28 : Value}
    {f29 : Addr} {od29 an29 : Option Addr} {sl29 : Array (Option Value)} {oc29 kV29 dc29 pm29 cd29 ct29 : Value}
    {f30 : Addr} {od30 an30 : Option Addr} {sl30 : Array (Option Value)} {oc30 kV30 dc30 pm30 cd30 ct30 : Value}
    {f31 : Addr} {od31 an31 : Option Addr} {sl31 : Array (Option Value)} {oc31 kV31 dc31 pm31 cd31 ct31 : Value}
    {f32 : Addr} {od32 an32 : Option Addr} {sl32 : Array (Option Value)} {oc32 kV32 dc32 pm32 cd32 ct32 : Value}
    {f33 : Addr} {od33 an33 : Option Addr} {sl33 : Array (Option Value)} {oc33 kV33 dc33 pm33 cd33 ct33 : Value}
    {f34 : Addr} {od34 an34 : Option Addr} {sl34 : Array (Option Value)} {oc34 kV34 dc34 pm34 cd34 ct34 : Value}
    {f35 : Addr} {od35 an35 : Option Addr} {sl35 : Array (Option Value)} {oc35 kV35 dc35 pm35 cd35 ct35 : Value}
    {f36 : Addr} {od36 an36 : Option Addr} {sl36 : Array (Option Value)} {oc36 kV36 dc36 pm36 cd36 ct36 : Value}
    {f37 : Addr} {od37 an37 : Option Addr} {sl37 : Array (Option Value)} {oc37 kV37 dc37 pm37 cd37 ct37 : Value}
    {f38 : Addr} {od38 an38 : Option Addr} {sl38 : Array (Option Value)} {oc38 kV38 dc38 pm38 cd38 ct38 : Value}
    {od39 an39 : Option Addr} {sl39 : Array (Option Value)} {oc39 kV39 dc39 pm39 cd39 ct39 : Value}
    (aW : PySem.W.nsIn K mainGlobals "World" = some (some (.ref CW)))
    (aD : PySem.W.nsIn K mainGlobals "Dump" = some (some (.ref CD)))
    (pgCW : PySem.W.plainGet K CW Str.empty = true)
    (hdCW : PySem.W.hasDictIn K CW = true)
    (poCW : PySem.W.plainOver K CW = true)
    (saCW : PySem.W.findIn K (.ref CW) "__setattr__" = some (some (.builtin "object.__setattr__")))
    (pgCD : PySem.W.plainGet K CD Str.empty = true)
    (hdCD : PySem.W.hasDictIn K CD = true)
    (poCD : PySem.W.plainOver K CD = true)
    (saCD : PySem.W.findIn K (.ref CD) "__setattr__" = some (some (.builtin "object.__setattr__")))
    (q_nSh : PySem.W.findIn K (.ref CW) "shapes" = some none)
    (q_nKi : PySem.W.findIn K (.ref CW) "kinds" = some none)
    (q_nCh : PySem.W.findIn K (.ref CW) "children" = some none)
    (q_nWi : PySem.W.findIn K (.ref CW) "widened" = some none)
    (q_nCe : PySem.W.findIn K (.ref CW) "cells" = some none)
    (q_nFr : PySem.W.findIn K (.ref CW) "fresh" = some none)
    (q_nPr : PySem.W.findIn K (.ref CW) "printed" = some none)
    (q_nDw : PySem.W.findIn K (.ref CD) "world" = some none)
    (q_nDm : PySem.W.findIn K (.ref CD) "met" = some none)
    (q_zLen : PySem.W.nsIn K mainGlobals "len" = some none)
    (q_zRange : PySem.W.nsIn K mainGlobals "range" = some none)
    (q_zInt : PySem.W.nsIn K mainGlobals "int" = some none)
    (q_zStr : PySem.W.nsIn K mainGlobals "str" = some none)
    (q_zList : PySem.W.nsIn K mainGlobals "list" = some none)
    (q_zAbs : PySem.W.nsIn K mainGlobals "abs" = some none)
    (q_zMin : PySem.W.nsIn K mainGlobals "min" = some none)
    (q_zEnum : PySem.W.nsIn K mainGlobals "enumerate" = some none)
    (q_zIsi : PySem.W.nsIn K mainGlobals "isinstance" = some none)
    (q_zAll : PySem.W.nsIn K mainGlobals "all" = some none)
    (q_zSorted : PySem.W.nsIn K mainGlobals "sorted" = some none)
    (q_zSum : PySem.W.nsIn K mainGlobals "sum" = some none)
    (q_zDict : PySem.W.nsIn K mainGlobals "dict" = some none)
    (q_gLeast : PySem.W.nsIn K mainGlobals "LEAST_SMALL" = some (some (.int (-32768) tk_gLeast)))
    (q_gMost : PySem.W.nsIn K mainGlobals "MOST_SMALL" = some (some (.int (32767) tk_gMost)))
    (a1 : PySem.W.nsIn K mainGlobals "is_small" = some (some (.ref f1)))
    (l1 : K.lookup f1 = some ⟨oc1, od1, .func (PySem.W.fnOf "is_small" "is_small" (C8.fnArgs sSmall) (C8.fnBody sSmall) (C8.fnScope sSmall) .none kV1 dc1 pm1 an1 cd1 ct1), sl1⟩)
    (c1 : PySem.W.codeIn K cd1 "is_small" = true)
    (k1 : PySem.W.keepIn K (.ref f1) = true)
    (mkCD : PySem.W.makesIn K CD = true)
    (kcCD : PySem.W.keepIn K (.ref CD) = true)
    (a2 : PySem.W.findIn K (.ref CD) "__init__" = some (some (.ref f2)))
    (i2 : PySem.W.isFn K (.ref f2) = true)
    (l2 : K.lookup f2 = some ⟨oc2, od2, .func (PySem.W.fnOf "__init__" "Dump.__init__" (C8.fnArgs sDInit) (C8.fnBody sDInit) (C8.fnScope sDInit) .none kV2 dc2 pm2 an2 cd2 ct2), sl2⟩)
    (c2 : PySem.W.codeIn K cd2 "Dump.__init__" = true)
    (a3 : PySem.W.findIn K (.ref CD) "text" = some (some (.ref f3)))
    (i3 : PySem.W.isFn K (.ref f3) = true)
    (l3 : K.lookup f3 = some ⟨oc3, od3, .func (PySem.W.fnOf "text" "Dump.text" (C8.fnArgs sDText) (C8.fnBody sDText) (C8.fnScope sDText) .none kV3 dc3 pm3 an3 cd3 ct3), sl3⟩)
    (c3 : PySem.W.codeIn K cd3 "Dump.text" = true)
    (k3 : PySem.W.keepIn K (.ref f3) = true)
    (a4 : PySem.W.findIn K (.ref CD) "opened" = some (some (.ref f4)))
    (i4 : PySem.W.isFn K (.ref f4) = true)
    (l4 : K.lookup f4 = some ⟨oc4, od4, .func (PySem.W.fnOf "opened" "Dump.opened" (C8.fnArgs sDOpen) (C8.fnBody sDOpen) (C8.fnScope sDOpen) .none kV4 dc4 pm4 an4 cd4 ct4), sl4⟩)
    (c4 : PySem.W.codeIn K cd4 "Dump.opened" = true)
    (k4 : PySem.W.keepIn K (.ref f4) = true)
    (a5 : PySem.W.findIn K (.ref CD) "between" = some (some (.ref f5)))
    (i5 : PySem.W.isFn K (.ref f5) = true)
    (l5 : K.lookup f5 = some ⟨oc5, od5, .func (PySem.W.fnOf "between" "Dump.between" (C8.fnArgs sDBetw) (C8.fnBody sDBetw) (C8.fnScope sDBetw) .none kV5 dc5 pm5 an5 cd5 ct5), sl5⟩)
    (c5 : PySem.W.codeIn K cd5 "Dump.between" = true)
    (k5 : PySem.W.keepIn K (.ref f5) = true)
    (a6 : PySem.W.findIn K (.ref CD) "plain" = some (some (.ref f6)))
    (i6 : PySem.W.isFn K (.ref f6) = true)
    (l6 : K.lookup f6 = some ⟨oc6, od6, .func (PySem.W.fnOf "plain" "Dump.plain" (C8.fnArgs sDPlain) (C8.fnBody sDPlain) (C8.fnScope sDPlain) .none kV6 dc6 pm6 an6 cd6 ct6), sl6⟩)
    (c6 : PySem.W.codeIn K cd6 "Dump.plain" = true)
    (k6 : PySem.W.keepIn K (.ref f6) = true)
    (a7 : PySem.W.nsIn K mainGlobals "dumped" = some (some (.ref f7)))
    (l7 : K.lookup f7 = some ⟨oc7, od7, .func (PySem.W.fnOf "dumped" "dumped" (C8.fnArgs sDumped) (C8.fnBody sDumped) (C8.fnScope sDumped) .none kV7 dc7 pm7 an7 cd7 ct7), sl7⟩)
    (c7 : PySem.W.codeIn K cd7 "dumped" = true)
    (k7 : PySem.W.keepIn K (.ref f7) = true)
    (a8 : PySem.W.nsIn K mainGlobals "is_world" = some (some (.ref f8)))
    (l8 : K.lookup f8 = some ⟨oc8, od8, .func (PySem.W.fnOf "is_world" "is_world" (C8.fnArgs sIsWorld) (C8.fnBody sIsWorld) (C8.fnScope sIsWorld) .none kV8 dc8 pm8 an8 cd8 ct8), sl8⟩)
    (c8 : PySem.W.codeIn K cd8 "is_world" = true)
    (k8 : PySem.W.keepIn K (.ref f8) = true)
    (a9 : PySem.W.nsIn K mainGlobals "fits" = some (some (.ref f9)))
    (l9 : K.lookup f9 = some ⟨oc9, od9, .func (PySem.W.fnOf "fits" "fits" (C8.fnArgs sFits) (C8.fnBody sFits) (C8.fnScope sFits) .none kV9 dc9 pm9 an9 cd9 ct9), sl9⟩)
    (c9 : PySem.W.codeIn K cd9 "fits" = true)
    (k9 : PySem.W.keepIn K (.ref f9) = true)
    (a10 : PySem.W.nsIn K mainGlobals "refs_of" = some (some (.ref f10)))
    (l10 : K.lookup f10 = some ⟨oc10, od10, .func (PySem.W.fnOf "refs_of" "refs_of" (C8.fnArgs sRefs) (C8.fnBody sRefs) (C8.fnScope sRefs) .none kV10 dc10 pm10 an10 cd10 ct10), sl10⟩)
    (c10 : PySem.W.codeIn K cd10 "refs_of" = true)
    (k10 : PySem.W.keepIn K (.ref f10) = true)
    (a11 : PySem.W.nsIn K mainGlobals "reached" = some (some (.ref f11)))
    (l11 : K.lookup f11 = some ⟨oc11, od11, .func (PySem.W.fnOf "reached" "reached" (C8.fnArgs sReached) (C8.fnBody sReached) (C8.fnScope sReached) .none kV11 dc11 pm11 an11 cd11 ct11), sl11⟩)
    (c11 : PySem.W.codeIn K cd11 "reached" = true)
    (k11 : PySem.W.keepIn K (.ref f11) = true)
    (a12 : PySem.W.nsIn K mainGlobals "moved_value" = some (some (.ref f12)))
    (l12 : K.lookup f12 = some ⟨oc12, od12, .func (PySem.W.fnOf "moved_value" "moved_value" (C8.fnArgs sMovedV) (C8.fnBody sMovedV) (C8.fnScope sMovedV) .none kV12 dc12 pm12 an12 cd12 ct12), sl12⟩)
    (c12 : PySem.W.codeIn K cd12 "moved_value" = true)
    (k12 : PySem.W.keepIn K (.ref f12) = true)
    (a13 : PySem.W.nsIn K mainGlobals "moved" = some (some (.ref f13)))
    (l13 : K.lookup f13 = some ⟨oc13, od13, .func (PySem.W.fnOf "moved" "moved" (C8.fnArgs sMoved) (C8.fnBody sMoved) (C8.fnScope sMoved) .none kV13 dc13 pm13 an13 cd13 ct13), sl13⟩)
    (c13 : PySem.W.codeIn K cd13 "moved" = true)
    (k13 : PySem.W.keepIn K (.ref f13) = true)
    (mkCW : PySem.W.makesIn K CW = true)
    (kcCW : PySem.W.keepIn K (.ref CW) = true)
    (a14 : PySem.W.findIn K (.ref CW) "__init__" = some (some (.ref f14)))
    (i14 : PySem.W.isFn K (.ref f14) = true)
    (l14 : K.lookup f14 = some ⟨oc14, od14, .func (PySem.W.fnOf "__init__" "World.__init__" (C8.fnArgs sWInit) (C8.fnBody sWInit) (C8.fnScope sWInit) .none kV14 dc14 pm14 an14 cd14 ct14), sl14⟩)
    (c14 : PySem.W.codeIn K cd14 "World.__init__" = true)
    (a15 : PySem.W.findIn K (.ref CW) "slot_of" = some (some (.ref f15)))
    (i15 : PySem.W.isFn K (.ref f15) = true)
    (l15 : K.lookup f15 = some ⟨oc15, od15, .func (PySem.W.fnOf "slot_of" "World.slot_of" (C8.fnArgs sSlotOf) (C8.fnBody sSlotOf) (C8.fnScope sSlotOf) .none kV15 dc15 pm15 an15 cd15 ct15), sl15⟩)
    (c15 : PySem.W.codeIn K cd15 "World.slot_of" = true)
    (k15 : PySem.W.keepIn K (.ref f15) = true)
    (a16 : PySem.W.findIn K (.ref CW) "owner" = some (some (.ref f16)))
    (i16 : PySem.W.isFn K (.ref f16) = true)
    (l16 : K.lookup f16 = some ⟨oc16, od16, .func (PySem.W.fnOf "owner" "World.owner" (C8.fnArgs sOwner) (C8.fnBody sOwner) (C8.fnScope sOwner) .none kV16 dc16 pm16 an16 cd16 ct16), sl16⟩)
    (c16 : PySem.W.codeIn K cd16 "World.owner" = true)
    (k16 : PySem.W.keepIn K (.ref f16) = true)
    (a17 : PySem.W.findIn K (.ref CW) "names_of" = some (some (.ref f17)))
    (i17 : PySem.W.isFn K (.ref f17) = true)
    (l17 : K.lookup f17 = some ⟨oc17, od17, .func (PySem.W.fnOf "names_of" "World.names_of" (C8.fnArgs sNames) (C8.fnBody sNames) (C8.fnScope sNames) .none kV17 dc17 pm17 an17 cd17 ct17), sl17⟩)
    (c17 : PySem.W.codeIn K cd17 "World.names_of" = true)
    (k17 : PySem.W.keepIn K (.ref f17) = true)
    (a18 : PySem.W.findIn K (.ref CW) "grown" = some (some (.ref f18)))
    (i18 : PySem.W.isFn K (.ref f18) = true)
    (l18 : K.lookup f18 = some ⟨oc18, od18, .func (PySem.W.fnOf "grown" "World.grown" (C8.fnArgs sGrown) (C8.fnBody sGrown) (C8.fnScope sGrown) .none kV18 dc18 pm18 an18 cd18 ct18), sl18⟩)
    (c18 : PySem.W.codeIn K cd18 "World.grown" = true)
    (k18 : PySem.W.keepIn K (.ref f18) = true)
    (a19 : PySem.W.findIn K (.ref CW) "note" = some (some (.ref f19)))
    (i19 : PySem.W.isFn K (.ref f19) = true)
    (l19 : K.lookup f19 = some ⟨oc19, od19, .func (PySem.W.fnOf "note" "World.note" (C8.fnArgs sNote) (C8.fnBody sNote) (C8.fnScope sNote) .none kV19 dc19 pm19 an19 cd19 ct19), sl19⟩)
    (c19 : PySem.W.codeIn K cd19 "World.note" = true)
    (k19 : PySem.W.keepIn K (.ref f19) = true)
    (a20 : PySem.W.findIn K (.ref CW) "put_cell" = some (some (.ref f20)))
    (i20 : PySem.W.isFn K (.ref f20) = true)
    (l20 : K.lookup f20 = some ⟨oc20, od20, .func (PySem.W.fnOf "put_cell" "World.put_cell" (defArgs sPutCell) (defBody sPutCell) (defScope sPutCell) .none kV20 dc20 pm20 an20 cd20 ct20), sl20⟩)
    (c20 : PySem.W.codeIn K cd20 "World.put_cell" = true)
    (k20 : PySem.W.keepIn K (.ref f20) = true)
    (a21 : PySem.W.findIn K (.ref CW) "cell" = some (some (.ref f21)))
    (i21 : PySem.W.isFn K (.ref f21) = true)
    (l21 : K.lookup f21 = some ⟨oc21, od21, .func (PySem.W.fnOf "cell" "World.cell" (C8.fnArgs sCell) (C8.fnBody sCell) (C8.fnScope sCell) .none kV21 dc21 pm21 an21 cd21 ct21), sl21⟩)
    (c21 : PySem.W.codeIn K cd21 "World.cell" = true)
    (k21 : PySem.W.keepIn K (.ref f21) = true)
    (a22 : PySem.W.findIn K (.ref CW) "new_object" = some (some (.ref f22)))
    (i22 : PySem.W.isFn K (.ref f22) = true)
    (l22 : K.lookup f22 = some ⟨oc22, od22, .func (PySem.W.fnOf "new_object" "World.new_object" (C8.fnArgs sNewObj) (C8.fnBody sNewObj) (C8.fnScope sNewObj) .none kV22 dc22 pm22 an22 cd22 ct22), sl22⟩)
    (c22 : PySem.W.codeIn K cd22 "World.new_object" = true)
    (k22 : PySem.W.keepIn K (.ref f22) = true)
    (a23 : PySem.W.findIn K (.ref CW) "new_list" = some (some (.ref f23)))
    (i23 : PySem.W.isFn K (.ref f23) = true)
    (l23 : K.lookup f23 = some ⟨oc23, od23, .func (PySem.W.fnOf "new_list" "World.new_list" (C8.fnArgs sNewList) (C8.fnBody sNewList) (C8.fnScope sNewList) .none kV23 dc23 pm23 an23 cd23 ct23), sl23⟩)
    (c23 : PySem.W.codeIn K cd23 "World.new_list" = true)
    (k23 : PySem.W.keepIn K (.ref f23) = true)
    (a24 : PySem.W.findIn K (.ref CW) "new_closure" = some (some (.ref f24)))
    (i24 : PySem.W.isFn K (.ref f24) = true)
    (l24 : K.lookup f24 = some ⟨oc24, od24, .func (PySem.W.fnOf "new_closure" "World.new_closure" (C8.fnArgs sNewClo) (C8.fnBody sNewClo) (C8.fnScope sNewClo) .none kV24 dc24 pm24 an24 cd24 ct24), sl24⟩)
    (c24 : PySem.W.codeIn K cd24 "World.new_closure" = true)
    (k24 : PySem.W.keepIn K (.ref f24) = true)
    (a25 : PySem.W.findIn K (.ref CW) "store" = some (some (.ref f25)))
    (i25 : PySem.W.isFn K (.ref f25) = true)
    (l25 : K.lookup f25 = some ⟨oc25, od25, .func (PySem.W.fnOf "store" "World.store" (C8.fnArgs sStore) (C8.fnBody sStore) (C8.fnScope sStore) .none kV25 dc25 pm25 an25 cd25 ct25), sl25⟩)
    (c25 : PySem.W.codeIn K cd25 "World.store" = true)
    (k25 : PySem.W.keepIn K (.ref f25) = true)
    (a26 : PySem.W.findIn K (.ref CW) "grow" = some (some (.ref f26)))
    (i26 : PySem.W.isFn K (.ref f26) = true)
    (l26 : K.lookup f26 = some ⟨oc26, od26, .func (PySem.W.fnOf "grow" "World.grow" (C8.fnArgs sGrow) (C8.fnBody sGrow) (C8.fnScope sGrow) .none kV26 dc26 pm26 an26 cd26 ct26), sl26⟩)
    (c26 : PySem.W.codeIn K cd26 "World.grow" = true)
    (k26 : PySem.W.keepIn K (.ref f26) = true)
    (a27 : PySem.W.findIn K (.ref CW) "append" = some (some (.ref f27)))
    (i27 : PySem.W.isFn K (.ref f27) = true)
    (l27 : K.lookup f27 = some ⟨oc27, od27, .func (PySem.W.fnOf "append" "World.append" (C8.fnArgs sAppend) (C8.fnBody sAppend) (C8.fnScope sAppend) .none kV27 dc27 pm27 an27 cd27 ct27), sl27⟩)
    (c27 : PySem.W.codeIn K cd27 "World.append" = true)
    (k27 : PySem.W.keepIn K (.ref f27) = true)
    (a28 : PySem.W.findIn K (.ref CW) "shape_of" = some (some (.ref f28)))
    (i28 : PySem.W.isFn K (.ref f28) = true)
    (l28 : K.lookup f28 = some ⟨oc28, od28, .func (PySem.W.fnOf "shape_of" "World.shape_of" (C8.fnArgs sShapeOf) (C8.fnBody sShapeOf) (C8.fnScope sShapeOf) .none kV28 dc28 pm28 an28 cd28 ct28), sl28⟩)
    (c28 : PySem.W.codeIn K cd28 "World.shape_of" = true)
    (k28 : PySem.W.keepIn K (.ref f28) = true)
    (a29 : PySem.W.findIn K (.ref CW) "put" = some (some (.ref f29)))
    (i29 : PySem.W.isFn K (.ref f29) = true)
    (l29 : K.lookup f29 = some ⟨oc29, od29, .func (PySem.W.fnOf "put" "World.put" (C8.fnArgs sPut) (C8.fnBody sPut) (C8.fnScope sPut) .none kV29 dc29 pm29 an29 cd29 ct29), sl29⟩)
    (c29 : PySem.W.codeIn K cd29 "World.put" = true)
    (k29 : PySem.W.keepIn K (.ref f29) = true)
    (a30 : PySem.W.nsIn K mainGlobals "_law_draws" = some (some (.ref f30)))
    (l30 : K.lookup f30 = some ⟨oc30, od30, .func (PySem.W.fnOf "_law_draws" "_law_draws" (C8.fnArgs sDraws) (C8.fnBody sDraws) (C8.fnScope sDraws) .none kV30 dc30 pm30 an30 cd30 ct30), sl30⟩)
    (c30 : PySem.W.codeIn K cd30 "_law_draws" = true)
    (k30 : PySem.W.keepIn K (.ref f30) = true)
    (a31 : PySem.W.nsIn K mainGlobals "_law_mix" = some (some (.ref f31)))
    (l31 : K.lookup f31 = some ⟨oc31, od31, .func (PySem.W.fnOf "_law_mix" "_law_mix" (C8.fnArgs sMix) (C8.fnBody sMix) (C8.fnScope sMix) .none kV31 dc31 pm31 an31 cd31 ct31), sl31⟩)
    (c31 : PySem.W.codeIn K cd31 "_law_mix" = true)
    (k31 : PySem.W.keepIn K (.ref f31) = true)
    (a32 : PySem.W.nsIn K mainGlobals "_law_cells" = some (some (.ref f32)))
    (l32 : K.lookup f32 = some ⟨oc32, od32, .func (PySem.W.fnOf "_law_cells" "_law_cells" (C8.fnArgs sCells) (C8.fnBody sCells) (C8.fnScope sCells) .none kV32 dc32 pm32 an32 cd32 ct32), sl32⟩)
    (c32 : PySem.W.codeIn K cd32 "_law_cells" = true)
    (k32 : PySem.W.keepIn K (.ref f32) = true)
    (a33 : PySem.W.nsIn K mainGlobals "_law_let" = some (some (.ref f33)))
    (l33 : K.lookup f33 = some ⟨oc33, od33, .func (PySem.W.fnOf "_law_let" "_law_let" (C8.fnArgs sLet) (C8.fnBody sLet) (C8.fnScope sLet) .none kV33 dc33 pm33 an33 cd33 ct33), sl33⟩)
    (c33 : PySem.W.codeIn K cd33 "_law_let" = true)
    (k33 : PySem.W.keepIn K (.ref f33) = true)
    (a34 : PySem.W.nsIn K mainGlobals "_law_world" = some (some (.ref f34)))
    (l34 : K.lookup f34 = some ⟨oc34, od34, .func (PySem.W.fnOf "_law_world" "_law_world" (C8.fnArgs sLWorld) (C8.fnBody sLWorld) (C8.fnScope sLWorld) .none kV34 dc34 pm34 an34 cd34 ct34), sl34⟩)
    (c34 : PySem.W.codeIn K cd34 "_law_world" = true)
    (k34 : PySem.W.keepIn K (.ref f34) = true)
    (a35 : PySem.W.nsIn K mainGlobals "_law_dump" = some (some (.ref f35)))
    (l35 : K.lookup f35 = some ⟨oc35, od35, .func (PySem.W.fnOf "_law_dump" "_law_dump" (C8.fnArgs sLDump) (C8.fnBody sLDump) (C8.fnScope sLDump) .none kV35 dc35 pm35 an35 cd35 ct35), sl35⟩)
    (c35 : PySem.W.codeIn K cd35 "_law_dump" = true)
    (k35 : PySem.W.keepIn K (.ref f35) = true)
    (a36 : PySem.W.nsIn K mainGlobals "_law_dumps" = some (some (.ref f36)))
    (l36 : K.lookup f36 = some ⟨oc36, od36, .func (PySem.W.fnOf "_law_dumps" "_law_dumps" (C8.fnArgs sLDumps) (C8.fnBody sLDumps) (C8.fnScope sLDumps) .none kV36 dc36 pm36 an36 cd36 ct36), sl36⟩)
    (c36 : PySem.W.codeIn K cd36 "_law_dumps" = true)
    (k36 : PySem.W.keepIn K (.ref f36) = true)
    (a37 : PySem.W.nsIn K mainGlobals "_law_layers" = some (some (.ref f37)))
    (l37 : K.lookup f37 = some ⟨oc37, od37, .func (PySem.W.fnOf "_law_layers" "_law_layers" (C8.fnArgs sLayers) (C8.fnBody sLayers) (C8.fnScope sLayers) .none kV37 dc37 pm37 an37 cd37 ct37), sl37⟩)
    (c37 : PySem.W.codeIn K cd37 "_law_layers" = true)
    (k37 : PySem.W.keepIn K (.ref f37) = true)
    (a38 : PySem.W.nsIn K mainGlobals "_law_at" = some (some (.ref f38)))
    (l38 : K.lookup f38 = some ⟨oc38, od38, .func (PySem.W.fnOf "_law_at" "_law_at" (C8.fnArgs sAt) (C8.fnBody sAt) (C8.fnScope sAt) .none kV38 dc38 pm38 an38 cd38 ct38), sl38⟩)
    (c38 : PySem.W.codeIn K cd38 "_law_at" = true)
    (k38 : PySem.W.keepIn K (.ref f38) = true)
    (a39 : PySem.W.nsIn K mainGlobals "law" = some (some (.ref fL)))
    (l39 : K.lookup fL = some ⟨oc39, od39, .func (PySem.W.fnOf "law" "law" (C8.fnArgs sLaw) (C8.fnBody sLaw) (C8.fnScope sLaw) .none kV39 dc39 pm39 an39 cd39 ct39), sl39⟩)
    (c39 : PySem.W.codeIn K cd39 "law" = true)
    : ∃ fd : FuncData, (∀ (s : Shared) (v : Value), BindsTo s fd ⟨[v], []⟩ [("script", v)]) ∧ ∀ base : Heap, K.In base → base.Ns mainGlobals mg → FnOk l.prog w K mg base C8.CX0 16 fa fd ["script"] (spLaw K) := by
  have e := hfa.symm.trans (PySem.W.mg_of X G a39)
  cases e
  have T : Txt K mg CW CD := {
    cW := ⟨pgCW, hdCW, poCW, saCW⟩,
    cD := ⟨pgCD, hdCD, poCD, saCD⟩,
    nSh := q_nSh,
    nKi := q_nKi,
    nCh := q_nCh,
    nWi := q_nWi,
    nCe := q_nCe,
    nFr := q_nFr,
    nPr := q_nPr,
    nDw := q_nDw,
    nDm := q_nDm,
    zLen := PySem.W.mg_none_of X G q_zLen,
    zRange := PySem.W.mg_none_of X G q_zRange,
    zInt := PySem.W.mg_none_of X G q_zInt,
    zStr := PySem.W.mg_none_of X G q_zStr,
    zList := PySem.W.mg_none_of X G q_zList,
    zAbs := PySem.W.mg_none_of X G q_zAbs,
    zMin := PySem.W.mg_none_of X G q_zMin,
    zEnum := PySem.W.mg_none_of X G q_zEnum,
    zIsi := PySem.W.mg_none_of X G q_zIsi,
    zAll := PySem.W.mg_none_of X G q_zAll,
    zSorted := PySem.W.mg_none_of X G q_zSorted,
    zSum := PySem.W.mg_none_of X G q_zSum,
    zDict := PySem.W.mg_none_of X G q_zDict,
    gLeast := ⟨_, PySem.W.mg_of X G q_gLeast, _, rfl⟩,
    gMost := ⟨_, PySem.W.mg_of X G q_gMost, _, rfl⟩,
    dSmall := def_mk X G a1 l1 c1 k1 (fun _ _ _ _ _ _ us hl => match us, hl with | [_], _ => rfl),
    kDump := mak_mk X G aD mkCD kcCD a2 i2 l2 c2 (fun _ _ _ _ _ _ us hl => match us, hl with | [_, _], _ => rfl),
    mText := met_mk a3 i3 l3 c3 k3 (fun _ _ _ _ _ _ us hl => match us, hl with | [_, _], _ => rfl),
    mOpen := met_mk a4 i4 l4 c4 k4 (fun _ _ _ _ _ _ us hl => match us, hl with | [_, _], _ => rfl),
    mBetw := met_mk a5 i5 l5 c5 k5 (fun _ _ _ _ _ _ us hl => match us, hl with | [_, _, _], _ => rfl),
    mPlain := met_mk a6 i6 l6 c6 k6 (fun _ _ _ _ _ _ us hl => match us, hl with | [_, _], _ => rfl),
    dDumped := def_mk X G a7 l7 c7 k7 (fun _ _ _ _ _ _ us hl => match us, hl with | [_, _], _ => rfl),
    dIsWorld := def_mk X G a8 l8 c8 k8 (fun _ _ _ _ _ _ us hl => match us, hl with | [_], _ => rfl),
    dFits := def_mk X G a9 l9 c9 k9 (fun _ _ _ _ _ _ us hl => match us, hl with | [_, _], _ => rfl),
    dRefs := def_mk X G a10 l10 c10 k10 (fun _ _ _ _ _ _ us hl => match us, hl with | [_], _ => rfl),
    dReached := def_mk X G a11 l11 c11 k11 (fun _ _ _ _ _ _ us hl => match us, hl with | [_, _], _ => rfl),
    dMovedV := def_mk X G a12 l12 c12 k12 (fun _ _ _ _ _ _ us hl => match us, hl with | [_, _], _ => rfl),
    dMoved := def_mk X G a13 l13 c13 k13 (fun _ _ _ _ _ _ us hl => match us, hl with | [_, _], _ => rfl),
    kWorld := mak_mk X G aW mkCW kcCW a14 i14 l14 c14 (fun _ _ _ _ _ _ us hl => match us, hl with | [_], _ => rfl),
    mSlotOf := met_mk a15 i15 l15 c15 k15 (fun _ _ _ _ _ _ us hl => match us, hl with | [_, _, _], _ => rfl),
    mOwner := met_mk a16 i16 l16 c16 k16 (fun _ _ _ _ _ _ us hl => match us, hl with | [_, _, _], _ => rfl),
    mNames := met_mk a17 i17 l17 c17 k17 (fun _ _ _ _ _ _ us hl => match us, hl with | [_, _], _ => rfl),
    mGrown := met_mk a18 i18 l18 c18 k18 (fun _ _ _ _ _ _ us hl => match us, hl with | [_, _, _, _], _ => rfl),
    mNote := met_mk a19 i19 l19 c19 k19 (fun _ _ _ _ _ _ us hl => match us, hl with | [_, _, _], _ => rfl),
    mPutCell := ⟨_, _, ⟨a20, i20, k20⟩, fun_mk (st := sPutCell) l20 c20 k20⟩,
    mCell := met_mk a21 i21 l21 c21 k21 (fun _ _ _ _ _ _ us hl => match us, hl with | [_, _], _ => rfl),
    mNewObj := met_mk a22 i22 l22 c22 k22 (fun _ _ _ _ _ _ us hl => match us, hl with | [_], _ => rfl),
    mNewList := met_mk a23 i23 l23 c23 k23 (fun _ _ _ _ _ _ us hl => match us, hl with | [_, _], _ => rfl),
    mNewClo := met_mk a24 i24 l24 c24 k24 (fun _ _ _ _ _ _ us hl => match us, hl with | [_, _, _], _ => rfl),
    mStore := met_mk a25 i25 l25 c25 k25 (fun _ _ _ _ _ _ us hl => match us, hl with | [_, _, _, _], _ => rfl),
    mGrow := met_mk a26 i26 l26 c26 k26 (fun _ _ _ _ _ _ us hl => match us, hl with | [_, _, _, _], _ => rfl),
    mAppend := met_mk a27 i27 l27 c27 k27 (fun _ _ _ _ _ _ us hl => match us, hl with | [_, _, _], _ => rfl),
    mShapeOf := met_mk a28 i28 l28 c28 k28 (fun _ _ _ _ _ _ us hl => match us, hl with | [_, _], _ => rfl),
    mPut := met_mk a29 i29 l29 c29 k29 (fun _ _ _ _ _ _ us hl => match us, hl with | [_, _, _, _], _ => rfl),
    dDraws := def_mk X G a30 l30 c30 k30 (fun _ _ _ _ _ _ us hl => match us, hl with | [_], _ => rfl),
    dMix := def_mk X G a31 l31 c31 k31 (fun _ _ _ _ _ _ us hl => match us, hl with | [_, _, _], _ => rfl),
    dCells := def_mk X G a32 l32 c32 k32 (fun _ _ _ _ _ _ us hl => match us, hl with | [_], _ => rfl),
    dLet := def_mk X G a33 l33 c33 k33 (fun _ _ _ _ _ _ us hl => match us, hl with | [_], _ => rfl),
    dLWorld := def_mk X G a34 l34 c34 k34 (fun _ _ _ _ _ _ us hl => match us, hl with | [_, _, _], _ => rfl),
    dLDump := def_mk X G a35 l35 c35 k35 (fun _ _ _ _ _ _ us hl => match us, hl with | [_, _, _], _ => rfl),
    dLDumps := def_mk X G a36 l36 c36 k36 (fun _ _ _ _ _ _ us hl => match us, hl with | [_, _], _ => rfl),
    dLayers := def_mk X G a37 l37 c37 k37 (fun _ _ _ _ _ _ us hl => match us, hl with | [_, _], _ => rfl),
    dAt := def_mk X G a38 l38 c38 k38 (fun _ _ _ _ _ _ us hl => match us, hl with | [_, _], _ => rfl) }
  exact ⟨PySem.W.fnOf "law" "law" (C8.fnArgs sLaw) (C8.fnBody sLaw) (C8.fnScope sLaw) .none kV39 dc39 pm39 an39 cd39 ct39, fun s v => .of_eq rfl, fun base _ _ => ok_law0 T (ok_rest T (ok_tail T)) ⟨⟨oc39, od39, .none, kV39, dc39, pm39, an39, cd39, ct39, sl39, rfl, l39, c39⟩⟩⟩
theorem walk {l : PySem.W.OpenLaw} {q : Program} {loose : List Str} {XP : (Str → Option Value) → Heap → Prop} {YP : World → Heap → Prop} {d : DefRec} {K : Params → PySem.W.Frag} (hn : l.most = some 63) (hdf : d.params.defaults = [])
    (hY : ∀ (w : World) (h : Heap), YP w h → (K w.params).In h)
    (F : ∀ (w : World) (mg : Str → Option Value) (fa : Addr) (h : Heap), (K w.params).In h → h.Ns mainGlobals mg → mg d.name = some (.ref fa) →
      ∃ fd : FuncData, (∀ (s : Shared) (u : Value), BindsTo s fd ⟨[u], []⟩ [("script", u)]) ∧ ∀ base : Heap, (K w.params).In base → base.Ns mainGlobals mg → FnOk l.prog w (K w.params) mg base C8.CX0 16 fa fd ["script"] (spLaw (K w.params))) :
    PySem.W.WalkO q loose XP YP l.row.toRowW d [] (fun f vs => PySem.call f vs) :=
  L2.walk_of (n := 63) (k := 16) (x := "script") (CX := fun _ => C8.CX0) (sp := fun w => spLaw (K w.params)) hn (by decide) hdf ⟨rfl, by decide, by decide⟩ hY F (fun _ _ a ns hl _ hS => ⟨a, ns, rfl, hS, hl, fun _ => rfl⟩) fun _ _ _ _ _ z => z
end K4

open PySem PySem.W PyProof.Rows
set_option maxRecDepth 100000 in
set_option maxHeartbeats 0 in
theorem PySem.Challenge.cw_guessedandkept_k04_whole_dumps_of_drawn_holds : PySem.Challenge.rw_guessedandkept_k04_whole_dumps_of_drawn.Holds := by
  w_on; o_law; k_head; (case hw => w_witness2)
  k_fill
  refine K4.walk (l := PySem.Challenge.rw_guessedandkept_k04_whole_dumps_of_drawn) rfl rfl (fun w h Y => PySem.W.kIn_of Y) ?F
  case F =>
    intro w mg fa h KX G hmg
    refine' K4.all_mk KX G hmg ?aW ?aD ?pgCW ?hdCW ?poCW ?saCW ?pgCD ?hdCD ?poCD ?saCD ?q_nSh ?q_nKi ?q_nCh ?q_nWi ?q_nCe ?q_nFr ?q_nPr ?q_nDw ?q_nDm ?q_zLen ?q_zRange ?q_zInt ?q_zStr ?q_zList ?q_zAbs ?q_zMin ?q_zEnum ?q_zIsi ?q_zAll ?q_zSorted ?q_zSum ?q_zDict ?q_gLeast ?q_gMost ?a1 ?l1 ?c1 ?k1 ?mkCD ?kcCD ?a2 ?i2 ?l2 ?c2 ?a3 ?i3 ?l3 ?c3 ?k3 ?a4 ?i4 ?l4 ?c4 ?k4 ?a5 ?i5 ?l5 ?c5 ?k5 ?a6 ?i6 ?l6 ?c6 ?k6 ?a7 ?l7 ?c7 ?k7 ?a8 ?l8 ?c8 ?k8 ?a9 ?l9 ?c9 ?k9 ?a10 ?l10 ?c10 ?k10 ?a11 ?l11 ?c11 ?k11 ?a12 ?l12 ?c12 ?k12 ?a13 ?l13 ?c13 ?k13 ?mkCW ?kcCW ?a14 ?i14 ?l14 ?c14 ?a15 ?i15 ?l15 ?c15 ?k15 ?a16 ?i16 ?l16 ?c16 ?k16 ?a17 ?i17 ?l17 ?c17 ?k17 ?a18 ?i18 ?l18 ?c18 ?k18 ?a19 ?i19 ?l19 ?c19 ?k19 ?a20 ?i20 ?l20 ?c20 ?k20 ?a21 ?i21 ?l21 ?c21 ?k21 ?a22 ?i22 ?l22 ?c22 ?k22 ?a23 ?i23 ?l23 ?c23 ?k23 ?a24 ?i24 ?l24 ?c24 ?k24 ?a25 ?i25 ?l25 ?c25 ?k25 ?a26 ?i26 ?l26 ?c26 ?k26 ?a27 ?i27 ?l27 ?c27 ?k27 ?a28 ?i28 ?l28 ?c28 ?k28 ?a29 ?i29 ?l29 ?c29 ?k29 ?a30 ?l30 ?c30 ?k30 ?a31 ?l31 ?c31 ?k31 ?a32 ?l32 ?c32 ?k32 ?a33 ?l33 ?c33 ?k33 ?a34 ?l34 ?c34 ?k34 ?a35 ?l35 ?c35 ?k35 ?a36 ?l36 ?c36 ?k36 ?a37 ?l37 ?c37 ?k37 ?a38 ?l38 ?c38 ?k38 ?a39 ?l39 ?c39
    (case aW => k_is)
    (case aD => k_is)
    (case pgCW => k_is)
    (case hdCW => k_is)
    (case poCW => k_is)
    (case saCW => k_is)
    (case pgCD => k_is)
    (case hdCD => k_is)
    (case poCD => k_is)
    (case saCD => k_is)
    (case q_nSh => k_is)
    (case q_nKi => k_is)
    (case q_nCh => k_is)
    (case q_nWi => k_is)
    (case q_nCe => k_is)
    (case q_nFr => k_is)
    (case q_nPr => k_is)
    (case q_nDw => k_is)
    (case q_nDm => k_is)
    (case q_zLen => k_is)
    (case q_zRange => k_is)
    (case q_zInt => k_is)
    (case q_zStr => k_is)
    (case q_zList => k_is)
    (case q_zAbs => k_is)
    (case q_zMin => k_is)
    (case q_zEnum => k_is)
    (case q_zIsi => k_is)
    (case q_zAll => k_is)
    (case q_zSorted => k_is)
    (case q_zSum => k_is)
    (case q_zDict => k_is)
    (case q_gLeast => k_is)
    (case q_gMost => k_is)
    (case a1 => k_is)
    (case l1 => k_is)
    (case c1 => k_is)
    (case k1 => k_is)
    (case mkCD => k_is)
    (case kcCD => k_is)
    (case a2 => k_is)
    (case i2 => k_is)
    (case l2 => k_is)
    (case c2 => k_is)
    (case a3 => k_is)
    (case i3 => k_is)
    (case l3 => k_is)
    (case c3 => k_is)
    (case k3 => k_is)
    (case a4 => k_is)
    (case i4 => k_is)
    (case l4 => k_is)
    (case c4 => k_is)
    (case k4 => k_is)
    (case a5 => k_is)
    (case i5 => k_is)
    (case l5 => k_is)
    (case c5 => k_is)
    (case k5 => k_is)
    (case a6 => k_is)
    (case i6 => k_is)
    (case l6 => k_is)
    (case c6 => k_is)
    (case k6 => k_is)
    (case a7 => k_is)
    (case l7 => k_is)
    (case c7 => k_is)
    (case k7 => k_is)
    (case a8 => k_is)
    (case l8 => k_is)
    (case c8 => k_is)
    (case k8 => k_is)
    (case a9 => k_is)
    (case l9 => k_is)
    (case c9 => k_is)
    (case k9 => k_is)
    (case a10 => k_is)
    (case l10 => k_is)
    (case c10 => k_is)
    (case k10 => k_is)
    (case a11 => k_is)
    (case l11 => k_is)
    (case c11 => k_is)
    (case k11 => k_is)
    (case a12 => k_is)
    (case l12 => k_is)
    (case c12 => k_is)
    (case k12 => k_is)
    (case a13 => k_is)
    (case l13 => k_is)
    (case c13 => k_is)
    (case k13 => k_is)
    (case mkCW => k_is)
    (case kcCW => k_is)
    (case a14 => k_is)
    (case i14 => k_is)
    (case l14 => k_is)
    (case c14 => k_is)
    (case a15 => k_is)
    (case i15 => k_is)
    (case l15 => k_is)
    (case c15 => k_is)
    (case k15 => k_is)
    (case a16 => k_is)
    (case i16 => k_is)
    (case l16 => k_is)
    (case c16 => k_is)
    (case k16 => k_is)
    (case a17 => k_is)
    (case i17 => k_is)
    (case l17 => k_is)
    (case c17 => k_is)
    (case k17 => k_is)
    (case a18 => k_is)
    (case i18 => k_is)
    (case l18 => k_is)
    (case c18 => k_is)
    (case k18 => k_is)
    (case a19 => k_is)
    (case i19 => k_is)
    (case l19 => k_is)
    (case c19 => k_is)
    (case k19 => k_is)
    (case a20 => k_is)
    (case i20 => k_is)
    (case l20 => k_is)
    (case c20 => k_is)
    (case k20 => k_is)
    (case a21 => k_is)
    (case i21 => k_is)
    (case l21 => k_is)
    (case c21 => k_is)
    (case k21 => k_is)
    (case a22 => k_is)
    (case i22 => k_is)
    (case l22 => k_is)
    (case c22 => k_is)
    (case k22 => k_is)
    (case a23 => k_is)
    (case i23 => k_is)
    (case l23 => k_is)
    (case c23 => k_is)
    (case k23 => k_is)
    (case a24 => k_is)
    (case i24 => k_is)
    (case l24 => k_is)
    (case c24 => k_is)
    (case k24 => k_is)
    (case a25 => k_is)
    (case i25 => k_is)
    (case l25 => k_is)
    (case c25 => k_is)
    (case k25 => k_is)
    (case a26 => k_is)
    (case i26 => k_is)
    (case l26 => k_is)
    (case c26 => k_is)
    (case k26 => k_is)
    (case a27 => k_is)
    (case i27 => k_is)
    (case l27 => k_is)
    (case c27 => k_is)
    (case k27 => k_is)
    (case a28 => k_is)
    (case i28 => k_is)
    (case l28 => k_is)
    (case c28 => k_is)
    (case k28 => k_is)
    (case a29 => k_is)
    (case i29 => k_is)
    (case l29 => k_is)
    (case c29 => k_is)
    (case k29 => k_is)
    (case a30 => k_is)
    (case l30 => k_is)
    (case c30 => k_is)
    (case k30 => k_is)
    (case a31 => k_is)
    (case l31 => k_is)
    (case c31 => k_is)
    (case k31 => k_is)
    (case a32 => k_is)
    (case l32 => k_is)
    (case c32 => k_is)
    (case k32 => k_is)
    (case a33 => k_is)
    (case l33 => k_is)
    (case c33 => k_is)
    (case k33 => k_is)
    (case a34 => k_is)
    (case l34 => k_is)
    (case c34 => k_is)
    (case k34 => k_is)
    (case a35 => k_is)
    (case l35 => k_is)
    (case c35 => k_is)
    (case k35 => k_is)
    (case a36 => k_is)
    (case l36 => k_is)
    (case c36 => k_is)
    (case k36 => k_is)
    (case a37 => k_is)
    (case l37 => k_is)
    (case c37 => k_is)
    (case k37 => k_is)
    (case a38 => k_is)
    (case l38 => k_is)
    (case c38 => k_is)
    (case k38 => k_is)
    (case a39 => k_is)
    (case l39 => k_is)
    (case c39 => k_is)
#print axioms PySem.Challenge.cw_guessedandkept_k04_whole_dumps_of_drawn_holds
