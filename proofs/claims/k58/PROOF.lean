import PyProof.Rows.All
import Wide.All
import OpenK.AllK
import Wide.FinOn
import KE.KStateDown
import HandS.Head0
import HandS.Head1
import HandS.Head2
import HandS.HeadEnd
import HandS.HeadHook1
import HandS.HeadHook2
import HandS.ForMost
import HandS.ForExc
import HandS.IsInst
import HandS.Wide
import HandS.Defaults
import HandS.Style
import HandS.TupAny
import HandS.WideBits
import HandS.SortKw
import KE.DataMinMax
import KE.SortData
import KE.KDictWalk
import KE.KSliceW
import KE.DataEq
import PySem.Challenge.RW_namehouses_k58_whole_lists_of_any_rows
set_option Elab.async false
set_option linter.all false
set_option maxRecDepth 100000
set_option maxHeartbeats 4000000
namespace NH
open PySem PySem.Spec PyProof.Rows L2
/-! Own rules over the hand layer: packed promises, union readings, steps. -/

/-! ### tuples never change -/
def Imm : HO → Prop
  | .tup _ => True
  | .frz _ _ => True
  | _ => False
/-- tuples, and what is locked, stand -/
def TK (H H' : Hp) : Prop := ∀ b o, Imm o → H b = some o → H' b = some o
theorem TK.tup {H H' : Hp} (k : TK H H') {b : Addr} {xs : List V} (h : H b = some (.tup xs)) : H' b = some (.tup xs) := k b _ trivial h
theorem TK.of {H H' : Hp} (h1 : ∀ b xs, H b = some (.tup xs) → H' b = some (.tup xs)) (h2 : ∀ b o u, H b = some (.frz o u) → H' b = some (.frz o u)) : TK H H' := fun b o i e => by
  cases o <;> first | exact h1 _ _ e | exact h2 _ _ _ e | exact i.elim
theorem TK.refl (H : Hp) : TK H H := fun _ _ _ h => h
theorem TK.trans {H H1 H2 : Hp} (a : TK H H1) (b : TK H1 H2) : TK H H2 := fun c o i h => b c o i (a c o i h)
theorem TK.of_same {H H' : Hp} (s : Same H H') : TK H H' := fun b _ _ h => s b _ h
/-- a promise, and tuples stand -/
def spT (sp : Sp) : Sp := fun vs H Q E => sp vs H (fun v H2 => TK H H2 → Q v H2) (fun c d H2 => TK H H2 → E c d H2)
theorem _root_.L2.FnOk.tk {P : Program} {w : World} {K : PySem.W.Frag} {mg : Str → Option Value} {base : Heap} {k : Nat} {f : Addr} {fd : FuncData} {ps : List Str} {sp : Sp} (F : FnOk P w K mg base (L2.CX P w) k f fd ps sp) : FnOk P w K mg base (L2.CX P w) k f fd ps (spT sp) := by
  refine ⟨fun vs H Q E h => F.len vs H _ _ h, fun A outer s H args us vs Q E hr he hb hv h => codeAny_mono (F.run A outer s H args us vs _ _ hr he hb hv h) fun r s' q => ?_⟩
  cases r with
  | error e =>
    obtain ⟨a, B, H', cls, d, h1, h2, h3, h4, h5, h6, h7, h8⟩ := q
    exact ⟨a, B, H', cls, d, h1, h2, h3, h4, h5, h6, h7, h8 (.of h4.tups h4.frzs)⟩
  | ok fl =>
    cases fl with
    | ret u =>
      obtain ⟨v, H', h1, h2, h3, h4, h5, h6⟩ := q
      exact ⟨v, H', h1, h2, h3, h4, h5, h6 (.of h3.tups h3.frzs)⟩
    | next => exact False.elim q
    | brk => exact False.elim q
    | cont => exact False.elim q

/-! ### packed promises -/
/-- the surroundings -/
structure Zn where
  P : Program
  w : World
  K : PySem.W.Frag
  mg : Str → Option Value
  base : Heap
/-- a def of the module that keeps its promise -/
structure GF (Z : Zn) (x : Str) (k : Nat) (ps : List Str) (dvs : List V) (sp : Sp) : Prop where
  ex : ∃ f fd ds, Z.mg x = some (.ref f) ∧ PySem.W.keepIn Z.K (.ref f) = true ∧ Binds Z.K fd ps ds ∧ Vals dvs ds ∧ FnOk Z.P Z.w Z.K Z.mg Z.base (L2.CX Z.P Z.w) k f fd ps sp
/-- a method -/
structure MF (Z : Zn) (C : Addr) (m : Str) (k : Nat) (ps : List Str) (dvs : List V) (sp : Sp) : Prop where
  ex : ∃ f fd ds, Cls Z.K C ∧ Meth Z.K C m f ∧ Binds Z.K fd ps ds ∧ Vals dvs ds ∧ FnOk Z.P Z.w Z.K Z.mg Z.base (L2.CX Z.P Z.w) k f fd ps sp
/-- a class that is made by its __init__ -/
structure CF (Z : Zn) (x : Str) (C : Addr) (k : Nat) (ps : List Str) (dvs : List V) (sp : Sp) : Prop where
  ex : ∃ f fd ds, Z.mg x = some (.ref C) ∧ Mk Z.K C f ∧ Binds Z.K fd ps ds ∧ Vals dvs ds ∧ FnOk Z.P Z.w Z.K Z.mg Z.base (L2.CX Z.P Z.w) k f fd ps sp
/-- an own error class over ValueError without __init__ -/
structure XF (Z : Zn) (x : Str) (C : Addr) : Prop where
  gC : Z.mg x = some (.ref C)
  xC : PySem.W.excIn Z.K C He.veBase "ValueError.__new__" = true
  kC : PySem.W.keepIn Z.K (.ref C) = true
  sC : PySem.W.subIn Z.K (.ref C) (.type "BaseException") = some true
  tC : PySem.W.typeIn Z.K (.ref C) = some (.type "type")

section
variable {X : Cx} {Z : Zn} {k j : Nat} {C : Addr} {ps : List Str} {sp : Sp} {dvs : List V} {E : XK} {x m : Str} {p pos apos : Pos} {e o : Expr} {es : List Expr} {ta : TE} {t : TA}
/-- X stands in Z -/
structure In (X : Cx) (Z : Zn) : Prop where
  prog : X.prog = Z.P
  w : X.w = Z.w
  K : X.K = Z.K
  mg : X.mg = Z.mg
  base : X.base = Z.base
theorem pe_g (G : GF Z x k ps dvs sp) (hr : Room k X.A) (hg : Gl X x) (hx : Passes (L2.CX X.prog X.w) X E) (ha : PA X (e :: es) t) (hI : In X Z := by exact ⟨rfl, rfl, rfl, rfl, rfl⟩)
    (hdb : (x == ("__debug__" : Str)) = false := by decide) (he : starEach (e :: es) X.env = (false, eval e X.env) :: starEach es X.env := by rfl) (hpl : (backTo pos (starEach es X.env)).any (·.1) = false := by rfl) :
    PE X (.Call (.Name x p) (e :: es) [] pos) (tCall (spT sp) dvs E t) := by
  obtain ⟨f, fd, ds, h1, h2, h3, h4, h5⟩ := G.ex
  obtain ⟨i1, i2, i3, i4, i5⟩ := hI
  rw [← i3] at h2 h3
  rw [← i4] at h1
  rw [← i1, ← i2, ← i3, ← i4, ← i5] at h5
  exact pe_call h5.tk hr hg h1 h2 h3 h4 hx ha hdb he hpl
theorem pe_g0 (G : GF Z x k ps dvs sp) (hr : Room k X.A) (hg : Gl X x) (hx : Passes (L2.CX X.prog X.w) X E) (hI : In X Z := by exact ⟨rfl, rfl, rfl, rfl, rfl⟩)
    (hdb : (x == ("__debug__" : Str)) = false := by decide) :
    PE X (.Call (.Name x p) [] [] pos) (tCall (spT sp) dvs E tNil) := by
  obtain ⟨f, fd, ds, h1, h2, h3, h4, h5⟩ := G.ex
  obtain ⟨i1, i2, i3, i4, i5⟩ := hI
  rw [← i3] at h2 h3
  rw [← i4] at h1
  rw [← i1, ← i2, ← i3, ← i4, ← i5] at h5
  exact pe_call0 h5.tk hr hg h1 h2 h3 h4 hx hdb
theorem pe_m {pl : Sem Bool} (G : MF Z C m k ps dvs sp) (he : PE X o ta) (hr : Room k X.A) (hx : Passes (L2.CX X.prog X.w) X E) (ha : PA X (e :: es) t) (hI : In X Z := by exact ⟨rfl, rfl, rfl, rfl, rfl⟩)
    (hst : starEach (e :: es) X.env = (false, eval e X.env) :: starEach es X.env := by rfl) (hpl : (backTo pos (starEach es X.env)).any (·.1) = false := by rfl)
    (ht : eval (.Call (.Attribute o m apos) (e :: es) [] pos) X.env = (do
      let ov ← eval o X.env
      standAt apos.atName
      let (f, first) ← holding [ov] (getMethod ov m pl)
      callWith pos f first (backTo pos (starEach (e :: es) X.env)) (backToKw pos (keywordEach [] X.env))) := by rfl) :
    PE X (.Call (.Attribute o m apos) (e :: es) [] pos) (tMeth C m (spT sp) dvs E ta t) := by
  obtain ⟨f, fd, ds, h1, h2, h3, h4, h5⟩ := G.ex
  obtain ⟨i1, i2, i3, i4, i5⟩ := hI
  rw [← i3] at h1 h2 h3
  rw [← i1, ← i2, ← i3, ← i4, ← i5] at h5
  exact pe_meth he h1 h2 h5.tk hr h3 h4 hx ha hst hpl ht
theorem pe_m0 {pl : Sem Bool} (G : MF Z C m k ps dvs sp) (he : PE X o ta) (hr : Room k X.A) (hx : Passes (L2.CX X.prog X.w) X E) (hI : In X Z := by exact ⟨rfl, rfl, rfl, rfl, rfl⟩)
    (ht : eval (.Call (.Attribute o m apos) [] [] pos) X.env = (do
      let ov ← eval o X.env
      standAt apos.atName
      let (f, first) ← holding [ov] (getMethod ov m pl)
      callWith pos f first (backTo pos (starEach [] X.env)) (backToKw pos (keywordEach [] X.env))) := by rfl) :
    PE X (.Call (.Attribute o m apos) [] [] pos) (tMeth C m (spT sp) dvs E ta tNil) := by
  obtain ⟨f, fd, ds, h1, h2, h3, h4, h5⟩ := G.ex
  obtain ⟨i1, i2, i3, i4, i5⟩ := hI
  rw [← i3] at h1 h2 h3
  rw [← i1, ← i2, ← i3, ← i4, ← i5] at h5
  exact pe_meth0 he h1 h2 h5.tk hr h3 h4 hx ht
theorem pe_c (G : CF Z x C k ps dvs sp) (hr : Room (k + 1) X.A) (hg : Gl X x) (hx : Passes (L2.CX X.prog X.w) X E) (ha : PA X (e :: es) t) (hI : In X Z := by exact ⟨rfl, rfl, rfl, rfl, rfl⟩)
    (hdb : (x == ("__debug__" : Str)) = false := by decide) (he : starEach (e :: es) X.env = (false, eval e X.env) :: starEach es X.env := by rfl) (hpl : (backTo pos (starEach es X.env)).any (·.1) = false := by rfl) :
    PE X (.Call (.Name x p) (e :: es) [] pos) (tMake C (spT sp) dvs E t) := by
  obtain ⟨f, fd, ds, h1, h2, h3, h4, h5⟩ := G.ex
  obtain ⟨i1, i2, i3, i4, i5⟩ := hI
  rw [← i3] at h2 h3
  rw [← i4] at h1
  rw [← i1, ← i2, ← i3, ← i4, ← i5] at h5
  exact pe_make h2 h5.tk hr hg h1 h3 h4 hx ha hdb he hpl
theorem pe_c0 (G : CF Z x C k ps dvs sp) (hr : Room (k + 1) X.A) (hg : Gl X x) (hx : Passes (L2.CX X.prog X.w) X E) (hI : In X Z := by exact ⟨rfl, rfl, rfl, rfl, rfl⟩)
    (hdb : (x == ("__debug__" : Str)) = false := by decide) :
    PE X (.Call (.Name x p) [] [] pos) (tMake C (spT sp) dvs E tNil) := by
  obtain ⟨f, fd, ds, h1, h2, h3, h4, h5⟩ := G.ex
  obtain ⟨i1, i2, i3, i4, i5⟩ := hI
  rw [← i3] at h2 h3
  rw [← i4] at h1
  rw [← i1, ← i2, ← i3, ← i4, ← i5] at h5
  exact pe_make0 h2 h5.tk hr hg h1 h3 h4 hx hdb
/-- raise X("..") -/
theorem ps_x {W : WX} {m : Str} {i : Nat} {p2 : Pos} (G : XF Z x C) (hc : X.calm = true) (tk : Takes X W) (hg : Gl X x) (hI : In X Z := by exact ⟨rfl, rfl, rfl, rfl, rfl⟩) (hdb : (x == ("__debug__" : Str)) = false := by decide) :
    PS X (.Raise (some (.Call (.Name x p) [.Constant (.str m) i p2] [] pos)) none apos) (fun _ σ H => W (.ref C) none σ H) := by
  obtain ⟨i1, i2, i3, i4, i5⟩ := hI
  obtain ⟨g1, g2, g3, g4, g5⟩ := G
  rw [← i4] at g1
  rw [← i3] at g2 g3 g4 g5
  exact ps_raise hc tk (pmk_own PySem.F.excBase_ValueError g2 g1 g3 (raises_own g4 g5) hg hdb)
end
/-- the statement in a def: what a raise does -/
def tRz (C : Addr) (W : WX) : TS := fun _ σ H => W (.ref C) none σ H

theorem paired_get {α β : Type} {F : α → β → Prop} : ∀ {l₁ : List α} {l₂ : List β} {i : Nat} {x : α}, Paired F l₁ l₂ → l₁[i]? = some x → ∃ y, l₂[i]? = some y ∧ F x y
  | _, _, _, _, .nil, e => by simp at e
  | _, _, 0, _, .cons (b := b) r _, e => by
    have e1 := Option.some.inj e
    rw [← e1]
    exact ⟨b, rfl, r⟩
  | _, _, i + 1, x, .cons _ t, e => by
    obtain ⟨y, h1, h2⟩ := paired_get (i := i) (x := x) t (by simpa using e)
    exact ⟨y, by simpa using h1, h2⟩
/-! ### union readings -/
def rAddI : R2 := rI0 fun i j => .int (i + j)
def rCatS : R2 := fun x y H Q => ∃ i j, x = .str i ∧ y = .str j ∧ i.length + j.length ≤ sizeLine ∧ Q (.str (i ++ j)) H
def rAddU (K : PySem.W.Frag) : R2 := fun x y H Q => rAddI x y H Q ∨ rCatS x y H Q ∨ rCat x y H Q ∨ rCatA K x y H Q
def rSubU : R2 := rI0 fun i j => .int (i - j)
def rMulI : R2 := rI CMulW fun i j => .int (i * j)
def rMulU : R2 := fun x y H Q => rMulI x y H Q ∨ rI CMul (fun i j => .int (i * j)) x y H Q ∨ rRep x y H Q
def rDivU : R2 := rI CDivW fun i j => .int (i / j)
def rModU : R2 := rI (fun _ j => 0 < j) fun i j => .int (i % j)
def rPowU : R2 := rI CPow fun i j => .int (i ^ j.toNat)
def rLtU : R2 := rI0 fun i j => .bl (decide (i < j))
def rLeU : R2 := rI0 fun i j => .bl (decide (i ≤ j))
def rGtU : R2 := rI0 fun i j => .bl (decide (j < i))
def rGeU : R2 := rI0 fun i j => .bl (decide (j ≤ i))
/-- a dict of tuples as keys, and {} -/
def rEq0 : R2 := fun x y H Q => ∃ a b kvs, x = .ref a ∧ y = .ref b ∧ H a = some (.dT kvs) ∧ H b = some (.dT []) ∧ Q (.bl kvs.isEmpty) H
def rEqU (K : PySem.W.Frag) : R2 := fun x y H Q => rEq x y H Q ∨ rEqD K x y H Q ∨ rEq0 x y H Q
def rNeU (K : PySem.W.Frag) : R2 := fun x y H Q => rNe x y H Q ∨ rNeD K x y H Q
def rIsN : R2 := fun x y H Q => y = .non ∧ Q (.bl (decide (x = .non))) H
def rNotN : R2 := fun x y H Q => y = .non ∧ Q (.bl (!decide (x = .non))) H
/-- d[k] by value -/
def rIxD : R2 := fun x y H Q => ∃ a v, x = .ref a ∧ DGet H a y (some v) ∧ Q v H
def rIxU (K : PySem.W.Frag) : R2 := fun x y H Q => rIxL K x y H Q ∨ rIxT K x y H Q ∨ rIxS x y H Q ∨ rIxD x y H Q
def rSlU (K : PySem.W.Frag) : V → Option Int → Option Int → Hp → VK → Prop := fun x lo hi H Q => rSlL K x lo hi H Q ∨ rSlA K x lo hi H Q ∨ rSlS x lo hi H Q
section
variable {X : Cx}
theorem op_addU : OpR X (binaryOp .Add) (rAddU X.K) := op_add.or (op_add_str.or (op_cat.or op_catA))
theorem op_subU : OpR X (binaryOp .Sub) rSubU := op_sub
theorem op_mulU : OpR X (binaryOp .Mult) rMulU := op_mulW.or (op_mul.or op_rep)
theorem op_divU : OpR X (binaryOp .FloorDiv) rDivU := op_fdivW
theorem op_modU : OpR X (binaryOp .Mod) rModU := op_mod
theorem op_powU : OpR X (binaryOp .Pow) rPowU := op_pow
theorem op_ltU : OpR X (compareOp .Lt) rLtU := op_lt
theorem op_leU : OpR X (compareOp .LtE) rLeU := op_le
theorem op_gtU : OpR X (compareOp .Gt) rGtU := op_gt
theorem op_geU : OpR X (compareOp .GtE) rGeU := op_ge
theorem dt_raw {P : Program} {w : World} {H : Hp} {h : Heap} {d : Addr} {kvs : List (List Key × V)} (ok : HOk P w H h) (e : H d = some (.dT kvs)) :
    (d == sysModules) = false ∧ ∃ es ep, h.DictRaw d es ep ∧ es.size = kvs.length ∧ ∀ (i : Nat) (hi : i < es.size) q, kvs[i]? = some q → RelV q.2 es[i].val := by
  obtain ⟨z, hs, xs, rel, o, es, ep, h1, h2, h3, h4, nd⟩ := (show ObjOk P w H h d (.dT kvs) from ok d _ e)
  have hl : es.size = xs.length := by rw [← Array.length_toList, h4, List.length_map]
  refine ⟨hs, es, ep, ⟨o, h1, h2, h3⟩, hl.trans (Paired.length rel).symm, fun i hi q hq => ?_⟩
  obtain ⟨y, hy, r⟩ := paired_get rel hq
  have e1 : es.toList[i]? = some (entryOfKey (tupleKind (mixKind P w)) y) := by rw [h4, List.getElem?_map, hy]; rfl
  have e2 : es.toList[i]? = some es[i] := by rw [Array.getElem?_toList]; exact Array.getElem?_eq_getElem hi
  rw [e1] at e2
  rw [← Option.some.inj e2]
  exact r.2.2
theorem raw_nil {P : Program} {w : World} {h : Heap} {d : Addr} {es : Array DictEntry} {ep : Nat} (r : h.DictRaw d es ep) (z : es.size = 0) : h.DictOf (mixKind P w) d [] := by
  obtain ⟨o, h1, h2, h3⟩ := r
  have e : es = #[] := Array.eq_empty_of_size_eq_zero z
  subst e
  exact ⟨o, _, _, h1, h2, h3, fun x hx => by simp at hx, .nil, List.nodup_nil⟩
theorem samePairs0 {P : Program} {w : World} {A : Around} {E : Value → Shared → Prop} {s : Shared} {nm : String} {a b : Addr} {es es' : Array DictEntry} {ep ep' : Nat} {Q : Bool → Shared → Prop} (ha : (a == sysModules) = false) (hb : (b == sysModules) = false)
    (da : s.heap.DictRaw a es ep) (db : s.heap.DictRaw b es' ep') (z : es'.size = 0) (h : Q (decide (es.size = 0)) s) : wpAny (model P w) A (Builtin.Dict.samePairs nm a b) Q E s := by
  by_cases hz : es.size = 0
  · rw [decide_eq_true hz] at h
    exact PySem.W.keq_samePairs (knd := mixKind P w) (r := true) ha hb (raw_nil da hz) (raw_nil db z) (fun _ => .nil) h
  · rw [decide_eq_false hz] at h
    obtain ⟨oa, hoa, _, hda⟩ := da
    obtain ⟨ob, hob, _, hdb⟩ := db
    unfold Builtin.Dict.samePairs Builtin.Dict.showsAll
    rw [if_neg (show ¬ (a == sysModules) = true by rw [ha]; exact Bool.false_ne_true), if_neg (show ¬ (b == sysModules) = true by rw [hb]; exact Bool.false_ne_true)]
    refine wpAny_bind (wpAny_pure (wpAny_bind (wpAny_pure ?_)))
    refine wpAny_bind (wpAny_dictEntries hoa hda ?_)
    dsimp only
    refine wpAny_bind (wpAny_dictEntries hob hdb ?_)
    rw [if_pos (by rw [z]; simpa using hz)]
    exact wpAny_bind (wpAny_rule (wpAny_pure h))
theorem op_eq0 (hu : X.A.units + 64 < cLine) : OpR X (compareOp .Eq) rEq0 := by
  intro pins s σ H x y v u Q I rx ry h
  obtain ⟨a, b, kvs, rfl, rfl, ea, eb, q⟩ := h
  obtain rfl : v = Value.ref a := rx
  obtain rfl : u = Value.ref b := ry
  obtain ⟨ha, es, ep, da, la, _⟩ := dt_raw I.hok ea
  obtain ⟨hb, es', ep', db, lb, _⟩ := dt_raw I.hok eb
  refine wpAny_richCompare_same_room (op := .Eq) da.typeIs db.typeIs PySem.F.slot_dict_eq (wpAny_call_entry PySem.F.slot_dict_eq da.typeIs PySem.F.entry_dict_eq ?_ (PySem.F.args_dict_eq_2 _ _)) (by omega)
  show wpAny _ _ (Builtin.Dict.dictSlotArgs "__eq__" ⟨[.ref a, .ref b], []⟩ >>= _) _ _ s
  refine wpAny_bind ?_
  unfold Builtin.Dict.dictSlotArgs
  refine wpAny_bind (wpAny_notOrdered_dict da.typeIs ?_)
  show wpAny _ _ (pure (Value.ref a, Value.ref b)) _ _ s
  refine wpAny_pure ?_
  refine wpAny_bind (wpAny_isInstance (T := "dict") db.typeIs PySem.F.sub_dict_dict ?_)
  simp only [Bool.not_true, Bool.false_eq_true, if_false]
  refine wpAny_bind (wpAny_pure (wpAny_bind (wpAny_pure ?_)))
  refine wpAny_bind (samePairs0 ha hb da db lb ?_)
  refine wpAny_pure ⟨_, rfl, ?_, ?_⟩
  · exact fun x => nomatch x
  · refine ⟨.bl kvs.isEmpty, H, I.tok _, ?_, q⟩
    have e : (decide (es.size = 0)) = kvs.isEmpty := by
      rw [la]
      cases kvs <;> simp
    rw [e]
    cases kvs <;> rfl
theorem op_eqU (hu : X.A.units + 64 < cLine) : OpR X (compareOp .Eq) (rEqU X.K) := op_eq.or ((op_eqD hu).or (op_eq0 hu))
theorem op_neU (hu : X.A.units + 64 < cLine) : OpR X (compareOp .NotEq) (rNeU X.K) := op_ne.or (op_neD hu)
theorem op_isN2 : OpR X (compareOp .Is) rIsN := op_isN
theorem op_notN2 : OpR X (compareOp .IsNot) rNotN := op_notN
theorem ix_dict (hu : X.A.units + 1 < cLine) : IxR X rIxD := by
  intro value slice pins s σ H x y v u Q I rx ry h hs
  obtain ⟨a, z, rfl, g, q⟩ := h
  cases rx
  exact tail_any (dict_typeIs I g) slot_dict_getitem.lookup (d_getItem hu I g ry fun w' s' I' rw' => ⟨z, H, I', rw', q⟩) hs
theorem ix_U (hu : X.A.units + 1 < cLine) : IxR X (rIxU X.K) := ix_list.or (ix_tup.or (ix_str.or (ix_dict hu)))
theorem sl_U : SlR X (rSlU X.K) := sl_list.or (sl_tupA.or sl_str)
end

section
variable {X : Cx}
/-- in: a list or tuple of flat things, a dict's keys, one sign of a text -/
def rInD : R2 := fun x y H Q => ∃ a o, y = .ref a ∧ DGet H a x o ∧ Q (.bl o.isSome) H
def rNiD : R2 := fun x y H Q => ∃ a o, y = .ref a ∧ DGet H a x o ∧ Q (.bl (!o.isSome)) H
def rInS : R2 := fun x y H Q => ∃ (c : Nat) (z : Str), x = .str ⟨#[c]⟩ ∧ y = .str z ∧ Q (.bl (decide (c ∈ z.cps.toList))) H
def rNiS : R2 := fun x y H Q => ∃ (c : Nat) (z : Str), x = .str ⟨#[c]⟩ ∧ y = .str z ∧ Q (.bl (!decide (c ∈ z.cps.toList))) H
def rInU (K : PySem.W.Frag) : R2 := fun x y H Q => rIn K false x y H Q ∨ rInD x y H Q ∨ rInS x y H Q
def rNiU (K : PySem.W.Frag) : R2 := fun x y H Q => rIn K true x y H Q ∨ rNiD x y H Q ∨ rNiS x y H Q
theorem op_inD (hu : X.A.units + 1 < cLine) : OpR X (compareOp .In) rInD := by
  intro pins s σ H x y v u Q I rx ry h
  obtain ⟨a, o, rfl, g, q⟩ := h
  cases ry
  exact d_in hu I g rx fun s' I' => ⟨.bl o.isSome, H, I', rfl, q⟩
theorem op_niD (hu : X.A.units + 1 < cLine) : OpR X (compareOp .NotIn) rNiD := by
  intro pins s σ H x y v u Q I rx ry h
  obtain ⟨a, o, rfl, g, q⟩ := h
  cases ry
  exact d_notIn hu I g rx fun s' I' => ⟨.bl (!o.isSome), H, I', rfl, q⟩
theorem op_inU (hu : X.A.units + 1 < cLine) : OpR X (compareOp .In) (rInU X.K) := op_in_seq.or ((op_inD hu).or op_in_sign)
theorem op_niU (hu : X.A.units + 1 < cLine) : OpR X (compareOp .NotIn) (rNiU X.K) := op_notIn_seq.or ((op_niD hu).or op_notIn_sign)
/-- stores to a place -/
def rSetD : TSet := fun o i v H Q => ∃ a H4, o = .ref a ∧ DPut H a i v H4 ∧ Q H4
def rSetU : TSet := fun o i v H Q => rSetL o i v H Q ∨ rSetD o i v H Q
theorem set_dict (hu : X.A.units + 1 < cLine) : PSet X rSetD := by
  intro pins s σ H o i v ov iv u Q I ro ri rv h
  obtain ⟨a, H4, rfl, g, q⟩ := h
  cases ro
  exact d_setItem hu I g ri rv fun s' I' => ⟨H4, I', q⟩
theorem set_U (hu : X.A.units + 1 < cLine) : PSet X rSetU := by
  intro pins s σ H o i v ov iv u Q I ro ri rv h
  rcases h with h | h
  · exact set_list pins s σ H o i v ov iv u Q I ro ri rv h
  · exact set_dict hu pins s σ H o i v ov iv u Q I ro ri rv h
/-- {} -/
theorem PE.or {e : Expr} {t u : TE} (h : PE X e t) (k : PE X e u) : PE X e (fun σ H Q => t σ H Q ∨ u σ H Q) := ⟨fun pins s σ H Q I q => q.elim (h.run pins s σ H Q I) (k.run pins s σ H Q I)⟩
def tDNewU : TE := fun σ H Q => tDNewK σ H Q ∨ tDNewT σ H Q
theorem pe_dnewU {pos : Pos} : PE X (.Dict [] [] pos) tDNewU := PE.or pe_dnewK pe_dnewT
/-- constants of the module, built-in classes as values -/
theorem pe_k {Z : Zn} {x : Str} {v : V} {pos : Pos} (G : ∃ u, Z.mg x = some u ∧ RelV v u) (hg : Gl X x) (hI : In X Z := by exact ⟨rfl, rfl, rfl, rfl, rfl⟩) (hd : (x == ("__debug__" : Str)) = false := by decide) : PE X (.Name x pos) (tC v) := by
  obtain ⟨u, h1, h2⟩ := G
  obtain ⟨i1, i2, i3, i4, i5⟩ := hI
  rw [← i4] at h1
  exact pe_glob hg h1 h2 hd
theorem pe_ty {x : Str} {n : String} {pos : Pos} (hm : X.mg x = none) (hg : Gl X x) (hv : bootBuiltins x = some (.type n)) (hn : x ≠ "__name__" := by decide) (hd : (x == ("__debug__" : Str)) = false := by decide) : PE X (.Name x pos) (tC (.ty n)) := pe_bltn hg hm hv rfl hn hd
theorem cb_isinstance : CallR X (.builtin "isinstance") (rIsi X.K) := call_isi
def rLenU (K : PySem.W.Frag) : List V → Hp → VK → Prop := fun xs H Q => (∃ p ys, xs = [.ref p] ∧ (SqL K H p ys ∨ SqT K H p ys) ∧ Q (.int ys.length) H) ∨ (∃ a kvs, xs = [V.ref a] ∧ H a = some (.dK kvs) ∧ Q (.int kvs.length) H) ∨
  (∃ x n, xs = [x] ∧ LenV K x H n ∧ Q (.int n) H)
theorem CallR.or {f : Value} {r r' : List V → Hp → VK → Prop} (h : CallR X f r) (h' : CallR X f r') : CallR X f (fun xs H Q => r xs H Q ∨ r' xs H Q) := by
  intro pins s σ H xs us Q I rx q
  rcases q with q | q
  · exact h pins s σ H xs us Q I rx q
  · exact h' pins s σ H xs us Q I rx q
theorem cb_len : CallR X (.builtin "len") (rLenU X.K) := CallR.or call_len_seq (CallR.or call_lenD call_len)
def rMax2 : List V → Hp → VK → Prop := fun xs H Q => ∃ i j, xs = [.int i, .int j] ∧ Q (.int (if j > i then j else i)) H
def rMin2 : List V → Hp → VK → Prop := fun xs H Q => ∃ i j, xs = [.int i, .int j] ∧ Q (.int (if j < i then j else i)) H
theorem cb_max2 (hc : X.calm = true) : CallR X (.builtin "max") rMax2 := call_max2 hc
theorem cb_min2 (hc : X.calm = true) : CallR X (.builtin "min") rMin2 := call_min2 hc
def rDivmod : List V → Hp → VK → Prop := fun xs H Q => ∃ i j, xs = [.int i, .int j] ∧ CDivP i j ∧ ∀ p, H p = none → Q (.ref p) (upd H p (.tup [.int (i / j), .int (i % j)]))
theorem cb_divmod : CallR X (.builtin "divmod") rDivmod := call_divmodW
def rListOf (K : PySem.W.Frag) : List V → Hp → VK → Prop := fun xs H Q => ∃ p ys, xs = [.ref p] ∧ (SqL K H p ys ∨ SqT K H p ys) ∧ ∀ l, H l = none → Q (.ref l) (upd H l (.lst ys))
theorem cty_list : CallR X (.type "list") (rListOf X.K) := call_list_of
def rTupOf (K : PySem.W.Frag) : List V → Hp → VK → Prop := fun xs H Q => ∃ p ys, xs = [.ref p] ∧ ((SqL K H p ys ∧ ∀ l, H l = none → Q (.ref l) (upd H l (.tup ys))) ∨ (SqT K H p ys ∧ Q (.ref p) H))
theorem cty_tuple : CallR X (.type "tuple") (rTupOf X.K) := call_tuple_of

/-! inside a block the readings must name the frame from outside -/
theorem op_addK {K : PySem.W.Frag} (hk : X.K = K) : OpR X (binaryOp .Add) (rAddU K) := hk ▸ op_addU
theorem op_eqK {K : PySem.W.Frag} (hk : X.K = K) (hu : X.A.units + 64 < cLine) : OpR X (compareOp .Eq) (rEqU K) := hk ▸ op_eqU hu
theorem op_neK {K : PySem.W.Frag} (hk : X.K = K) (hu : X.A.units + 64 < cLine) : OpR X (compareOp .NotEq) (rNeU K) := hk ▸ op_neU hu
theorem ix_K {K : PySem.W.Frag} (hk : X.K = K) (hu : X.A.units + 1 < cLine) : IxR X (rIxU K) := hk ▸ ix_U hu
theorem sl_K {K : PySem.W.Frag} (hk : X.K = K) : SlR X (rSlU K) := hk ▸ sl_U
theorem op_inK {K : PySem.W.Frag} (hk : X.K = K) (hu : X.A.units + 1 < cLine) : OpR X (compareOp .In) (rInU K) := hk ▸ op_inU hu
theorem op_niK {K : PySem.W.Frag} (hk : X.K = K) (hu : X.A.units + 1 < cLine) : OpR X (compareOp .NotIn) (rNiU K) := hk ▸ op_niU hu
theorem cb_isinstanceK {K : PySem.W.Frag} (hk : X.K = K) : CallR X (.builtin "isinstance") (rIsi K) := hk ▸ cb_isinstance
theorem cb_lenK {K : PySem.W.Frag} (hk : X.K = K) : CallR X (.builtin "len") (rLenU K) := hk ▸ cb_len
theorem cty_listK {K : PySem.W.Frag} (hk : X.K = K) : CallR X (.type "list") (rListOf K) := hk ▸ cty_list
theorem cty_tupleK {K : PySem.W.Frag} (hk : X.K = K) : CallR X (.type "tuple") (rTupOf K) := hk ▸ cty_tuple
end

/-! ### where a def stands; its promise by its body -/
/-- the def named x stands behind the top -/
structure DF (Z : Zn) (x qual : Str) (st : Stmt) (dvs : List V) (f : Addr) : Prop where
  fn : ∃ fd, FunD Z.K x qual (defArgs st) (defBody st) (defScope st) dvs [] f fd
abbrev bodyX (Z : Zn) (N : List Str) (qual : Str) (st : Stmt) (f : Addr) (cdv : Value) (A : Around) (outer : List Env) (s : Shared) (H : Hp) (E : XK) : Cx := cxOf (L2.CX Z.P Z.w) Z.P Z.w Z.K Z.mg Z.base N qual (defScope st) f cdv A outer s H E
/-- what is to be shown of a body -/
def BodyOk (Z : Zn) (N : List Str) (qual : Str) (st : Stmt) (f : Addr) (k : Nat) (sp : Sp) : Prop :=
  ∀ (cdv : Value) (A : Around) (outer : List Env) (s : Shared) (H : Hp) (vs : List V) (Q : VK) (E : XK), Room k (bodyX Z N qual st f cdv A outer s H E).A → (bodyX Z N qual st f cdv A outer s H E).A.units + 1 < cLine →
    Takes (bodyX Z N qual st f cdv A outer s H E) (fun cls d _ H => E cls d H) → Passes (L2.CX Z.P Z.w) (bodyX Z N qual st f cdv A outer s H E) E →
    PassesOwn (model Z.P Z.w) (bodyX Z N qual st f cdv A outer s H E).A (bodyX Z N qual st f cdv A outer s H E).env (bodyX Z N qual st f cdv A outer s H E).xe → sp vs H Q E →
    ∃ t, PSs (bodyX Z N qual st f cdv A outer s H E) (defBody st) t ∧ t { nx := fun _ H' => Q .non H', rt := Q } (start N vs) H
theorem fnOk_of {Z : Zn} {x qual : Str} {st : Stmt} {dvs : List V} {f : Addr} {fd : FuncData} {N ps : List Str} {k : Nat} {sp : Sp} (F : FunD Z.K x qual (defArgs st) (defBody st) (defScope st) dvs [] f fd) (S : FnScope N ps (defScope st)) (len : ∀ vs H Q E, sp vs H Q E → vs.length = ps.length)
    (hb : BodyOk Z N qual st f k sp) : FnOk Z.P Z.w Z.K Z.mg Z.base (L2.CX Z.P Z.w) (k + 1) f fd ps sp := by
  refine F.ok S len fun cdv A outer s H vs Q E hr h => ?_
  have tk : Takes (bodyX Z N qual st f cdv A outer s H E) (fun cls d _ H => E cls d H) := takes_of rfl rfl rfl rfl
  exact hb cdv A outer s H vs Q E hr (hu_of hr) tk (passes_call tk fun _ _ _ _ z => z) (passes_of rfl) h
/-- how arguments bind where there are no defaults -/
def BindsBy (x qual : Str) (st : Stmt) (ps : List Str) : Prop := ∀ (kV doc pm : Value) (an : Option Addr) (cdv ct : Value) (us : List Value), us.length = ps.length → bindArgs (PySem.W.fnOf x qual (defArgs st) (defBody st) (defScope st) .none kV doc pm an cdv ct) ⟨us, []⟩ = pure (ps.zip us)
theorem GF.of {Z : Zn} {x : Str} {st : Stmt} {f : Addr} {N ps : List Str} {k : Nat} {sp : Sp} (D : DF Z x x st [] f) (g : Z.mg x = some (.ref f)) (b : BindsBy x x st ps) (S : FnScope N ps (defScope st)) (len : ∀ vs H Q E, sp vs H Q E → vs.length = ps.length)
    (hb : BodyOk Z N x st f k sp) : GF Z x (k + 1) ps [] sp := by
  obtain ⟨fd, F⟩ := D.fn
  exact ⟨f, fd, [], g, F.kp, FunD.bindsN F b, .nil, fnOk_of F S len hb⟩
theorem MF.of {Z : Zn} {C : Addr} {m qual : Str} {st : Stmt} {f : Addr} {N ps : List Str} {k : Nat} {sp : Sp} (D : DF Z m qual st [] f) (c : Cls Z.K C) (g : Meth Z.K C m f) (b : BindsBy m qual st ps) (S : FnScope N ps (defScope st)) (len : ∀ vs H Q E, sp vs H Q E → vs.length = ps.length)
    (hb : BodyOk Z N qual st f k sp) : MF Z C m (k + 1) ps [] sp := by
  obtain ⟨fd, F⟩ := D.fn
  exact ⟨f, fd, [], c, g, FunD.bindsN F b, .nil, fnOk_of F S len hb⟩
theorem CF.of {Z : Zn} {C : Addr} {x qual : Str} {st : Stmt} {f : Addr} {N ps : List Str} {k : Nat} {sp : Sp} (D : DF Z "__init__" qual st [] f) (c : Z.mg x = some (.ref C)) (g : Mk Z.K C f) (b : BindsBy "__init__" qual st ps) (S : FnScope N ps (defScope st)) (len : ∀ vs H Q E, sp vs H Q E → vs.length = ps.length)
    (hb : BodyOk Z N qual st f k sp) : CF Z x C (k + 1) ps [] sp := by
  obtain ⟨fd, F⟩ := D.fn
  exact ⟨f, fd, [], c, g, FunD.bindsN F b, .nil, fnOk_of F S len hb⟩

/-! ### steps of a reading -/
section
variable {σ : L2.St} {H : Hp} {D : Ends} {Q : VK} {t u : TS} {ta tb : TE} {c : TT} {x y v : V} {r : R2} {K : PySem.W.Frag}
theorem rd_seq (h : t { D with nx := u D } σ H) : tSeq t u D σ H := h
theorem rd_next (h : D.nx σ H) : tNext D σ H := h
theorem rd_ret (h : ta σ H D.rt) : tRet ta D σ H := h
theorem rd_retN (h : D.rt .non H) : tRetN D σ H := h
theorem rd_drop (h : ta σ H fun _ H1 => D.nx σ H1) : tDrop ta D σ H := h
theorem rd_asg {g : TG} (h : ta σ H fun x H1 => g x σ H1 D.nx) : tAsg ta g D σ H := h
theorem rd_gname {i : Nat} {q : L2.St → Hp → Prop} (h : q (σ.set i (some v)) H) : gName i v σ H q := h
theorem rd_if (h : c σ H fun b H1 => if b = true then t D σ H1 else u D σ H1) : tIfS c t u D σ H := h
theorem rd_var {i : Nat} (h : σ[i]? = some (some v)) (q : Q v H) : tVar i σ H Q := ⟨v, h, q⟩
theorem rd_c (q : Q v H) : tC v σ H Q := q
theorem rd_op (h : ta σ H fun x H1 => tb σ H1 fun y H2 => r x y H2 Q) : tOp r ta tb σ H Q := h
theorem rd_un {r : V → Hp → VK → Prop} (h : ta σ H fun x H1 => r x H1 Q) : tUn r ta σ H Q := h
theorem rd_nil {Q : List V → Hp → Prop} (q : Q [] H) : tNil σ H Q := q
theorem rd_cons {ts : TA} {Q : List V → Hp → Prop} (h : ta σ H fun x H1 => ts σ H1 fun xs H2 => Q (x :: xs) H2) : tCons ta ts σ H Q := h
theorem rd_cb {r : List V → Hp → VK → Prop} {ts : TA} (h : ts σ H fun vs H1 => r vs H1 Q) : tCB r ts σ H Q := h
theorem rd_call {sp : Sp} {dvs : List V} {E : XK} {ts : TA} (h : ts σ H fun vs H1 => sp (vs ++ dvs) H1 Q E) : tCall sp dvs E ts σ H Q := h
theorem rd_spT {sp : Sp} {vs : List V} {E : XK} (h : sp vs H (fun v H2 => TK H H2 → Q v H2) (fun c d H2 => TK H H2 → E c d H2)) : spT sp vs H Q E := h
theorem rd_test {Q : Bool → Hp → Prop} (h : ta σ H fun x H' => ∃ k, x = .bl k ∧ Q k H') : tTest ta σ H Q := h
theorem rd_tB {Q : Bool → Hp → Prop} (h : ta σ H fun x H' => ∃ k, x = .bl k ∧ Q k H') : tB ta σ H Q := h
theorem rd_bl {k : Bool} {Q : Bool → Prop} (h : Q k) : ∃ k', V.bl k = .bl k' ∧ Q k' := ⟨k, rfl, h⟩
theorem rd_not {Q : Bool → Hp → Prop} (h : c σ H fun c H1 => Q (!c) H1) : tNot c σ H Q := h
theorem rd_and {c' : TT} {Q : Bool → Hp → Prop} (h : c σ H fun k H1 => if k = true then c' σ H1 Q else Q false H1) : tAnd c c' σ H Q := h
theorem rd_or {c' : TT} {Q : Bool → Hp → Prop} (h : c σ H fun k H1 => if k = true then Q true H1 else c' σ H1 Q) : tOr c c' σ H Q := h
theorem rd_andV (h : ta σ H fun x H1 => ∃ c, x = .bl c ∧ if c = true then tb σ H1 Q else Q (.bl false) H1) : tAndV ta tb σ H Q := h
theorem rd_orV (h : ta σ H fun x H1 => ∃ c, x = .bl c ∧ if c = true then Q (.bl true) H1 else tb σ H1 Q) : tOrV ta tb σ H Q := h
theorem rd_notV (h : ta σ H fun x H1 => ∃ c, x = .bl c ∧ Q (.bl (!c)) H1) : tNotV ta σ H Q := h
theorem rd_ifE (h : c σ H fun b H1 => if b = true then ta σ H1 Q else tb σ H1 Q) : tIf c ta tb σ H Q := h
theorem rd_tup {ts : TA} (h : ts σ H fun xs H1 => xs.length ≤ sizeLine ∧ ∀ p, H1 p = none → Q (.ref p) (upd H1 p (.tup xs))) : tTup ts σ H Q := h
theorem rd_lst {ts : TA} (h : ts σ H fun xs H1 => xs.length ≤ sizeLine ∧ ∀ p, H1 p = none → Q (.ref p) (upd H1 p (.lst xs))) : tLst ts σ H Q := h
theorem rd_fld {f : Str} (h : ta σ H fun x H1 => ∃ a C dx fs v, x = .ref a ∧ H1 a = some (.ins C dx fs) ∧ Cls K C ∧ NoAttr K C f ∧ fs.lookup f = some v ∧ Q v H1) : tFld K ta f σ H Q := h
/-! operators on known values -/
theorem rd_I0 {g : Int → Int → V} {i j : Int} (q : Q (g i j) H) : rI0 g (.int i) (.int j) H Q := ⟨i, j, rfl, rfl, q⟩
theorem rd_addI {i j : Int} (q : Q (.int (i + j)) H) : rAddU K (.int i) (.int j) H Q := .inl ⟨i, j, rfl, rfl, q⟩
theorem rd_sub {i j : Int} (q : Q (.int (i - j)) H) : rSubU (.int i) (.int j) H Q := ⟨i, j, rfl, rfl, q⟩
theorem rd_lt {i j : Int} (q : Q (.bl (decide (i < j))) H) : rLtU (.int i) (.int j) H Q := ⟨i, j, rfl, rfl, q⟩
theorem rd_le {i j : Int} (q : Q (.bl (decide (i ≤ j))) H) : rLeU (.int i) (.int j) H Q := ⟨i, j, rfl, rfl, q⟩
theorem rd_gt {i j : Int} (q : Q (.bl (decide (j < i))) H) : rGtU (.int i) (.int j) H Q := ⟨i, j, rfl, rfl, q⟩
theorem rd_ge {i j : Int} (q : Q (.bl (decide (j ≤ i))) H) : rGeU (.int i) (.int j) H Q := ⟨i, j, rfl, rfl, q⟩
theorem rd_mod {i j : Int} (h : 0 < j) (q : Q (.int (i % j)) H) : rModU (.int i) (.int j) H Q := ⟨i, j, rfl, rfl, h, q⟩
theorem rd_div {i j : Int} (h : CDivW i j) (q : Q (.int (i / j)) H) : rDivU (.int i) (.int j) H Q := ⟨i, j, rfl, rfl, h, q⟩
theorem rd_mulW {i j : Int} (h : CMulW i j) (q : Q (.int (i * j)) H) : rMulU (.int i) (.int j) H Q := .inl ⟨i, j, rfl, rfl, h, q⟩
theorem rd_mul {i j : Int} (h : CMul i j) (q : Q (.int (i * j)) H) : rMulU (.int i) (.int j) H Q := .inr (.inl ⟨i, j, rfl, rfl, h, q⟩)
theorem rd_eqS (h : scal x y = true) (q : Q (.bl (decide (x = y))) H) : rEqU K x y H Q := .inl ⟨h, q⟩
theorem rd_neS (h : scal x y = true) (q : Q (.bl (!decide (x = y))) H) : rNeU K x y H Q := .inl ⟨h, q⟩
theorem rd_isN (q : Q (.bl (decide (x = .non))) H) : rIsN x .non H Q := ⟨rfl, q⟩
theorem rd_notN (q : Q (.bl (!decide (x = .non))) H) : rNotN x .non H Q := ⟨rfl, q⟩
theorem rd_ixL {p : Addr} {xs : List V} {i : Int} (h : SqL K H p xs) (ha : atI xs i = some v) (q : Q v H) : rIxU K (.ref p) (.int i) H Q := .inl ⟨p, xs, i, v, rfl, rfl, h, ha, q⟩
theorem rd_ixT {p : Addr} {xs : List V} {i : Int} (h : SqT K H p xs) (ha : atI xs i = some v) (q : Q v H) : rIxU K (.ref p) (.int i) H Q := .inr (.inl ⟨p, xs, i, v, rfl, rfl, h, ha, q⟩)
theorem rd_isi {n m : String} {b : Bool} (ty : TyX K H x (.type n)) (e : kitB n m = some b) (q : Q (.bl b) H) : rIsi K [x, .ty m] H Q := ⟨x, .ty m, .type n, .type m, b, rfl, .ty m, ty, kit_ty e, q⟩
end

/-! ### the built-in names -/
theorem bt_len : bootBuiltins "len" = some (.builtin "len") := by first | exact PySem.boot_len | exact PyProof.Rows.boot_len | decide +kernel
theorem bt_isinstance : bootBuiltins "isinstance" = some (.builtin "isinstance") := by first | exact PySem.boot_isinstance | exact PyProof.Rows.boot_isinstance | decide +kernel
theorem bt_max : bootBuiltins "max" = some (.builtin "max") := by first | exact PySem.boot_max | exact PyProof.Rows.boot_max | decide +kernel
theorem bt_min : bootBuiltins "min" = some (.builtin "min") := by first | exact PySem.boot_min | exact PyProof.Rows.boot_min | decide +kernel
theorem bt_divmod : bootBuiltins "divmod" = some (.builtin "divmod") := by first | exact PySem.boot_divmod | exact PyProof.Rows.boot_divmod | decide +kernel
theorem bt_all : bootBuiltins "all" = some (.builtin "all") := by first | exact PySem.boot_all | exact PyProof.Rows.boot_all | decide +kernel
theorem bt_sorted : bootBuiltins "sorted" = some (.builtin "sorted") := by first | exact PySem.boot_sorted | exact PyProof.Rows.boot_sorted | decide +kernel
theorem bt_sum : bootBuiltins "sum" = some (.builtin "sum") := by first | exact PySem.boot_sum | exact PyProof.Rows.boot_sum | decide +kernel
theorem bt_int : bootBuiltins "int" = some (.type "int") := by first | exact PySem.boot_int | exact PyProof.Rows.boot_int | decide +kernel
theorem bt_bool : bootBuiltins "bool" = some (.type "bool") := by first | exact PySem.boot_bool | exact PyProof.Rows.boot_bool | decide +kernel
theorem bt_str : bootBuiltins "str" = some (.type "str") := by first | exact PySem.boot_str | exact PyProof.Rows.boot_str | decide +kernel
theorem bt_list : bootBuiltins "list" = some (.type "list") := by first | exact PySem.boot_list | exact PyProof.Rows.boot_list | decide +kernel
theorem bt_tuple : bootBuiltins "tuple" = some (.type "tuple") := by first | exact PySem.boot_tuple | exact PyProof.Rows.boot_tuple | decide +kernel
theorem bt_dict : bootBuiltins "dict" = some (.type "dict") := by first | exact PySem.boot_dict | exact PyProof.Rows.boot_dict | decide +kernel
theorem bt_range : bootBuiltins "range" = some (.type "range") := by first | exact PySem.boot_range | exact PyProof.Rows.boot_range | decide +kernel
theorem bt_enumerate : bootBuiltins "enumerate" = some (.type "enumerate") := by first | exact PySem.boot_enumerate | exact PyProof.Rows.boot_enumerate | decide +kernel
theorem bt_zip : bootBuiltins "zip" = some (.type "zip") := by first | exact PySem.boot_zip | exact PyProof.Rows.boot_zip | decide +kernel
theorem bt_set : bootBuiltins "set" = some (.type "set") := by first | exact PySem.boot_set | exact PyProof.Rows.boot_set | decide +kernel
/-! ### kinds of values -/
inductive Kind | non | bl | int | str | lst | tup | dct
  deriving DecidableEq
def Kind.nm : Kind → String
  | .non => "NoneType" | .bl => "bool" | .int => "int" | .str => "str" | .lst => "list" | .tup => "tuple" | .dct => "dict"
def isSub : Kind → Kind → Bool
  | .bl, .int => true
  | .non, .non => true | .bl, .bl => true | .int, .int => true | .str, .str => true | .lst, .lst => true | .tup, .tup => true | .dct, .dct => true
  | _, _ => false
theorem kits (a b : Kind) (h : b ≠ .non) : kitB a.nm b.nm = some (isSub a b) := by
  cases b <;> first | exact absurd rfl h | (cases a <;> decide +kernel)
/-- a value of a known kind -/
def Kd (K : PySem.W.Frag) (H : Hp) (x : V) (k : Kind) : Prop := TyX K H x (.type k.nm)
section
variable {K : PySem.W.Frag} {H : Hp} {x : V} {k : Kind} {Q : VK}
theorem isk_int (d : Kd K H x k) (q : Q (.bl (isSub k .int)) H) : rIsi K [x, .ty "int"] H Q := rd_isi (m := Kind.nm .int) d (kits k .int (by intro z; cases z)) q
theorem isk_bool (d : Kd K H x k) (q : Q (.bl (isSub k .bl)) H) : rIsi K [x, .ty "bool"] H Q := rd_isi (m := Kind.nm .bl) d (kits k .bl (by intro z; cases z)) q
theorem isk_str (d : Kd K H x k) (q : Q (.bl (isSub k .str)) H) : rIsi K [x, .ty "str"] H Q := rd_isi (m := Kind.nm .str) d (kits k .str (by intro z; cases z)) q
theorem isk_list (d : Kd K H x k) (q : Q (.bl (isSub k .lst)) H) : rIsi K [x, .ty "list"] H Q := rd_isi (m := Kind.nm .lst) d (kits k .lst (by intro z; cases z)) q
theorem isk_tuple (d : Kd K H x k) (q : Q (.bl (isSub k .tup)) H) : rIsi K [x, .ty "tuple"] H Q := rd_isi (m := Kind.nm .tup) d (kits k .tup (by intro z; cases z)) q
theorem isk_dict (d : Kd K H x k) (q : Q (.bl (isSub k .dct)) H) : rIsi K [x, .ty "dict"] H Q := rd_isi (m := Kind.nm .dct) d (kits k .dct (by intro z; cases z)) q
theorem Kd.non : Kd K H .non .non := .base .non
theorem Kd.bl {b : Bool} : Kd K H (.bl b) .bl := .base (.bl b)
theorem Kd.int {i : Int} : Kd K H (.int i) .int := .base (.int i)
theorem Kd.str {x : Str} : Kd K H (.str x) .str := .base (.str x)
theorem Kd.tup {a : Addr} {xs : List V} (h : H a = some (.tup xs)) : Kd K H (.ref a) .tup := .base (.tup h)
theorem Kd.lst {a : Addr} {xs : List V} (h : H a = some (.lst xs)) : Kd K H (.ref a) .lst := .base (.lst h)
theorem Kd.dK {a : Addr} {xs : List (Key × V)} (h : H a = some (.dK xs)) : Kd K H (.ref a) .dct := .base (.dK h)
def isW : V → Bool
  | .int _ => true
  | _ => false
theorem tyx_int {t : Value} (h : TyX K H x t) : t = .type "int" → isW x = true := by
  intro e
  cases h with
  | base b => cases b <;> first | rfl | (exfalso; exact absurd (Value.type.inj e) (by decide)) | cases e
  | _ => exfalso; exact absurd (Value.type.inj e) (by decide)
theorem tyx_notint {t : Value} (h : TyX K H x t) : t ≠ .type "int" → isW x = false := by
  intro e
  cases h with
  | base b => cases b <;> first | rfl | (exact absurd rfl e)
  | _ => rfl
theorem isW_of (d : Kd K H x k) : isW x = (isSub k .int && !isSub k .bl) := by
  cases k with
  | int => exact tyx_int d rfl
  | _ => exact tyx_notint d (fun z => absurd (Value.type.inj z) (by decide))
end

/-! ### more steps -/
def rFld (K : PySem.W.Frag) (f : Str) : V → Hp → VK → Prop := fun x H1 Q => ∃ a C dx fs v, x = .ref a ∧ H1 a = some (.ins C dx fs) ∧ Cls K C ∧ NoAttr K C f ∧ fs.lookup f = some v ∧ Q v H1
def Fr1 (a : Addr) (H H' : Hp) : Prop := ∀ b o, H b = some o → b ≠ a → H' b = some o
/-- all but S stands -/
def Fr (S : Addr → Prop) (H H' : Hp) : Prop := ∀ b o, H b = some o → ¬ S b → H' b = some o
theorem Fr.refl (S : Addr → Prop) (H : Hp) : Fr S H H := fun _ _ h _ => h
theorem Fr.trans {S : Addr → Prop} {H H1 H2 : Hp} (a : Fr S H H1) (b : Fr S H1 H2) : Fr S H H2 := fun c o h n => b c o (a c o h n) n
theorem Fr.of_same {S : Addr → Prop} {H H1 : Hp} (a : Same H H1) : Fr S H H1 := fun c o h _ => a c o h
theorem Fr.mono {S S' : Addr → Prop} {H H1 : Hp} (a : Fr S H H1) (h : ∀ b, S b → S' b) : Fr S' H H1 := fun c o e n => a c o e fun z => n (h c z)
theorem Fr.upd {S : Addr → Prop} {H H1 : Hp} {a : Addr} {o : HO} (f : Fr S H H1) (h : S a ∨ H a = none) : Fr S H (upd H1 a o) := fun c u e n => by
  rw [upd_ne]
  · exact f c u e n
  · rintro rfl
    rcases h with h | h
    · exact n h
    · rw [h] at e; cases e
theorem Fr.one {a : Addr} {H : Hp} {o : HO} {S : Addr → Prop} (h : S a) : Fr S H (L2.upd H a o) := (Fr.refl S H).upd (.inl h)
theorem _root_.L2.Same.upd' {H H1 : Hp} {a : Addr} {o : HO} (f : Same H H1) (h : H a = none) : Same H (L2.upd H1 a o) := fun c u e => by
  rw [upd_ne (ne_of_none e h)]
  exact f c u e
theorem _root_.L2.Same.new {H : Hp} {a : Addr} {o : HO} (h : H a = none) : Same H (L2.upd H a o) := (Same.refl H).upd' h
theorem _root_.L2.Same.get {H H' : Hp} {a : Addr} {o : HO} (s : Same H H') (h : H a = some o) : H' a = some o := s a o h
theorem none_of_upd {H : Hp} {a b : Addr} {o : HO} (h : L2.upd H b o a = none) : H a = none := by
  unfold L2.upd at h
  split at h
  · cases h
  · exact h
section
variable {σ : L2.St} {H : Hp} {D : Ends} {Q : VK} {t u : TS} {ta tb tc : TE} {c : TT} {x y v : V} {r r' : R2} {K : PySem.W.Frag}
theorem rd_fldR {f : Str} (h : ta σ H fun x H1 => rFld K f x H1 Q) : tFld K ta f σ H Q := h
theorem fld_at {a C dx : Addr} {fs : List (Str × V)} {f : Str} (h : H a = some (.ins C dx fs)) (k : Cls K C) (n : NoAttr K C f) (l : fs.lookup f = some v) (q : Q v H) : rFld K f (.ref a) H Q := ⟨a, C, dx, fs, v, rfl, h, k, n, l, q⟩
theorem rd_chain (h : ta σ H fun x H1 => tb σ H1 fun y H2 => r x y H2 fun z H3 => ∃ k, z = .bl k ∧ (if k = true then tc σ H3 fun w' H4 => r' y w' H4 Q else Q (.bl false) H3)) : tChain r r' ta tb tc σ H Q := h
theorem rd_make {C : Addr} {sp : Sp} {dvs : List V} {E : XK} {ts : TA} (h : ts σ H fun vs H1 => ∀ x dx, H1 x = none → H1 dx = none → dx ≠ x → sp (.ref x :: (vs ++ dvs)) (upd (upd H1 dx (.own x)) x (.ins C dx [])) (fun v H2 => v = .non ∧ Q (.ref x) H2) E) : tMake C sp dvs E ts σ H Q := h
theorem rd_for {wi : TI} {g : TG} (h : wi σ H fun J H1 => ∃ W : Nat → Nat → L2.St → Hp → Prop, (∃ m, W 0 m σ H1) ∧ ∀ i m σ H, W i m σ H →
  (J.stop i H ∧ D.nx σ H) ∨ (J.go i H ∧ ∃ N : L2.St → Hp → Prop, (∀ σ' H', N σ' H' → ∃ m', m' < m ∧ W (i + 1) m' σ' H') ∧ ∀ x H', J.yld i H x H' → g x σ H' fun σ2 H2 => t { D with nx := N, ct := N, bk := D.nx } σ2 H2)) : tFor wi g t D σ H := h
theorem rd_iL {R : It → Hp → Prop} (h : ta σ H fun x H1 => ∃ a, x = .ref a ∧ (∃ xs, SqL K H1 a xs) ∧ R (Itl K a) H1) : iList K ta σ H R := h
theorem rd_iT {R : It → Hp → Prop} (h : ta σ H fun x H1 => ∃ a, x = .ref a ∧ (∃ xs, SqT K H1 a xs) ∧ R (Itt K a) H1) : iTup K ta σ H R := h
theorem rd_iR1 {ts : TA} {R : It → Hp → Prop} (h : ts σ H fun vs H1 => ∃ j : Int, vs = [.int j] ∧ -(2 ^ 62) ≤ j ∧ j < 2 ^ 62 ∧ R (Itr 0 j.toNat) H1) : iRng1 ts σ H R := h
theorem rd_iR2 {ts : TA} {R : It → Hp → Prop} (h : ts σ H fun vs H1 => ∃ i j : Int, vs = [.int i, .int j] ∧ (-(2 ^ 62) ≤ i ∧ i < 2 ^ 62 ∧ -(2 ^ 62) ≤ j ∧ j < 2 ^ 62) ∧ R (Itr i (j - i).toNat) H1) : iRng2 ts σ H R := h
theorem rd_gsub {to ti : TE} {ts : TSet} {q : L2.St → Hp → Prop} (h : to σ H fun o H1 => ti σ H1 fun i H2 => ts o i v H2 fun H3 => q σ H3) : gSub to ti ts v σ H q := h
theorem set_at {p : Addr} {xs : List V} {k : Int} {j : Nat} {q : Hp → Prop} (h : H p = some (.lst xs)) (hj : ixN xs.length k = some j) (hq : q (upd H p (.lst (xs.set j v)))) : rSetU (.ref p) (.int k) v H q := .inl ⟨p, xs, k, j, rfl, rfl, h, hj, hq⟩
theorem set_dk {p : Addr} {kvs : List (Key × V)} {k : Key} {q : Hp → Prop} (h : H p = some (.dK kvs)) (hl : kvs.length < sizeLine) (hq : q (upd H p (.dK (putK kvs k v)))) : rSetU (.ref p) (kV k) v H q := .inr ⟨p, _, rfl, DPut.k h hl, hq⟩
theorem set_dt {p b : Addr} {kvs : List (List Key × V)} {k : List Key} {q : Hp → Prop} (h : H p = some (.dT kvs)) (hb : H b = some (.tup (k.map kV))) (hl : kvs.length < sizeLine) (hq : q (upd H p (.dT (putK kvs k v)))) : rSetU (.ref p) (.ref b) v H q := .inr ⟨p, _, rfl, DPut.t h hb hl, hq⟩
theorem rd_sfld {tv : TE} {f : Str} (h : tv σ H fun y H1 => ta σ H1 fun x H2 => ∃ a C dx fs, x = .ref a ∧ H2 a = some (.ins C dx fs) ∧ Cls K C ∧ NoAttr K C f ∧ fs.length < 1000 ∧ D.nx σ (upd H2 a (.ins C dx (putF f y fs)))) : sFld K ta tv f D σ H := h
theorem put_at {q : Hp → Prop} {a C dx : Addr} {fs fs' : List (Str × V)} {f : Str} (h : H a = some (.ins C dx fs)) (k : Cls K C) (n : NoAttr K C f) (hl : fs.length < 1000) (e : putF f y fs = fs') (hq : q (upd H a (.ins C dx fs'))) :
    ∃ a' C dx fs, V.ref a = .ref a' ∧ H a' = some (.ins C dx fs) ∧ Cls K C ∧ NoAttr K C f ∧ fs.length < 1000 ∧ q (upd H a' (.ins C dx (putF f y fs))) := ⟨a, C, dx, fs, rfl, h, k, n, hl, by rw [e]; exact hq⟩
end

theorem atI_int {α : Type} {xs : List α} {k : Int} {v : α} (h0 : 0 ≤ k) (h : xs[k.toNat]? = some v) : atI xs k = some v := by
  obtain ⟨n, rfl⟩ : ∃ n : Nat, k = (n : Int) := ⟨k.toNat, by omega⟩
  exact atI_nat h
theorem rd_sz {A B : Prop} (a : A) (b : B) : A ∧ B := ⟨a, b⟩
theorem _root_.L2.Kd_same {K : PySem.W.Frag} {H H' : Hp} {x : V} {k : Kind} (s : Same H H') (d : Kd K H x k) : Kd K H' x k := by
  have key : ∀ {t : Value}, TyX K H x t → t = .type k.nm → TyX K H' x t := by
    intro t d e
    cases d with
    | base b =>
      cases b with
      | non => exact .base .non
      | bl => exact .base (.bl _)
      | int => exact .base (.int _)
      | str => exact .base (.str _)
      | flt => exact .base (.flt _)
      | lst q => exact .base (.lst (s _ _ q))
      | frz q => exact .base (.frz (s _ _ q))
      | tup q => exact .base (.tup (s _ _ q))
      | dK q => exact .base (.dK (s _ _ q))
      | dT q => exact .base (.dT (s _ _ q))
      | ins q a b c2 d2 f2 => exact .base (.ins (s _ _ q) a b c2 d2 f2)
    | byt => exact .byt _
    | set q => exact .set (s _ _ q)
    | kList q c => exact .kList q c
    | kTuple q c => exact .kTuple q c
    | kDict q c => exact .kDict q c
    | fTuple q => exact .fTuple (s _ _ q)
    | fDict q => exact .fDict (s _ _ q)
  exact key d rfl
theorem Kd.same {K : PySem.W.Frag} {H H' : Hp} {x : V} {k : Kind} (d : Kd K H x k) (s : Same H H') : Kd K H' x k := L2.Kd_same s d

theorem log2_mul {i j : Int} : (i * j).natAbs.log2 ≤ i.natAbs.log2 + j.natAbs.log2 + 1 := by
  rw [Int.natAbs_mul]
  by_cases h : i.natAbs * j.natAbs = 0
  · rw [h]; simp
  · have h1 := @Nat.lt_log2_self i.natAbs
    have h2 := @Nat.lt_log2_self j.natAbs
    have h3 : i.natAbs * j.natAbs < 2 ^ (i.natAbs.log2 + 1) * 2 ^ (j.natAbs.log2 + 1) := Nat.mul_lt_mul'' h1 h2
    rw [← Nat.pow_add] at h3
    have h4 := (Nat.log2_lt h).mpr h3
    omega
theorem log2_le {i j : Int} (h0 : 0 ≤ i) (h : i ≤ j) : i.natAbs.log2 ≤ j.natAbs.log2 := by
  by_cases e : i.natAbs = 0
  · rw [e]; simp
  · have h1 := Nat.log2_self_le e
    have h2 : j.natAbs ≠ 0 := by omega
    exact (Nat.le_log2 h2).mpr (Nat.le_trans h1 (by omega))
theorem mulW_of {i j : Int} (hi : i.natAbs.log2 < 400000) (hj : j.natAbs.log2 < 400000) : CMulW i j := by unfold CMulW; omega
theorem divP_of {i j : Int} (h : 0 < j) (hj : j.natAbs.log2 < 9000) : CDivP i j := ⟨h, PyProof.noPylong_of_log2 hj⟩
theorem divmod_at {i j : Int} {H : Hp} {Q : VK} (h : CDivP i j) (q : ∀ p, H p = none → Q (.ref p) (upd H p (.tup [.int (i / j), .int (i % j)]))) : rDivmod [.int i, .int j] H Q := ⟨i, j, rfl, h, q⟩

/-! ### xs[::s], s 1 or -1 -/
theorem pick_one (items : Array Value) : slicePick items none none (some 1) = items := by
  have e : slicePick items none none (some 1) = slicePick items none none none := rfl
  rw [e, PySem.W.kms_pick_eq]
  unfold PySem.W.kms_pick
  simp [PySem.W.kms_lo, PySem.W.kms_hi]
  rw [← Array.length_toList, List.take_length]
def rStep (K : PySem.W.Frag) : R2 := fun x y H Q => ∃ a xs i, x = .ref a ∧ y = .int i ∧ SqL K H a xs ∧ (i = 1 ∨ i = -1) ∧ ∀ p, H p = none → Q (.ref p) (upd H p (.lst (if i = 1 then xs else xs.reverse)))
section
variable {X : Cx}
theorem pe_sliceS {e st : Expr} {te ts : TE} {p3 pos : Pos} (he : PE X e te) (hst : PE X st ts) : PE X (.Subscript e (.Slice none none (some st) p3) pos) (tOp (rStep X.K) te ts) := by
  refine ⟨fun pins s σ H Q I h => ?_⟩
  refine Subscript_ (thn (he.run pins s σ H _ I h) fun v s1 ⟨x, H1, I1, r1, q1⟩ => ?_)
  refine wpAny_Slice (thn (po_none.run pins s1 σ H1 (fun o H2 => o = none ∧ H2 = H1) I1 ⟨rfl, rfl⟩) fun vl s2 ⟨l, H2, I2, pl, el, e2⟩ => ?_)
  subst el e2
  refine thn (po_none.run pins s2 σ H2 (fun o H3 => o = none ∧ H3 = H2) I2 ⟨rfl, rfl⟩) fun vu s3 ⟨u, H3, I3, pu, eu, e3⟩ => ?_
  subst eu e3
  rw [evalPart_some]
  refine thn (hst.run pins s3 σ H3 _ I3 q1) fun vs s4 ⟨y, H4, I4, r4, a, xs, i, ex, ey, hx, hi, q⟩ => ?_
  subst ex ey
  cases r1
  have ps : IsPart vs (some i) := by
    obtain ⟨t, rfl⟩ := r4
    exact .int _ _
  have I5 : Inv X pins σ H4 { s4 with heap := s4.heap.push { cls := .type "slice", data := .fields #[vl, vu, vs] } } := I4.kept (t' := s4.toks) fun b ob q => Heap.get?_push_of_some _ q
  obtain ⟨its, r, ht, hz⟩ := I5.list hx
  have hlen := r.length
  show wpAny (model X.prog X.w) X.A (subscriptTail e (.Slice none none (some st) p3) (.ref a) (.ref s4.heap.objs.size)) (EP X pins σ Q) X.xe { s4 with heap := s4.heap.push { cls := .type "slice", data := .fields #[vl, vu, vs] } }
  refine tail_any (ops := [.ref a, .ref s4.heap.objs.size]) ht.isList.typeIs (PySem.slot_list_getitem.lookup) ?_ (by with_unfolding_all rfl)
  rcases hi with rfl | rfl
  · refine wpAny_getItem_list_slice ht.isList (Heap.IsSliceOf.new _ vl vu vs) pl pu ps (by decide) ?_ (by rw [List.size_toArray]; omega)
    rw [pick_one]
    refine ⟨.ref _, _, I5.laid (t' := s4.toks) (o := .lst xs) (fun b ob q => Heap.get?_push_of_some _ q) (Nat.le_refl _) ?_, rfl, q _ (I5.hok.fresh (Nat.le_refl _))⟩
    exact ⟨hz, _, 0, r, Heap.get?_push_size _ rfl⟩
  · refine wpAny_getItem_list_slice ht.isList (Heap.IsSliceOf.new _ vl vu vs) pl pu ps (by decide) ?_ (by rw [List.size_toArray]; omega)
    rw [PySem.W.krv_pick]
    refine ⟨.ref _, _, I5.laid (t' := s4.toks) (o := .lst xs.reverse) (fun b ob q => Heap.get?_push_of_some _ q) (Nat.le_refl _) ?_, rfl, q _ (I5.hok.fresh (Nat.le_refl _))⟩
    exact ⟨by rw [List.length_reverse]; exact hz, _, 0, r.reverse, Heap.get?_push_size _ rfl⟩
/-! ### max(xs, default=d) over data -/
open PySem.W in
def rMaxD (K : PySem.W.Frag) (A : Around) : List V → List V → Hp → VK → Prop := fun xs zs H Q => ∃ a d vs ds, xs = [.ref a] ∧ zs = [d] ∧ SqL K H a vs ∧ DpAll K H vs ds ∧ AlikeAll ds ∧ A.units + 1 + PyData.depthAll ds < cLine ∧
  (ds = [] → Q d H) ∧ (∀ (y : PyData) (ys : List PyData) (i : Nat) (v : V), ds = y :: ys → vs[i]? = some v → ds[i]? = some (maxD y ys) → Q v H)
theorem dpAll_len {K : PySem.W.Frag} {H : Hp} : ∀ {vs : List V} {ds : List PyData}, DpAll K H vs ds → vs.length = ds.length
  | [], _, h => by cases h; rfl
  | v :: vs, _, h => by
    cases h with
    | cons h1 h2 => exact congrArg Nat.succ (dpAll_len h2)
theorem dpAll_get {K : PySem.W.Frag} {H : Hp} : ∀ {vs : List V} {ds : List PyData} {i : Nat} {v : V} {d : PyData}, DpAll K H vs ds → vs[i]? = some v → ds[i]? = some d → Dp K H v d
  | [], _, _, _, _, h, e, _ => by simp at e
  | x :: vs, _, 0, v, d, h, e, e2 => by
    cases h with
    | cons h1 h2 =>
      have q1 : x = v := Option.some.inj e
      have q2 := Option.some.inj e2
      rw [← q1, ← q2]
      exact h1
  | x :: vs, _, i + 1, v, d, h, e, e2 => by
    cases h with
    | cons h1 h2 => exact dpAll_get h2 (by simpa using e) (by simpa using e2)
open PySem.W in
theorem cb_maxD (hc : X.calm = true) : CallRK X (.builtin "max") ["default"] (rMaxD X.K X.A) := by
  intro pins s σ H xs zs us ws Q I r1 r2 h
  obtain ⟨a, d, vs, ds, rfl, rfl, hs, hd, ha, hu, q0, q1⟩ := h
  obtain ⟨u, rfl, ru⟩ := vals1 r1
  obtain ⟨w', rfl, rw'⟩ := vals1 r2
  cases ru
  obtain ⟨its, rv, hp, hz⟩ := I.list hs
  obtain ⟨as, hr⟩ := Dp.readsAll I ds vs its hd rv
  refine max_list_default (I.ok.hd hc) hp.isList (by simpa using hr) ha hu (fun e h' tk k => ?_) fun y ys i v h' tk bs e hv rd k => ?_
  · exact ⟨d, H, I.kept (t' := tk) k, rw', q0 e⟩
  · have hv2 : its[i]? = some v := by simpa using hv
    have hi : i < its.length := (List.getElem?_eq_some_iff.mp hv2).1
    have hlen := rv.length
    have hlen2 := dpAll_len hd
    have e1 : vs[i]? = some vs[i] := List.getElem?_eq_getElem (by omega)
    have e2 : ds[i]? = some ds[i] := List.getElem?_eq_getElem (by omega)
    have d1 := dpAll_get hd e1 e2
    obtain ⟨u1, eu1, ru1⟩ := rv.get e1
    have ev : u1 = v := by rw [hv2] at eu1; exact (Option.some.inj eu1).symm
    rw [ev] at ru1
    obtain ⟨as1, rd1⟩ := Dp.reads I ds[i] vs[i] v d1 ru1
    have un := (Reads.unique (reads_keeps k rd1) _ _ rd).1
    exact ⟨vs[i], H, I.kept (t' := tk) k, ru1, q1 y ys i _ e e1 (by rw [e2, un])⟩
/-! ### d.values(), max of it -/
/-- a view of a dict's values stands at p -/
def viewO (p d : Addr) : HO := .ext fun h => h.IsValuesView p d
def tValues (td : TE) : TE := fun σ H Q => td σ H fun x H1 => ∃ d kvs, x = .ref d ∧ H1 d = some (.dT kvs) ∧ ∀ p, H1 p = none → Q (.ref p) (upd H1 p (viewO p d))
theorem pe_values {e : Expr} {td : TE} {apos cpos : Pos} (he : PE X e td) (hbase : attributeBase e "values" X.env (eval e X.env) = eval e X.env := by rfl) (hline : (apos.endLine == cpos.line) = true := by rfl) : PE X (.Call (.Attribute e "values" apos) [] [] cpos) (tValues td) := by
  refine ⟨fun pins s σ H Q I h => ?_⟩
  refine wpAny_Call_method (T := "dict") (id := "dict.values") hbase rfl hline F.plainAttrs_dict F.slot_dict_values F.type_dict_values (thn (he.run pins s σ H _ I h) fun u s1 ⟨x, H1, I1, rx, d, kvs, ex, hd, q⟩ => ?_)
  subst ex
  obtain rfl : u = Value.ref d := rx
  obtain ⟨hs, es, ep, raw, hsz, hv⟩ := dt_raw I1.hok hd
  refine ⟨raw.typeIs, fun b z => ?_, ?_⟩
  · cases z
    obtain ⟨o, h1, h2, _⟩ := raw
    exact ⟨o, h1, h2.2.1⟩
  have hn : H1 s1.heap.objs.size = none := I1.hok.fresh (Nat.le_refl _)
  have hv : (s1.heap.push { cls := .type "dict_values", data := .fields #[.ref d] }).IsValuesView s1.heap.objs.size d := ⟨_, Heap.get?_push_size _ rfl, rfl, rfl⟩
  have fin : EP X pins σ Q (.ref s1.heap.objs.size) { s1 with heap := s1.heap.push { cls := .type "dict_values", data := .fields #[.ref d] } } := by
    refine ⟨.ref s1.heap.objs.size, _, I1.laid (t' := s1.toks) (o := viewO s1.heap.objs.size d) (fun b ob q => Heap.get?_push_of_some _ q) (Nat.le_refl _) ?_, rfl, q _ hn⟩
    refine ⟨hv, ⟨_, Heap.get?_push_size _ rfl⟩, fun h1 h2 a k => ?_⟩
    obtain ⟨o, e1, e2⟩ := a
    exact ⟨o, k o e1, e2⟩
  show wpAny _ _ (callWith cpos (.builtin "dict.values") [.ref d] [] []) _ X.xe s1
  exact method_meetsIn F.slot_dict_values F.entry_dict_values rfl (PySem.evalArgs_none ⟨rfl, raw.typeIs, F.args_dict_values_1 _, _, meets_dict_values_raw d hs, ⟨es, ep, raw⟩, fin⟩)
/-- max of a view of whole numbers -/
def rMaxV : List V → Hp → VK → Prop := fun xs H Q => ∃ (p d : Addr) (kvs : List (List Key × V)) (ns : List Int), xs = [.ref p] ∧ H p = some (viewO p d) ∧ H d = some (.dT kvs) ∧ kvs.map (·.2) = ns.map V.int ∧ 0 < ns.length ∧ ∀ m, m ∈ ns → (∀ y, y ∈ ns → y ≤ m) → Q (.int m) H
theorem argBest_mem {α : Type} {f : Nat → Nat → Bool} : ∀ k, argBest f k ≤ k
  | 0 => Nat.le_refl _
  | k + 1 => by
    have := argBest_mem (α := α) (f := f) k
    show (if f (k + 1) (argBest f k) then k + 1 else argBest f k) ≤ k + 1
    split <;> omega
theorem argBest_max {g : Nat → Int} : ∀ k, ∀ j, j ≤ k → g j ≤ g (argBest (fun i j => decide (g j < g i)) k)
  | 0, j, h => by
    have e : j = 0 := by omega
    subst e
    exact Int.le_refl _
  | k + 1, j, h => by
    show g j ≤ g (if decide (g (argBest (fun i j => decide (g j < g i)) k) < g (k + 1)) then k + 1 else argBest (fun i j => decide (g j < g i)) k)
    have ih := argBest_max (g := g) k
    by_cases e : g (argBest (fun i j => decide (g j < g i)) k) < g (k + 1)
    · rw [decide_eq_true e, if_pos rfl]
      by_cases ej : j = k + 1
      · subst ej; exact Int.le_refl _
      · have := ih j (by omega)
        omega
    · rw [decide_eq_false e, if_neg Bool.false_ne_true]
      by_cases ej : j = k + 1
      · subst ej; omega
      · exact ih j (by omega)
theorem cb_maxV (hc : X.calm = true) : CallR X (.builtin "max") rMaxV := by
  intro pins s σ H xs us Q I r h
  obtain ⟨p, d, kvs, ns, rfl, hp, hd, hm, hne, q⟩ := h
  obtain ⟨u, rfl, ru⟩ := vals1 r
  cases ru
  have hh := I.ok.hd hc
  obtain ⟨hs, es, ep, raw, hsz, hv⟩ := dt_raw I.hok hd
  obtain ⟨view, _, _⟩ := (show ObjOk X.prog X.w H s.heap p (viewO p d) from I.hok p _ hp)
  have hlen : kvs.length = ns.length := by rw [← List.length_map (f := (·.2)), hm, List.length_map]
  have hdl : d < s.heap.objs.size := by obtain ⟨o, h1, _⟩ := raw; exact Heap.lt_size h1
  have at_ : ∀ (i : Nat) (hi : i < es.size), ∃ t, es[i].val = .int (ns.getD i 0) t := fun i hi => by
    have hk : i < kvs.length := by omega
    have r1 := hv i hi kvs[i] (List.getElem?_eq_getElem hk)
    have e1 : (kvs.map (·.2))[i]? = some kvs[i].2 := by rw [List.getElem?_map, List.getElem?_eq_getElem hk]; rfl
    rw [hm, List.getElem?_map, List.getElem?_eq_getElem (show i < ns.length by omega)] at e1
    have e2 : V.int ns[i] = kvs[i].2 := Option.some.inj e1
    rw [← e2] at r1
    obtain ⟨t, e3⟩ := r1
    refine ⟨t, ?_⟩
    rw [e3, List.getD_eq_getElem?_getD, List.getElem?_eq_getElem (show i < ns.length by omega)]
    rfl
  refine call_max_walkH (wpAny_pyIter_values_raw view raw ?_)
  refine ⟨s.heap.objs.size, _, _, _, es.size, _, _, s.heap, fun i j => decide (ns.getD j 0 < ns.getD i 0), rfl, (Walks.rawValues (A := X.A.in1) hh s.heap.objs.size d (Nat.ne_of_lt hdl) es ep).toS, ⟨⟨_, Heap.get?_push_size _ rfl, rfl, rfl⟩, raw.at fun o e => Heap.get?_push_of_some _ e⟩, fun b hb => ?_, by omega, fun b o e hb => ?_, fun b o e => Heap.get?_push_of_some _ e, ?_, fun v s' hP m => ?_⟩
  · show b < (s.heap.push _).objs.size
    rw [Heap.size_push]
    rcases List.mem_cons.mp hb with rfl | hb
    · exact Nat.lt_succ_self _
    · rcases List.mem_cons.mp hb with rfl | hb
      · exact Nat.lt_succ_of_lt hdl
      · cases hb
  · exact absurd (Heap.lt_size e) ((List.mem_singleton.mp hb) ▸ Nat.lt_irrefl _)
  · rintro i j vi vj s2 Q2 E2 hk ⟨hi, rfl⟩ ⟨hj, rfl⟩ hq
    obtain ⟨t1, e1⟩ := at_ i hi
    obtain ⟨t2, e2⟩ := at_ j hj
    rw [e1, e2]
    show wpAny _ _ (compareOp .Gt (.int (ns.getD i 0) t1) (.int (ns.getD j 0) t2)) Q2 E2 s2
    exact gt_int hq
  · obtain ⟨h', tk, rfl, hk'⟩ := PySem.W.moved_old rfl rfl m
    obtain ⟨hi, rfl⟩ := hP
    obtain ⟨t, e⟩ := at_ _ hi
    rw [e]
    refine ⟨.int _, H, I.kept (t' := tk) hk', ⟨t, rfl⟩, q _ ?_ fun y hy => ?_⟩
    · rw [List.getD_eq_getElem?_getD, List.getElem?_eq_getElem (by omega)]
      exact List.getElem_mem _
    · obtain ⟨j, hj, rfl⟩ := List.getElem_of_mem hy
      have := argBest_max (g := fun i => ns.getD i 0) (es.size - 1) j (by omega)
      have e2 : ns.getD j 0 = ns[j] := by rw [List.getD_eq_getElem?_getD, List.getElem?_eq_getElem hj]; rfl
      rw [← e2]
      exact this
end

/-! ### lists of tuples -/
/-- the values are tuples of these items -/
def Tps (H : Hp) : List V → List (List V) → Prop := Paired fun v d => ∃ t, v = .ref t ∧ H t = some (.tup d)
theorem Tps.tk {H H' : Hp} {vs : List V} {ds : List (List V)} (h : Tps H vs ds) (k : TK H H') : Tps H' vs ds := Paired.mapP h fun _ _ ⟨t, e, q⟩ => ⟨t, e, k.tup q⟩
theorem Tps.same {H H' : Hp} {vs : List V} {ds : List (List V)} (h : Tps H vs ds) (k : Same H H') : Tps H' vs ds := h.tk (TK.of_same k)
theorem Tps.snoc {H : Hp} {vs : List V} {ds : List (List V)} {t : Addr} {d : List V} (h : Tps H vs ds) (e : H t = some (.tup d)) : Tps H (vs ++ [.ref t]) (ds ++ [d]) := Paired.snoc h ⟨t, rfl, e⟩
theorem Tps.len {H : Hp} {vs : List V} {ds : List (List V)} (h : Tps H vs ds) : vs.length = ds.length := Paired.length h
theorem Tps.at_ {H : Hp} : ∀ {vs : List V} {ds : List (List V)} {i : Nat} {d : List V}, Tps H vs ds → ds[i]? = some d → ∃ t, vs[i]? = some (.ref t) ∧ H t = some (.tup d)
  | _, _, _, _, .nil, e => by simp at e
  | _, _, 0, _, .cons r _, e => by
    have e1 := Option.some.inj e
    obtain ⟨t, e2, e3⟩ := r
    rw [e1] at e3
    exact ⟨t, by rw [e2]; rfl, e3⟩
  | _, _, i + 1, d, .cons _ t, e => by
    obtain ⟨x, h1, h2⟩ := Tps.at_ (i := i) (d := d) t (by simpa using e)
    exact ⟨x, by simpa using h1, h2⟩
theorem app_at {K : PySem.W.Frag} {l : Addr} {xs : List V} {y : V} {H : Hp} {Q : VK} (h : H l = some (.lst xs)) (hl : xs.length < sizeLine) (q : Q .non (upd H l (.lst (xs ++ [y])))) : tyV K "list" (.ref l) H ∧ rAppend (.ref l) [y] H Q := ⟨.inl ⟨rfl, _, .inl (.inl h)⟩, l, xs, y, rfl, rfl, h, hl, q⟩
theorem lt_size {n : Nat} (h : n ≤ 1000000) : n < sizeLine := Nat.lt_of_le_of_lt h (by decide)
theorem le_size {n : Nat} (h : n ≤ 1000000) : n ≤ sizeLine := Nat.le_of_lt (lt_size h)
/-- a method of a built-in type -/
theorem rd_bm {K : PySem.W.Frag} {T : String} {r : V → List V → Hp → VK → Prop} {to : TE} {ts : TA} {σ : L2.St} {H : Hp} {Q : VK} (h : to σ H fun x H1 => tyV K T x H1 ∧ ts σ H1 fun xs H2 => r x xs H2 Q) : tBM K T r to ts σ H Q := h
theorem rd_bm0 {K : PySem.W.Frag} {T : String} {r : V → List V → Hp → VK → Prop} {to : TE} {σ : L2.St} {H : Hp} {Q : VK} (h : to σ H fun x H1 => tyV K T x H1 ∧ r x [] H1 Q) : tBM0 K T r to σ H Q := h
theorem ty_lst {K : PySem.W.Frag} {l : Addr} {xs : List V} {H : Hp} {B : Prop} (h : H l = some (.lst xs)) (q : B) : tyV K "list" (.ref l) H ∧ B := ⟨.inl ⟨rfl, _, .inl (.inl h)⟩, q⟩
theorem rd_app {l : Addr} {xs : List V} {y : V} {H : Hp} {Q : VK} (h : H l = some (.lst xs)) (hl : xs.length < sizeLine) (q : Q .non (upd H l (.lst (xs ++ [y])))) : rAppend (.ref l) [y] H Q := ⟨l, xs, y, rfl, rfl, h, hl, q⟩
theorem rd_lenL {K : PySem.W.Frag} {l : Addr} {xs : List V} {H : Hp} {Q : VK} (h : SqL K H l xs) (q : Q (.int xs.length) H) : rLenU K [.ref l] H Q := .inl ⟨l, xs, rfl, .inl h, q⟩
theorem rd_lenT {K : PySem.W.Frag} {l : Addr} {xs : List V} {H : Hp} {Q : VK} (h : SqT K H l xs) (q : Q (.int xs.length) H) : rLenU K [.ref l] H Q := .inl ⟨l, xs, rfl, .inr h, q⟩
theorem rd_lenS {K : PySem.W.Frag} {z : Str} {H : Hp} {Q : VK} (h : z.length ≤ sizeLine) (q : Q (.int z.length) H) : rLenU K [.str z] H Q := .inr (.inr ⟨.str z, z.length, rfl, ⟨h, rfl⟩, q⟩)
theorem rng_at {j : Int} {H : Hp} {R : It → Hp → Prop} (h0 : -(2 ^ 62) ≤ j) (h1 : j < 2 ^ 62) (q : R (Itr 0 j.toNat) H) : ∃ j' : Int, [V.int j] = [.int j'] ∧ -(2 ^ 62) ≤ j' ∧ j' < 2 ^ 62 ∧ R (Itr 0 j'.toNat) H := ⟨j, rfl, h0, h1, q⟩
theorem rd_ckw {r : List V → List V → Hp → VK → Prop} {ts tk : TA} {σ : L2.St} {H : Hp} {Q : VK} (h : ts σ H fun vs H1 => tk σ H1 fun zs H2 => r vs zs H2 Q) : tCKw r ts tk σ H Q := h

/-- all but S stands, no more is told -/
theorem Fr.get {S : Addr → Prop} {H H' : Hp} {a : Addr} {o : HO} (f : Fr S H H') (h : H a = some o) (n : ¬ S a) : H' a = some o := f a o h n
theorem Fr.free {S : Addr → Prop} {H H' : Hp} {a : Addr} (f : Fr S H H') (h : H' a = none) : S a ∨ H a = none := by
  by_cases s : S a
  · exact .inl s
  · refine .inr ?_
    cases e : H a with
    | none => rfl
    | some o =>
      rw [f a o e s] at h
      cases h
theorem Fr.new {S : Addr → Prop} {H H' : Hp} {a : Addr} {o : HO} (f : Fr S H H') (h : H' a = none) : Fr S H (L2.upd H' a o) := f.upd (f.free h)
theorem eqv_nil {ds : List PyData} : PyData.eqv (.list ds) (.list []) = ds.isEmpty := by
  cases ds <;> simp [PyData.eqv, PyData.eqvAll]
theorem rd_neD {K : PySem.W.Frag} {x y : V} {d e : PyData} {H : Hp} {Q : VK} (hd : Dp K H x d) (he : Dp K H y e) (sd : SeqAt.shaped d = true) (se : SeqAt.shaped e = true) (q : Q (.bl (!PyData.eqv d e)) H) : rNeU K x y H Q := .inr ⟨d, e, hd, he, sd, se, q⟩
theorem rd_eqD {K : PySem.W.Frag} {x y : V} {d e : PyData} {H : Hp} {Q : VK} (hd : Dp K H x d) (he : Dp K H y e) (sd : SeqAt.shaped d = true) (se : SeqAt.shaped e = true) (q : Q (.bl (PyData.eqv d e)) H) : rEqU K x y H Q := .inr (.inl ⟨d, e, hd, he, sd, se, q⟩)
theorem rd_eq0 {K : PySem.W.Frag} {a b : Addr} {kvs : List (List Key × V)} {H : Hp} {Q : VK} (ha : H a = some (.dT kvs)) (hb : H b = some (.dT [])) (q : Q (.bl kvs.isEmpty) H) : rEqU K (.ref a) (.ref b) H Q := .inr (.inr ⟨a, b, kvs, rfl, rfl, ha, hb, q⟩)
theorem rd_dget1 {td ty : TE} {σ : L2.St} {H : Hp} {Q : VK} (h : td σ H fun x H1 => ∃ a, x = .ref a ∧ IsD H1 a ∧ ty σ H1 fun y H2 => ∃ o, DGet H2 a y o ∧ Q (o.getD .non) H2) : tDGet1 td ty σ H Q := h
theorem rd_dget2 {td ty tx : TE} {σ : L2.St} {H : Hp} {Q : VK} (h : td σ H fun x H1 => ∃ a, x = .ref a ∧ IsD H1 a ∧ ty σ H1 fun y H2 => tx σ H2 fun z H3 => ∃ o, DGet H3 a y o ∧ Q (o.getD z) H3) : tDGet2 td ty tx σ H Q := h
theorem rd_isdT {a : Addr} {kvs : List (List Key × V)} {H : Hp} {P : Addr → Prop} (h : H a = some (.dT kvs)) (q : P a) : ∃ a', V.ref a = .ref a' ∧ IsD H a' ∧ P a' := ⟨a, rfl, .inr ⟨kvs, .inl h⟩, q⟩
theorem rd_isdK {a : Addr} {kvs : List (Key × V)} {H : Hp} {P : Addr → Prop} (h : H a = some (.dK kvs)) (q : P a) : ∃ a', V.ref a = .ref a' ∧ IsD H a' ∧ P a' := ⟨a, rfl, .inl ⟨kvs, .inl h⟩, q⟩
theorem rd_values {td : TE} {σ : L2.St} {H : Hp} {Q : VK} (h : td σ H fun x H1 => ∃ d kvs, x = .ref d ∧ H1 d = some (.dT kvs) ∧ ∀ p, H1 p = none → Q (.ref p) (upd H1 p (viewO p d))) : tValues td σ H Q := h
theorem rd_pow {i j : Int} {H : Hp} {Q : VK} (h : CPow i j) (q : Q (.int (i ^ j.toNat)) H) : rPowU (.int i) (.int j) H Q := ⟨i, j, rfl, rfl, h, q⟩
theorem rd_max2 {i j : Int} {H : Hp} {Q : VK} (q : Q (.int (if j > i then j else i)) H) : rMax2 [.int i, .int j] H Q := ⟨i, j, rfl, q⟩
theorem rd_min2 {i j : Int} {H : Hp} {Q : VK} (q : Q (.int (if j < i then j else i)) H) : rMin2 [.int i, .int j] H Q := ⟨i, j, rfl, q⟩
theorem rd_slL {K : PySem.W.Frag} {a : Addr} {xs : List V} {lo hi : Option Int} {H : Hp} {Q : VK} (h : SqL K H a xs) (q : ∀ p, H p = none → Q (.ref p) (upd H p (.lst (cutV xs lo hi)))) : rSlU K (.ref a) lo hi H Q := .inl ⟨a, xs, rfl, h, q⟩
theorem rd_sl {r : V → Option Int → Option Int → Hp → VK → Prop} {te : TE} {tl th : TO} {σ : L2.St} {H : Hp} {Q : VK} (h : te σ H fun x H1 => tl σ H1 fun l H2 => th σ H2 fun u H3 => r x l u H3 Q) : tSl r te tl th σ H Q := h
theorem rd_part {te : TE} {σ : L2.St} {H : Hp} {Q : Option Int → Hp → Prop} (h : te σ H fun x H1 => ∃ i, x = .int i ∧ Q (some i) H1) : tPart te σ H Q := h
theorem rd_pint {i : Int} {Q : Int → Prop} (h : Q i) : ∃ j, V.int i = .int j ∧ Q j := ⟨i, rfl, h⟩
theorem rd_pnone {σ : L2.St} {H : Hp} {Q : Option Int → Hp → Prop} (h : Q none H) : tNoPart σ H Q := h
theorem rd_catL {K : PySem.W.Frag} {a b : Addr} {xs ys : List V} {H : Hp} {Q : VK} (ha : H a = some (.lst xs)) (hb : H b = some (.lst ys)) (hl : xs.length + ys.length ≤ sizeLine) (q : ∀ p, H p = none → Q (.ref p) (upd H p (.lst (xs ++ ys)))) : rAddU K (.ref a) (.ref b) H Q := .inr (.inr (.inl ⟨a, b, xs, ys, rfl, rfl, ha, hb, hl, q⟩))

/-- a change of a thing that is none of these -/
theorem TK.upd {H H1 : Hp} {a : Addr} {o : HO} (k : TK H H1) (h : ∀ u, Imm u → H1 a ≠ some u) : TK H (L2.upd H1 a o) := fun b u i e => by
  have e1 := k b u i e
  rw [upd_ne (fun z => h u i (by rw [← z]; exact e1))]
  exact e1
theorem TK.lst {H H1 : Hp} {a : Addr} {o : HO} {xs : List V} (k : TK H H1) (h : H1 a = some (.lst xs)) : TK H (L2.upd H1 a o) := k.upd fun u i e => by rw [h] at e; cases e; exact i
theorem TK.new {H H1 : Hp} {a : Addr} {o : HO} (k : TK H H1) (h : H1 a = none) : TK H (L2.upd H1 a o) := k.upd fun u i e => by rw [h] at e; cases e
/-- the script: a list of ints that nobody can change -/
def Scr (K : PySem.W.Frag) (H : Hp) (a : Addr) (ns : List Int) : Prop := SqL K H a (ns.map V.int) ∧ (∀ H', TK H H' → SqL K H' a (ns.map V.int))
theorem Scr.of_only {K : PySem.W.Frag} {H : Hp} {a : Addr} {ns : List Int} (o : Only H) (h : SqL K H a (ns.map V.int)) : Scr K H a ns := by
  refine ⟨h, fun H' k => ?_⟩
  rcases h with (h | ⟨u, h⟩) | h
  · rcases o a with z | ⟨_, _, z⟩ <;> rw [h] at z <;> cases z
  · exact .inl (.inr ⟨u, k _ _ trivial h⟩)
  · exact .inr h
theorem Scr.tk {K : PySem.W.Frag} {H H' : Hp} {a : Addr} {ns : List Int} (s : Scr K H a ns) (k : TK H H') : Scr K H' a ns := ⟨s.2 H' k, fun H2 k2 => s.2 H2 (k.trans k2)⟩

theorem rd_inL {K : PySem.W.Frag} {p : Addr} {xs : List V} {x : V} {b : Bool} {H : Hp} {Q : VK} (h : SqL K H p xs) (fx : flatV x = true) (fs : xs.all flatV = true) (e : inV x xs = b) (q : Q (.bl b) H) : rInU K x (.ref p) H Q := .inl ⟨p, xs, rfl, .inl h, fx, fs, by rw [e]; exact q⟩
theorem rd_inT {K : PySem.W.Frag} {p : Addr} {xs : List V} {x : V} {b : Bool} {H : Hp} {Q : VK} (h : SqT K H p xs) (fx : flatV x = true) (fs : xs.all flatV = true) (e : inV x xs = b) (q : Q (.bl b) H) : rInU K x (.ref p) H Q := .inl ⟨p, xs, rfl, .inr h, fx, fs, by rw [e]; exact q⟩
theorem rd_clear {l : Addr} {xs : List V} {H : Hp} {Q : VK} (h : H l = some (.lst xs)) (q : Q .non (upd H l (.lst []))) : rClear (.ref l) [] H Q := ⟨l, xs, rfl, rfl, h, q⟩
theorem rd_listL {K : PySem.W.Frag} {a : Addr} {xs : List V} {H : Hp} {Q : VK} (h : SqL K H a xs) (q : ∀ l, H l = none → Q (.ref l) (upd H l (.lst xs))) : rListOf K [.ref a] H Q := ⟨a, xs, rfl, .inl h, q⟩
theorem eqv_self {d : PyData} (h : SeqAt.shaped d = true) : PyData.eqv d d = true := by
  unfold SeqAt.shaped at h
  exact PySem.SeqAt.eqv_refl_plain d (PyData.plain_of_canLay0 d (by simpa using (Bool.and_eq_true_iff.mp h).1))
theorem rd_neSame {K : PySem.W.Frag} {x y : V} {d : PyData} {H : Hp} {Q : VK} (hd : Dp K H x d) (he : Dp K H y d) (sd : SeqAt.shaped d = true) (q : Q (.bl false) H) : rNeU K x y H Q := rd_neD hd he sd sd (by rw [eqv_self sd]; exact q)
theorem cdiv_of {i j : Int} (h : 0 < j) (hj : j.natAbs.log2 < 9000) : CDivW i j := ⟨h, hj⟩
theorem rd_slT {K : PySem.W.Frag} {a : Addr} {xs : List V} {lo hi : Option Int} {H : Hp} {Q : VK} (h : SqT K H a xs) (q1 : HT.sIx xs.length 0 lo = 0 ∧ HT.sIx xs.length xs.length hi = xs.length → Q (.ref a) H)
    (q2 : ¬ (HT.sIx xs.length 0 lo = 0 ∧ HT.sIx xs.length xs.length hi = xs.length) → ∀ p, H p = none → Q (.ref p) (upd H p (.tup (cutV xs lo hi)))) : rSlU K (.ref a) lo hi H Q := .inr (.inl ⟨a, xs, rfl, h, q1, q2⟩)
theorem menu_at {xs : List V} {r : Int} (h0 : 0 ≤ r) (h1 : r < xs.length) : ∃ v, v ∈ xs ∧ atI xs r = some v := by
  have hl : r.toNat < xs.length := by omega
  exact ⟨xs[r.toNat], List.getElem_mem _, atI_int h0 (List.getElem?_eq_getElem hl)⟩
theorem cutV_mem {xs : List V} {lo hi : Option Int} {v : V} (h : v ∈ cutV xs lo hi) : v ∈ xs := List.mem_of_mem_drop (List.mem_of_mem_take h)
theorem cutV_ints {ns : List Int} {lo hi : Option Int} {v : V} (h : v ∈ cutV (ns.map V.int) lo hi) : ∃ i, v = .int i := by
  obtain ⟨i, _, e⟩ := List.mem_map.mp (cutV_mem h)
  exact ⟨i, e.symm⟩
theorem rd_step {K : PySem.W.Frag} {a : Addr} {xs : List V} {i : Int} {H : Hp} {Q : VK} (h : SqL K H a xs) (hi : i = 1 ∨ i = -1) (q : ∀ p, H p = none → Q (.ref p) (upd H p (.lst (if i = 1 then xs else xs.reverse)))) : rStep K (.ref a) (.int i) H Q := ⟨a, xs, i, rfl, rfl, h, hi, q⟩
theorem sq_of {K : PySem.W.Frag} {H : Hp} {a : Addr} {xs : List V} (h : H a = some (.lst xs)) : SqL K H a xs := .inl (.inl h)
theorem st_of {K : PySem.W.Frag} {H : Hp} {a : Addr} {xs : List V} (h : H a = some (.tup xs)) : SqT K H a xs := .inl (.inl h)

theorem rd_lc {wi : TI} {g : TG} {tt : TT} {te : TE} {vs : List Nat} {σ : L2.St} {H : Hp} {Q : VK} (h : wi σ H fun J H1 => ∀ D, H1 D = none → ∃ W : Nat → Nat → Hp → Prop, (∃ m, W 0 m (upd H1 D (.lst []))) ∧ ∀ i m H, W i m H →
    (J.stop i H ∧ Q (.ref D) H) ∨ (J.go i H ∧ ∃ Nx : Hp → Prop, (∀ H', Nx H' → ∃ m', m' < m ∧ W (i + 1) m' H') ∧ ∀ x H', J.yld i H x H' → g x (wipe σ vs) H' fun σ2 H2 => wipe σ2 vs = wipe σ vs ∧ tt σ2 H2 fun b H3 =>
      if b = true then te σ2 H3 fun y H4 => ∃ acc, H4 D = some (.lst acc) ∧ acc.length < sizeLine ∧ Nx (upd H4 D (.lst (acc ++ [y]))) else Nx H3)) : tLc wi g tt te vs σ H Q := h
theorem rd_yes {σ : L2.St} {H : Hp} {Q : Bool → Hp → Prop} (h : Q true H) : tYes σ H Q := h
def top (i : Nat) : Stmt := PySem.Challenge.pw_namehouses_k58_whole_lists_of_any_rows.main.body.getD i (.Pass ⟨0, 0, 0, 0⟩)
abbrev s_is_whole : Stmt := top 5
abbrev s_is_below : Stmt := top 6
abbrev s_Shape_init : Stmt := inClass (top 7) 0
abbrev s_parts_of : Stmt := top 8
abbrev s_back_by : Stmt := top 10
abbrev s__law_cell_at : Stmt := top 12
abbrev s__law_mixed : Stmt := top 13
abbrev s__law_digits : Stmt := top 14
abbrev s__law_next : Stmt := top 15
abbrev s__law_list : Stmt := top 16
abbrev s__law_pairs : Stmt := top 17
abbrev s__law_right : Stmt := top 18
abbrev s_law : Stmt := top 19
def fa : List He.Fa := [.glo "is_whole", .glo "is_below", .mkr "Shape", .glo "parts_of", .glo "back_by", .glo "_law_cell_at", .glo "_law_mixed", .glo "_law_digits", .glo "_law_next", .glo "_law_list", .glo "_law_pairs", .glo "_law_right", .glo "law", .glo "HouseError", .exc "HouseError", .glo "NoShape", .exc "NoShape", .glo "NoName", .exc "NoName", .glo "Shape", .cls "Shape", .noat "Shape" "moments", .noat "Shape" "houses", .noat "Shape" "counts", .free "bool", .free "divmod", .free "int", .free "isinstance", .free "len", .free "list", .free "max", .free "min", .free "range", .free "tuple"]
def fn : List He.DefD := [⟨("is_whole", none), "is_whole", "is_whole", defArgs s_is_whole, defBody s_is_whole, defScope s_is_whole, [], []⟩,
  ⟨("is_below", none), "is_below", "is_below", defArgs s_is_below, defBody s_is_below, defScope s_is_below, [], []⟩,
  ⟨("Shape", some "__init__"), "__init__", "Shape.__init__", defArgs s_Shape_init, defBody s_Shape_init, defScope s_Shape_init, [], []⟩,
  ⟨("parts_of", none), "parts_of", "parts_of", defArgs s_parts_of, defBody s_parts_of, defScope s_parts_of, [], []⟩,
  ⟨("back_by", none), "back_by", "back_by", defArgs s_back_by, defBody s_back_by, defScope s_back_by, [], []⟩,
  ⟨("_law_cell_at", none), "_law_cell_at", "_law_cell_at", defArgs s__law_cell_at, defBody s__law_cell_at, defScope s__law_cell_at, [], []⟩,
  ⟨("_law_mixed", none), "_law_mixed", "_law_mixed", defArgs s__law_mixed, defBody s__law_mixed, defScope s__law_mixed, [], []⟩,
  ⟨("_law_digits", none), "_law_digits", "_law_digits", defArgs s__law_digits, defBody s__law_digits, defScope s__law_digits, [], []⟩,
  ⟨("_law_next", none), "_law_next", "_law_next", defArgs s__law_next, defBody s__law_next, defScope s__law_next, [], []⟩,
  ⟨("_law_list", none), "_law_list", "_law_list", defArgs s__law_list, defBody s__law_list, defScope s__law_list, [], []⟩,
  ⟨("_law_pairs", none), "_law_pairs", "_law_pairs", defArgs s__law_pairs, defBody s__law_pairs, defScope s__law_pairs, [], []⟩,
  ⟨("_law_right", none), "_law_right", "_law_right", defArgs s__law_right, defBody s__law_right, defScope s__law_right, [], []⟩,
  ⟨("law", none), "law", "law", defArgs s_law, defBody s_law, defScope s_law, [], []⟩]
/-- what the top has left -/
structure Tx (Z : Zn) : Prop where
  h : ∃ h : Heap, Z.K.In h ∧ h.Ns mainGlobals Z.mg
  c : He.SaysD fa fn Z.K
section
variable {Z : Zn} (T : Tx Z)
include T
theorem Tx.glo (i : Nat) {x : Str} (e : fa[i]? = some (.glo x) := by rfl) : Z.mg x = some (.ref (He.ga Z.K x)) := by
  obtain ⟨h, X, G⟩ := T.h
  exact He.glo_ok X G (T.c.fact i e)
theorem Tx.free (i : Nat) {x : Str} (e : fa[i]? = some (.free x) := by rfl) : Z.mg x = none := by
  obtain ⟨h, X, G⟩ := T.h
  exact He.free_ok X G (T.c.fact i e)
theorem Tx.str (i : Nat) {x z : Str} (e : fa[i]? = some (.str x z) := by rfl) : ∃ u, Z.mg x = some u ∧ RelV (.str z) u := by
  obtain ⟨h, X, G⟩ := T.h
  obtain ⟨t, q⟩ := He.str_ok X G (T.c.fact i e)
  exact ⟨_, q, t, rfl⟩
theorem Tx.int (i : Nat) {x : Str} {z : Int} (e : fa[i]? = some (.int x z) := by rfl) : ∃ u, Z.mg x = some u ∧ RelV (.int z) u := by
  obtain ⟨h, X, G⟩ := T.h
  obtain ⟨t, q⟩ := He.int_ok X G (T.c.fact i e)
  exact ⟨_, q, t, rfl⟩
theorem Tx.exc (i j : Nat) {x : Str} (e : fa[i]? = some (.exc x) := by rfl) (e2 : fa[j]? = some (.glo x) := by rfl) : XF Z x (He.ga Z.K x) := by
  obtain ⟨h1, h2, h3, h4⟩ := He.exc_ok (T.c.fact i e)
  exact ⟨T.glo j e2, h1, h2, h3, h4⟩
theorem Tx.df (i : Nat) {x qual : Str} {st : Stmt} {p : Str × Option Str} (e : fn[i]? = some ⟨p, x, qual, defArgs st, defBody st, defScope st, [], []⟩ := by rfl) : DF Z x qual st [] (He.fAd Z.K p) := ⟨T.c.def_ i e⟩

theorem n_bool : Z.mg "bool" = none := T.free 24
theorem n_divmod : Z.mg "divmod" = none := T.free 25
theorem n_int : Z.mg "int" = none := T.free 26
theorem n_isinstance : Z.mg "isinstance" = none := T.free 27
theorem n_len : Z.mg "len" = none := T.free 28
theorem n_list : Z.mg "list" = none := T.free 29
theorem n_max : Z.mg "max" = none := T.free 30
theorem n_min : Z.mg "min" = none := T.free 31
theorem n_range : Z.mg "range" = none := T.free 32
theorem n_tuple : Z.mg "tuple" = none := T.free 33
theorem x_HouseError : XF Z "HouseError" (He.ga Z.K "HouseError") := T.exc 14 13
theorem x_NoShape : XF Z "NoShape" (He.ga Z.K "NoShape") := T.exc 16 15
theorem x_NoName : XF Z "NoName" (He.ga Z.K "NoName") := T.exc 18 17
theorem cls_Shape : Cls Z.K (He.ga Z.K "Shape") := He.cls_ok (T.c.fact 20 rfl)
theorem na_Shape_moments : NoAttr Z.K (He.ga Z.K "Shape") "moments" := He.noat_ok (T.c.fact 21 rfl)
theorem na_Shape_houses : NoAttr Z.K (He.ga Z.K "Shape") "houses" := He.noat_ok (T.c.fact 22 rfl)
theorem na_Shape_counts : NoAttr Z.K (He.ga Z.K "Shape") "counts" := He.noat_ok (T.c.fact 23 rfl)
end
local macro_rules | `(tactic| walk_at "ne") => `(tactic| first | assumption | (apply Ne.symm; assumption) | (exact ne_of_none (by assumption) (by assumption)) | (exact Ne.symm (ne_of_none (by assumption) (by assumption))))
local macro_rules | `(tactic| walk_at "hp") => `(tactic| first | assumption | exact upd_same | (refine (upd_ne ?_).trans ?_ <;> first | walk_at "ne" | walk_at "hp"))
local macro_rules | `(tactic| walk_at "sq") => `(tactic| first | assumption | exact .inl (.inl (by walk_at "hp")))
local macro_rules | `(tactic| walk_at "sz") => `(tactic| first | decide | (simp only [List.length_cons, List.length_nil, List.length_map]; decide) | assumption)
local macro_rules | `(tactic| walk_at "rd1") => `(tactic| first
  | with_reducible refine rd_seq ?_
  | ((with_reducible refine rd_var (v := ?vv) ?vh ?vq); case vh => exact rfl)
  | with_reducible refine rd_c ?_
  | with_reducible refine rd_op ?_
  | with_reducible refine rd_asg ?_
  | with_reducible refine rd_gname ?_
  | with_reducible refine rd_if ?_
  | with_reducible refine rd_test ?_
  | with_reducible refine rd_tB ?_
  | with_reducible refine rd_bl ?_
  | with_reducible refine rd_nil ?_
  | with_reducible refine rd_cons ?_
  | with_reducible refine rd_cb ?_
  | with_reducible refine rd_call ?_
  | with_reducible refine rd_spT ?_
  | with_reducible refine rd_ret ?_
  | with_reducible refine rd_drop ?_
  | with_reducible refine rd_next ?_
  | with_reducible refine rd_not ?_
  | with_reducible refine rd_and ?_
  | with_reducible refine rd_or ?_
  | with_reducible refine rd_andV ?_
  | with_reducible refine rd_orV ?_
  | with_reducible refine rd_notV ?_
  | with_reducible refine rd_ifE ?_
  | with_reducible refine rd_tup ?_
  | with_reducible refine rd_lst ?_
  | ((with_reducible refine @rd_sz (_ ≤ sizeLine) _ ?_ ?_); focus walk_at "sz")
  | with_reducible refine rd_un ?_
  | with_reducible refine rd_fldR ?_
  | with_reducible refine rd_chain ?_
  | with_reducible refine rd_make ?_
  | with_reducible refine rd_for ?_
  | with_reducible refine rd_iL ?_
  | with_reducible refine rd_iT ?_
  | with_reducible refine rd_iR1 ?_
  | with_reducible refine rd_iR2 ?_
  | with_reducible refine rd_gsub ?_
  | with_reducible refine rd_sfld ?_
  | with_reducible refine rd_addI ?_
  | with_reducible refine rd_sub ?_
  | with_reducible refine rd_lt ?_
  | with_reducible refine rd_le ?_
  | with_reducible refine rd_gt ?_
  | with_reducible refine rd_ge ?_
  | ((with_reducible refine rd_mod ?_ ?_); focus (first | decide | omega))
  | with_reducible refine rd_isN ?_
  | with_reducible refine rd_bm ?_
  | with_reducible refine rd_bm0 ?_
  | with_reducible refine rd_ckw ?_
  | with_reducible refine rd_lc ?_
  | with_reducible refine rd_yes ?_
  | with_reducible refine rd_dget1 ?_
  | with_reducible refine rd_dget2 ?_
  | with_reducible refine rd_values ?_
  | with_reducible refine rd_sl ?_
  | with_reducible refine rd_part ?_
  | with_reducible refine rd_pint ?_
  | with_reducible refine rd_pnone ?_
  | with_reducible refine rd_max2 ?_
  | with_reducible refine rd_min2 ?_
  | ((with_reducible refine rd_neS ?_ ?_); focus exact rfl)
  | ((with_reducible refine rd_eqS ?_ ?_); focus exact rfl)
  | with_reducible refine rd_notN ?_
  | with_reducible refine rd_retN ?_
  | with_reducible refine iteT ?_
  | with_reducible refine iteF ?_
  | ((with_reducible show ite _ _ _); first | refine iteT ?_ | refine iteF ?_))
local macro_rules | `(tactic| walk_at "rd") => `(tactic| repeat walk_at "rd1")
local macro_rules | `(tactic| walk_at "len") => `(tactic| (intro vs H Q E h; first | (obtain ⟨e, _⟩ := h; rw [e]; rfl) | (obtain ⟨_, e, _⟩ := h; rw [e]; rfl) | (obtain ⟨_, _, e, _⟩ := h; rw [e]; rfl) | (obtain ⟨_, _, _, e, _⟩ := h; rw [e]; rfl) | (obtain ⟨_, _, _, _, e, _⟩ := h; rw [e]; rfl) | (obtain ⟨_, _, _, _, _, e, _⟩ := h; rw [e]; rfl) | (obtain ⟨_, _, _, _, _, _, e, _⟩ := h; rw [e]; rfl) | (obtain ⟨_, _, _, _, _, _, _, e, _⟩ := h; rw [e]; rfl) | (obtain ⟨_, _, _, _, _, _, _, _, e, _⟩ := h; rw [e]; rfl) | (obtain ⟨_, _, _, _, _, _, _, _, _, e, _⟩ := h; rw [e]; rfl) | (obtain ⟨_, _, _, _, _, _, _, _, _, _, e, _⟩ := h; rw [e]; rfl) | (obtain ⟨_, _, _, _, _, _, _, _, _, _, _, e, _⟩ := h; rw [e]; rfl) | (obtain ⟨_, _, _, _, _, _, _, _, _, _, _, _, e, _⟩ := h; rw [e]; rfl) | (obtain ⟨_, _, _, _, _, _, _, _, _, _, _, _, _, e, _⟩ := h; rw [e]; rfl)))
/-! ## is_whole -/
def N_is_whole : List Str := ["thing"]
theorem sc_is_whole : FnScope N_is_whole ["thing"] (defScope s_is_whole) := ⟨rfl, rfl, rfl, by decide +kernel, rfl, by decide +kernel, by decide +kernel⟩
theorem b_is_whole : BindsBy "is_whole" "is_whole" s_is_whole ["thing"] := fun _ _ _ _ _ _ us hl => match us, hl with | [_], _ => rfl
def sp_is_whole (Z : Zn) : Sp := fun vs H Q _ => ∃ x k, vs = [x] ∧ Kd Z.K H x k ∧ Q (.bl (isW x)) H
theorem w_is_whole {Z : Zn} (T : Tx Z) : BodyOk Z N_is_whole "is_whole" s_is_whole (He.fAd Z.K ("is_whole", none)) 0 (sp_is_whole Z) := by
  intro cdv A outer s H vs Q E hr hu tk hx hp h
  have sc := sc_is_whole
  refine ⟨_, (pss_one (ps_ret (pe_and (pe_callB (cb_isinstance) (by rfl) (n_isinstance T) bt_isinstance (pa_cons (pv 0) (pa_cons (pe_ty (n_int T) (by rfl) bt_int) pa_nil))) (pe_one (pe_not (pe_callB (cb_isinstance) (by rfl) (n_isinstance T) bt_isinstance (pa_cons (pv 0) (pa_cons (pe_ty (n_bool T) (by rfl) bt_bool) pa_nil)))))))), ?_⟩
  obtain ⟨x, n, rfl, kd, q⟩ := h
  rw [isW_of kd] at q
  walk_at "rd"
  refine isk_int kd ?_
  walk_at "rd"
  cases n
  all_goals first | exact q | (refine iteT ?_; walk_at "rd"; refine isk_bool kd ?_; walk_at "rd"; exact q)
theorem ok_is_whole {Z : Zn} (T : Tx Z) : GF Z "is_whole" 1 ["thing"] [] (sp_is_whole Z) := GF.of (T.df 0) (T.glo 0) b_is_whole sc_is_whole (by walk_at "len") (w_is_whole T)


/-! ## is_below -/
def N_is_below : List Str := ["thing", "most"]
theorem sc_is_below : FnScope N_is_below ["thing", "most"] (defScope s_is_below) := ⟨rfl, rfl, rfl, by decide +kernel, rfl, by decide +kernel, by decide +kernel⟩
theorem b_is_below : BindsBy "is_below" "is_below" s_is_below ["thing", "most"] := fun _ _ _ _ _ _ us hl => match us, hl with | [_, _], _ => rfl
/-- a whole number from 0 on below m -/
def isB (x : V) (m : Int) : Bool := match x with
  | .int i => decide (0 ≤ i) && decide (i < m)
  | _ => false
theorem isB_not {x : V} {m : Int} (h : isW x = false) : isB x m = false := by
  cases x <;> first | rfl | cases h
def sp_is_below (Z : Zn) : Sp := fun vs H Q _ => ∃ x k m, vs = [x, .int m] ∧ Kd Z.K H x k ∧ Q (.bl (isB x m)) H
theorem w_is_below {Z : Zn} (T : Tx Z) : BodyOk Z N_is_below "is_below" s_is_below (He.fAd Z.K ("is_below", none)) 1 (sp_is_below Z) := by
  intro cdv A outer s H vs Q E hr hu tk hx hp h
  have sc := sc_is_below
  refine ⟨_, (pss_one (ps_ret (pe_and (pe_g (ok_is_whole T) (hr.mono (by decide)) (by rfl) hx (pa_cons (pv 0) pa_nil)) (pe_one (pe_chain op_leU op_ltU pe_int (pv 0) (pv 1)))))), ?_⟩
  obtain ⟨x, n, m, rfl, kd, q⟩ := h
  walk_at "rd"
  refine ⟨x, n, rfl, kd, fun _ => ?_⟩
  walk_at "rd"
  cases x with
  | int i =>
    walk_at "rd"
    cases h : decide (0 ≤ i) with
    | false =>
      walk_at "rd"
      have e : isB (.int i) m = false := by show (decide (0 ≤ i) && _) = false; rw [h]; rfl
      rw [e] at q
      exact q
    | true =>
      walk_at "rd"
      have e : isB (.int i) m = decide (i < m) := by show (decide (0 ≤ i) && _) = _; rw [h]; rfl
      rw [e] at q
      exact q
  | _ => exact iteF q
theorem ok_is_below {Z : Zn} (T : Tx Z) : GF Z "is_below" 2 ["thing", "most"] [] (sp_is_below Z) := GF.of (T.df 1) (T.glo 1) b_is_below sc_is_below (by walk_at "len") (w_is_below T)


/-! ## Shape.__init__ -/
def N_Shape_init : List Str := ["self", "moments", "houses", "counts", "number"]
theorem sc_Shape_init : FnScope N_Shape_init ["self", "moments", "houses", "counts"] (defScope s_Shape_init) := ⟨rfl, rfl, rfl, by decide +kernel, rfl, by decide +kernel, by decide +kernel⟩
theorem b_Shape_init : BindsBy "__init__" "Shape.__init__" s_Shape_init ["self", "moments", "houses", "counts"] := fun _ _ _ _ _ _ us hl => match us, hl with | [_, _, _, _], _ => rfl
/-- a Shape's attributes -/
def shFs (m h c : Int) : List (Str × V) := [("moments", .int m), ("houses", .int h), ("counts", .int c)]
theorem sh_m (m h c : Int) : (shFs m h c).lookup ("moments" : Str) = some (.int m) := by kernel_rfl
theorem sh_h (m h c : Int) : (shFs m h c).lookup ("houses" : Str) = some (.int h) := by kernel_rfl
theorem sh_c (m h c : Int) : (shFs m h c).lookup ("counts" : Str) = some (.int c) := by kernel_rfl
/-- a shape of three numbers stands at p -/
structure ShapeAt (Z : Zn) (H : Hp) (p : Addr) (m h c : Int) : Prop where
  at_ : ∃ dx, H p = some (.ins (He.ga Z.K "Shape") dx (shFs m h c))
  pm : 1 ≤ m
  ph : 1 ≤ h
  pc : 1 ≤ c
  bm : m.natAbs.log2 < 3000
  bh : h.natAbs.log2 < 3000
  bc : c.natAbs.log2 < 3000
theorem ShapeAt.fr {Z : Zn} {S : Addr → Prop} {H H' : Hp} {p : Addr} {m h c : Int} (x : ShapeAt Z H p m h c) (f : Fr S H H') (n : ¬ S p) : ShapeAt Z H' p m h c := ⟨let ⟨dx, e⟩ := x.at_; ⟨dx, f _ _ e n⟩, x.pm, x.ph, x.pc, x.bm, x.bh, x.bc⟩
theorem ShapeAt.same {Z : Zn} {H H' : Hp} {p : Addr} {m h c : Int} (x : ShapeAt Z H p m h c) (f : Same H H') : ShapeAt Z H' p m h c := ⟨let ⟨dx, e⟩ := x.at_; ⟨dx, f _ _ e⟩, x.pm, x.ph, x.pc, x.bm, x.bh, x.bc⟩
theorem sh_moments {Z : Zn} (T : Tx Z) {H : Hp} {p : Addr} {m h c : Int} {Q : VK} (x : ShapeAt Z H p m h c) (q : Q (.int m) H) : rFld Z.K "moments" (.ref p) H Q := let ⟨dx, e⟩ := x.at_; fld_at e (cls_Shape T) (na_Shape_moments T) (sh_m m h c) q
theorem sh_houses {Z : Zn} (T : Tx Z) {H : Hp} {p : Addr} {m h c : Int} {Q : VK} (x : ShapeAt Z H p m h c) (q : Q (.int h) H) : rFld Z.K "houses" (.ref p) H Q := let ⟨dx, e⟩ := x.at_; fld_at e (cls_Shape T) (na_Shape_houses T) (sh_h m h c) q
theorem sh_counts {Z : Zn} (T : Tx Z) {H : Hp} {p : Addr} {m h c : Int} {Q : VK} (x : ShapeAt Z H p m h c) (q : Q (.int c) H) : rFld Z.K "counts" (.ref p) H Q := let ⟨dx, e⟩ := x.at_; fld_at e (cls_Shape T) (na_Shape_counts T) (sh_c m h c) q

theorem shFs1 (m : V) : putF "moments" m [] = ([("moments", m)] : List (Str × V)) := by kernel_rfl
theorem shFs2 (m h : V) : putF "houses" h ([("moments", m)] : List (Str × V)) = ([("moments", m), ("houses", h)] : List (Str × V)) := by kernel_rfl
theorem shFs3 (m h c : V) : putF "counts" c ([("moments", m), ("houses", h)] : List (Str × V)) = ([("moments", m), ("houses", h), ("counts", c)] : List (Str × V)) := by kernel_rfl
/-- numbers that make a shape, of a bounded size -/
def isN1 (x : V) : Bool := match x with
  | .int i => decide (1 ≤ i)
  | _ => false
theorem isN1_int {i : Int} : isN1 (.int i) = decide (1 ≤ i) := rfl
/-- Shape(a, b, c): p the new instance -/
def sp_Shape_init (Z : Zn) : Sp := fun vs H Q E => ∃ p dx a b c ka kb kc, vs = [.ref p, a, b, c] ∧ H p = some (.ins (He.ga Z.K "Shape") dx []) ∧ Kd Z.K H a ka ∧ Kd Z.K H b kb ∧ Kd Z.K H c kc ∧
  (isN1 a = true → isN1 b = true → isN1 c = true → ∀ H', Fr (· = p) H H' → H' p = some (.ins (He.ga Z.K "Shape") dx [("moments", a), ("houses", b), ("counts", c)]) → Q .non H') ∧
  ((isN1 a && isN1 b && isN1 c) = false → ∀ H', Same H H' → E (.ref (He.ga Z.K "NoShape")) none H')
/-- one number's test -/
theorem shape_turn {x : V} : (isW x = false → isN1 x = false) ∧ ∀ i, x = .int i → isN1 x = !decide (i < 1) := by
  refine ⟨fun h => ?_, ?_⟩
  · cases x <;> first | rfl | cases h
  · rintro i rfl
    show decide (1 ≤ i) = !decide (i < 1)
    by_cases h : i < 1
    · rw [decide_eq_true h, decide_eq_false (by omega)]; rfl
    · rw [decide_eq_false h, decide_eq_true (by omega)]; rfl
theorem w_Shape_init {Z : Zn} (T : Tx Z) : BodyOk Z N_Shape_init "Shape.__init__" s_Shape_init (He.fAd Z.K ("Shape", some "__init__")) 1 (sp_Shape_init Z) := by
  intro cdv A outer s H vs Q E hr hu tk hx hp h
  have sc := sc_Shape_init
  refine ⟨_, (pss_cons (ps_for hp rfl (pi_tup (pe_tup (pa_cons (pv 1) (pa_cons (pv 2) (pa_cons (pv 3) pa_nil))))) (pg_name (i := 4) sc.nd rfl (by first | exact Or.inl rfl | exact Or.inr rfl))
    (pss_one (ps_if (PW.pt (pw_or (pt_not (pt_val (pe_g (ok_is_whole T) (hr.mono (by decide)) (by rfl) hx (pa_cons (pv 4) pa_nil)))) (pw_or1 (pt_cmpR op_ltU (pv 4) pe_int (nomark _)))))
    (pss_one (ps_x (x_NoShape T) rfl tk (by rfl)))
    pss_nil)))
    (pss_cons (ps_fld (pv 0) (pv 1) rfl)
    (pss_cons (ps_fld (pv 0) (pv 2) rfl)
    (pss_one (ps_fld (pv 0) (pv 3) rfl))))), ?_⟩
  obtain ⟨p, dx, a, b, c, ka, kb, kc, rfl, hp, da, db, dc, q, qe⟩ := h
  walk_at "rd"
  intro t ht
  have npt : p ≠ t := ne_of_none hp ht
  have s0 : Same H (upd H t (.tup [a, b, c])) := Same.new ht
  walk_at "rd"
  refine ⟨t, rfl, ⟨[a, b, c], .inl (.inl upd_same)⟩, for_tup (K := Z.K) (a := t) (xs := [a, b, c]) (fun i σ H2 => ∃ y, σ = [some (.ref p), some a, some b, some c, y] ∧ H2 = upd H t (.tup [a, b, c]) ∧ (0 < i → isN1 a = true) ∧ (1 < i → isN1 b = true) ∧ (2 < i → isN1 c = true))
    ⟨none, rfl, rfl, by omega, by omega, by omega⟩ (fun i σ H2 _ ⟨_, _, e, _⟩ => by rw [e]; exact .inl (.inl upd_same)) ?_ ?_⟩
  · rintro i x σ H2 hi ⟨y, rfl, rfl, h0, h1, h2⟩
    have hx3 : (i = 0 ∧ x = a) ∨ (i = 1 ∧ x = b) ∨ (i = 2 ∧ x = c) := by
      match i, hi with
      | 0, e => exact .inl ⟨rfl, (Option.some.inj e).symm⟩
      | 1, e => exact .inr (.inl ⟨rfl, (Option.some.inj e).symm⟩)
      | 2, e => exact .inr (.inr ⟨rfl, (Option.some.inj e).symm⟩)
    obtain ⟨kx, dk⟩ : ∃ kx, Kd Z.K (upd H t (.tup [a, b, c])) x kx := by
      rcases hx3 with ⟨_, rfl⟩ | ⟨_, rfl⟩ | ⟨_, rfl⟩
      · exact ⟨ka, da.same s0⟩
      · exact ⟨kb, db.same s0⟩
      · exact ⟨kc, dc.same s0⟩
    have bad : isN1 x = false → E (.ref (He.ga Z.K "NoShape")) none (upd H t (.tup [a, b, c])) := fun e => qe (by
      rcases hx3 with ⟨_, rfl⟩ | ⟨_, rfl⟩ | ⟨_, rfl⟩ <;> rw [e] <;> simp) _ s0
    have good : isN1 x = true → ∃ y, ([some (.ref p), some a, some b, some c, some x] : L2.St) = [some (.ref p), some a, some b, some c, y] ∧ upd H t (.tup [a, b, c]) = upd H t (.tup [a, b, c]) ∧ (0 < i + 1 → isN1 a = true) ∧ (1 < i + 1 → isN1 b = true) ∧ (2 < i + 1 → isN1 c = true) := fun e => by
      refine ⟨some x, rfl, rfl, fun _ => ?_, fun _ => ?_, fun _ => ?_⟩
      · rcases hx3 with ⟨rfl, rfl⟩ | ⟨rfl, rfl⟩ | ⟨rfl, rfl⟩
        · exact e
        · exact h0 (by omega)
        · exact h0 (by omega)
      · rcases hx3 with ⟨rfl, rfl⟩ | ⟨rfl, rfl⟩ | ⟨rfl, rfl⟩
        · omega
        · exact e
        · exact h1 (by omega)
      · rcases hx3 with ⟨rfl, rfl⟩ | ⟨rfl, rfl⟩ | ⟨rfl, rfl⟩
        · omega
        · omega
        · exact e
    walk_at "rd"
    refine ⟨x, kx, rfl, dk, fun _ => ?_⟩
    walk_at "rd"
    cases hw : isW x with
    | false =>
      walk_at "rd"
      exact bad (shape_turn.1 hw)
    | true =>
      cases x with
      | int n =>
        walk_at "rd"
        have e := (shape_turn (x := .int n)).2 n rfl
        cases hn : decide (n < 1) with
        | true =>
          rw [hn] at e
          walk_at "rd"
          exact bad e
        | false =>
          rw [hn] at e
          walk_at "rd"
          exact good e
      | _ => cases hw
  · rintro σ H2 ⟨y, rfl, rfl, h0, h1, h2⟩
    have hp1 : (upd H t (.tup [a, b, c])) p = some (.ins (He.ga Z.K "Shape") dx []) := by rw [upd_ne npt]; exact hp
    walk_at "rd"
    refine put_at hp1 (cls_Shape T) (na_Shape_moments T) (by walk_at "sz") (shFs1 a) ?_
    walk_at "rd"
    refine put_at upd_same (cls_Shape T) (na_Shape_houses T) (by walk_at "sz") (shFs2 a b) ?_
    walk_at "rd"
    refine put_at upd_same (cls_Shape T) (na_Shape_counts T) (by walk_at "sz") (shFs3 a b c) ?_
    refine q (h0 (by show 0 < 3; decide)) (h1 (by show 1 < 3; decide)) (h2 (by show 2 < 3; decide)) _ ?_ upd_same
    refine Fr.upd (Fr.upd (Fr.upd (Fr.of_same s0) (.inl rfl)) (.inl rfl)) (.inl rfl)
theorem ok_Shape {Z : Zn} (T : Tx Z) : CF Z "Shape" (He.ga Z.K "Shape") 2 ["self", "moments", "houses", "counts"] [] (sp_Shape_init Z) := CF.of (T.df (p := ("Shape", some "__init__")) 2) (T.glo 19) (He.mkr_ok (T.c.fact 2 rfl)) b_Shape_init sc_Shape_init (by walk_at "len") (w_Shape_init T)


/-! ## parts_of -/
def N_parts_of : List Str := ["shape", "name", "rest", "count", "moment", "house"]
theorem sc_parts_of : FnScope N_parts_of ["shape", "name"] (defScope s_parts_of) := ⟨rfl, rfl, rfl, by decide +kernel, rfl, by decide +kernel, by decide +kernel⟩
theorem b_parts_of : BindsBy "parts_of" "parts_of" s_parts_of ["shape", "name"] := fun _ _ _ _ _ _ us hl => match us, hl with | [_, _], _ => rfl
/-- the moment, the house, the count of a name -/
def ptsM (h c n : Int) : Int := n / c / h
def ptsH (h c n : Int) : Int := n / c % h
def ptsC (c n : Int) : Int := n % c
def sp_parts_of (Z : Zn) : Sp := fun vs H Q E => ∃ p x k m h c, vs = [.ref p, x] ∧ ShapeAt Z H p m h c ∧ Kd Z.K H x k ∧
  (∀ n, x = .int n → 0 ≤ n → n < m * h * c → ∀ t H', Same H H' → H t = none → H' t = some (.tup [.int (ptsM h c n), .int (ptsH h c n), .int (ptsC c n)]) → Q (.ref t) H') ∧
  (isB x (m * h * c) = false → E (.ref (He.ga Z.K "NoName")) none H)
theorem w_parts_of {Z : Zn} (T : Tx Z) : BodyOk Z N_parts_of "parts_of" s_parts_of (He.fAd Z.K ("parts_of", none)) 2 (sp_parts_of Z) := by
  intro cdv A outer s H vs Q E hr hu tk hx hp h
  have sc := sc_parts_of
  refine ⟨_, (pss_cons (ps_if (pt_not (pt_val (pe_g (ok_is_below T) (hr.mono (by decide)) (by rfl) hx (pa_cons (pv 1) (pa_cons (pe_op op_mulU (pe_op op_mulU (pe_fld (pv 0) rfl) (pe_fld (pv 0) rfl)) (pe_fld (pv 0) rfl)) pa_nil)))))
    (pss_one (ps_x (x_NoName T) rfl tk (by rfl)))
    pss_nil)
    (pss_cons (ps_asg (pe_callB (cb_divmod) (by rfl) (n_divmod T) bt_divmod (pa_cons (pv 1) (pa_cons (pe_fld (pv 0) rfl) pa_nil))) (pg_tup (by rfl) (pgs_cons (pg_name (i := 2) sc.nd rfl (by first | exact Or.inl rfl | exact Or.inr rfl)) (pgs_cons (pg_name (i := 3) sc.nd rfl (by first | exact Or.inl rfl | exact Or.inr rfl)) pgs_nil))))
    (pss_cons (ps_asg (pe_callB (cb_divmod) (by rfl) (n_divmod T) bt_divmod (pa_cons (pv 2) (pa_cons (pe_fld (pv 0) rfl) pa_nil))) (pg_tup (by rfl) (pgs_cons (pg_name (i := 4) sc.nd rfl (by first | exact Or.inl rfl | exact Or.inr rfl)) (pgs_cons (pg_name (i := 5) sc.nd rfl (by first | exact Or.inl rfl | exact Or.inr rfl)) pgs_nil))))
    (pss_one (ps_ret (pe_tup (pa_cons (pv 4) (pa_cons (pv 5) (pa_cons (pv 3) pa_nil))))))))), ?_⟩
  obtain ⟨p, x, k, m, h, c, rfl, S, kd, q, qe⟩ := h
  walk_at "rd"
  refine sh_moments T S ?_
  walk_at "rd"
  refine sh_houses T S ?_
  walk_at "rd"
  have l1 := S.bm
  have l2 := S.bh
  have l3 := S.bc
  have l4 := @log2_mul m h
  refine rd_mulW (mulW_of (by omega) (by omega)) ?_
  walk_at "rd"
  refine sh_counts T S ?_
  walk_at "rd"
  refine rd_mulW (mulW_of (by omega) (by omega)) ?_
  walk_at "rd"
  refine ⟨x, k, _, rfl, kd, fun _ => ?_⟩
  walk_at "rd"
  cases hb : isB x (m * h * c) with
  | false =>
    walk_at "rd"
    exact qe hb
  | true =>
    walk_at "rd"
    cases x with
    | int n =>
      have hb2 := Bool.and_eq_true_iff.mp (show (decide (0 ≤ n) && decide (n < m * h * c)) = true from hb)
      have n0 := of_decide_eq_true hb2.1
      have n1 := of_decide_eq_true hb2.2
      have q := q n rfl n0 n1
      refine sh_counts T S ?_
      have pc := S.pc
      have ph := S.ph
      walk_at "rd"
      refine divmod_at (divP_of (by omega) (by omega)) fun t ht => ?_
      have s1 : Same H (upd H t (.tup [.int (n / c), .int (n % c)])) := Same.new ht
      walk_at "rd"
      refine ⟨t, _, rfl, .inl (.inl upd_same), rfl, _, _, rfl, _, _, rfl, rfl, ?_⟩
      walk_at "rd"
      refine sh_houses T (S.same s1) ?_
      walk_at "rd"
      refine divmod_at (divP_of (by omega) (by omega)) fun t2 ht2 => ?_
      have s2 := s1.upd' (o := .tup [.int (n / c / h), .int (n / c % h)]) (none_of_upd ht2)
      walk_at "rd"
      refine ⟨t2, _, rfl, .inl (.inl upd_same), rfl, _, _, rfl, _, _, rfl, rfl, ?_⟩
      walk_at "rd"
      intro t3 ht3
      exact q t3 _ (s2.upd' (none_of_upd (none_of_upd ht3))) (none_of_upd (none_of_upd ht3)) upd_same
    | _ => cases hb
theorem ok_parts_of {Z : Zn} (T : Tx Z) : GF Z "parts_of" 3 ["shape", "name"] [] (sp_parts_of Z) := GF.of (T.df 3) (T.glo 3) b_parts_of sc_parts_of (by walk_at "len") (w_parts_of T)


/-! ## back_by -/
def N_back_by : List Str := ["shape", "book", "found", "k", "j", "more"]
theorem sc_back_by : FnScope N_back_by ["shape", "book"] (defScope s_back_by) := ⟨rfl, rfl, rfl, by decide +kernel, rfl, by decide +kernel, by decide +kernel⟩
theorem b_back_by : BindsBy "back_by" "back_by" s_back_by ["shape", "book"] := fun _ _ _ _ _ _ us hl => match us, hl with | [_, _], _ => rfl
/-- a row of a world's book: time, holder, name -/
abbrev BRow := V × Str × Int
def BRow.l (r : BRow) : List V := [r.1, .str r.2.1, .int r.2.2]
/-- by how much, for the first j rows ahead of the k-th -/
def bkRow (M : Int → Int) (rows : List BRow) (k : Nat) : Nat → List (Int × Nat × Nat)
  | 0 => []
  | j + 1 => bkRow M rows k j ++ (match rows[j]?, rows[k]? with
    | some a, some b => if a.2.1 = b.2.1 then [] else [(M a.2.2 - M b.2.2, j, k)]
    | _, _ => [])
def bkAll (M : Int → Int) (rows : List BRow) : Nat → List (Int × Nat × Nat)
  | 0 => []
  | k + 1 => bkAll M rows k ++ bkRow M rows k k
def tri (c : Int × Nat × Nat) : List V := [.int c.1, .int c.2.1, .int c.2.2]
theorem bkRow_len (M : Int → Int) (rows : List BRow) (k : Nat) : ∀ j, (bkRow M rows k j).length ≤ j
  | 0 => Nat.le_refl _
  | j + 1 => by
    have ih := bkRow_len M rows k j
    unfold bkRow
    rw [List.length_append]
    have h1 : (match rows[j]?, rows[k]? with
      | some a, some b => if a.2.1 = b.2.1 then [] else [(M a.2.2 - M b.2.2, j, k)]
      | _, _ => ([] : List (Int × Nat × Nat))).length ≤ 1 := by
      split
      · split <;> simp
      · simp
    omega
theorem bkAll_len (M : Int → Int) (rows : List BRow) : ∀ n, (bkAll M rows n).length ≤ n * n
  | 0 => Nat.le_refl _
  | k + 1 => by
    have ih := bkAll_len M rows k
    have h1 := bkRow_len M rows k k
    unfold bkAll
    rw [List.length_append]
    have e : (k + 1) * (k + 1) = k * k + k + (k + 1) := by rw [Nat.mul_add, Nat.add_mul]; omega
    omega
theorem tri_dp {K : PySem.W.Frag} {H : Hp} : ∀ {vs : List V} {cs : List (Int × Nat × Nat)}, Tps H vs (cs.map tri) → DpAll K H vs (cs.map fun c => .tuple [.int c.1, .int c.2.1, .int c.2.2])
  | [], [], _ => .nil
  | _ :: _, [], h => by cases h
  | [], _ :: _, h => by cases h
  | v :: vs, c :: cs, h => by
    cases h with
    | cons r t =>
      obtain ⟨a, rfl, e⟩ := r
      exact .cons (.tup (.inl (.inl e)) (.cons (.int _) (.cons (.int _) (.cons (.int _) .nil)))) (tri_dp t)
open PySem.W in
theorem tri_alike (cs : List (Int × Nat × Nat)) : AlikeAll (cs.map fun c => PyData.tuple [.int c.1, .int c.2.1, .int c.2.2]) := by
  refine ⟨fun x hx y hy => ?_, fun x hx => ?_⟩
  · obtain ⟨c, _, rfl⟩ := List.mem_map.mp hx
    obtain ⟨d, _, rfl⟩ := List.mem_map.mp hy
    rfl
  · obtain ⟨c, _, rfl⟩ := List.mem_map.mp hx
    intro z
    cases z
theorem tri_depth : ∀ cs : List (Int × Nat × Nat), PyData.depthAll (cs.map fun c => PyData.tuple [.int c.1, .int c.2.1, .int c.2.2]) ≤ 2
  | [] => by decide
  | c :: cs => by
    have ih := tri_depth cs
    rw [List.map_cons, PyData.depthAll]
    have h1 : PyData.depth (.tuple [.int c.1, .int c.2.1, .int c.2.2]) ≤ 2 := by
      simp [PyData.depth, PyData.depthAll]
    omega
abbrev triD (c : Int × Nat × Nat) : PyData := .tuple [.int c.1, .int c.2.1, .int c.2.2]
open PySem.W in
theorem triD_lt {a b : Int × Nat × Nat} (h : dataLt (triD a) (triD b) = false) : b.1 ≤ a.1 := by
  have e : dataLt (triD a) (triD b) = PyProof.Rows.lexLt itemOrd (keyToksAll [.int a.1, .int a.2.1, .int a.2.2]) (keyToksAll [.int b.1, .int b.2.1, .int b.2.2]) := dataLt_tuple _ _
  rw [e, dataLt_cons (by simp [alike])] at h
  by_cases e1 : a.1 = b.1
  · omega
  · rw [if_neg (by simpa [PyData.eqv] using e1), dataLt_int] at h
    have := of_decide_eq_false h
    omega
open PySem.W in
theorem triD_lt' {a b : Int × Nat × Nat} (h : dataLt (triD a) (triD b) = true) : a.1 ≤ b.1 := by
  have e : dataLt (triD a) (triD b) = PyProof.Rows.lexLt itemOrd (keyToksAll [.int a.1, .int a.2.1, .int a.2.2]) (keyToksAll [.int b.1, .int b.2.1, .int b.2.2]) := dataLt_tuple _ _
  rw [e, dataLt_cons (by simp [alike])] at h
  by_cases e1 : a.1 = b.1
  · omega
  · rw [if_neg (by simpa [PyData.eqv] using e1), dataLt_int] at h
    have := of_decide_eq_true h
    omega
open PySem.W in
theorem maxD_tri : ∀ (cs : List (Int × Nat × Nat)) (c : Int × Nat × Nat), ∃ m, maxD (triD c) (cs.map triD) = triD m ∧ c.1 ≤ m.1 ∧ ∀ x ∈ cs, x.1 ≤ m.1
  | [], c => ⟨c, rfl, Int.le_refl _, fun x hx => nomatch hx⟩
  | d :: cs, c => by
    have e : maxD (triD c) ((d :: cs).map triD) = maxD (if dataLt (triD c) (triD d) = true then triD d else triD c) (cs.map triD) := rfl
    cases h : dataLt (triD c) (triD d) with
    | true =>
      obtain ⟨m, e1, e2, e3⟩ := maxD_tri cs d
      rw [h, if_pos rfl] at e
      have := triD_lt' h
      refine ⟨m, e.trans e1, by omega, fun x hx => ?_⟩
      rcases List.mem_cons.mp hx with rfl | hx
      · exact e2
      · exact e3 x hx
    | false =>
      obtain ⟨m, e1, e2, e3⟩ := maxD_tri cs c
      rw [h, if_neg Bool.false_ne_true] at e
      have := triD_lt h
      refine ⟨m, e.trans e1, e2, fun x hx => ?_⟩
      rcases List.mem_cons.mp hx with rfl | hx
      · omega
      · exact e3 x hx
theorem triD_inj {a b : Int × Nat × Nat} (h : triD a = triD b) : a = b := by
  obtain ⟨a1, a2, a3⟩ := a
  obtain ⟨b1, b2, b3⟩ := b
  have h1 := PyData.tuple.inj h
  simp only [List.cons.injEq, PyData.int.injEq] at h1
  obtain ⟨h1, h2, h3, _⟩ := h1
  have e2 : a2 = b2 := by omega
  have e3 : a3 = b3 := by omega
  rw [h1, e2, e3]
def sp_back_by (Z : Zn) : Sp := fun vs H Q _ => ∃ p b m h c us rows, vs = [.ref p, .ref b] ∧ ShapeAt Z H p m h c ∧ SqL Z.K H b us ∧ Tps H us (rows.map BRow.l) ∧ rows.length ≤ 1000 ∧ (∀ r ∈ rows, 0 ≤ r.2.2 ∧ r.2.2 < m * h * c) ∧
  (bkAll (ptsM h c) rows rows.length = [] → ∀ H', Same H H' → Q .non H') ∧
  (∀ d (j k : Nat) t H', (d, j, k) ∈ bkAll (ptsM h c) rows rows.length → (∀ x ∈ bkAll (ptsM h c) rows rows.length, x.1 ≤ d) → Same H H' → H' t = some (.tup [.int d, .int j, .int k]) → Q (.ref t) H')
theorem w_back_by {Z : Zn} (T : Tx Z) : BodyOk Z N_back_by "back_by" s_back_by (He.fAd Z.K ("back_by", none)) 3 (sp_back_by Z) := by
  intro cdv A outer s H vs Q E hr hu tk hx hp h
  have sc := sc_back_by
  refine ⟨_, (pss_cons (ps_set (i := 2) sc.nd rfl (by first | exact Or.inl rfl | exact Or.inr rfl) (pe_lst pa_nil))
    (pss_cons (ps_for hp rfl (pi_range1 (by rfl) (n_range T) (pa_cons (pe_callB (cb_len) (by rfl) (n_len T) bt_len (pa_cons (pv 1) pa_nil)) pa_nil)) (pg_name (i := 3) sc.nd rfl (by first | exact Or.inl rfl | exact Or.inr rfl))
    (pss_one (ps_for hp rfl (pi_range1 (by rfl) (n_range T) (pa_cons (pv 3) pa_nil)) (pg_name (i := 4) sc.nd rfl (by first | exact Or.inl rfl | exact Or.inr rfl))
    (pss_one (ps_if (pt_cmpR (op_neU hr.units) (pe_ix (ix_U hu) (pe_ix (ix_U hu) (pv 1) (pv 4) (fun _ _ => rfl)) pe_int (fun _ _ => rfl)) (pe_ix (ix_U hu) (pe_ix (ix_U hu) (pv 1) (pv 3) (fun _ _ => rfl)) pe_int (fun _ _ => rfl)) (nomark _))
    (pss_cons (ps_set (i := 5) sc.nd rfl (by first | exact Or.inl rfl | exact Or.inr rfl) (pe_op op_subU (pe_ix (ix_U hu) (pe_g (ok_parts_of T) (hr.mono (by decide)) (by rfl) hx (pa_cons (pv 0) (pa_cons (pe_ix (ix_U hu) (pe_ix (ix_U hu) (pv 1) (pv 4) (fun _ _ => rfl)) pe_int (fun _ _ => rfl)) pa_nil))) pe_int (fun _ _ => rfl)) (pe_ix (ix_U hu) (pe_g (ok_parts_of T) (hr.mono (by decide)) (by rfl) hx (pa_cons (pv 0) (pa_cons (pe_ix (ix_U hu) (pe_ix (ix_U hu) (pv 1) (pv 3) (fun _ _ => rfl)) pe_int (fun _ _ => rfl)) pa_nil))) pe_int (fun _ _ => rfl))))
    (pss_one (ps_expr (pe_bm PySem.F.plainAttrs_list PySem.F.slot_list_append PySem.F.type_list_append mt_append (pv 2) (pa_cons (pe_tup (pa_cons (pv 5) (pa_cons (pv 4) (pa_cons (pv 3) pa_nil)))) pa_nil)))))
    pss_nil)))))
    (pss_one (ps_ret (pe_callBK (cb_maxD rfl) (by rfl) (n_max T) bt_max (pa_cons (pv 2) pa_nil) (pk_cons pe_non pk_nil)))))), ?_⟩
  obtain ⟨p, b, m, h, c, us, rows, rfl, S, hb, tp, hlen, hok, q0, q1⟩ := h
  have hul : us.length = rows.length := by rw [tp.len, List.length_map]
  walk_at "rd"
  intro F hF
  have s0 : Same H (upd H F (.lst [])) := Same.new hF
  walk_at "rd"
  refine rd_lenL (s0.seq hb) ?_
  rw [hul]
  walk_at "rd"
  refine ⟨(rows.length : Int), rfl, by omega, by omega, for_range (lo := 0) (n := rows.length) (fun k σ H2 => ∃ y3 y4 y5 fs, σ = [some (.ref p), some (.ref b), some (.ref F), y3, y4, y5] ∧ Same H H2 ∧ H2 F = some (.lst fs) ∧ Tps H2 fs ((bkAll (ptsM h c) rows k).map tri)) ?_ ?_ ?_⟩
  · exact ⟨none, none, none, [], rfl, s0, upd_same, .nil⟩
  · rintro k σ H2 hk ⟨y3, y4, y5, fs, rfl, s2, hF2, tf⟩
    have e0 : (0 : Int) + (k : Int) = (k : Int) := Int.zero_add _
    rw [e0]
    walk_at "rd"
    refine ⟨(k : Int), rfl, by omega, by omega, for_range (lo := 0) (n := k) (fun j σ H2 => ∃ y4 y5 fs, σ = [some (.ref p), some (.ref b), some (.ref F), some (.int k), y4, y5] ∧ Same H H2 ∧ H2 F = some (.lst fs) ∧ Tps H2 fs ((bkAll (ptsM h c) rows k ++ bkRow (ptsM h c) rows k j).map tri)) ?_ ?_ ?_⟩
    · exact ⟨y4, y5, fs, rfl, s2, hF2, by rw [show bkRow (ptsM h c) rows k 0 = [] from rfl, List.append_nil]; exact tf⟩
    · rintro j σ H3 hj ⟨z4, z5, gs, rfl, s3, hF3, tg⟩
      rw [Int.zero_add]
      have hjl : j < rows.length := by omega
      have ea : rows[j]? = some rows[j] := List.getElem?_eq_getElem hjl
      have eb : rows[k]? = some rows[k] := List.getElem?_eq_getElem hk
      obtain ⟨ta, va, ha⟩ := tp.at_ (i := j) (d := BRow.l rows[j]) (by rw [List.getElem?_map, ea]; rfl)
      obtain ⟨tb, vb, hbt⟩ := tp.at_ (i := k) (d := BRow.l rows[k]) (by rw [List.getElem?_map, eb]; rfl)
      have glen : gs.length ≤ 1000000 := by
        rw [tg.len, List.length_map, List.length_append]
        have h1 := bkAll_len (ptsM h c) rows k
        have h2 := bkRow_len (ptsM h c) rows k j
        have h3 : k * k ≤ 999 * 999 := Nat.mul_le_mul (by omega) (by omega)
        omega
      have step : bkRow (ptsM h c) rows k (j + 1) = bkRow (ptsM h c) rows k j ++ (if rows[j].2.1 = rows[k].2.1 then [] else [(ptsM h c rows[j].2.2 - ptsM h c rows[k].2.2, j, k)]) := by
        show bkRow (ptsM h c) rows k j ++ _ = _
        rw [ea, eb]
      walk_at "rd"
      refine rd_ixL (s3.seq hb) (atI_nat va) ?_
      walk_at "rd"
      refine rd_ixT (.inl (.inl (s3 _ _ ha))) (v := .str rows[j].2.1) rfl ?_
      walk_at "rd"
      refine rd_ixL (s3.seq hb) (atI_nat vb) ?_
      walk_at "rd"
      refine rd_ixT (.inl (.inl (s3 _ _ hbt))) (v := .str rows[k].2.1) rfl ?_
      walk_at "rd"
      by_cases hne : rows[j].2.1 = rows[k].2.1
      · rw [decide_eq_true (show V.str rows[j].2.1 = V.str rows[k].2.1 by rw [hne])]
        walk_at "rd"
        refine ⟨_, _, gs, rfl, s3, hF3, ?_⟩
        rw [step, if_pos hne, List.append_nil]
        exact tg
      · rw [decide_eq_false (show ¬ V.str rows[j].2.1 = V.str rows[k].2.1 from fun z => hne (V.str.inj z))]
        walk_at "rd"
        refine rd_ixL (s3.seq hb) (atI_nat va) ?_
        walk_at "rd"
        refine rd_ixT (.inl (.inl (s3 _ _ ha))) (v := .int rows[j].2.2) rfl ?_
        walk_at "rd"
        refine ⟨p, _, _, m, h, c, rfl, S.same s3, Kd.int, fun n e n0 n1 t4 H4 s4 _ ht4 _ => ?_, fun z => ?_⟩
        rotate_left
        · have hj2 := hok rows[j] (List.getElem_mem _)
          exact absurd z (by show ¬ ((decide (0 ≤ rows[j].2.2) && decide (rows[j].2.2 < m * h * c)) = false); rw [decide_eq_true hj2.1, decide_eq_true hj2.2]; decide)
        have e := V.int.inj e
        subst e
        walk_at "rd"
        refine rd_ixT (.inl (.inl ht4)) (v := .int (ptsM h c rows[j].2.2)) rfl ?_
        have s4' := s3.trans s4
        walk_at "rd"
        refine rd_ixL (s4'.seq hb) (atI_nat vb) ?_
        walk_at "rd"
        refine rd_ixT (.inl (.inl (s4' _ _ hbt))) (v := .int rows[k].2.2) rfl ?_
        walk_at "rd"
        refine ⟨p, _, _, m, h, c, rfl, S.same s4', Kd.int, fun n e n0 n1 t5 H5 s5 _ ht5 _ => ?_, fun z => ?_⟩
        rotate_left
        · have hj2 := hok rows[k] (List.getElem_mem _)
          exact absurd z (by show ¬ ((decide (0 ≤ rows[k].2.2) && decide (rows[k].2.2 < m * h * c)) = false); rw [decide_eq_true hj2.1, decide_eq_true hj2.2]; decide)
        have e := V.int.inj e
        subst e
        walk_at "rd"
        refine rd_ixT (.inl (.inl ht5)) (v := .int (ptsM h c rows[k].2.2)) rfl ?_
        have s5' := s4'.trans s5
        have hF5 : H5 F = some (.lst gs) := s5 _ _ (s4 _ _ hF3)
        walk_at "rd"
        refine ty_lst hF5 ?_
        walk_at "rd"
        intro t6 ht6
        have hF6 : (upd H5 t6 (.tup [.int (ptsM h c rows[j].2.2 - ptsM h c rows[k].2.2), .int j, .int k])) F = some (.lst gs) := by rw [upd_ne (ne_of_none hF5 ht6)]; exact hF5
        walk_at "rd"
        refine rd_app hF6 (lt_size glen) ?_
        walk_at "rd"
        have ntF : t6 ≠ F := (ne_of_none hF5 ht6).symm
        refine ⟨_, _, _, rfl, (s5'.upd' (s5'.free ht6)).upd' hF, upd_same, ?_⟩
        rw [step, if_neg hne, ← List.append_assoc, List.map_append]
        refine Tps.snoc ?_ (by rw [upd_ne ntF]; exact upd_same)
        have tk5 : TK H3 (upd (upd H5 t6 (.tup [.int (ptsM h c rows[j].2.2 - ptsM h c rows[k].2.2), .int j, .int k])) F (.lst (gs ++ [.ref t6]))) := TK.lst (TK.new (TK.of_same (s4.trans s5)) ht6) hF6
        exact tg.tk tk5
    · rintro σ H3 ⟨z4, z5, gs, rfl, s3, hF3, tg⟩
      exact ⟨_, _, _, gs, rfl, s3, hF3, tg⟩
  · rintro σ H2 ⟨y3, y4, y5, fs, rfl, s2, hF2, tf⟩
    walk_at "rd"
    have dp := tri_dp (K := Z.K) tf
    refine ⟨F, .non, fs, _, rfl, rfl, .inl (.inl hF2), dp, tri_alike _, ?_, fun e => ?_, fun y ys i v e hv hd => ?_⟩
    · have h1 := tri_depth (bkAll (ptsM h c) rows rows.length)
      have h2 := hr.units
      omega
    · exact q0 (List.map_eq_nil_iff.mp e) _ s2
    · cases hb : bkAll (ptsM h c) rows rows.length with
      | nil => rw [hb] at e; cases e
      | cons z zs =>
        rw [hb, List.map_cons] at e
        have e1 := (List.cons.inj e).1
        have e2 := (List.cons.inj e).2
        obtain ⟨mx, m1, m2, m3⟩ := maxD_tri zs z
        have hd2 : ((z :: zs).map triD)[i]? = some (triD mx) := by
          rw [← m1]
          show ((z :: zs).map triD)[i]? = some (PySem.W.maxD (triD z) (zs.map triD))
          rw [hb] at hd
          rw [show triD z = y from e1, show zs.map triD = ys from e2]
          exact hd
        rw [List.getElem?_map] at hd2
        obtain ⟨c0, hc0, hc1⟩ := Option.map_eq_some_iff.mp hd2
        have e3 := triD_inj hc1
        subst e3
        have tf' : Tps H2 fs ((z :: zs).map tri) := by rw [← hb]; exact tf
        obtain ⟨t, ht, ht2⟩ := tf'.at_ (i := i) (d := tri c0) (by rw [List.getElem?_map, hc0]; rfl)
        rw [ht] at hv
        have hv2 := Option.some.inj hv
        rw [← hv2]
        refine q1 c0.1 c0.2.1 c0.2.2 t H2 ?_ ?_ s2 ht2
        · rw [hb]
          exact List.mem_of_getElem? hc0
        · rw [hb]
          intro x hx
          rcases List.mem_cons.mp hx with rfl | hx
          · exact m2
          · exact m3 x hx
theorem ok_back_by {Z : Zn} (T : Tx Z) : GF Z "back_by" 4 ["shape", "book"] [] (sp_back_by Z) := GF.of (T.df 4) (T.glo 4) b_back_by sc_back_by (by walk_at "len") (w_back_by T)


/-! ## _law_cell_at -/
def N__law_cell_at : List Str := ["script", "k"]
theorem sc__law_cell_at : FnScope N__law_cell_at ["script", "k"] (defScope s__law_cell_at) := ⟨rfl, rfl, rfl, by decide +kernel, rfl, by decide +kernel, by decide +kernel⟩
theorem b__law_cell_at : BindsBy "_law_cell_at" "_law_cell_at" s__law_cell_at ["script", "k"] := fun _ _ _ _ _ _ us hl => match us, hl with | [_, _], _ => rfl
/-- the k-th number of the script, or 0 -/
def cellAt (ns : List Int) (k : Int) : Int := (ns[k.toNat]?).getD 0
def sp__law_cell_at (Z : Zn) : Sp := fun vs H Q _ => ∃ a ns k, vs = [.ref a, .int k] ∧ SqL Z.K H a (ns.map V.int) ∧ 0 ≤ k ∧ Q (.int (cellAt ns k)) H
theorem w__law_cell_at {Z : Zn} (T : Tx Z) : BodyOk Z N__law_cell_at "_law_cell_at" s__law_cell_at (He.fAd Z.K ("_law_cell_at", none)) 0 (sp__law_cell_at Z) := by
  intro cdv A outer s H vs Q E hr hu tk hx hp h
  have sc := sc__law_cell_at
  refine ⟨_, (pss_cons (ps_if (pt_cmpR op_ltU (pv 1) (pe_callB (cb_len) (by rfl) (n_len T) bt_len (pa_cons (pv 0) pa_nil)) (nomark _))
    (pss_one (ps_ret (pe_ix (ix_U hu) (pv 0) (pv 1) (fun _ _ => rfl))))
    pss_nil)
    (pss_one (ps_ret pe_int))), ?_⟩
  obtain ⟨a, ns, k, rfl, hS, hk, q⟩ := h
  walk_at "rd"
  refine .inl ⟨a, _, rfl, .inl hS, ?_⟩
  walk_at "rd"
  rw [List.length_map]
  cases hc : decide (k < (ns.length : Int)) with
  | true =>
    have hk2 := of_decide_eq_true hc
    have hl : k.toNat < ns.length := by omega
    walk_at "rd"
    refine rd_ixL hS (v := .int (ns[k.toNat])) ?_ ?_
    · exact atI_int hk (by rw [List.getElem?_map, List.getElem?_eq_getElem hl]; rfl)
    · have e : cellAt ns k = ns[k.toNat] := by unfold cellAt; rw [List.getElem?_eq_getElem hl]; rfl
      rw [e] at q
      exact q
  | false =>
    have hk2 := of_decide_eq_false hc
    walk_at "rd"
    have e : cellAt ns k = 0 := by unfold cellAt; rw [List.getElem?_eq_none (by omega)]; rfl
    rw [e] at q
    exact q
theorem ok__law_cell_at {Z : Zn} (T : Tx Z) : GF Z "_law_cell_at" 1 ["script", "k"] [] (sp__law_cell_at Z) := GF.of (T.df 5) (T.glo 5) b__law_cell_at sc__law_cell_at (by walk_at "len") (w__law_cell_at T)


/-! ## _law_mixed -/
def N__law_mixed : List Str := ["cell", "k", "number"]
theorem sc__law_mixed : FnScope N__law_mixed ["cell", "k"] (defScope s__law_mixed) := ⟨rfl, rfl, rfl, by decide +kernel, rfl, by decide +kernel, by decide +kernel⟩
theorem b__law_mixed : BindsBy "_law_mixed" "_law_mixed" s__law_mixed ["cell", "k"] := fun _ _ _ _ _ _ us hl => match us, hl with | [_, _], _ => rfl
def sp__law_mixed (Z : Zn) : Sp := fun vs H Q _ => ∃ c k : Int, vs = [.int c, .int k] ∧ ∀ r, Q (.int r) H
theorem cmul_l {i j : Int} (h : -(2 ^ 64) < i ∧ i < 2 ^ 64) : CMul i j := .inl h
theorem cmul_r {i j : Int} (h : -(2 ^ 64) < j ∧ j < 2 ^ 64) : CMul i j := .inr h
theorem cmul_mod {x n j : Int} (h : 0 < n) (h2 : n < 2 ^ 64) : CMul (x % n) j := .inl (by
  have h3 := Int.emod_nonneg x (show n ≠ 0 by omega)
  have h4 := Int.emod_lt_of_pos x h
  omega)
theorem w__law_mixed {Z : Zn} (T : Tx Z) : BodyOk Z N__law_mixed "_law_mixed" s__law_mixed (He.fAd Z.K ("_law_mixed", none)) 0 (sp__law_mixed Z) := by
  intro cdv A outer s H vs Q E hr hu tk hx hp h
  have sc := sc__law_mixed
  refine ⟨_, (pss_cons (ps_set (i := 2) sc.nd rfl (by first | exact Or.inl rfl | exact Or.inr rfl) (pe_op op_modU (pe_op op_mulU (pe_op op_addU (pe_op op_addU (pe_op op_modU (pv 0) pe_int) (pe_op op_mulU pe_int (pv 1))) pe_int) pe_int) pe_int))
    (pss_cons (ps_set (i := 2) sc.nd rfl (by first | exact Or.inl rfl | exact Or.inr rfl) (pe_op op_modU (pe_op op_mulU (pv 2) (pe_op op_addU (pe_op op_divU (pv 2) pe_int) pe_int)) pe_int))
    (pss_cons (ps_set (i := 2) sc.nd rfl (by first | exact Or.inl rfl | exact Or.inr rfl) (pe_op op_modU (pe_op op_mulU (pv 2) (pe_op op_addU (pe_op op_addU (pe_op op_divU (pv 2) pe_int) pe_int) (pv 1))) pe_int))
    (pss_one (ps_ret (pe_op op_modU (pe_op op_mulU (pv 2) (pe_op op_addU (pe_op op_divU (pv 2) pe_int) pe_int)) pe_int)))))), ?_⟩
  obtain ⟨c, k, rfl, q⟩ := h
  walk_at "rd"
  refine rd_mul (cmul_l (by decide)) ?_
  walk_at "rd"
  refine rd_mul (cmul_r (by decide)) ?_
  walk_at "rd"
  refine rd_div (cdiv_of (by decide) (by decide)) ?_
  walk_at "rd"
  refine rd_mul (cmul_mod (by decide) (by decide)) ?_
  walk_at "rd"
  refine rd_div (cdiv_of (by decide) (by decide)) ?_
  walk_at "rd"
  refine rd_mul (cmul_mod (by decide) (by decide)) ?_
  walk_at "rd"
  refine rd_div (cdiv_of (by decide) (by decide)) ?_
  walk_at "rd"
  refine rd_mul (cmul_mod (by decide) (by decide)) ?_
  walk_at "rd"
  exact q _
theorem ok__law_mixed {Z : Zn} (T : Tx Z) : GF Z "_law_mixed" 1 ["cell", "k"] [] (sp__law_mixed Z) := GF.of (T.df 6) (T.glo 6) b__law_mixed sc__law_mixed (by walk_at "len") (w__law_mixed T)


/-! ## _law_digits -/
def N__law_digits : List Str := ["cell"]
theorem sc__law_digits : FnScope N__law_digits ["cell"] (defScope s__law_digits) := ⟨rfl, rfl, rfl, by decide +kernel, rfl, by decide +kernel, by decide +kernel⟩
theorem b__law_digits : BindsBy "_law_digits" "_law_digits" s__law_digits ["cell"] := fun _ _ _ _ _ _ us hl => match us, hl with | [_], _ => rfl
/-- a source of draws: what its list holds -/
structure Src where
  d : Int
  c : Int
  n : Int
def Src.l (s : Src) : List V := [.int s.d, .int s.c, .int s.n]
def sp__law_digits (Z : Zn) : Sp := fun vs H Q _ => ∃ c : Int, vs = [.int c] ∧ ∀ p s, H p = none → Q (.ref p) (upd H p (.lst (Src.l s)))
theorem w__law_digits {Z : Zn} (T : Tx Z) : BodyOk Z N__law_digits "_law_digits" s__law_digits (He.fAd Z.K ("_law_digits", none)) 0 (sp__law_digits Z) := by
  intro cdv A outer s H vs Q E hr hu tk hx hp h
  have sc := sc__law_digits
  refine ⟨_, (pss_one (ps_ret (pe_lst (pa_cons (pe_op op_mulU (pe_op op_divU (pv 0) pe_int) (pe_op op_subU pe_int (pe_op op_modU (pv 0) pe_int))) (pa_cons (pv 0) (pa_cons pe_int pa_nil)))))), ?_⟩
  obtain ⟨c, rfl, q⟩ := h
  walk_at "rd"
  refine rd_div (cdiv_of (by decide) (by decide)) ?_
  walk_at "rd"
  refine rd_mul (cmul_r (by omega)) ?_
  walk_at "rd"
  exact fun p hp => q p ⟨_, _, _⟩ hp
theorem ok__law_digits {Z : Zn} (T : Tx Z) : GF Z "_law_digits" 1 ["cell"] [] (sp__law_digits Z) := GF.of (T.df 7) (T.glo 7) b__law_digits sc__law_digits (by walk_at "len") (w__law_digits T)


/-! ## _law_next -/
def N__law_next : List Str := ["source", "many", "found"]
theorem sc__law_next : FnScope N__law_next ["source", "many"] (defScope s__law_next) := ⟨rfl, rfl, rfl, by decide +kernel, rfl, by decide +kernel, by decide +kernel⟩
theorem b__law_next : BindsBy "_law_next" "_law_next" s__law_next ["source", "many"] := fun _ _ _ _ _ _ us hl => match us, hl with | [_, _], _ => rfl
/-- a draw below m: some number of 0 .. m - 1, the source turned -/
def sp__law_next (Z : Zn) : Sp := fun vs H Q _ => ∃ a s m, vs = [.ref a, .int m] ∧ H a = some (.lst (Src.l s)) ∧ 0 < m ∧ m.natAbs.log2 < 9000 ∧ ∀ r s', 0 ≤ r → r < m → Q (.int r) (upd H a (.lst (Src.l s')))
theorem w__law_next {Z : Zn} (T : Tx Z) : BodyOk Z N__law_next "_law_next" s__law_next (He.fAd Z.K ("_law_next", none)) 1 (sp__law_next Z) := by
  intro cdv A outer s H vs Q E hr hu tk hx hp h
  have sc := sc__law_next
  refine ⟨_, (pss_cons (ps_if (pt_cmpR op_gtU (pe_ix (ix_U hu) (pv 0) pe_int (fun _ _ => rfl)) pe_int (nomark _))
    (pss_cons (ps_set (i := 2) sc.nd rfl (by first | exact Or.inl rfl | exact Or.inr rfl) (pe_op op_modU (pe_ix (ix_U hu) (pv 0) pe_int (fun _ _ => rfl)) (pv 1)))
    (pss_cons (ps_asg (pe_op op_divU (pe_ix (ix_U hu) (pv 0) pe_int (fun _ _ => rfl)) (pv 1)) (pg_sub (pv 0) pe_int (set_U hu)))
    (pss_one (ps_ret (pv 2)))))
    pss_nil)
    (pss_cons (ps_asg (pe_op op_addU (pe_ix (ix_U hu) (pv 0) pe_int (fun _ _ => rfl)) pe_int) (pg_sub (pv 0) pe_int (set_U hu)))
    (pss_one (ps_ret (pe_op op_modU (pe_g (ok__law_mixed T) (hr.mono (by decide)) (by rfl) hx (pa_cons (pe_ix (ix_U hu) (pv 0) pe_int (fun _ _ => rfl)) (pa_cons (pe_ix (ix_U hu) (pv 0) pe_int (fun _ _ => rfl)) pa_nil))) (pv 1)))))), ?_⟩
  obtain ⟨a, s, m, rfl, hS, hm, hl, q⟩ := h
  have fin : ∀ (x : Int) (s' : Src), Q (.int (x % m)) (upd H a (.lst (Src.l s'))) := fun x s' => q _ _ (Int.emod_nonneg _ (by omega)) (Int.emod_lt_of_pos _ hm)
  have h1 : SqL Z.K H a (Src.l s) := .inl (.inl hS)
  walk_at "rd"
  refine rd_ixL h1 (v := .int s.d) rfl ?_
  walk_at "rd"
  cases hc : decide (0 < s.d) with
  | true =>
    walk_at "rd"
    refine rd_ixL h1 (v := .int s.d) rfl ?_
    walk_at "rd"
    refine rd_ixL h1 (v := .int s.d) rfl ?_
    walk_at "rd"
    refine rd_div (cdiv_of hm hl) ?_
    walk_at "rd"
    refine set_at hS (j := 0) rfl ?_
    walk_at "rd"
    exact fin s.d ⟨s.d / m, s.c, s.n⟩
  | false =>
    walk_at "rd"
    refine rd_ixL h1 (v := .int s.n) rfl ?_
    walk_at "rd"
    refine set_at hS (j := 2) rfl ?_
    have h2 : SqL Z.K (upd H a (.lst (Src.l ⟨s.d, s.c, s.n + 1⟩))) a (Src.l ⟨s.d, s.c, s.n + 1⟩) := .inl (.inl upd_same)
    walk_at "rd"
    refine rd_ixL h2 (v := .int s.c) rfl ?_
    walk_at "rd"
    refine rd_ixL h2 (v := .int (s.n + 1)) rfl ?_
    walk_at "rd"
    refine ⟨_, _, rfl, fun r _ => ?_⟩
    walk_at "rd"
    exact fin r ⟨s.d, s.c, s.n + 1⟩
theorem ok__law_next {Z : Zn} (T : Tx Z) : GF Z "_law_next" 2 ["source", "many"] [] (sp__law_next Z) := GF.of (T.df 8) (T.glo 8) b__law_next sc__law_next (by walk_at "len") (w__law_next T)
/-- only the source at d was turned since H0 (and things made) -/
structure Drawn (d : Addr) (H0 H : Hp) : Prop where
  fr : Fr (· = d) H0 H
  at_ : ∃ s : Src, H d = some (.lst (Src.l s))
theorem Drawn.start {d : Addr} {H : Hp} {s : Src} (h : H d = some (.lst (Src.l s))) : Drawn d H H := ⟨Fr.refl _ _, s, h⟩
theorem Drawn.new {d a : Addr} {H0 H : Hp} {o : HO} (x : Drawn d H0 H) (h : H a = none) : Drawn d H0 (upd H a o) := by
  obtain ⟨s, e⟩ := x.at_
  exact ⟨x.fr.new h, s, by rw [upd_ne (ne_of_none e h)]; exact e⟩
theorem Drawn.same {d : Addr} {H0 H H' : Hp} (x : Drawn d H0 H) (h : Same H H') : Drawn d H0 H' := by
  obtain ⟨s, e⟩ := x.at_
  exact ⟨x.fr.trans (Fr.of_same h), s, h _ _ e⟩
theorem Drawn.get {d a : Addr} {H0 H : Hp} {o : HO} (x : Drawn d H0 H) (h : H0 a = some o) (n : a ≠ d) : H a = some o := x.fr a o h n
theorem Drawn.tk {d : Addr} {H0 H : Hp} (x : Drawn d H0 H) {s : Src} (h : H0 d = some (.lst (Src.l s))) : TK H0 H := fun b o i e => x.fr b _ e (by rintro rfl; rw [h] at e; cases e; exact i)
/-- a draw -/
theorem nx_step {Z : Zn} {d : Addr} {m : Int} {H0 H : Hp} {Q : VK} {E : XK} (I : Drawn d H0 H) (hm : 0 < m) (hl : m.natAbs.log2 < 9000) (k : ∀ r H', 0 ≤ r → r < m → Drawn d H0 H' → TK H H' → (∀ b o, H b = some o → b ≠ d → H' b = some o) → Q (.int r) H') : spT (sp__law_next Z) ([V.ref d, V.int m] ++ []) H Q E := by
  obtain ⟨s, e⟩ := I.at_
  refine ⟨d, s, m, rfl, e, hm, hl, fun r s' h0 h1 tk => k r _ h0 h1 ⟨?_, s', upd_same⟩ tk fun b o hb nb => ?_⟩
  · exact I.fr.trans (Fr.one rfl)
  · rw [upd_ne nb]
    exact hb

/-! ## _law_list -/
def N__law_list : List Str := ["script", "source", "sizes", "rows", "whole", "near", "cell", "draw", "time", "holder", "beside", "row"]
theorem sc__law_list : FnScope N__law_list ["script", "source", "sizes"] (defScope s__law_list) := ⟨rfl, rfl, rfl, by decide +kernel, rfl, by decide +kernel, by decide +kernel⟩
theorem b__law_list : BindsBy "_law_list" "_law_list" s__law_list ["script", "source", "sizes"] := fun _ _ _ _ _ _ us hl => match us, hl with | [_, _, _], _ => rfl
/-- a row that back_by may be asked of -/
def RowOk (w : Int) (r : BRow) : Prop := (∃ i, r.1 = .int i) ∧ PyData.strOk r.2.1 = true ∧ 0 ≤ r.2.2 ∧ r.2.2 < w
def GoodV (w : Int) (H : Hp) (v : V) : Prop := ∃ r, RowOk w r ∧ ∃ t, v = .ref t ∧ H t = some (.tup (BRow.l r))
theorem GoodV.tk {w : Int} {H H' : Hp} {v : V} (g : GoodV w H v) (k : TK H H') : GoodV w H' v := let ⟨r, a, t, b, c⟩ := g; ⟨r, a, t, b, k.tup c⟩
theorem good_rows {w : Int} {H : Hp} : ∀ {vs : List V}, (∀ v ∈ vs, GoodV w H v) → ∃ rows : List BRow, Tps H vs (rows.map BRow.l) ∧ ∀ r ∈ rows, RowOk w r
  | [], _ => ⟨[], .nil, fun r hr => nomatch hr⟩
  | v :: vs, h => by
    obtain ⟨rows, h1, h2⟩ := good_rows (vs := vs) fun x hx => h x (List.mem_cons_of_mem _ hx)
    obtain ⟨r, a, t, e, g⟩ := h v List.mem_cons_self
    refine ⟨r :: rows, .cons ⟨t, e, g⟩ h1, fun x hx => ?_⟩
    rcases List.mem_cons.mp hx with rfl | hx
    · exact a
    · exact h2 x hx
theorem good_dp {w : Int} {K : PySem.W.Frag} {H : Hp} : ∀ {vs : List V}, (∀ v ∈ vs, GoodV w H v) → ∃ ds, DpAll K H vs ds ∧ ds.length = vs.length ∧ PyData.canLayAll0 ds = true ∧ PyData.depthAll ds ≤ 2
  | [], _ => ⟨[], .nil, rfl, rfl, by simp [PyData.depthAll]⟩
  | v :: vs, h => by
    obtain ⟨ds, h1, h2, h3, h4⟩ := good_dp (K := K) (vs := vs) fun x hx => h x (List.mem_cons_of_mem _ hx)
    obtain ⟨r, ⟨⟨i, ei⟩, so, _⟩, t, e, g⟩ := h v List.mem_cons_self
    obtain ⟨r1, r2, r3⟩ := r
    subst ei
    subst e
    refine ⟨.tuple [.int i, .str r2, .int r3] :: ds, .cons (.tup (.inl (.inl g)) (.cons (.int _) (.cons (.str _) (.cons (.int _) .nil)))) h1, congrArg Nat.succ h2, ?_, ?_⟩
    · have so2 : PyData.strOk r2 = true := so
      simp [PyData.canLayAll0, PyData.canLay0, so2, h3]
    · rw [PyData.depthAll]
      have : PyData.depth (.tuple [.int i, .str r2, .int r3]) ≤ 2 := by simp [PyData.depth, PyData.depthAll]
      omega
theorem good_shaped {w : Int} {K : PySem.W.Frag} {H : Hp} {vs : List V} {a : Addr} (h : ∀ v ∈ vs, GoodV w H v) (e : H a = some (.lst vs)) : ∃ ds, Dp K H (.ref a) (.list ds) ∧ SeqAt.shaped (.list ds) = true ∧ ds.length = vs.length := by
  obtain ⟨ds, h1, h2, h3, h4⟩ := good_dp (K := K) h
  refine ⟨ds, .lst (.inl (.inl e)) h1, ?_, h2⟩
  unfold SeqAt.shaped
  rw [show PyData.canLay0 (.list ds) = PyData.canLayAll0 ds from rfl, h3, decide_eq_true (show PyData.depth (.list ds) ≤ 64 by rw [PyData.depth]; omega)]
  rfl
def sp__law_list (Z : Zn) : Sp := fun vs H Q _ => ∃ a ns s src z m h c, vs = [.ref a, .ref s, .ref z] ∧ Scr Z.K H a ns ∧ ns.length ≤ 63 ∧ H s = some (.lst (Src.l src)) ∧ H z = some (.tup [.int m, .int h, .int c]) ∧ 1 ≤ m ∧ 1 ≤ h ∧ 1 ≤ c ∧ m.natAbs.log2 < 100 ∧ h.natAbs.log2 < 100 ∧ c.natAbs.log2 < 100 ∧
  ∀ R us H', Fr (· = s) H H' → (∃ s', H' s = some (.lst (Src.l s'))) → H R = none → R ≠ s → H' R = some (.lst us) → (∀ v ∈ us, GoodV (m * h * c) H' v) → us.length ≤ 200 → Q (.ref R) H'
theorem menu_strs {v : V} (h : v ∈ ([.str "a", .str "an", .str "anna", .str "ann", .str "b", .str "ba", .str "annaanna"] : List V)) : ∃ x, v = .str x ∧ PyData.strOk x = true := by
  simp only [List.mem_cons, List.not_mem_nil, or_false] at h
  rcases h with rfl | rfl | rfl | rfl | rfl | rfl | rfl <;> exact ⟨_, rfl, by decide +kernel⟩
theorem w__law_list {Z : Zn} (T : Tx Z) : BodyOk Z N__law_list "_law_list" s__law_list (He.fAd Z.K ("_law_list", none)) 2 (sp__law_list Z) := by
  intro cdv A outer s H vs Q E hr hu tk hx hp h
  have sc := sc__law_list
  refine ⟨_, (pss_cons (ps_set (i := 3) sc.nd rfl (by first | exact Or.inl rfl | exact Or.inr rfl) (pe_lst pa_nil))
    (pss_cons (ps_set (i := 4) sc.nd rfl (by first | exact Or.inl rfl | exact Or.inr rfl) (pe_op op_mulU (pe_op op_mulU (pe_ix (ix_U hu) (pv 2) pe_int (fun _ _ => rfl)) (pe_ix (ix_U hu) (pv 2) pe_int (fun _ _ => rfl))) (pe_ix (ix_U hu) (pv 2) pe_int (fun _ _ => rfl))))
    (pss_cons (ps_set (i := 5) sc.nd rfl (by first | exact Or.inl rfl | exact Or.inr rfl) (pe_g (ok__law_next T) (hr.mono (by decide)) (by rfl) hx (pa_cons (pv 1) (pa_cons (pv 4) pa_nil))))
    (pss_cons (ps_for hp rfl (pi_list (pe_slice sl_U (pv 0) (po_some pe_int) (po_some pe_int))) (pg_name (i := 6) sc.nd rfl (by first | exact Or.inl rfl | exact Or.inr rfl))
    (pss_cons (ps_set (i := 7) sc.nd rfl (by first | exact Or.inl rfl | exact Or.inr rfl) (pe_g (ok__law_digits T) (hr.mono (by decide)) (by rfl) hx (pa_cons (pv 6) pa_nil)))
    (pss_cons (ps_set (i := 8) sc.nd rfl (by first | exact Or.inl rfl | exact Or.inr rfl) (pe_ix (ix_U hu) (pe_lst (pa_cons (pe_g (ok__law_next T) (hr.mono (by decide)) (by rfl) hx (pa_cons (pv 7) (pa_cons pe_int pa_nil))) (pa_cons (pe_op op_subU pe_int (pe_g (ok__law_next T) (hr.mono (by decide)) (by rfl) hx (pa_cons (pv 7) (pa_cons (pe_op op_powU pe_int pe_int) pa_nil)))) (pa_cons pe_int pa_nil)))) (pe_g (ok__law_next T) (hr.mono (by decide)) (by rfl) hx (pa_cons (pv 7) (pa_cons pe_int pa_nil))) (fun _ _ => rfl)))
    (pss_cons (ps_set (i := 9) sc.nd rfl (by first | exact Or.inl rfl | exact Or.inr rfl) (pe_ix (ix_U hu) (pe_lst (pa_cons pe_str (pa_cons pe_str (pa_cons pe_str (pa_cons pe_str (pa_cons pe_str (pa_cons pe_str (pa_cons pe_str pa_nil)))))))) (pe_g (ok__law_next T) (hr.mono (by decide)) (by rfl) hx (pa_cons (pv 7) (pa_cons pe_int pa_nil))) (fun _ _ => rfl)))
    (pss_cons (ps_set (i := 10) sc.nd rfl (by first | exact Or.inl rfl | exact Or.inr rfl) (pe_callB (cb_min2 rfl) (by rfl) (n_min T) bt_min (pa_cons (pe_op op_subU (pv 4) pe_int) (pa_cons (pe_op op_addU (pv 5) (pe_g (ok__law_next T) (hr.mono (by decide)) (by rfl) hx (pa_cons (pv 7) (pa_cons (pe_op op_mulU (pe_op op_mulU pe_int (pe_ix (ix_U hu) (pv 2) pe_int (fun _ _ => rfl))) (pe_ix (ix_U hu) (pv 2) pe_int (fun _ _ => rfl))) pa_nil)))) pa_nil))))
    (pss_cons (ps_set (i := 11) sc.nd rfl (by first | exact Or.inl rfl | exact Or.inr rfl) (pe_tup (pa_cons (pv 8) (pa_cons (pv 9) (pa_cons (pe_ix (ix_U hu) (pe_lst (pa_cons (pe_g (ok__law_next T) (hr.mono (by decide)) (by rfl) hx (pa_cons (pv 7) (pa_cons (pv 4) pa_nil))) (pa_cons (pv 10) pa_nil))) (pe_g (ok__law_next T) (hr.mono (by decide)) (by rfl) hx (pa_cons (pv 7) (pa_cons pe_int pa_nil))) (fun _ _ => rfl)) pa_nil)))))
    (pss_cons (ps_if (PW.pt (pw_and (pt_cmpR (op_neU hr.units) (pv 3) (pe_lst pa_nil) (nomark _)) (pw_and1 (pt_cmpR (op_eqU hr.units) (pe_g (ok__law_next T) (hr.mono (by decide)) (by rfl) hx (pa_cons (pv 7) (pa_cons pe_int pa_nil))) pe_int (nomark _)))))
    (pss_one (ps_set (i := 11) sc.nd rfl (by first | exact Or.inl rfl | exact Or.inr rfl) (pe_ix (ix_U hu) (pv 3) (pe_g (ok__law_next T) (hr.mono (by decide)) (by rfl) hx (pa_cons (pv 7) (pa_cons (pe_callB (cb_len) (by rfl) (n_len T) bt_len (pa_cons (pv 3) pa_nil)) pa_nil))) (fun _ _ => rfl))))
    pss_nil)
    (pss_one (ps_expr (pe_bm PySem.F.plainAttrs_list PySem.F.slot_list_append PySem.F.type_list_append mt_append (pv 3) (pa_cons (pv 11) pa_nil)))))))))))
    (pss_cons (ps_if (pt_cmpR (op_eqU hr.units) (pe_g (ok__law_next T) (hr.mono (by decide)) (by rfl) hx (pa_cons (pv 1) (pa_cons pe_int pa_nil))) pe_int (nomark _))
    (pss_one (ps_set (i := 3) sc.nd rfl (by first | exact Or.inl rfl | exact Or.inr rfl) (pe_op op_addU (pv 3) (pe_slice sl_U (pv 3) po_none (po_some (pe_g (ok__law_next T) (hr.mono (by decide)) (by rfl) hx (pa_cons (pv 1) (pa_cons (pe_op op_addU (pe_callB (cb_len) (by rfl) (n_len T) bt_len (pa_cons (pv 3) pa_nil)) pe_int) pa_nil))))))))
    pss_nil)
    (pss_one (ps_ret (pe_sliceS (pv 3) (pe_ix (ix_U hu) (pe_lst (pa_cons pe_int (pa_cons pe_int (pa_cons (pe_op op_subU pe_int pe_int) pa_nil)))) (pe_g (ok__law_next T) (hr.mono (by decide)) (by rfl) hx (pa_cons (pv 1) (pa_cons pe_int pa_nil))) (fun _ _ => rfl)))))))))), ?_⟩
  obtain ⟨a, ns, s, src, z, m, h, c, rfl, hscr, hns, hs, hz, pm, ph, pc, bm, bh, bc, q⟩ := h
  have l1 := @log2_mul m h
  have l2 := @log2_mul (m * h) c
  have p1 : 0 < m * h := Int.mul_pos (by omega) (by omega)
  have p2 : 0 < m * h * c := Int.mul_pos p1 (by omega)
  walk_at "rd"
  intro R hR
  have nRs : s ≠ R := ne_of_none hs hR
  generalize hH1 : upd H R (.lst []) = H1
  have s1 : Same H H1 := by rw [← hH1]; exact Same.new hR
  have hR1 : H1 R = some (.lst []) := by rw [← hH1]; exact upd_same
  walk_at "rd"
  refine rd_ixT (st_of (s1 _ _ hz)) (v := .int m) rfl ?_
  walk_at "rd"
  refine rd_ixT (st_of (s1 _ _ hz)) (v := .int h) rfl ?_
  walk_at "rd"
  refine rd_mulW (mulW_of (by omega) (by omega)) ?_
  walk_at "rd"
  refine rd_ixT (st_of (s1 _ _ hz)) (v := .int c) rfl ?_
  walk_at "rd"
  refine rd_mulW (mulW_of (by omega) (by omega)) ?_
  walk_at "rd"
  refine nx_step (Drawn.start (s1 _ _ hs)) p2 (by omega) fun near H2 n0 n1 D2 tk2 _ => ?_
  have hR2 : H2 R = some (.lst []) := D2.get hR1 nRs.symm
  have hz2 : H2 z = some (.tup [.int m, .int h, .int c]) := tk2.tup (s1 _ _ hz)
  have scr2 : Scr Z.K H2 a ns := hscr.tk ((TK.of_same s1).trans tk2)
  have F2 : Fr (· = s) H H2 := (Fr.of_same s1).trans D2.fr
  walk_at "rd"
  refine rd_slL scr2.1 fun P hP => ?_
  generalize hxs : cutV (ns.map V.int) (some 1) (some 21) = xs
  have xl : xs.length ≤ 63 := by rw [← hxs]; have := cutV_length (ns.map V.int) (some 1) (some 21); rw [List.length_map] at this; omega
  have xi : ∀ v ∈ xs, ∃ i, v = V.int i := fun v hv => cutV_ints (by rw [hxs]; exact hv)
  have nPR : R ≠ P := ne_of_none hR2 hP
  have nPs : s ≠ P := by
    obtain ⟨s', e⟩ := D2.at_
    exact ne_of_none e hP
  refine ⟨P, rfl, ⟨xs, sq_of upd_same⟩, for_list (K := Z.K) (a := P) (xs := xs) (fun i σ H3 => ∃ us y6 y7 y8 y9 y10 y11, σ = [some (.ref a), some (.ref s), some (.ref z), some (.ref R), some (.int (m * h * c)), some (.int near), y6, y7, y8, y9, y10, y11] ∧
      Fr (· = s) H H3 ∧ (∃ s', H3 s = some (.lst (Src.l s'))) ∧ H3 z = some (.tup [.int m, .int h, .int c]) ∧ H3 P = some (.lst xs) ∧ H3 R = some (.lst us) ∧ us.length = i ∧ ∀ v ∈ us, GoodV (m * h * c) H3 v) ?_ ?_ ?_ ?_⟩
  · refine ⟨[], none, none, none, none, none, none, rfl, F2.new hP, ?_, ?_, upd_same, ?_, rfl, fun v hv => nomatch hv⟩
    · obtain ⟨s', e⟩ := D2.at_
      exact ⟨s', by rw [upd_ne nPs]; exact e⟩
    · rw [upd_ne (ne_of_none hz2 hP)]
      exact hz2
    · rw [upd_ne nPR]
      exact hR2
  · rintro i σ H3 hi ⟨us, _, _, _, _, _, _, _, _, _, _, e, _⟩
    exact sq_of e
  · rintro i x σ H3 hi ⟨us, y6, y7, y8, y9, y10, y11, rfl, F3, ⟨s3, hs3⟩, hz3, hP3, hR3, hul, hg⟩
    have hil : i < xs.length := (List.getElem?_eq_some_iff.mp hi).1
    obtain ⟨x, rfl⟩ := xi x (List.mem_of_getElem? hi)
    walk_at "rd"
    refine ⟨x, rfl, fun d sd hd _ => ?_⟩
    -- the heap of this turn: d its draws
    generalize hH4 : upd H3 d (.lst (Src.l sd)) = H4
    have s4 : Same H3 H4 := by rw [← hH4]; exact Same.new hd
    have D4 : Drawn d H4 H4 := Drawn.start (s := sd) (by rw [← hH4]; exact upd_same)
    have hd4 : H4 d = some (.lst (Src.l sd)) := by rw [← hH4]; exact upd_same
    have nd : ∀ {b : Addr} {o : HO}, H3 b = some o → b ≠ d := fun e => ne_of_none e hd
    walk_at "rd"
    refine nx_step D4 (by decide) (by decide) fun r1 H5 _ _ D5 _ _ => ?_
    walk_at "rd"
    refine rd_pow ⟨by decide, by decide, by decide⟩ ?_
    walk_at "rd"
    refine nx_step D5 (by decide) (by decide) fun r2 H6 _ _ D6 _ _ => ?_
    walk_at "rd"
    intro t1 ht1
    have D6' := D6.new (o := .lst [.int r1, .int (0 - r2), .int 5]) ht1
    walk_at "rd"
    have ht1' : (upd H6 t1 (.lst [.int r1, .int (0 - r2), .int 5])) t1 = some (.lst [.int r1, .int (0 - r2), .int 5]) := upd_same
    generalize upd H6 t1 (.lst [.int r1, .int (0 - r2), .int 5]) = H7 at D6' ht1'
    have nt1 : t1 ≠ d := by
      obtain ⟨s', e⟩ := D6.at_
      exact (ne_of_none e ht1).symm
    refine nx_step D6' (by decide) (by decide) fun r3 H8 h30 h31 D8 _ k8 => ?_
    obtain ⟨v1, hv1, at1⟩ := menu_at (xs := [.int r1, .int (0 - r2), .int 5]) h30 h31
    obtain ⟨tm, rfl⟩ : ∃ i, v1 = V.int i := by
      simp only [List.mem_cons, List.not_mem_nil, or_false] at hv1
      rcases hv1 with rfl | rfl | rfl <;> exact ⟨_, rfl⟩
    refine rd_ixL (sq_of (k8 _ _ ht1' nt1)) at1 ?_
    walk_at "rd"
    intro t2 ht2
    have D9 := D8.new (o := .lst [.str "a", .str "an", .str "anna", .str "ann", .str "b", .str "ba", .str "annaanna"]) ht2
    have ht2' : (upd H8 t2 (.lst [.str "a", .str "an", .str "anna", .str "ann", .str "b", .str "ba", .str "annaanna"])) t2 = some (.lst [.str "a", .str "an", .str "anna", .str "ann", .str "b", .str "ba", .str "annaanna"]) := upd_same
    walk_at "rd"
    generalize upd H8 t2 (.lst [.str "a", .str "an", .str "anna", .str "ann", .str "b", .str "ba", .str "annaanna"]) = H9 at D9 ht2'
    have nt2 : t2 ≠ d := by
      obtain ⟨s', e⟩ := D8.at_
      exact (ne_of_none e ht2).symm
    refine nx_step D9 (by decide) (by decide) fun r4 H10 h40 h41 D10 _ k10 => ?_
    obtain ⟨v2, hv2, at2⟩ := menu_at (xs := [.str "a", .str "an", .str "anna", .str "ann", .str "b", .str "ba", .str "annaanna"]) h40 h41
    obtain ⟨ho, rfl, hok⟩ := menu_strs hv2
    refine rd_ixL (sq_of (k10 _ _ ht2' nt2)) at2 ?_
    have hz10 : H10 z = some (.tup [.int m, .int h, .int c]) := D10.get (s4 _ _ hz3) (nd hz3)
    walk_at "rd"
    refine rd_ixT (st_of hz10) (v := .int h) rfl ?_
    walk_at "rd"
    refine rd_mulW (mulW_of (by decide) (by omega)) ?_
    walk_at "rd"
    refine rd_ixT (st_of hz10) (v := .int c) rfl ?_
    walk_at "rd"
    have l3 := @log2_mul 4 h
    have l4 : (4 : Int).natAbs.log2 = 2 := by decide
    refine rd_mulW (mulW_of (by omega) (by omega)) ?_
    walk_at "rd"
    have l5 := @log2_mul (4 * h) c
    have p3 : 0 < 4 * h * c := Int.mul_pos (by omega) (by omega)
    refine nx_step D10 p3 (by omega) fun r5 H11 h50 h51 D11 _ _ => ?_
    walk_at "rd"
    obtain ⟨bs, hbs, b0, b1⟩ : ∃ b : Int, (if near + r5 < m * h * c - 1 then near + r5 else m * h * c - 1) = b ∧ 0 ≤ b ∧ b < m * h * c := ⟨_, rfl, by split <;> omega, by split <;> omega⟩
    rw [hbs]
    refine nx_step D11 p2 (by omega) fun r6 H12 h60 h61 D12 _ _ => ?_
    walk_at "rd"
    intro t3 ht3
    have D13 := D12.new (o := .lst [.int r6, .int bs]) ht3
    have ht3' : (upd H12 t3 (.lst [.int r6, .int bs])) t3 = some (.lst [.int r6, .int bs]) := upd_same
    walk_at "rd"
    generalize upd H12 t3 (.lst [.int r6, .int bs]) = H13 at D13 ht3'
    have nt3 : t3 ≠ d := by
      obtain ⟨s', e⟩ := D12.at_
      exact (ne_of_none e ht3).symm
    refine nx_step D13 (by decide) (by decide) fun r7 H14 h70 h71 D14 _ k14 => ?_
    obtain ⟨v3, hv3, at3⟩ := menu_at (xs := [.int r6, .int bs]) h70 h71
    obtain ⟨nm, rfl, nm0, nm1⟩ : ∃ i, v3 = V.int i ∧ 0 ≤ i ∧ i < m * h * c := by
      simp only [List.mem_cons, List.not_mem_nil, or_false] at hv3
      rcases hv3 with rfl | rfl
      · exact ⟨_, rfl, h60, h61⟩
      · exact ⟨_, rfl, b0, b1⟩
    refine rd_ixL (sq_of (k14 _ _ ht3' nt3)) at3 ?_
    walk_at "rd"
    intro t4 ht4
    have D15 := D14.new (o := .tup [.int tm, .str ho, .int nm]) ht4
    have ht4' : (upd H14 t4 (.tup [.int tm, .str ho, .int nm])) t4 = some (.tup [.int tm, .str ho, .int nm]) := upd_same
    generalize upd H14 t4 (.tup [.int tm, .str ho, .int nm]) = H15 at D15 ht4'
    have hR15 : H15 R = some (.lst us) := D15.get (s4 _ _ hR3) (nd hR3)
    have tk15 : TK H3 H15 := (TK.of_same s4).trans (D15.tk hd4)
    have g15 : ∀ v ∈ us, GoodV (m * h * c) H15 v := fun v hv => (hg v hv).tk tk15
    -- what a turn's end asks: a row that is good
    have fin : ∀ (v : V) (H' : Hp) (w7 w8 w9 w10 : Option V), Drawn d H4 H' → GoodV (m * h * c) H' v → ∃ us' y6 y7 y8 y9 y10 y11, ([some (.ref a), some (.ref s), some (.ref z), some (.ref R), some (.int (m * h * c)), some (.int near), some (.int x), w7, w8, w9, w10, some v] : L2.St) = [some (.ref a), some (.ref s), some (.ref z), some (.ref R), some (.int (m * h * c)), some (.int near), y6, y7, y8, y9, y10, y11] ∧
      Fr (· = s) H (upd H' R (.lst (us ++ [v]))) ∧ (∃ s', (upd H' R (.lst (us ++ [v]))) s = some (.lst (Src.l s'))) ∧ (upd H' R (.lst (us ++ [v]))) z = some (.tup [.int m, .int h, .int c]) ∧ (upd H' R (.lst (us ++ [v]))) P = some (.lst xs) ∧ (upd H' R (.lst (us ++ [v]))) R = some (.lst us') ∧ us'.length = i + 1 ∧ ∀ u ∈ us', GoodV (m * h * c) (upd H' R (.lst (us ++ [v]))) u := by
      intro v H' w7 w8 w9 w10 D' gv
      have hR' : H' R = some (.lst us) := D'.get (s4 _ _ hR3) (nd hR3)
      have tkR : TK H' (upd H' R (.lst (us ++ [v]))) := TK.lst (TK.refl _) hR'
      have tk' : TK H3 H' := (TK.of_same s4).trans (D'.tk hd4)
      refine ⟨us ++ [v], _, _, _, _, _, _, rfl, ?_, ⟨s3, ?_⟩, ?_, ?_, upd_same, by rw [List.length_append, hul]; rfl, fun u hu => ?_⟩
      · refine Fr.upd (fun b o e n => ?_) (.inr hR)
        have e3 := F3 b o e n
        exact D'.get (s4 _ _ e3) (nd e3)
      · rw [upd_ne nRs]
        exact D'.get (s4 _ _ hs3) (nd hs3)
      · exact tkR.tup (tk'.tup hz3)
      · rw [upd_ne nPR.symm]
        exact D'.get (s4 _ _ hP3) (nd hP3)
      · rcases List.mem_append.mp hu with hu | hu
        · exact ((hg u hu).tk tk').tk tkR
        · rw [List.mem_singleton.mp hu]
          exact gv.tk tkR
    walk_at "rd"
    intro t5 ht5
    have D16 := D15.new (o := .lst []) ht5
    have s16 : Same H15 (upd H15 t5 (.lst [])) := Same.new ht5
    have ht5' : (upd H15 t5 (.lst [])) t5 = some (.lst []) := upd_same
    generalize upd H15 t5 (.lst []) = H16 at D16 s16 ht5'
    have g16 : ∀ v ∈ us, GoodV (m * h * c) H16 v := fun v hv => (g15 v hv).tk (TK.of_same s16)
    obtain ⟨ds, dp, sh, dl⟩ := good_shaped (K := Z.K) g16 (s16 _ _ hR15)
    refine rd_neD dp (.lst (sq_of ht5') .nil) sh (by decide) ?_
    rw [eqv_nil]
    walk_at "rd"
    have gt4 : GoodV (m * h * c) H16 (.ref t4) := ⟨(.int tm, ho, nm), ⟨⟨tm, rfl⟩, hok, nm0, nm1⟩, t4, rfl, s16 _ _ ht4'⟩
    cases hemp : ds.isEmpty with
    | true =>
      walk_at "rd"
      refine ty_lst (s16 _ _ hR15) ?_
      walk_at "rd"
      refine rd_app (s16 _ _ hR15) (lt_size (by omega)) ?_
      walk_at "rd"
      exact fin (.ref t4) H16 _ _ _ _ D16 gt4
    | false =>
      walk_at "rd"
      refine nx_step D16 (by decide) (by decide) fun r8 H17 _ _ D17 tk17 _ => ?_
      have hR17 : H17 R = some (.lst us) := D17.get (s4 _ _ hR3) (nd hR3)
      walk_at "rd"
      cases h8 : decide (V.int r8 = V.int 0) with
      | false =>
        walk_at "rd"
        refine ty_lst hR17 ?_
        walk_at "rd"
        refine rd_app hR17 (lt_size (by omega)) ?_
        walk_at "rd"
        exact fin (.ref t4) H17 _ _ _ _ D17 (gt4.tk tk17)
      | true =>
        walk_at "rd"
        refine rd_lenL (sq_of hR17) ?_
        walk_at "rd"
        have hul0 : 0 < us.length := by
          cases us with
          | nil =>
            have : ds = [] := List.eq_nil_of_length_eq_zero dl
            rw [this] at hemp
            cases hemp
          | cons _ _ => exact Nat.zero_lt_succ _
        have lg : ((us.length : Int)).natAbs.log2 < 9000 := by
          have h1 : us.length < 2 ^ 10 := by omega
          have h2 : (us.length).log2 < 10 := by
            rw [Nat.log2_lt (by omega)]
            exact h1
          rw [Int.natAbs_natCast]
          omega
        refine nx_step D17 (by omega) lg fun r9 H18 h90 h91 D18 tk18 k18 => ?_
        obtain ⟨v4, hv4, at4⟩ := menu_at h90 h91
        have hR18 : H18 R = some (.lst us) := D18.get (s4 _ _ hR3) (nd hR3)
        have gv4 : GoodV (m * h * c) H18 v4 := ((g16 v4 hv4).tk tk17).tk tk18
        refine rd_ixL (sq_of hR18) at4 ?_
        walk_at "rd"
        refine ty_lst hR18 ?_
        walk_at "rd"
        refine rd_app hR18 (lt_size (by omega)) ?_
        walk_at "rd"
        exact fin v4 H18 _ _ _ _ D18 gv4
  · rintro σ H3 ⟨us, y6, y7, y8, y9, y10, y11, rfl, F3, ⟨s3, hs3⟩, hz3, hP3, hR3, hul, hg⟩
    have tkE : ∀ {H' : Hp}, Drawn s H3 H' → TK H3 H' := fun D => D.tk hs3
    walk_at "rd"
    refine nx_step (Drawn.start hs3) (by decide) (by decide) fun r1 H4 _ _ D4 tk4 _ => ?_
    have hR4 : H4 R = some (.lst us) := D4.get hR3 nRs.symm
    have g4 : ∀ v ∈ us, GoodV (m * h * c) H4 v := fun v hv => (hg v hv).tk tk4
    -- the end: any list of good rows, turned about or not
    have fin : ∀ (L : Addr) (vs : List V) (H' : Hp) (σ : L2.St), σ[1]? = some (some (.ref s)) → Drawn s H3 H' → H' L = some (.lst vs) → vs.length ≤ 200 → (∀ v ∈ vs, GoodV (m * h * c) H' v) →
        ∀ t, H' t = none → tCall (spT (sp__law_next Z)) [] E (tCons (tVar 1) (tCons (tC (.int 3)) tNil)) σ (upd H' t (.lst [.int 1, .int 1, .int (0 - 1)])) fun y H2 => rIxU Z.K (.ref t) y H2 fun y H2 => rStep Z.K (.ref L) y H2 Q := by
      intro L vs H' σ hσ D' hL hlen hgv t ht
      obtain ⟨s', hs'⟩ := D'.at_
      have D6 := D'.new (o := .lst [.int 1, .int 1, .int (0 - 1)]) ht
      have ht' : (upd H' t (.lst [.int 1, .int 1, .int (0 - 1)])) t = some (.lst [.int 1, .int 1, .int (0 - 1)]) := upd_same
      have hL6 : (upd H' t (.lst [.int 1, .int 1, .int (0 - 1)])) L = some (.lst vs) := by rw [upd_ne (ne_of_none hL ht)]; exact hL
      have s6 : Same H' (upd H' t (.lst [.int 1, .int 1, .int (0 - 1)])) := Same.new ht
      generalize upd H' t (.lst [.int 1, .int 1, .int (0 - 1)]) = H6 at D6 ht' hL6 s6
      refine rd_call (rd_cons (rd_var hσ ?_))
      walk_at "rd"
      have nts : t ≠ s := (ne_of_none hs' ht).symm
      have nLs : L ≠ s := by
        rintro rfl
        rw [hs'] at hL
        cases hL
        exact absurd (hgv (.int s'.d) (by simp [Src.l])) (fun ⟨_, _, t, e, _⟩ => by cases e)
      refine nx_step D6 (by decide) (by decide) fun r H7 h0 h1 D7 tk7 k7 => ?_
      obtain ⟨v, hv, at7⟩ := menu_at (xs := [.int 1, .int 1, .int (0 - 1)]) h0 h1
      obtain ⟨i, rfl, hi⟩ : ∃ i, v = V.int i ∧ (i = 1 ∨ i = -1) := by
        simp only [List.mem_cons, List.not_mem_nil, or_false] at hv
        rcases hv with rfl | rfl | rfl
        · exact ⟨1, rfl, .inl rfl⟩
        · exact ⟨1, rfl, .inl rfl⟩
        · exact ⟨-1, rfl, .inr rfl⟩
      refine rd_ixL (sq_of (k7 _ _ ht' nts)) at7 ?_
      walk_at "rd"
      refine rd_step (sq_of (k7 _ _ hL6 nLs)) hi fun p hp => ?_
      have tk8 := (TK.of_same s6).trans tk7
      refine q p _ _ ?_ ?_ ?_ ?_ upd_same ?_ ?_
      · exact (F3.trans D7.fr).new hp
      · obtain ⟨s7, e7⟩ := D7.at_
        exact ⟨s7, by rw [upd_ne (ne_of_none e7 hp)]; exact e7⟩
      · rcases (F3.trans D7.fr).free hp with e | e
        · obtain ⟨s7, e7⟩ := D7.at_
          rw [e, e7] at hp
          cases hp
        · exact e
      · obtain ⟨s7, e7⟩ := D7.at_
        exact (ne_of_none e7 hp).symm
      · intro u hu
        have hu2 : u ∈ vs := by
          split at hu
          · exact hu
          · exact List.mem_reverse.mp hu
        exact ((hgv u hu2).tk tk8).tk (TK.new (TK.refl _) hp)
      · split
        · exact hlen
        · rw [List.length_reverse]; exact hlen
    walk_at "rd"
    cases h1 : decide (V.int r1 = V.int 1) with
    | false =>
      walk_at "rd"
      exact fin R us H4 _ rfl D4 hR4 (by omega) g4
    | true =>
      walk_at "rd"
      refine rd_lenL (sq_of hR4) ?_
      walk_at "rd"
      have lg : ((us.length : Int) + 1).natAbs.log2 < 9000 := by
        have h2 : (us.length + 1).log2 < 10 := by
          rw [Nat.log2_lt (by omega)]
          omega
        have e : ((us.length : Int) + 1).natAbs = us.length + 1 := by omega
        rw [e]
        omega
      refine nx_step D4 (by omega) lg fun r2 H5 _ _ D5 tk5 _ => ?_
      have hR5 : H5 R = some (.lst us) := D5.get hR3 nRs.symm
      have g5 : ∀ v ∈ us, GoodV (m * h * c) H5 v := fun v hv => (g4 v hv).tk tk5
      walk_at "rd"
      refine rd_slL (sq_of hR5) fun p hp => ?_
      have D6 := D5.new (o := .lst (cutV us none (some r2))) hp
      have hR6 : (upd H5 p (.lst (cutV us none (some r2)))) R = some (.lst us) := by rw [upd_ne (ne_of_none hR5 hp)]; exact hR5
      have g6 : ∀ v ∈ us, GoodV (m * h * c) (upd H5 p (.lst (cutV us none (some r2)))) v := fun v hv => (g5 v hv).tk (TK.new (TK.refl _) hp)
      have hp6 : (upd H5 p (.lst (cutV us none (some r2)))) p = some (.lst (cutV us none (some r2))) := upd_same
      generalize upd H5 p (.lst (cutV us none (some r2))) = H6 at D6 hR6 g6 hp6
      have cl := cutV_length us none (some r2)
      walk_at "rd"
      refine rd_catL hR6 hp6 (le_size (by omega)) fun p2 hp2 => ?_
      walk_at "rd"
      refine fin p2 (us ++ cutV us none (some r2)) _ _ rfl (D6.new hp2) upd_same (by rw [List.length_append]; omega) fun v hv => ?_
      have hv2 : v ∈ us := by
        rcases List.mem_append.mp hv with hv | hv
        · exact hv
        · exact cutV_mem hv
      exact (g6 v hv2).tk (TK.new (TK.refl _) hp2)
theorem ok__law_list {Z : Zn} (T : Tx Z) : GF Z "_law_list" 3 ["script", "source", "sizes"] [] (sp__law_list Z) := GF.of (T.df 9) (T.glo 9) b__law_list sc__law_list (by walk_at "len") (w__law_list T)


/-! ## _law_pairs -/
def N__law_pairs : List Str := ["sizes", "rows", "some", "k", "j", "moments", "at"]
theorem sc__law_pairs : FnScope N__law_pairs ["sizes", "rows"] (defScope s__law_pairs) := ⟨rfl, rfl, rfl, by decide +kernel, rfl, by decide +kernel, by decide +kernel⟩
theorem b__law_pairs : BindsBy "_law_pairs" "_law_pairs" s__law_pairs ["sizes", "rows"] := fun _ _ _ _ _ _ us hl => match us, hl with | [_, _], _ => rfl
/-- an entry of the law's own dict -/
def enc (x : Int × Nat × Nat) : List Key × V := ([.inl (x.2.1 : Int), .inl (x.2.2 : Int)], .int x.1)
theorem bkRow_at (M : Int → Int) (rows : List BRow) (k : Nat) : ∀ j x, x ∈ bkRow M rows k j → x.2.2 = k ∧ x.2.1 < j
  | 0, x, h => nomatch h
  | j + 1, x, h => by
    unfold bkRow at h
    rcases List.mem_append.mp h with h | h
    · have := bkRow_at M rows k j x h
      omega
    · split at h
      · split at h
        · cases h
        · rw [List.mem_singleton.mp h]
          exact ⟨rfl, Nat.lt_succ_self _⟩
      · cases h
theorem bkAll_at (M : Int → Int) (rows : List BRow) : ∀ n x, x ∈ bkAll M rows n → x.2.2 < n
  | 0, x, h => nomatch h
  | k + 1, x, h => by
    unfold bkAll at h
    rcases List.mem_append.mp h with h | h
    · have := bkAll_at M rows k x h
      omega
    · have := (bkRow_at M rows k k x h).1
      omega
theorem enc_none {cs : List (Int × Nat × Nat)} {j k : Nat} (h : ∀ x ∈ cs, ¬ (x.2.1 = j ∧ x.2.2 = k)) : valV (cs.map enc) ([.inl (j : Int), .inl (k : Int)] : List Key) = none := by
  unfold valV
  rw [List.find?_eq_none.mpr ?_]
  · rfl
  · intro p hp
    obtain ⟨x, hx, rfl⟩ := List.mem_map.mp hp
    have h1 := h x hx
    intro z
    have z2 : (enc x).1 = ([.inl (j : Int), .inl (k : Int)] : List Key) := of_decide_eq_true z
    simp only [enc, List.cons.injEq, Sum.inl.injEq, and_true] at z2
    omega
theorem bkRow_val (M : Int → Int) (rows : List BRow) (k : Nat) : ∀ j x, x ∈ bkRow M rows k j → ∃ a b, rows[x.2.1]? = some a ∧ rows[x.2.2]? = some b ∧ x.1 = M a.2.2 - M b.2.2
  | 0, x, h => nomatch h
  | j + 1, x, h => by
    unfold bkRow at h
    rcases List.mem_append.mp h with h | h
    · exact bkRow_val M rows k j x h
    · split at h
      · next a b ea eb =>
        split at h
        · cases h
        · rw [List.mem_singleton.mp h]
          exact ⟨a, b, ea, eb, rfl⟩
      · cases h
theorem bkAll_val (M : Int → Int) (rows : List BRow) : ∀ n x, x ∈ bkAll M rows n → ∃ a b, rows[x.2.1]? = some a ∧ rows[x.2.2]? = some b ∧ x.1 = M a.2.2 - M b.2.2
  | 0, x, h => nomatch h
  | k + 1, x, h => by
    unfold bkAll at h
    rcases List.mem_append.mp h with h | h
    · exact bkAll_val M rows k x h
    · exact bkRow_val M rows k k x h
theorem bkAll_one (M : Int → Int) (rows : List BRow) (n : Nat) (x y : Int × Nat × Nat) (hx : x ∈ bkAll M rows n) (hy : y ∈ bkAll M rows n) (e : x.2 = y.2) : x.1 = y.1 := by
  obtain ⟨a, b, h1, h2, h3⟩ := bkAll_val M rows n x hx
  obtain ⟨a', b', h4, h5, h6⟩ := bkAll_val M rows n y hy
  rw [e] at h1 h2
  rw [h1] at h4
  rw [h2] at h5
  rw [h3, h6, Option.some.inj h4, Option.some.inj h5]
def sp__law_pairs (Z : Zn) : Sp := fun vs H Q _ => ∃ z b m h c us rows, vs = [.ref z, .ref b] ∧ H z = some (.tup [.int m, .int h, .int c]) ∧ SqL Z.K H b us ∧ Tps H us (rows.map BRow.l) ∧ rows.length ≤ 1000 ∧ 1 ≤ h ∧ 1 ≤ c ∧ h.natAbs.log2 < 9000 ∧ c.natAbs.log2 < 9000 ∧
  ∀ d H', Same H H' → H d = none → H' d = some (.dT ((bkAll (ptsM h c) rows rows.length).map enc)) → Q (.ref d) H'
theorem w__law_pairs {Z : Zn} (T : Tx Z) : BodyOk Z N__law_pairs "_law_pairs" s__law_pairs (He.fAd Z.K ("_law_pairs", none)) 0 (sp__law_pairs Z) := by
  intro cdv A outer s H vs Q E hr hu tk hx hp h
  have sc := sc__law_pairs
  refine ⟨_, (pss_cons (ps_set (i := 2) sc.nd rfl (by first | exact Or.inl rfl | exact Or.inr rfl) pe_dnewU)
    (pss_cons (ps_for hp rfl (pi_range1 (by rfl) (n_range T) (pa_cons (pe_callB (cb_len) (by rfl) (n_len T) bt_len (pa_cons (pv 1) pa_nil)) pa_nil)) (pg_name (i := 3) sc.nd rfl (by first | exact Or.inl rfl | exact Or.inr rfl))
    (pss_one (ps_for hp rfl (pi_range1 (by rfl) (n_range T) (pa_cons (pv 3) pa_nil)) (pg_name (i := 4) sc.nd rfl (by first | exact Or.inl rfl | exact Or.inr rfl))
    (pss_one (ps_if (pt_cmpR (op_neU hr.units) (pe_ix (ix_U hu) (pe_ix (ix_U hu) (pv 1) (pv 4) (fun _ _ => rfl)) pe_int (fun _ _ => rfl)) (pe_ix (ix_U hu) (pe_ix (ix_U hu) (pv 1) (pv 3) (fun _ _ => rfl)) pe_int (fun _ _ => rfl)) (nomark _))
    (pss_cons (ps_setLc (i := 5) (own := [("at", 6)]) (g := (gName 6)) (tt := tYes) rfl sc.nd rfl rfl (sw_true rfl rfl rfl (by decide +kernel)) (pi_tup (pe_tup (pa_cons (pv 4) (pa_cons (pv 3) pa_nil)))) (blkOk_by (N := N__law_pairs) (sc := defScope s__law_pairs) (by decide +kernel)) (fun _ _ _ _ _ => (pg_name (i := 6) sc.nd rfl (by first | exact Or.inl rfl | exact Or.inr rfl))) (fun _ _ _ _ _ => pts_nil) (fun _ _ _ _ _ => (pe_op op_divU (pe_op op_divU (pe_ix (ix_K (K := Z.K) rfl (by exact hu)) (pe_ix (ix_K (K := Z.K) rfl (by exact hu)) (pv 1) (pv 6) (fun _ _ => rfl)) pe_int (fun _ _ => rfl)) (pe_ix (ix_K (K := Z.K) rfl (by exact hu)) (pv 0) pe_int (fun _ _ => rfl))) (pe_ix (ix_K (K := Z.K) rfl (by exact hu)) (pv 0) pe_int (fun _ _ => rfl)))))
    (pss_one (ps_asg (pe_op op_subU (pe_ix (ix_U hu) (pv 5) pe_int (fun _ _ => rfl)) (pe_ix (ix_U hu) (pv 5) pe_int (fun _ _ => rfl))) (pg_sub (pv 2) (pe_tup (pa_cons (pv 4) (pa_cons (pv 3) pa_nil))) (set_U hu)))))
    pss_nil)))))
    (pss_one (ps_ret (pv 2))))), ?_⟩
  obtain ⟨z, b, m, h, c, us, rows, rfl, hz, hb, tp, hlen, ph, pc, bh, bc, q⟩ := h
  have hul : us.length = rows.length := by rw [tp.len, List.length_map]
  walk_at "rd"
  refine .inr fun d hd => ?_
  have s0 : Same H (upd H d (.dT [])) := Same.new hd
  walk_at "rd"
  refine rd_lenL (s0.seq hb) ?_
  rw [hul]
  walk_at "rd"
  refine ⟨(rows.length : Int), rfl, by omega, by omega, for_range (lo := 0) (n := rows.length) (fun k σ H2 => ∃ y3 y4 y5 y6, σ = [some (.ref z), some (.ref b), some (.ref d), y3, y4, y5, y6] ∧ Same H H2 ∧ H2 d = some (.dT ((bkAll (ptsM h c) rows k).map enc))) ?_ ?_ ?_⟩
  · exact ⟨none, none, none, none, rfl, s0, upd_same⟩
  · rintro k σ H2 hk ⟨y3, y4, y5, y6, rfl, s2, hd2⟩
    rw [Int.zero_add]
    walk_at "rd"
    refine ⟨(k : Int), rfl, by omega, by omega, for_range (lo := 0) (n := k) (fun j σ H2 => ∃ y4 y5 y6, σ = [some (.ref z), some (.ref b), some (.ref d), some (.int k), y4, y5, y6] ∧ Same H H2 ∧ H2 d = some (.dT ((bkAll (ptsM h c) rows k ++ bkRow (ptsM h c) rows k j).map enc))) ?_ ?_ ?_⟩
    · exact ⟨y4, y5, y6, rfl, s2, by rw [show bkRow (ptsM h c) rows k 0 = [] from rfl, List.append_nil]; exact hd2⟩
    · rintro j σ H3 hj ⟨z4, z5, z6, rfl, s3, hd3⟩
      rw [Int.zero_add]
      have hjl : j < rows.length := by omega
      have ea : rows[j]? = some rows[j] := List.getElem?_eq_getElem hjl
      have eb : rows[k]? = some rows[k] := List.getElem?_eq_getElem hk
      obtain ⟨ta, va, ha⟩ := tp.at_ (i := j) (d := BRow.l rows[j]) (by rw [List.getElem?_map, ea]; rfl)
      obtain ⟨tb, vb, hbt⟩ := tp.at_ (i := k) (d := BRow.l rows[k]) (by rw [List.getElem?_map, eb]; rfl)
      have step : bkRow (ptsM h c) rows k (j + 1) = bkRow (ptsM h c) rows k j ++ (if rows[j].2.1 = rows[k].2.1 then [] else [(ptsM h c rows[j].2.2 - ptsM h c rows[k].2.2, j, k)]) := by
        show bkRow (ptsM h c) rows k j ++ _ = _
        rw [ea, eb]
      walk_at "rd"
      refine rd_ixL (s3.seq hb) (atI_nat va) ?_
      walk_at "rd"
      refine rd_ixT (st_of (s3 _ _ ha)) (v := .str rows[j].2.1) rfl ?_
      walk_at "rd"
      refine rd_ixL (s3.seq hb) (atI_nat vb) ?_
      walk_at "rd"
      refine rd_ixT (st_of (s3 _ _ hbt)) (v := .str rows[k].2.1) rfl ?_
      walk_at "rd"
      by_cases hne : rows[j].2.1 = rows[k].2.1
      · rw [decide_eq_true (show V.str rows[j].2.1 = V.str rows[k].2.1 by rw [hne])]
        walk_at "rd"
        refine ⟨_, _, _, rfl, s3, ?_⟩
        rw [step, if_pos hne, List.append_nil]
        exact hd3
      · rw [decide_eq_false (show ¬ V.str rows[j].2.1 = V.str rows[k].2.1 from fun z => hne (V.str.inj z))]
        walk_at "rd"
        intro t ht
        have s4 : Same H3 (upd H3 t (.tup [.int j, .int k])) := Same.new ht
        have ht4 : (upd H3 t (.tup [.int j, .int k])) t = some (.tup [.int j, .int k]) := upd_same
        generalize upd H3 t (.tup [.int j, .int k]) = H4 at s4 ht4
        walk_at "rd"
        refine ⟨t, rfl, ⟨_, st_of ht4⟩, fun L hL => lc_tup (K := Z.K) (a := t) (xs := [.int j, .int k]) (fun i H5 => Same H4 H5 ∧ H5 L = some (.lst ([V.int (ptsM h c rows[j].2.2), V.int (ptsM h c rows[k].2.2)].take i))) ?_ ?_ ?_ ?_⟩
        · exact ⟨Same.new hL, upd_same⟩
        · rintro i H5 _ ⟨s5, _⟩
          exact st_of (s5 _ _ ht4)
        · rintro i x H5 hi ⟨s5, hL5⟩
          have sH := (s3.trans s4).trans s5
          obtain ⟨r, tr, hr1, hr2, ex, er⟩ : ∃ (r : Nat) (tr : Addr), us[r]? = some (.ref tr) ∧ (∃ row : BRow, H tr = some (.tup (BRow.l row)) ∧ [V.int (ptsM h c rows[j].2.2), V.int (ptsM h c rows[k].2.2)].take (i + 1) = [V.int (ptsM h c rows[j].2.2), V.int (ptsM h c rows[k].2.2)].take i ++ [V.int (ptsM h c row.2.2)]) ∧ x = .int r ∧ True := by
            match i, hi with
            | 0, e => exact ⟨j, ta, va, ⟨rows[j], ha, rfl⟩, (Option.some.inj e).symm, trivial⟩
            | 1, e => exact ⟨k, tb, vb, ⟨rows[k], hbt, rfl⟩, (Option.some.inj e).symm, trivial⟩
          obtain ⟨row, hrow, etake⟩ := hr2
          subst ex
          walk_at "rd"
          refine ⟨rfl, ?_⟩
          walk_at "rd"
          refine rd_ixL (sH.seq hb) (atI_nat hr1) ?_
          walk_at "rd"
          refine rd_ixT (st_of (sH _ _ hrow)) (v := .int row.2.2) rfl ?_
          walk_at "rd"
          refine rd_ixT (st_of (sH _ _ hz)) (v := .int c) rfl ?_
          walk_at "rd"
          refine rd_div (cdiv_of (by omega) bc) ?_
          walk_at "rd"
          refine rd_ixT (st_of (sH _ _ hz)) (v := .int h) rfl ?_
          walk_at "rd"
          refine rd_div (cdiv_of (by omega) bh) ?_
          refine ⟨_, hL5, lt_size (by rw [List.length_take]; simp only [List.length_cons, List.length_nil]; omega), s5.upd' hL, ?_⟩
          rw [upd_same, etake]
          rfl
        · rintro H5 ⟨s5, hL5⟩
          have hd5 : H5 d = some (.dT ((bkAll (ptsM h c) rows k ++ bkRow (ptsM h c) rows k j).map enc)) := s5 _ _ (s4 _ _ hd3)
          walk_at "rd"
          refine rd_ixL (sq_of hL5) (v := .int (ptsM h c rows[j].2.2)) rfl ?_
          walk_at "rd"
          refine rd_ixL (sq_of hL5) (v := .int (ptsM h c rows[k].2.2)) rfl ?_
          walk_at "rd"
          intro t6 ht6
          have hd6 : (upd H5 t6 (.tup [.int j, .int k])) d = some (.dT ((bkAll (ptsM h c) rows k ++ bkRow (ptsM h c) rows k j).map enc)) := by rw [upd_ne (ne_of_none hd5 ht6)]; exact hd5
          have hlk : ((bkAll (ptsM h c) rows k ++ bkRow (ptsM h c) rows k j).map enc).length ≤ 1000000 := by
            rw [List.length_map, List.length_append]
            have h1 := bkAll_len (ptsM h c) rows k
            have h2 := bkRow_len (ptsM h c) rows k j
            have h3 : k * k ≤ 999 * 999 := Nat.mul_le_mul (by omega) (by omega)
            omega
          refine set_dt (k := [.inl (j : Int), .inl (k : Int)]) hd6 upd_same (lt_size hlk) ?_
          walk_at "rd"
          refine ⟨_, _, _, rfl, ((s3.trans (s4.trans s5)).upd' (((s3.trans (s4.trans s5))).free ht6)).upd' hd, ?_⟩
          rw [upd_same, putK_new, step, if_neg hne, ← List.append_assoc, List.map_append (l₂ := [(ptsM h c rows[j].2.2 - ptsM h c rows[k].2.2, j, k)])]
          · rfl
          · refine enc_none fun x hx z => ?_
            rcases List.mem_append.mp hx with hx | hx
            · have := bkAll_at _ _ _ _ hx
              omega
            · have := bkRow_at _ _ _ _ _ hx
              omega
    · rintro σ H3 ⟨z4, z5, z6, rfl, s3, hd3⟩
      exact ⟨_, _, _, _, rfl, s3, hd3⟩
  · rintro σ H2 ⟨y3, y4, y5, y6, rfl, s2, hd2⟩
    walk_at "rd"
    exact q d H2 s2 hd hd2
theorem ok__law_pairs {Z : Zn} (T : Tx Z) : GF Z "_law_pairs" 1 ["sizes", "rows"] [] (sp__law_pairs Z) := GF.of (T.df 10) (T.glo 10) b__law_pairs sc__law_pairs (by walk_at "len") (w__law_pairs T)


/-! ## _law_right -/
def N__law_right : List Str := ["found", "some", "part"]
theorem sc__law_right : FnScope N__law_right ["found", "some"] (defScope s__law_right) := ⟨rfl, rfl, rfl, by decide +kernel, rfl, by decide +kernel, by decide +kernel⟩
theorem b__law_right : BindsBy "_law_right" "_law_right" s__law_right ["found", "some"] := fun _ _ _ _ _ _ us hl => match us, hl with | [_, _], _ => rfl
theorem enc_at {cs : List (Int × Nat × Nat)} {d : Int} {j k : Nat} (one : ∀ x ∈ cs, ∀ y ∈ cs, x.2 = y.2 → x.1 = y.1) (h : (d, j, k) ∈ cs) : valV (cs.map enc) ([.inl (j : Int), .inl (k : Int)] : List Key) = some (.int d) := by
  unfold valV
  cases e : (cs.map enc).find? fun kv => decide (kv.1 = ([.inl (j : Int), .inl (k : Int)] : List Key)) with
  | none =>
    have := List.find?_eq_none.mp e (enc (d, j, k)) (List.mem_map.mpr ⟨_, h, rfl⟩)
    simp [enc] at this
  | some p =>
    have h1 := List.find?_some e
    obtain ⟨x, hx, rfl⟩ := List.mem_map.mp (List.mem_of_find?_eq_some e)
    have h2 : (enc x).1 = ([.inl (j : Int), .inl (k : Int)] : List Key) := of_decide_eq_true h1
    obtain ⟨x1, x2, x3⟩ := x
    simp only [enc, List.cons.injEq, Sum.inl.injEq, and_true] at h2
    obtain ⟨h3, h4⟩ := h2
    have e1 : x2 = j := by omega
    have e2 : x3 = k := by omega
    subst e1 e2
    have h3 : x1 = d := one _ hx _ h rfl
    show some (V.int x1) = some (V.int d)
    rw [h3]
def sp__law_right (Z : Zn) : Sp := fun vs H Q _ => ∃ x d cs, vs = [x, .ref d] ∧ H d = some (.dT (cs.map enc)) ∧ (∀ x ∈ cs, ∀ y ∈ cs, x.2 = y.2 → x.1 = y.1) ∧
  ((cs = [] ∧ x = .non) ∨ ∃ (m : Int) (j k : Nat) (t : Addr), x = .ref t ∧ H t = some (.tup [.int m, .int j, .int k]) ∧ (m, j, k) ∈ cs ∧ ∀ y ∈ cs, y.1 ≤ m) ∧
  ∀ H', Same H H' → Q (.bl true) H'
theorem w__law_right {Z : Zn} (T : Tx Z) : BodyOk Z N__law_right "_law_right" s__law_right (He.fAd Z.K ("_law_right", none)) 0 (sp__law_right Z) := by
  intro cdv A outer s H vs Q E hr hu tk hx hp h
  have sc := sc__law_right
  refine ⟨_, (pss_cons (ps_if (pt_cmpR (op_eqU hr.units) (pv 1) pe_dnewU (nomark _))
    (pss_one (ps_ret (pe_cmpR op_isN2 (pv 0) pe_non (nomark _))))
    pss_nil)
    (pss_cons (ps_if (PW.pt (pw_or (pt_not (pt_val (pe_callB (cb_isinstance) (by rfl) (n_isinstance T) bt_isinstance (pa_cons (pv 0) (pa_cons (pe_ty (n_tuple T) (by rfl) bt_tuple) pa_nil))))) (pw_or (pt_cmpR (op_neU hr.units) (pe_callB (cb_len) (by rfl) (n_len T) bt_len (pa_cons (pv 0) pa_nil)) pe_int (nomark _)) (pw_or1 (pt_cmpR (op_inU hu) pe_bl (pe_lc (own := [("part", 2)]) (g := (gName 2)) (tt := tYes) rfl sc.nd (pi_tup (pv 0)) (blkOk_by (N := N__law_right) (sc := defScope s__law_right) (by decide +kernel)) (fun _ _ _ _ _ => (pg_name (i := 2) sc.nd rfl (by first | exact Or.inl rfl | exact Or.inr rfl))) (fun _ _ _ _ _ => pts_nil) (fun _ _ _ _ _ => (pe_callB ((cb_isinstanceK (K := Z.K) rfl)) (by rfl) (n_isinstance T) bt_isinstance (pa_cons (pv 2) (pa_cons (pe_ty (n_bool T) (by rfl) bt_bool) pa_nil))))) (by rfl))))))
    (pss_one (ps_ret pe_bl))
    pss_nil)
    (pss_one (ps_ret (pe_and (pe_cmpR (op_eqU hr.units) (pe_ix (ix_U hu) (pv 0) pe_int (fun _ _ => rfl)) (pe_callB (cb_maxV rfl) (by rfl) (n_max T) bt_max (pa_cons (pe_values (pv 1)) pa_nil)) (nomark _)) (pe_one (pe_cmpR (op_eqU hr.units) (pe_dget1 hu (pv 1) (pe_slice sl_U (pv 0) (po_some pe_int) po_none) ⟨rfl, rfl, rfl, rfl⟩) (pe_ix (ix_U hu) (pv 0) pe_int (fun _ _ => rfl)) (nomark _)))))))), ?_⟩
  obtain ⟨x, d, cs, rfl, hd, one, hx2, q⟩ := h
  walk_at "rd"
  refine .inr fun e he => ?_
  have s1 : Same H (upd H e (.dT [])) := Same.new he
  have he1 : (upd H e (.dT [])) e = some (.dT []) := upd_same
  generalize upd H e (.dT []) = H1 at s1 he1
  refine rd_eq0 (s1 _ _ hd) he1 ?_
  rcases hx2 with ⟨rfl, rfl⟩ | ⟨m, j, k, t, rfl, ht, hm, hmax⟩
  · walk_at "rd"
    rw [decide_eq_true rfl]
    exact q _ s1
  · have hne : (cs.map enc).isEmpty = false := by
      cases cs with
      | nil => cases hm
      | cons _ _ => rfl
    rw [hne]
    walk_at "rd"
    have ht1 := s1 _ _ ht
    refine isk_tuple (Kd.tup ht1) ?_
    walk_at "rd"
    refine rd_lenT (st_of ht1) ?_
    walk_at "rd"
    refine ⟨t, rfl, ⟨_, st_of ht1⟩, fun L hL => lc_tup (K := Z.K) (a := t) (xs := [.int m, .int j, .int k]) (fun i H5 => Same H1 H5 ∧ H5 L = some (.lst (([.bl false, .bl false, .bl false] : List V).take i))) ?_ ?_ ?_ ?_⟩
    · exact ⟨Same.new hL, upd_same⟩
    · rintro i H5 _ ⟨s5, _⟩
      exact st_of (s5 _ _ ht1)
    · rintro i x H5 hi ⟨s5, hL5⟩
      obtain ⟨n, rfl⟩ : ∃ n, x = V.int n := by
        match i, hi with
        | 0, e => exact ⟨_, (Option.some.inj e).symm⟩
        | 1, e => exact ⟨_, (Option.some.inj e).symm⟩
        | 2, e => exact ⟨_, (Option.some.inj e).symm⟩
      have hi3 : i < 3 := (List.getElem?_eq_some_iff.mp hi).1
      walk_at "rd"
      refine ⟨rfl, ?_⟩
      walk_at "rd"
      refine isk_bool Kd.int ?_
      refine ⟨_, hL5, lt_size (by rw [List.length_take]; simp only [List.length_cons, List.length_nil]; omega), s5.upd' hL, ?_⟩
      rw [upd_same]
      match i, hi3 with
      | 0, _ => rfl
      | 1, _ => rfl
      | 2, _ => rfl
    · rintro H5 ⟨s5, hL5⟩
      have hL6 : H5 L = some (.lst [.bl false, .bl false, .bl false]) := hL5
      refine rd_inL (sq_of hL6) rfl rfl (b := false) rfl ?_
      have s6 : Same H H5 := s1.trans s5
      walk_at "rd"
      refine rd_ixT (st_of (s6 _ _ ht)) (v := .int m) rfl ?_
      walk_at "rd"
      refine ⟨d, _, rfl, s6 _ _ hd, fun p hp => ?_⟩
      have s7 : Same H5 (upd H5 p (viewO p d)) := Same.new hp
      have hp7 : (upd H5 p (viewO p d)) p = some (viewO p d) := upd_same
      generalize upd H5 p (viewO p d) = H7 at s7 hp7
      have s8 : Same H H7 := s6.trans s7
      refine ⟨p, d, _, cs.map (·.1), rfl, hp7, s8 _ _ hd, ?_, ?_, fun n hn hall => ?_⟩
      · rw [List.map_map, List.map_map]
        rfl
      · rw [List.length_map]
        exact List.length_pos_of_mem hm
      have en : n = m := by
        obtain ⟨y, hy, rfl⟩ := List.mem_map.mp hn
        have h1 := hmax y hy
        have h2 := hall m (List.mem_map.mpr ⟨_, hm, rfl⟩)
        omega
      subst en
      walk_at "rd"
      rw [decide_eq_true rfl]
      walk_at "rd"
      refine rd_isdT (s8 _ _ hd) ?_
      walk_at "rd"
      refine rd_slT (st_of (s8 _ _ ht)) (fun z => absurd (show (1 : Nat) = 0 from z.1) (by decide)) fun _ p2 hp2 => ?_
      have s9 : Same H7 (upd H7 p2 (.tup [.int j, .int k])) := Same.new hp2
      have hp9 : (upd H7 p2 (.tup [.int j, .int k])) p2 = some (.tup (([.inl (j : Int), .inl (k : Int)] : List Key).map kV)) := upd_same
      refine ⟨_, DGet.t ((s8.trans s9) _ _ hd) hp9, ?_⟩
      rw [enc_at one hm]
      walk_at "rd"
      refine rd_ixT (st_of ((s8.trans s9) _ _ ht)) (v := .int n) rfl ?_
      walk_at "rd"
      show Q (.bl (decide (V.int n = V.int n))) _
      rw [decide_eq_true rfl]
      exact q _ (s8.trans s9)
theorem ok__law_right {Z : Zn} (T : Tx Z) : GF Z "_law_right" 1 ["found", "some"] [] (sp__law_right Z) := GF.of (T.df 11) (T.glo 11) b__law_right sc__law_right (by walk_at "len") (w__law_right T)


/-! ## law -/
def N_law : List Str := ["script", "source", "moments", "sizes", "shape", "rows", "some", "turn", "handed", "found"]
theorem sc_law : FnScope N_law ["script"] (defScope s_law) := ⟨rfl, rfl, rfl, by decide +kernel, rfl, by decide +kernel, by decide +kernel⟩
theorem b_law : BindsBy "law" "law" s_law ["script"] := fun _ _ _ _ _ _ us hl => match us, hl with | [_], _ => rfl
theorem good_shaped2 {w : Int} {K : PySem.W.Frag} {H : Hp} {vs : List V} {a b : Addr} (h : ∀ v ∈ vs, GoodV w H v) (e : H a = some (.lst vs)) (e2 : H b = some (.lst vs)) : ∃ d, Dp K H (.ref a) d ∧ Dp K H (.ref b) d ∧ SeqAt.shaped d = true := by
  obtain ⟨ds, h1, h2, h3, h4⟩ := good_dp (K := K) h
  refine ⟨.list ds, .lst (sq_of e) h1, .lst (sq_of e2) h1, ?_⟩
  unfold SeqAt.shaped
  rw [show PyData.canLay0 (.list ds) = PyData.canLayAll0 ds from rfl, h3, decide_eq_true (show PyData.depth (.list ds) ≤ 64 by rw [PyData.depth]; omega)]
  rfl
theorem tps_one {H : Hp} : ∀ {us : List V} {rows : List BRow}, Tps H us (rows.map BRow.l) → ∃ r1 : List BRow, Tps H (cutV us none (some 1)) (r1.map BRow.l) ∧ r1.length ≤ 1 ∧ (∀ r ∈ r1, r ∈ rows)
  | [], [], _ => ⟨[], .nil, Nat.zero_le _, fun r h => nomatch h⟩
  | [], _ :: _, h => by cases h
  | _ :: _, [], h => by cases h
  | u :: us, r :: rows, h => by
    cases h with
    | cons a t =>
      have e : cutV (u :: us) none (some 1) = [u] := by
        simp [cutV, HT.sIx]
      rw [e]
      exact ⟨[r], .cons a .nil, Nat.le_refl _, fun x hx => by rw [List.mem_singleton.mp hx]; exact List.mem_cons_self⟩
theorem bkAll_one0 (M : Int → Int) : ∀ rows : List BRow, rows.length ≤ 1 → bkAll M rows rows.length = []
  | [], _ => rfl
  | [_], _ => rfl
  | _ :: _ :: _, h => by simp at h
def sp_law (Z : Zn) : Sp := fun vs H Q _ => ∃ a ns, vs = [.ref a] ∧ Scr Z.K H a ns ∧ ns.length ≤ 63 ∧ ∀ H', Q (.bl true) H'
theorem w_law {Z : Zn} (T : Tx Z) : BodyOk Z N_law "law" s_law (He.fAd Z.K ("law", none)) 4 (sp_law Z) := by
  intro cdv A outer s H vs Q E hr hu tk hx hp h
  have sc := sc_law
  refine ⟨_, (pss_cons (ps_set (i := 1) sc.nd rfl (by first | exact Or.inl rfl | exact Or.inr rfl) (pe_g (ok__law_digits T) (hr.mono (by decide)) (by rfl) hx (pa_cons (pe_g (ok__law_cell_at T) (hr.mono (by decide)) (by rfl) hx (pa_cons (pv 0) (pa_cons pe_int pa_nil))) pa_nil)))
    (pss_cons (ps_set (i := 2) sc.nd rfl (by first | exact Or.inl rfl | exact Or.inr rfl) (pe_ix (ix_U hu) (pe_lst (pa_cons (pe_op op_addU pe_int (pe_g (ok__law_next T) (hr.mono (by decide)) (by rfl) hx (pa_cons (pv 1) (pa_cons pe_int pa_nil)))) (pa_cons (pe_op op_powU pe_int pe_int) pa_nil))) (pe_g (ok__law_next T) (hr.mono (by decide)) (by rfl) hx (pa_cons (pv 1) (pa_cons pe_int pa_nil))) (fun _ _ => rfl)))
    (pss_cons (ps_set (i := 3) sc.nd rfl (by first | exact Or.inl rfl | exact Or.inr rfl) (pe_tup (pa_cons (pv 2) (pa_cons (pe_op op_addU pe_int (pe_g (ok__law_next T) (hr.mono (by decide)) (by rfl) hx (pa_cons (pv 1) (pa_cons pe_int pa_nil)))) (pa_cons (pe_op op_addU pe_int (pe_g (ok__law_next T) (hr.mono (by decide)) (by rfl) hx (pa_cons (pv 1) (pa_cons pe_int pa_nil)))) pa_nil)))))
    (pss_cons (ps_set (i := 4) sc.nd rfl (by first | exact Or.inl rfl | exact Or.inr rfl) (pe_c (ok_Shape T) (hr.mono (by decide)) (by rfl) hx (pa_cons (pe_ix (ix_U hu) (pv 3) pe_int (fun _ _ => rfl)) (pa_cons (pe_ix (ix_U hu) (pv 3) pe_int (fun _ _ => rfl)) (pa_cons (pe_ix (ix_U hu) (pv 3) pe_int (fun _ _ => rfl)) pa_nil)))))
    (pss_cons (ps_set (i := 5) sc.nd rfl (by first | exact Or.inl rfl | exact Or.inr rfl) (pe_g (ok__law_list T) (hr.mono (by decide)) (by rfl) hx (pa_cons (pv 0) (pa_cons (pv 1) (pa_cons (pv 3) pa_nil)))))
    (pss_cons (ps_set (i := 6) sc.nd rfl (by first | exact Or.inl rfl | exact Or.inr rfl) (pe_g (ok__law_pairs T) (hr.mono (by decide)) (by rfl) hx (pa_cons (pv 3) (pa_cons (pv 5) pa_nil))))
    (pss_cons (ps_for hp rfl (pi_range1 (by rfl) (n_range T) (pa_cons pe_int pa_nil)) (pg_name (i := 7) sc.nd rfl (by first | exact Or.inl rfl | exact Or.inr rfl))
    (pss_cons (ps_set (i := 8) sc.nd rfl (by first | exact Or.inl rfl | exact Or.inr rfl) (pe_callTy cty_list (by rfl) (n_list T) bt_list (pa_cons (pv 5) pa_nil)))
    (pss_cons (ps_set (i := 9) sc.nd rfl (by first | exact Or.inl rfl | exact Or.inr rfl) (pe_g (ok_back_by T) (hr.mono (by decide)) (by rfl) hx (pa_cons (pv 4) (pa_cons (pv 8) pa_nil))))
    (pss_cons (ps_if (PW.pt (pw_or (pt_cmpR (op_neU hr.units) (pv 8) (pv 5) (nomark _)) (pw_or1 (pt_not (pt_val (pe_g (ok__law_right T) (hr.mono (by decide)) (by rfl) hx (pa_cons (pv 9) (pa_cons (pv 6) pa_nil))))))))
    (pss_one (ps_ret pe_bl))
    pss_nil)
    (pss_one (ps_expr (pe_bm0 PySem.F.plainAttrs_list PySem.F.slot_list_clear PySem.F.type_list_clear mt_clear (pv 8))))))))
    (pss_one (ps_ret (pe_and (pe_cmpR op_isN2 (pe_g (ok_back_by T) (hr.mono (by decide)) (by rfl) hx (pa_cons (pv 4) (pa_cons (pe_lst pa_nil) pa_nil))) pe_non (nomark _)) (pe_one (pe_cmpR op_isN2 (pe_g (ok_back_by T) (hr.mono (by decide)) (by rfl) hx (pa_cons (pv 4) (pa_cons (pe_slice sl_U (pv 5) po_none (po_some pe_int)) pa_nil))) pe_non (nomark _))))))))))))), ?_⟩
  obtain ⟨a, ns, rfl, hscr, hns, q⟩ := h
  walk_at "rd"
  refine ⟨a, ns, 0, rfl, hscr.1, by decide, fun _ => ?_⟩
  walk_at "rd"
  refine ⟨_, rfl, fun s src hs _ => ?_⟩
  have s0 : Same H (upd H s (.lst (Src.l src))) := Same.new hs
  have hs0 : (upd H s (.lst (Src.l src))) s = some (.lst (Src.l src)) := upd_same
  generalize upd H s (.lst (Src.l src)) = H0 at s0 hs0
  have D0 : Drawn s H0 H0 := Drawn.start hs0
  walk_at "rd"
  refine nx_step D0 (by decide) (by decide) fun r1 H1 r10 r11 D1 _ _ => ?_
  walk_at "rd"
  refine rd_pow ⟨by decide, by decide, by decide⟩ ?_
  walk_at "rd"
  intro t1 ht1
  have D2 := D1.new (o := .lst [.int (1 + r1), .int (10 ^ (12 : Int).toNat)]) ht1
  have ht1' : (upd H1 t1 (.lst [.int (1 + r1), .int (10 ^ (12 : Int).toNat)])) t1 = some (.lst [.int (1 + r1), .int (10 ^ (12 : Int).toNat)]) := upd_same
  have nt1 : t1 ≠ s := by
    obtain ⟨s', e⟩ := D1.at_
    exact (ne_of_none e ht1).symm
  walk_at "rd"
  generalize upd H1 t1 (.lst [.int (1 + r1), .int (10 ^ (12 : Int).toNat)]) = H2 at D2 ht1'
  refine nx_step D2 (by decide) (by decide) fun r2 H3 r20 r21 D3 _ k3 => ?_
  obtain ⟨v, hv, at3⟩ := menu_at (xs := [.int (1 + r1), .int (10 ^ (12 : Int).toNat)]) r20 r21
  obtain ⟨m, rfl, pm, bm⟩ : ∃ m, v = V.int m ∧ 1 ≤ m ∧ m ≤ 10 ^ 12 := by
    simp only [List.mem_cons, List.not_mem_nil, or_false] at hv
    rcases hv with rfl | rfl
    · exact ⟨_, rfl, by omega, by omega⟩
    · exact ⟨_, rfl, by decide, by decide⟩
  refine rd_ixL (sq_of (k3 _ _ ht1' nt1)) at3 ?_
  walk_at "rd"
  refine nx_step D3 (by decide) (by decide) fun h0 H4 r30 r31 D4 _ _ => ?_
  walk_at "rd"
  refine nx_step D4 (by decide) (by decide) fun c0 H5 r40 r41 D5 _ _ => ?_
  obtain ⟨h, rfl, ph, bh⟩ : ∃ h, 1 + h0 = h ∧ 1 ≤ h ∧ h ≤ 10 := ⟨_, rfl, by omega, by omega⟩
  obtain ⟨c, rfl, pc, bc⟩ : ∃ c, 1 + c0 = c ∧ 1 ≤ c ∧ c ≤ 10 := ⟨_, rfl, by omega, by omega⟩
  walk_at "rd"
  intro z hz
  have hz6 : (upd H5 z (.tup [.int m, .int (1 + h0), .int (1 + c0)])) z = some (.tup [.int m, .int (1 + h0), .int (1 + c0)]) := upd_same
  have D6 := D5.new (o := .tup [.int m, .int (1 + h0), .int (1 + c0)]) hz
  generalize upd H5 z (.tup [.int m, .int (1 + h0), .int (1 + c0)]) = H6 at D6 hz6
  generalize 1 + h0 = h at *
  generalize 1 + c0 = c at *
  have lm : m.natAbs.log2 < 100 := Nat.lt_of_le_of_lt (log2_le (by omega) bm) (by decide)
  have lh : h.natAbs.log2 < 100 := Nat.lt_of_le_of_lt (log2_le (by omega) bh) (by decide)
  have lc : c.natAbs.log2 < 100 := Nat.lt_of_le_of_lt (log2_le (by omega) bc) (by decide)
  walk_at "rd"
  refine rd_ixT (st_of hz6) (v := .int m) rfl ?_
  walk_at "rd"
  refine rd_ixT (st_of hz6) (v := .int h) rfl ?_
  walk_at "rd"
  refine rd_ixT (st_of hz6) (v := .int c) rfl ?_
  walk_at "rd"
  intro p dx hp hdx ndp
  refine ⟨p, dx, .int m, .int h, .int c, _, _, _, rfl, upd_same, Kd.int, Kd.int, Kd.int, fun _ _ _ H7 f7 hp7 tk7 => ⟨rfl, ?_⟩, fun z => ?_⟩
  case refine_2 =>
    rw [isN1_int, isN1_int, isN1_int, decide_eq_true pm, decide_eq_true ph, decide_eq_true pc] at z
    cases z
  obtain ⟨s6, hs6⟩ := D6.at_
  have keep : ∀ {b : Addr} {o : HO}, H6 b = some o → H7 b = some o := fun {b o} e => f7 b o (by rw [upd_ne (ne_of_none e hp), upd_ne (ne_of_none e hdx)]; exact e) (ne_of_none e hp)
  have sh7 : ShapeAt Z H7 p m h c := ⟨⟨dx, hp7⟩, pm, ph, pc, by omega, by omega, by omega⟩
  have scr7 : Scr Z.K H7 a ns := hscr.tk ((TK.of_same s0).trans ((D6.tk hs0).trans fun b o _ e => keep e))
  have nps : p ≠ s := (ne_of_none hs6 hp).symm
  walk_at "rd"
  refine ⟨a, ns, s, s6, z, m, h, c, rfl, scr7, hns, keep hs6, keep hz6, pm, ph, pc, lm, lh, lc, fun R us H8 f8 _ hR nRs hR8 hg hul tk8 => ?_⟩
  have sh8 : ShapeAt Z H8 p m h c := sh7.fr f8 nps
  have hz8 : H8 z = some (.tup [.int m, .int h, .int c]) := tk8.tup (keep hz6)
  obtain ⟨rows, tp, hok⟩ := good_rows hg
  have hrl : rows.length = us.length := by rw [tp.len, List.length_map]
  walk_at "rd"
  refine ⟨z, R, m, h, c, us, rows, rfl, hz8, sq_of hR8, tp, by omega, ph, pc, by omega, by omega, fun d H9 s9 hd hd9 _ => ?_⟩
  walk_at "rd"
  have hok2 : ∀ r ∈ rows, 0 ≤ r.2.2 ∧ r.2.2 < m * h * c := fun r hr => (hok r hr).2.2
  refine ⟨2, rfl, by decide, by decide, for_range (lo := 0) (n := 2) (fun k σ H2 => ∃ y7 y8 y9, σ = [some (.ref a), some (.ref s), some (.int m), some (.ref z), some (.ref p), some (.ref R), some (.ref d), y7, y8, y9] ∧
    TK H9 H2 ∧ H2 R = some (.lst us) ∧ H2 d = some (.dT ((bkAll (ptsM h c) rows rows.length).map enc)) ∧ ShapeAt Z H2 p m h c) ?_ ?_ ?_⟩
  · exact ⟨none, none, none, rfl, TK.refl _, s9 _ _ hR8, hd9, sh8.same s9⟩
  · rintro k σ H2 hk ⟨y7, y8, y9, rfl, k2, hR2, hd2, sh2⟩
    have g2 : ∀ v ∈ us, GoodV (m * h * c) H2 v := fun v hv => ((hg v hv).tk (TK.of_same s9)).tk k2
    have tp2 := ((tp.same s9).tk k2)
    walk_at "rd"
    refine rd_listL (sq_of hR2) fun l hl => ?_
    have s3 : Same H2 (upd H2 l (.lst us)) := Same.new hl
    have hl3 : (upd H2 l (.lst us)) l = some (.lst us) := upd_same
    generalize upd H2 l (.lst us) = H3 at s3 hl3
    walk_at "rd"
    refine ⟨p, l, m, h, c, us, rows, rfl, sh2.same s3, sq_of hl3, tp2.same s3, by omega, hok2, fun e0 H4 s4 tk4 => ?_, fun d0 j k3 t H4 hm hmax s4 ht tk4 => ?_⟩
    · walk_at "rd"
      have g4 : ∀ v ∈ us, GoodV (m * h * c) H4 v := fun v hv => (g2 v hv).tk ((TK.of_same s3).trans tk4)
      obtain ⟨dd, dp1, dp2, shp⟩ := good_shaped2 (K := Z.K) g4 (s4 _ _ hl3) (s4 _ _ (s3 _ _ hR2))
      refine rd_neSame dp1 dp2 shp ?_
      walk_at "rd"
      refine ⟨.non, d, bkAll (ptsM h c) rows rows.length, rfl, s4 _ _ (s3 _ _ hd2), fun x hx y hy e => bkAll_one _ _ _ x y hx hy e, .inl ⟨e0, rfl⟩, fun H5 s5 tk5 => ?_⟩
      have s25 : Same H2 H5 := (s3.trans s4).trans s5
      walk_at "rd"
      have hl5 := s5 _ _ (s4 _ _ hl3)
      refine ty_lst hl5 ?_
      refine rd_clear hl5 ?_
      walk_at "rd"
      refine ⟨_, _, _, rfl, (k2.trans (TK.of_same s25)).lst hl5, ?_, ?_, ?_⟩
      · rw [upd_ne (ne_of_none hR2 hl)]
        exact s25 _ _ hR2
      · rw [upd_ne (ne_of_none hd2 hl)]
        exact s25 _ _ hd2
      · obtain ⟨dx2, e2⟩ := sh2.at_
        refine ShapeAt.fr sh2 (S := (· = l)) ((Fr.of_same s25).upd (.inl rfl)) ?_
        exact ne_of_none e2 hl
    · walk_at "rd"
      have g4 : ∀ v ∈ us, GoodV (m * h * c) H4 v := fun v hv => (g2 v hv).tk ((TK.of_same s3).trans tk4)
      obtain ⟨dd, dp1, dp2, shp⟩ := good_shaped2 (K := Z.K) g4 (s4 _ _ hl3) (s4 _ _ (s3 _ _ hR2))
      refine rd_neSame dp1 dp2 shp ?_
      walk_at "rd"
      refine ⟨.ref t, d, bkAll (ptsM h c) rows rows.length, rfl, s4 _ _ (s3 _ _ hd2), fun x hx y hy e => bkAll_one _ _ _ x y hx hy e, .inr ⟨d0, j, k3, t, rfl, ht, hm, hmax⟩, fun H5 s5 tk5 => ?_⟩
      have s25 : Same H2 H5 := (s3.trans s4).trans s5
      walk_at "rd"
      have hl5 := s5 _ _ (s4 _ _ hl3)
      refine ty_lst hl5 ?_
      refine rd_clear hl5 ?_
      walk_at "rd"
      refine ⟨_, _, _, rfl, (k2.trans (TK.of_same s25)).lst hl5, ?_, ?_, ?_⟩
      · rw [upd_ne (ne_of_none hR2 hl)]
        exact s25 _ _ hR2
      · rw [upd_ne (ne_of_none hd2 hl)]
        exact s25 _ _ hd2
      · obtain ⟨dx2, e2⟩ := sh2.at_
        refine ShapeAt.fr sh2 (S := (· = l)) ((Fr.of_same s25).upd (.inl rfl)) ?_
        exact ne_of_none e2 hl
  · rintro σ H2 ⟨y7, y8, y9, rfl, k2, hR2, hd2, sh2⟩
    have tp2 := ((tp.same s9).tk k2)
    walk_at "rd"
    intro e he
    have s3 : Same H2 (upd H2 e (.lst [])) := Same.new he
    have he3 : (upd H2 e (.lst [])) e = some (.lst []) := upd_same
    generalize upd H2 e (.lst []) = H3 at s3 he3
    walk_at "rd"
    refine ⟨p, e, m, h, c, [], [], rfl, sh2.same s3, sq_of he3, .nil, by decide, (fun r hr => nomatch hr), fun _ H4 s4 tk4 => ?_, fun d0 j k3 t H4 hm => nomatch hm⟩
    walk_at "rd"
    refine rd_slL (sq_of (s4 _ _ (s3 _ _ hR2))) fun e2 he2 => ?_
    have s5 : Same H4 (upd H4 e2 (.lst (cutV us none (some 1)))) := Same.new he2
    have he5 : (upd H4 e2 (.lst (cutV us none (some 1)))) e2 = some (.lst (cutV us none (some 1))) := upd_same
    generalize upd H4 e2 (.lst (cutV us none (some 1))) = H5 at s5 he5
    obtain ⟨r1, tp1, l1, in1⟩ := tps_one tp2
    have s25 : Same H2 H5 := (s3.trans s4).trans s5
    walk_at "rd"
    refine ⟨p, e2, m, h, c, _, r1, rfl, sh2.same s25, sq_of he5, tp1.same s25, by omega, fun r hr => hok2 r (in1 r hr), fun _ H6 s6 tk6 => ?_, fun d0 j k3 t H4 hm => ?_⟩
    · walk_at "rd"
      rw [decide_eq_true rfl]
      exact q _
    · rw [bkAll_one0 _ r1 l1] at hm
      cases hm
theorem ok_law {Z : Zn} (T : Tx Z) : GF Z "law" 5 ["script"] [] (sp_law Z) := GF.of (T.df 12) (T.glo 12) b_law sc_law (by walk_at "len") (w_law T)


/-! ## the end -/
theorem end_call {l : PySem.W.OpenLaw} {m j : Nat} {v : Program} {ls : List Str} {X1 : (Str → Option Value) → Heap → Prop} {Y1 : World → Heap → Prop} {dr : DefRec} {y : Str} (e1 : l.most = some m) (e2 : m ≤ sizeLine) (e3 : dr.params.defaults = []) (rm : Room j callerA)
    (G0 : ∀ (wd : World) (tb : Str → Option Value) (f0 : Addr) (g : Heap), Y1 wd g → g.Ns mainGlobals tb → tb dr.name = some (.ref f0) → ∃ (C : PySem.W.Frag) (dd : FuncData) (pr : Sp), C.In g ∧ (∀ (t : Shared) (z : Value), BindsTo t dd ⟨[z], []⟩ [(y, z)]) ∧
      (∀ (HH : Hp) (b : Addr) (ks : List Int), ks.length ≤ m → Only HH → SqL C HH b (ks.map V.int) → pr [.ref b] HH (fun z _ => z = .bl true) fun _ _ _ => False) ∧ ∀ bs : Heap, C.In bs → bs.Ns mainGlobals tb → FnOk l.prog wd C tb bs (L2.CX l.prog wd) j f0 dd [y] pr) :
    PySem.W.WalkO v ls X1 Y1 l.row.toRowW dr [] (fun f vs => PySem.call f vs) := by
  refine Att.attach_call e1 e3 fun wd t0 t1 tb bt f0 o0 p1 p2 p3 b zs ks gr yy q1 q2 q3 q4 q5 q6 q7 q8 => ?_
  obtain ⟨C, dd, pr, c1, c2, c3, c4⟩ := G0 wd tb f0 _ yy gr.T.g q4
  refine law_call c1 gr.T.g gr.T.b gr.T.builtins gr.T.nolimit q8 q5 q6 (Nat.le_trans q7 e2) rm c4 c2 (fun HH o1 o2 => c3 HH b ks q7 o1 o2) fun HH u t9 z => ?_
  obtain ⟨_, _, _, _, _, _, _, _, _, _, _, _, z9⟩ := z
  exact z9
abbrev Rr : PySem.W.OpenRow := PySem.W.OpenLaw.row PySem.Challenge.rw_namehouses_k58_whole_lists_of_any_rows
abbrev hkk : PySem.W.Hook := He.hookD 6 fa fn
def obb (s : PySem.W.SharedT) : He.AlD := He.obsDG 6 fa fn (HandSHeadRun.getT s)
theorem obb_eq (s : PySem.W.SharedT) : obb s = hkk.obs s.abs := He.obsDG_eq (HandSHeadRun.getT_eq s)
def loose0 : List Str := ["HouseError", "NoShape", "NoName", "is_whole", "is_below", "Shape", "parts_of", "back_by", "_law_cell_at", "_law_mixed", "_law_digits", "_law_next", "_law_list", "_law_pairs", "_law_right"]
def loose : List Str := loose0
theorem run_eq (w : World) : HandSHeadRun.RunEq Rr (PySem.W.view Rr.prog [19]) hkk obb 4000 loose w := by
  intro os
  kernel_rfl
theorem law_at {P : Program} {w : World} {K : PySem.W.Frag} {h : Heap} {mg : Str → Option Value} {f0 : Addr} (X : K.In h) (G : h.Ns mainGlobals mg) (hf : mg ("law" : Str) = some (.ref f0)) (c : He.SaysD fa fn K) :
    ∃ fd : FuncData, (∀ (s : Shared) (v : Value), BindsTo s fd ⟨[v], []⟩ [("script", v)]) ∧ ∀ base : Heap, K.In base → base.Ns mainGlobals mg → FnOk P w K mg base (L2.CX P w) 5 f0 fd ["script"] (sp_law ⟨P, w, K, mg, base⟩) := by
  have T0 : Tx (⟨P, w, K, mg, h⟩ : Zn) := ⟨⟨h, X, G⟩, c⟩
  obtain ⟨fd, F⟩ := (T0.df (p := ("law", none)) (x := "law") (qual := "law") (st := s_law) 12).fn
  have e := hf.symm.trans (T0.glo (x := "law") 12)
  cases e
  have b := FunD.bindsA (ps := ["script"]) F b_law
  refine ⟨fd, fun s v => b s [v] rfl, fun base _ _ => ?_⟩
  have T1 : Tx (⟨P, w, K, mg, base⟩ : Zn) := ⟨⟨h, X, G⟩, c⟩
  exact fnOk_of (Z := ⟨P, w, K, mg, base⟩) F sc_law (by walk_at "len") (w_law T1)
end NH
open PySem PySem.W PySem.Calls PyProof.Rows
theorem PySem.Challenge.cw_namehouses_k58_whole_lists_of_any_rows_holds : PySem.Challenge.rw_namehouses_k58_whole_lists_of_any_rows.Holds := by
  w_on; o_law
  refine HandSHeadRun.head_any (r := NH.Rr) (q := view NH.Rr.prog [19]) (H := NH.hkk) (ob := NH.obb) (M := 4000) (loose := NH.loose) (d := HandSHeadRun.topDef NH.Rr.prog 19) (kwd := []) NH.obb_eq
    (by kernel_rfl) (fun s => by kernel_rfl) NH.run_eq (by kernel_rfl) (by kernel_rfl) (by kernel_rfl) (by rfl) (by first | assumption | decide +kernel) (by decide +kernel) ⟨rfl, rfl, rfl, rfl, rfl, by decide +kernel⟩ ?hw ?hc
  case hw => w_witness2
  case hc =>
    refine NH.end_call (l := PySem.Challenge.rw_namehouses_k58_whole_lists_of_any_rows) (m := 63) (j := 5) (y := "script") rfl (by decide) (by kernel_rfl) ⟨rfl, by decide, by decide⟩ ?F
    intro w mg f0 h Y G hm0
    obtain ⟨K, KX, c⟩ := Y
    have hm : mg ("law" : PySem.Str) = some (.ref f0) := by
      have e : (HandSHeadRun.topDef NH.Rr.prog 19).name = ("law" : PySem.Str) := by kernel_rfl
      rw [← e]
      exact hm0
    obtain ⟨fd, hb, hF⟩ := NH.law_at (P := (PySem.Challenge.rw_namehouses_k58_whole_lists_of_any_rows).prog) (w := w) KX G hm c
    exact ⟨K, fd, NH.sp_law ⟨(PySem.Challenge.rw_namehouses_k58_whole_lists_of_any_rows).prog, w, K, mg, h⟩, KX, hb, fun H a ns hl ho hS => ⟨a, ns, rfl, NH.Scr.of_only ho hS, hl, fun _ => rfl⟩, hF⟩
