import PyProof.Rows.All
import Wide.All
import OpenK.AllK
import Wide.FinOn
import KE.KStateDown
import HandS.Head0
import HandS.Head1
import HandS.Head2
import HandS.HeadEnd
import HandS.HeadHook1
import HandS.HeadHook2
import HandS.ForMost
import HandS.ForExc
import HandS.IsInst
import HandS.Wide
import HandS.Defaults
import HandS.Style
import HandS.TupAny
import HandS.WideBits
import HandS.SortKw
import KE.DataMinMax
import KE.SortData
import KE.KDictWalk
import KE.KSliceW
import KE.DataEq
import HandS.HotCalls
import HandS.ExcIs
import HandS.TryMany
import HandS.TryOnly
import HandS.Walk
import HandS.ExcInitHot
import PySem.Challenge.RW_namehouses_k29_whole_let_cut_and_let_aga
set_option Elab.async false
set_option linter.all false
set_option maxRecDepth 100000
set_option maxHeartbeats 4000000
namespace NH
open PySem PySem.Spec PyProof.Rows L2
/-! Own rules over the hand layer: packed promises, union readings, steps. -/

/-! ### tuples never change -/
def Imm : HO → Prop
  | .tup _ => True
  | .frz _ _ => True
  | _ => False
/-- tuples, and what is locked, stand -/
def TK (H H' : Hp) : Prop := ∀ b o, Imm o → H b = some o → H' b = some o
theorem TK.tup {H H' : Hp} (k : TK H H') {b : Addr} {xs : List V} (h : H b = some (.tup xs)) : H' b = some (.tup xs) := k b _ trivial h
theorem TK.of {H H' : Hp} (h1 : ∀ b xs, H b = some (.tup xs) → H' b = some (.tup xs)) (h2 : ∀ b o u, H b = some (.frz o u) → H' b = some (.frz o u)) : TK H H' := fun b o i e => by
  cases o <;> first | exact h1 _ _ e | exact h2 _ _ _ e | exact i.elim
theorem TK.refl (H : Hp) : TK H H := fun _ _ _ h => h
theorem TK.trans {H H1 H2 : Hp} (a : TK H H1) (b : TK H1 H2) : TK H H2 := fun c o i h => b c o i (a c o i h)
theorem TK.of_same {H H' : Hp} (s : Same H H') : TK H H' := fun b _ _ h => s b _ h
/-- a promise, and tuples stand -/
def spT (sp : Sp) : Sp := fun vs H Q E => sp vs H (fun v H2 => TK H H2 → Q v H2) (fun c d H2 => TK H H2 → E c d H2)
theorem _root_.L2.FnOk.tk {P : Program} {w : World} {K : PySem.W.Frag} {mg : Str → Option Value} {base : Heap} {k : Nat} {f : Addr} {fd : FuncData} {ps : List Str} {sp : Sp} (F : FnOk P w K mg base (L2.CX P w) k f fd ps sp) : FnOk P w K mg base (L2.CX P w) k f fd ps (spT sp) := by
  refine ⟨fun vs H Q E h => F.len vs H _ _ h, fun A outer s H args us vs Q E hr he hb hv h => codeAny_mono (F.run A outer s H args us vs _ _ hr he hb hv h) fun r s' q => ?_⟩
  cases r with
  | error e =>
    obtain ⟨a, B, H', cls, d, h1, h2, h3, h4, h5, h6, h7, h8⟩ := q
    exact ⟨a, B, H', cls, d, h1, h2, h3, h4, h5, h6, h7, h8 (.of h4.tups h4.frzs)⟩
  | ok fl =>
    cases fl with
    | ret u =>
      obtain ⟨v, H', h1, h2, h3, h4, h5, h6⟩ := q
      exact ⟨v, H', h1, h2, h3, h4, h5, h6 (.of h3.tups h3.frzs)⟩
    | next => exact False.elim q
    | brk => exact False.elim q
    | cont => exact False.elim q

/-! ### packed promises -/
/-- the surroundings -/
structure Zn where
  P : Program
  w : World
  K : PySem.W.Frag
  mg : Str → Option Value
  base : Heap
/-- a def of the module that keeps its promise -/
structure GF (Z : Zn) (x : Str) (k : Nat) (ps : List Str) (dvs : List V) (sp : Sp) : Prop where
  ex : ∃ f fd ds, Z.mg x = some (.ref f) ∧ PySem.W.keepIn Z.K (.ref f) = true ∧ Binds Z.K fd ps ds ∧ Vals dvs ds ∧ FnOk Z.P Z.w Z.K Z.mg Z.base (L2.CX Z.P Z.w) k f fd ps sp
/-- a method -/
structure MF (Z : Zn) (C : Addr) (m : Str) (k : Nat) (ps : List Str) (dvs : List V) (sp : Sp) : Prop where
  ex : ∃ f fd ds, Cls Z.K C ∧ Meth Z.K C m f ∧ Binds Z.K fd ps ds ∧ Vals dvs ds ∧ FnOk Z.P Z.w Z.K Z.mg Z.base (L2.CX Z.P Z.w) k f fd ps sp
/-- a class that is made by its __init__ -/
structure CF (Z : Zn) (x : Str) (C : Addr) (k : Nat) (ps : List Str) (dvs : List V) (sp : Sp) : Prop where
  ex : ∃ f fd ds, Z.mg x = some (.ref C) ∧ Mk Z.K C f ∧ Binds Z.K fd ps ds ∧ Vals dvs ds ∧ FnOk Z.P Z.w Z.K Z.mg Z.base (L2.CX Z.P Z.w) k f fd ps sp
/-- an own error class over ValueError without __init__ -/
structure XF (Z : Zn) (x : Str) (C : Addr) : Prop where
  gC : Z.mg x = some (.ref C)
  xC : PySem.W.excIn Z.K C He.veBase "ValueError.__new__" = true
  kC : PySem.W.keepIn Z.K (.ref C) = true
  sC : PySem.W.subIn Z.K (.ref C) (.type "BaseException") = some true
  tC : PySem.W.typeIn Z.K (.ref C) = some (.type "type")

section
variable {X : Cx} {Z : Zn} {k j : Nat} {C : Addr} {ps : List Str} {sp : Sp} {dvs : List V} {E : XK} {x m : Str} {p pos apos : Pos} {e o : Expr} {es : List Expr} {ta : TE} {t : TA}
/-- X stands in Z -/
structure In (X : Cx) (Z : Zn) : Prop where
  prog : X.prog = Z.P
  w : X.w = Z.w
  K : X.K = Z.K
  mg : X.mg = Z.mg
  base : X.base = Z.base
theorem pe_g (G : GF Z x k ps dvs sp) (hr : Room k X.A) (hg : Gl X x) (hx : Passes (L2.CX X.prog X.w) X E) (ha : PA X (e :: es) t) (hI : In X Z := by exact ⟨rfl, rfl, rfl, rfl, rfl⟩)
    (hdb : (x == ("__debug__" : Str)) = false := by decide) (he : starEach (e :: es) X.env = (false, eval e X.env) :: starEach es X.env := by rfl) (hpl : (backTo pos (starEach es X.env)).any (·.1) = false := by rfl) :
    PE X (.Call (.Name x p) (e :: es) [] pos) (tCall (spT sp) dvs E t) := by
  obtain ⟨f, fd, ds, h1, h2, h3, h4, h5⟩ := G.ex
  obtain ⟨i1, i2, i3, i4, i5⟩ := hI
  rw [← i3] at h2 h3
  rw [← i4] at h1
  rw [← i1, ← i2, ← i3, ← i4, ← i5] at h5
  exact pe_call h5.tk hr hg h1 h2 h3 h4 hx ha hdb he hpl
theorem pe_g0 (G : GF Z x k ps dvs sp) (hr : Room k X.A) (hg : Gl X x) (hx : Passes (L2.CX X.prog X.w) X E) (hI : In X Z := by exact ⟨rfl, rfl, rfl, rfl, rfl⟩)
    (hdb : (x == ("__debug__" : Str)) = false := by decide) :
    PE X (.Call (.Name x p) [] [] pos) (tCall (spT sp) dvs E tNil) := by
  obtain ⟨f, fd, ds, h1, h2, h3, h4, h5⟩ := G.ex
  obtain ⟨i1, i2, i3, i4, i5⟩ := hI
  rw [← i3] at h2 h3
  rw [← i4] at h1
  rw [← i1, ← i2, ← i3, ← i4, ← i5] at h5
  exact pe_call0 h5.tk hr hg h1 h2 h3 h4 hx hdb
theorem pe_m {pl : Sem Bool} (G : MF Z C m k ps dvs sp) (he : PE X o ta) (hr : Room k X.A) (hx : Passes (L2.CX X.prog X.w) X E) (ha : PA X (e :: es) t) (hI : In X Z := by exact ⟨rfl, rfl, rfl, rfl, rfl⟩)
    (hst : starEach (e :: es) X.env = (false, eval e X.env) :: starEach es X.env := by rfl) (hpl : (backTo pos (starEach es X.env)).any (·.1) = false := by rfl)
    (ht : eval (.Call (.Attribute o m apos) (e :: es) [] pos) X.env = (do
      let ov ← eval o X.env
      standAt apos.atName
      let (f, first) ← holding [ov] (getMethod ov m pl)
      callWith pos f first (backTo pos (starEach (e :: es) X.env)) (backToKw pos (keywordEach [] X.env))) := by rfl) :
    PE X (.Call (.Attribute o m apos) (e :: es) [] pos) (tMeth C m (spT sp) dvs E ta t) := by
  obtain ⟨f, fd, ds, h1, h2, h3, h4, h5⟩ := G.ex
  obtain ⟨i1, i2, i3, i4, i5⟩ := hI
  rw [← i3] at h1 h2 h3
  rw [← i1, ← i2, ← i3, ← i4, ← i5] at h5
  exact pe_meth he h1 h2 h5.tk hr h3 h4 hx ha hst hpl ht
theorem pe_m0 {pl : Sem Bool} (G : MF Z C m k ps dvs sp) (he : PE X o ta) (hr : Room k X.A) (hx : Passes (L2.CX X.prog X.w) X E) (hI : In X Z := by exact ⟨rfl, rfl, rfl, rfl, rfl⟩)
    (ht : eval (.Call (.Attribute o m apos) [] [] pos) X.env = (do
      let ov ← eval o X.env
      standAt apos.atName
      let (f, first) ← holding [ov] (getMethod ov m pl)
      callWith pos f first (backTo pos (starEach [] X.env)) (backToKw pos (keywordEach [] X.env))) := by rfl) :
    PE X (.Call (.Attribute o m apos) [] [] pos) (tMeth C m (spT sp) dvs E ta tNil) := by
  obtain ⟨f, fd, ds, h1, h2, h3, h4, h5⟩ := G.ex
  obtain ⟨i1, i2, i3, i4, i5⟩ := hI
  rw [← i3] at h1 h2 h3
  rw [← i1, ← i2, ← i3, ← i4, ← i5] at h5
  exact pe_meth0 he h1 h2 h5.tk hr h3 h4 hx ht
theorem pe_c (G : CF Z x C k ps dvs sp) (hr : Room (k + 1) X.A) (hg : Gl X x) (hx : Passes (L2.CX X.prog X.w) X E) (ha : PA X (e :: es) t) (hI : In X Z := by exact ⟨rfl, rfl, rfl, rfl, rfl⟩)
    (hdb : (x == ("__debug__" : Str)) = false := by decide) (he : starEach (e :: es) X.env = (false, eval e X.env) :: starEach es X.env := by rfl) (hpl : (backTo pos (starEach es X.env)).any (·.1) = false := by rfl) :
    PE X (.Call (.Name x p) (e :: es) [] pos) (tMake C (spT sp) dvs E t) := by
  obtain ⟨f, fd, ds, h1, h2, h3, h4, h5⟩ := G.ex
  obtain ⟨i1, i2, i3, i4, i5⟩ := hI
  rw [← i3] at h2 h3
  rw [← i4] at h1
  rw [← i1, ← i2, ← i3, ← i4, ← i5] at h5
  exact pe_make h2 h5.tk hr hg h1 h3 h4 hx ha hdb he hpl
theorem pe_c0 (G : CF Z x C k ps dvs sp) (hr : Room (k + 1) X.A) (hg : Gl X x) (hx : Passes (L2.CX X.prog X.w) X E) (hI : In X Z := by exact ⟨rfl, rfl, rfl, rfl, rfl⟩)
    (hdb : (x == ("__debug__" : Str)) = false := by decide) :
    PE X (.Call (.Name x p) [] [] pos) (tMake C (spT sp) dvs E tNil) := by
  obtain ⟨f, fd, ds, h1, h2, h3, h4, h5⟩ := G.ex
  obtain ⟨i1, i2, i3, i4, i5⟩ := hI
  rw [← i3] at h2 h3
  rw [← i4] at h1
  rw [← i1, ← i2, ← i3, ← i4, ← i5] at h5
  exact pe_make0 h2 h5.tk hr hg h1 h3 h4 hx hdb
/-- raise X("..") -/
theorem ps_x {W : WX} {m : Str} {i : Nat} {p2 : Pos} (G : XF Z x C) (hc : X.calm = true) (tk : Takes X W) (hg : Gl X x) (hI : In X Z := by exact ⟨rfl, rfl, rfl, rfl, rfl⟩) (hdb : (x == ("__debug__" : Str)) = false := by decide) :
    PS X (.Raise (some (.Call (.Name x p) [.Constant (.str m) i p2] [] pos)) none apos) (fun _ σ H => W (.ref C) none σ H) := by
  obtain ⟨i1, i2, i3, i4, i5⟩ := hI
  obtain ⟨g1, g2, g3, g4, g5⟩ := G
  rw [← i4] at g1
  rw [← i3] at g2 g3 g4 g5
  exact ps_raise hc tk (pmk_own PySem.F.excBase_ValueError g2 g1 g3 (raises_own g4 g5) hg hdb)
end
/-- the statement in a def: what a raise does -/
def tRz (C : Addr) (W : WX) : TS := fun _ σ H => W (.ref C) none σ H

theorem paired_get {α β : Type} {F : α → β → Prop} : ∀ {l₁ : List α} {l₂ : List β} {i : Nat} {x : α}, Paired F l₁ l₂ → l₁[i]? = some x → ∃ y, l₂[i]? = some y ∧ F x y
  | _, _, _, _, .nil, e => by simp at e
  | _, _, 0, _, .cons (b := b) r _, e => by
    have e1 := Option.some.inj e
    rw [← e1]
    exact ⟨b, rfl, r⟩
  | _, _, i + 1, x, .cons _ t, e => by
    obtain ⟨y, h1, h2⟩ := paired_get (i := i) (x := x) t (by simpa using e)
    exact ⟨y, by simpa using h1, h2⟩
/-! ### union readings -/
def rAddI : R2 := rI0 fun i j => .int (i + j)
def rCatS : R2 := fun x y H Q => ∃ i j, x = .str i ∧ y = .str j ∧ i.length + j.length ≤ sizeLine ∧ Q (.str (i ++ j)) H
def rAddU (K : PySem.W.Frag) : R2 := fun x y H Q => rAddI x y H Q ∨ rCatS x y H Q ∨ rCat x y H Q ∨ rCatA K x y H Q
def rSubU : R2 := rI0 fun i j => .int (i - j)
def rMulI : R2 := rI CMulW fun i j => .int (i * j)
def rMulU : R2 := fun x y H Q => rMulI x y H Q ∨ rI CMul (fun i j => .int (i * j)) x y H Q ∨ rRep x y H Q
def rDivU : R2 := rI CDivW fun i j => .int (i / j)
def rModU : R2 := rI (fun _ j => 0 < j) fun i j => .int (i % j)
def rPowU : R2 := rI CPow fun i j => .int (i ^ j.toNat)
def rLtU : R2 := rI0 fun i j => .bl (decide (i < j))
def rLeU : R2 := rI0 fun i j => .bl (decide (i ≤ j))
def rGtU : R2 := rI0 fun i j => .bl (decide (j < i))
def rGeU : R2 := rI0 fun i j => .bl (decide (j ≤ i))
/-- a dict of tuples as keys, and {} -/
def rEq0 : R2 := fun x y H Q => ∃ a b kvs, x = .ref a ∧ y = .ref b ∧ H a = some (.dT kvs) ∧ H b = some (.dT []) ∧ Q (.bl kvs.isEmpty) H
def rEqU (K : PySem.W.Frag) : R2 := fun x y H Q => rEq x y H Q ∨ rEqD K x y H Q ∨ rEq0 x y H Q
def rNeU (K : PySem.W.Frag) : R2 := fun x y H Q => rNe x y H Q ∨ rNeD K x y H Q
def rIsN : R2 := fun x y H Q => y = .non ∧ Q (.bl (decide (x = .non))) H
def rNotN : R2 := fun x y H Q => y = .non ∧ Q (.bl (!decide (x = .non))) H
/-- d[k] by value -/
def rIxD : R2 := fun x y H Q => ∃ a v, x = .ref a ∧ DGet H a y (some v) ∧ Q v H
def rIxU (K : PySem.W.Frag) : R2 := fun x y H Q => rIxL K x y H Q ∨ rIxT K x y H Q ∨ rIxS x y H Q ∨ rIxD x y H Q
def rSlU (K : PySem.W.Frag) : V → Option Int → Option Int → Hp → VK → Prop := fun x lo hi H Q => rSlL K x lo hi H Q ∨ rSlA K x lo hi H Q ∨ rSlS x lo hi H Q
section
variable {X : Cx}
theorem op_addU : OpR X (binaryOp .Add) (rAddU X.K) := op_add.or (op_add_str.or (op_cat.or op_catA))
theorem op_subU : OpR X (binaryOp .Sub) rSubU := op_sub
theorem op_mulU : OpR X (binaryOp .Mult) rMulU := op_mulW.or (op_mul.or op_rep)
theorem op_divU : OpR X (binaryOp .FloorDiv) rDivU := op_fdivW
theorem op_modU : OpR X (binaryOp .Mod) rModU := op_mod
theorem op_powU : OpR X (binaryOp .Pow) rPowU := op_pow
theorem op_ltU : OpR X (compareOp .Lt) rLtU := op_lt
theorem op_leU : OpR X (compareOp .LtE) rLeU := op_le
theorem op_gtU : OpR X (compareOp .Gt) rGtU := op_gt
theorem op_geU : OpR X (compareOp .GtE) rGeU := op_ge
theorem dt_raw {P : Program} {w : World} {H : Hp} {h : Heap} {d : Addr} {kvs : List (List Key × V)} (ok : HOk P w H h) (e : H d = some (.dT kvs)) :
    (d == sysModules) = false ∧ ∃ es ep, h.DictRaw d es ep ∧ es.size = kvs.length ∧ ∀ (i : Nat) (hi : i < es.size) q, kvs[i]? = some q → RelV q.2 es[i].val := by
  obtain ⟨z, hs, xs, rel, o, es, ep, h1, h2, h3, h4, nd⟩ := (show ObjOk P w H h d (.dT kvs) from ok d _ e)
  have hl : es.size = xs.length := by rw [← Array.length_toList, h4, List.length_map]
  refine ⟨hs, es, ep, ⟨o, h1, h2, h3⟩, hl.trans (Paired.length rel).symm, fun i hi q hq => ?_⟩
  obtain ⟨y, hy, r⟩ := paired_get rel hq
  have e1 : es.toList[i]? = some (entryOfKey (tupleKind (mixKind P w)) y) := by rw [h4, List.getElem?_map, hy]; rfl
  have e2 : es.toList[i]? = some es[i] := by rw [Array.getElem?_toList]; exact Array.getElem?_eq_getElem hi
  rw [e1] at e2
  rw [← Option.some.inj e2]
  exact r.2.2
theorem raw_nil {P : Program} {w : World} {h : Heap} {d : Addr} {es : Array DictEntry} {ep : Nat} (r : h.DictRaw d es ep) (z : es.size = 0) : h.DictOf (mixKind P w) d [] := by
  obtain ⟨o, h1, h2, h3⟩ := r
  have e : es = #[] := Array.eq_empty_of_size_eq_zero z
  subst e
  exact ⟨o, _, _, h1, h2, h3, fun x hx => by simp at hx, .nil, List.nodup_nil⟩
theorem samePairs0 {P : Program} {w : World} {A : Around} {E : Value → Shared → Prop} {s : Shared} {nm : String} {a b : Addr} {es es' : Array DictEntry} {ep ep' : Nat} {Q : Bool → Shared → Prop} (ha : (a == sysModules) = false) (hb : (b == sysModules) = false)
    (da : s.heap.DictRaw a es ep) (db : s.heap.DictRaw b es' ep') (z : es'.size = 0) (h : Q (decide (es.size = 0)) s) : wpAny (model P w) A (Builtin.Dict.samePairs nm a b) Q E s := by
  by_cases hz : es.size = 0
  · rw [decide_eq_true hz] at h
    exact PySem.W.keq_samePairs (knd := mixKind P w) (r := true) ha hb (raw_nil da hz) (raw_nil db z) (fun _ => .nil) h
  · rw [decide_eq_false hz] at h
    obtain ⟨oa, hoa, _, hda⟩ := da
    obtain ⟨ob, hob, _, hdb⟩ := db
    unfold Builtin.Dict.samePairs Builtin.Dict.showsAll
    rw [if_neg (show ¬ (a == sysModules) = true by rw [ha]; exact Bool.false_ne_true), if_neg (show ¬ (b == sysModules) = true by rw [hb]; exact Bool.false_ne_true)]
    refine wpAny_bind (wpAny_pure (wpAny_bind (wpAny_pure ?_)))
    refine wpAny_bind (wpAny_dictEntries hoa hda ?_)
    dsimp only
    refine wpAny_bind (wpAny_dictEntries hob hdb ?_)
    rw [if_pos (by rw [z]; simpa using hz)]
    exact wpAny_bind (wpAny_rule (wpAny_pure h))
theorem op_eq0 (hu : X.A.units + 64 < cLine) : OpR X (compareOp .Eq) rEq0 := by
  intro pins s σ H x y v u Q I rx ry h
  obtain ⟨a, b, kvs, rfl, rfl, ea, eb, q⟩ := h
  obtain rfl : v = Value.ref a := rx
  obtain rfl : u = Value.ref b := ry
  obtain ⟨ha, es, ep, da, la, _⟩ := dt_raw I.hok ea
  obtain ⟨hb, es', ep', db, lb, _⟩ := dt_raw I.hok eb
  refine wpAny_richCompare_same_room (op := .Eq) da.typeIs db.typeIs PySem.F.slot_dict_eq (wpAny_call_entry PySem.F.slot_dict_eq da.typeIs PySem.F.entry_dict_eq ?_ (PySem.F.args_dict_eq_2 _ _)) (by omega)
  show wpAny _ _ (Builtin.Dict.dictSlotArgs "__eq__" ⟨[.ref a, .ref b], []⟩ >>= _) _ _ s
  refine wpAny_bind ?_
  unfold Builtin.Dict.dictSlotArgs
  refine wpAny_bind (wpAny_notOrdered_dict da.typeIs ?_)
  show wpAny _ _ (pure (Value.ref a, Value.ref b)) _ _ s
  refine wpAny_pure ?_
  refine wpAny_bind (wpAny_isInstance (T := "dict") db.typeIs PySem.F.sub_dict_dict ?_)
  simp only [Bool.not_true, Bool.false_eq_true, if_false]
  refine wpAny_bind (wpAny_pure (wpAny_bind (wpAny_pure ?_)))
  refine wpAny_bind (samePairs0 ha hb da db lb ?_)
  refine wpAny_pure ⟨_, rfl, ?_, ?_⟩
  · exact fun x => nomatch x
  · refine ⟨.bl kvs.isEmpty, H, I.tok _, ?_, q⟩
    have e : (decide (es.size = 0)) = kvs.isEmpty := by
      rw [la]
      cases kvs <;> simp
    rw [e]
    cases kvs <;> rfl
theorem op_eqU (hu : X.A.units + 64 < cLine) : OpR X (compareOp .Eq) (rEqU X.K) := op_eq.or ((op_eqD hu).or (op_eq0 hu))
theorem op_neU (hu : X.A.units + 64 < cLine) : OpR X (compareOp .NotEq) (rNeU X.K) := op_ne.or (op_neD hu)
theorem op_isN2 : OpR X (compareOp .Is) rIsN := op_isN
theorem op_notN2 : OpR X (compareOp .IsNot) rNotN := op_notN
theorem ix_dict (hu : X.A.units + 1 < cLine) : IxR X rIxD := by
  intro value slice pins s σ H x y v u Q I rx ry h hs
  obtain ⟨a, z, rfl, g, q⟩ := h
  cases rx
  exact tail_any (dict_typeIs I g) slot_dict_getitem.lookup (d_getItem hu I g ry fun w' s' I' rw' => ⟨z, H, I', rw', q⟩) hs
theorem ix_U (hu : X.A.units + 1 < cLine) : IxR X (rIxU X.K) := ix_list.or (ix_tup.or (ix_str.or (ix_dict hu)))
theorem sl_U : SlR X (rSlU X.K) := sl_list.or (sl_tupA.or sl_str)
end

section
variable {X : Cx}
/-- in: a list or tuple of flat things, a dict's keys, one sign of a text -/
def rInD : R2 := fun x y H Q => ∃ a o, y = .ref a ∧ DGet H a x o ∧ Q (.bl o.isSome) H
def rNiD : R2 := fun x y H Q => ∃ a o, y = .ref a ∧ DGet H a x o ∧ Q (.bl (!o.isSome)) H
def rInS : R2 := fun x y H Q => ∃ (c : Nat) (z : Str), x = .str ⟨#[c]⟩ ∧ y = .str z ∧ Q (.bl (decide (c ∈ z.cps.toList))) H
def rNiS : R2 := fun x y H Q => ∃ (c : Nat) (z : Str), x = .str ⟨#[c]⟩ ∧ y = .str z ∧ Q (.bl (!decide (c ∈ z.cps.toList))) H
def rInU (K : PySem.W.Frag) : R2 := fun x y H Q => rIn K false x y H Q ∨ rInD x y H Q ∨ rInS x y H Q
def rNiU (K : PySem.W.Frag) : R2 := fun x y H Q => rIn K true x y H Q ∨ rNiD x y H Q ∨ rNiS x y H Q
theorem op_inD (hu : X.A.units + 1 < cLine) : OpR X (compareOp .In) rInD := by
  intro pins s σ H x y v u Q I rx ry h
  obtain ⟨a, o, rfl, g, q⟩ := h
  cases ry
  exact d_in hu I g rx fun s' I' => ⟨.bl o.isSome, H, I', rfl, q⟩
theorem op_niD (hu : X.A.units + 1 < cLine) : OpR X (compareOp .NotIn) rNiD := by
  intro pins s σ H x y v u Q I rx ry h
  obtain ⟨a, o, rfl, g, q⟩ := h
  cases ry
  exact d_notIn hu I g rx fun s' I' => ⟨.bl (!o.isSome), H, I', rfl, q⟩
theorem op_inU (hu : X.A.units + 1 < cLine) : OpR X (compareOp .In) (rInU X.K) := op_in_seq.or ((op_inD hu).or op_in_sign)
theorem op_niU (hu : X.A.units + 1 < cLine) : OpR X (compareOp .NotIn) (rNiU X.K) := op_notIn_seq.or ((op_niD hu).or op_notIn_sign)
/-- stores to a place -/
def rSetD : TSet := fun o i v H Q => ∃ a H4, o = .ref a ∧ DPut H a i v H4 ∧ Q H4
def rSetU : TSet := fun o i v H Q => rSetL o i v H Q ∨ rSetD o i v H Q
theorem set_dict (hu : X.A.units + 1 < cLine) : PSet X rSetD := by
  intro pins s σ H o i v ov iv u Q I ro ri rv h
  obtain ⟨a, H4, rfl, g, q⟩ := h
  cases ro
  exact d_setItem hu I g ri rv fun s' I' => ⟨H4, I', q⟩
theorem set_U (hu : X.A.units + 1 < cLine) : PSet X rSetU := by
  intro pins s σ H o i v ov iv u Q I ro ri rv h
  rcases h with h | h
  · exact set_list pins s σ H o i v ov iv u Q I ro ri rv h
  · exact set_dict hu pins s σ H o i v ov iv u Q I ro ri rv h
/-- {} -/
theorem PE.or {e : Expr} {t u : TE} (h : PE X e t) (k : PE X e u) : PE X e (fun σ H Q => t σ H Q ∨ u σ H Q) := ⟨fun pins s σ H Q I q => q.elim (h.run pins s σ H Q I) (k.run pins s σ H Q I)⟩
def tDNewU : TE := fun σ H Q => tDNewK σ H Q ∨ tDNewT σ H Q
theorem pe_dnewU {pos : Pos} : PE X (.Dict [] [] pos) tDNewU := PE.or pe_dnewK pe_dnewT
/-- constants of the module, built-in classes as values -/
theorem pe_k {Z : Zn} {x : Str} {v : V} {pos : Pos} (G : ∃ u, Z.mg x = some u ∧ RelV v u) (hg : Gl X x) (hI : In X Z := by exact ⟨rfl, rfl, rfl, rfl, rfl⟩) (hd : (x == ("__debug__" : Str)) = false := by decide) : PE X (.Name x pos) (tC v) := by
  obtain ⟨u, h1, h2⟩ := G
  obtain ⟨i1, i2, i3, i4, i5⟩ := hI
  rw [← i4] at h1
  exact pe_glob hg h1 h2 hd
theorem pe_ty {x : Str} {n : String} {pos : Pos} (hm : X.mg x = none) (hg : Gl X x) (hv : bootBuiltins x = some (.type n)) (hn : x ≠ "__name__" := by decide) (hd : (x == ("__debug__" : Str)) = false := by decide) : PE X (.Name x pos) (tC (.ty n)) := pe_bltn hg hm hv rfl hn hd
theorem cb_isinstance : CallR X (.builtin "isinstance") (rIsi X.K) := call_isi
def rLenU (K : PySem.W.Frag) : List V → Hp → VK → Prop := fun xs H Q => (∃ p ys, xs = [.ref p] ∧ (SqL K H p ys ∨ SqT K H p ys) ∧ Q (.int ys.length) H) ∨ (∃ a kvs, xs = [V.ref a] ∧ H a = some (.dK kvs) ∧ Q (.int kvs.length) H) ∨
  (∃ x n, xs = [x] ∧ LenV K x H n ∧ Q (.int n) H)
theorem CallR.or {f : Value} {r r' : List V → Hp → VK → Prop} (h : CallR X f r) (h' : CallR X f r') : CallR X f (fun xs H Q => r xs H Q ∨ r' xs H Q) := by
  intro pins s σ H xs us Q I rx q
  rcases q with q | q
  · exact h pins s σ H xs us Q I rx q
  · exact h' pins s σ H xs us Q I rx q
theorem cb_len : CallR X (.builtin "len") (rLenU X.K) := CallR.or call_len_seq (CallR.or call_lenD call_len)
def rMax2 : List V → Hp → VK → Prop := fun xs H Q => ∃ i j, xs = [.int i, .int j] ∧ Q (.int (if j > i then j else i)) H
def rMin2 : List V → Hp → VK → Prop := fun xs H Q => ∃ i j, xs = [.int i, .int j] ∧ Q (.int (if j < i then j else i)) H
theorem cb_max2 (hc : X.calm = true) : CallR X (.builtin "max") rMax2 := call_max2 hc
theorem cb_min2 (hc : X.calm = true) : CallR X (.builtin "min") rMin2 := call_min2 hc
def rDivmod : List V → Hp → VK → Prop := fun xs H Q => ∃ i j, xs = [.int i, .int j] ∧ CDivP i j ∧ ∀ p, H p = none → Q (.ref p) (upd H p (.tup [.int (i / j), .int (i % j)]))
theorem cb_divmod : CallR X (.builtin "divmod") rDivmod := call_divmodW
def rListOf (K : PySem.W.Frag) : List V → Hp → VK → Prop := fun xs H Q => ∃ p ys, xs = [.ref p] ∧ (SqL K H p ys ∨ SqT K H p ys) ∧ ∀ l, H l = none → Q (.ref l) (upd H l (.lst ys))
theorem cty_list : CallR X (.type "list") (rListOf X.K) := call_list_of
def rTupOf (K : PySem.W.Frag) : List V → Hp → VK → Prop := fun xs H Q => ∃ p ys, xs = [.ref p] ∧ ((SqL K H p ys ∧ ∀ l, H l = none → Q (.ref l) (upd H l (.tup ys))) ∨ (SqT K H p ys ∧ Q (.ref p) H))
theorem cty_tuple : CallR X (.type "tuple") (rTupOf X.K) := call_tuple_of

/-! inside a block the readings must name the frame from outside -/
theorem op_addK {K : PySem.W.Frag} (hk : X.K = K) : OpR X (binaryOp .Add) (rAddU K) := hk ▸ op_addU
theorem op_eqK {K : PySem.W.Frag} (hk : X.K = K) (hu : X.A.units + 64 < cLine) : OpR X (compareOp .Eq) (rEqU K) := hk ▸ op_eqU hu
theorem op_neK {K : PySem.W.Frag} (hk : X.K = K) (hu : X.A.units + 64 < cLine) : OpR X (compareOp .NotEq) (rNeU K) := hk ▸ op_neU hu
theorem ix_K {K : PySem.W.Frag} (hk : X.K = K) (hu : X.A.units + 1 < cLine) : IxR X (rIxU K) := hk ▸ ix_U hu
theorem sl_K {K : PySem.W.Frag} (hk : X.K = K) : SlR X (rSlU K) := hk ▸ sl_U
theorem op_inK {K : PySem.W.Frag} (hk : X.K = K) (hu : X.A.units + 1 < cLine) : OpR X (compareOp .In) (rInU K) := hk ▸ op_inU hu
theorem op_niK {K : PySem.W.Frag} (hk : X.K = K) (hu : X.A.units + 1 < cLine) : OpR X (compareOp .NotIn) (rNiU K) := hk ▸ op_niU hu
theorem cb_isinstanceK {K : PySem.W.Frag} (hk : X.K = K) : CallR X (.builtin "isinstance") (rIsi K) := hk ▸ cb_isinstance
theorem cb_lenK {K : PySem.W.Frag} (hk : X.K = K) : CallR X (.builtin "len") (rLenU K) := hk ▸ cb_len
theorem cty_listK {K : PySem.W.Frag} (hk : X.K = K) : CallR X (.type "list") (rListOf K) := hk ▸ cty_list
theorem cty_tupleK {K : PySem.W.Frag} (hk : X.K = K) : CallR X (.type "tuple") (rTupOf K) := hk ▸ cty_tuple
end

/-! ### where a def stands; its promise by its body -/
/-- the def named x stands behind the top -/
structure DF (Z : Zn) (x qual : Str) (st : Stmt) (dvs : List V) (f : Addr) : Prop where
  fn : ∃ fd, FunD Z.K x qual (defArgs st) (defBody st) (defScope st) dvs [] f fd
abbrev bodyX (Z : Zn) (N : List Str) (qual : Str) (st : Stmt) (f : Addr) (cdv : Value) (A : Around) (outer : List Env) (s : Shared) (H : Hp) (E : XK) : Cx := cxOf (L2.CX Z.P Z.w) Z.P Z.w Z.K Z.mg Z.base N qual (defScope st) f cdv A outer s H E
/-- what is to be shown of a body -/
def BodyOk (Z : Zn) (N : List Str) (qual : Str) (st : Stmt) (f : Addr) (k : Nat) (sp : Sp) : Prop :=
  ∀ (cdv : Value) (A : Around) (outer : List Env) (s : Shared) (H : Hp) (vs : List V) (Q : VK) (E : XK), Room k (bodyX Z N qual st f cdv A outer s H E).A → (bodyX Z N qual st f cdv A outer s H E).A.units + 1 < cLine →
    Takes (bodyX Z N qual st f cdv A outer s H E) (fun cls d _ H => E cls d H) → Passes (L2.CX Z.P Z.w) (bodyX Z N qual st f cdv A outer s H E) E →
    PassesOwn (model Z.P Z.w) (bodyX Z N qual st f cdv A outer s H E).A (bodyX Z N qual st f cdv A outer s H E).env (bodyX Z N qual st f cdv A outer s H E).xe → sp vs H Q E →
    ∃ t, PSs (bodyX Z N qual st f cdv A outer s H E) (defBody st) t ∧ t { nx := fun _ H' => Q .non H', rt := Q } (start N vs) H
theorem fnOk_of {Z : Zn} {x qual : Str} {st : Stmt} {dvs : List V} {f : Addr} {fd : FuncData} {N ps : List Str} {k : Nat} {sp : Sp} (F : FunD Z.K x qual (defArgs st) (defBody st) (defScope st) dvs [] f fd) (S : FnScope N ps (defScope st)) (len : ∀ vs H Q E, sp vs H Q E → vs.length = ps.length)
    (hb : BodyOk Z N qual st f k sp) : FnOk Z.P Z.w Z.K Z.mg Z.base (L2.CX Z.P Z.w) (k + 1) f fd ps sp := by
  refine F.ok S len fun cdv A outer s H vs Q E hr h => ?_
  have tk : Takes (bodyX Z N qual st f cdv A outer s H E) (fun cls d _ H => E cls d H) := takes_of rfl rfl rfl rfl
  exact hb cdv A outer s H vs Q E hr (hu_of hr) tk (passes_call tk fun _ _ _ _ z => z) (passes_of rfl) h
/-- how arguments bind where there are no defaults -/
def BindsBy (x qual : Str) (st : Stmt) (ps : List Str) : Prop := ∀ (kV doc pm : Value) (an : Option Addr) (cdv ct : Value) (us : List Value), us.length = ps.length → bindArgs (PySem.W.fnOf x qual (defArgs st) (defBody st) (defScope st) .none kV doc pm an cdv ct) ⟨us, []⟩ = pure (ps.zip us)
theorem GF.of {Z : Zn} {x : Str} {st : Stmt} {f : Addr} {N ps : List Str} {k : Nat} {sp : Sp} (D : DF Z x x st [] f) (g : Z.mg x = some (.ref f)) (b : BindsBy x x st ps) (S : FnScope N ps (defScope st)) (len : ∀ vs H Q E, sp vs H Q E → vs.length = ps.length)
    (hb : BodyOk Z N x st f k sp) : GF Z x (k + 1) ps [] sp := by
  obtain ⟨fd, F⟩ := D.fn
  exact ⟨f, fd, [], g, F.kp, FunD.bindsN F b, .nil, fnOk_of F S len hb⟩
theorem MF.of {Z : Zn} {C : Addr} {m qual : Str} {st : Stmt} {f : Addr} {N ps : List Str} {k : Nat} {sp : Sp} (D : DF Z m qual st [] f) (c : Cls Z.K C) (g : Meth Z.K C m f) (b : BindsBy m qual st ps) (S : FnScope N ps (defScope st)) (len : ∀ vs H Q E, sp vs H Q E → vs.length = ps.length)
    (hb : BodyOk Z N qual st f k sp) : MF Z C m (k + 1) ps [] sp := by
  obtain ⟨fd, F⟩ := D.fn
  exact ⟨f, fd, [], c, g, FunD.bindsN F b, .nil, fnOk_of F S len hb⟩
theorem CF.of {Z : Zn} {C : Addr} {x qual : Str} {st : Stmt} {f : Addr} {N ps : List Str} {k : Nat} {sp : Sp} (D : DF Z "__init__" qual st [] f) (c : Z.mg x = some (.ref C)) (g : Mk Z.K C f) (b : BindsBy "__init__" qual st ps) (S : FnScope N ps (defScope st)) (len : ∀ vs H Q E, sp vs H Q E → vs.length = ps.length)
    (hb : BodyOk Z N qual st f k sp) : CF Z x C (k + 1) ps [] sp := by
  obtain ⟨fd, F⟩ := D.fn
  exact ⟨f, fd, [], c, g, FunD.bindsN F b, .nil, fnOk_of F S len hb⟩

/-! ### steps of a reading -/
section
variable {σ : L2.St} {H : Hp} {D : Ends} {Q : VK} {t u : TS} {ta tb : TE} {c : TT} {x y v : V} {r : R2} {K : PySem.W.Frag}
theorem rd_seq (h : t { D with nx := u D } σ H) : tSeq t u D σ H := h
theorem rd_next (h : D.nx σ H) : tNext D σ H := h
theorem rd_ret (h : ta σ H D.rt) : tRet ta D σ H := h
theorem rd_retN (h : D.rt .non H) : tRetN D σ H := h
theorem rd_drop (h : ta σ H fun _ H1 => D.nx σ H1) : tDrop ta D σ H := h
theorem rd_asg {g : TG} (h : ta σ H fun x H1 => g x σ H1 D.nx) : tAsg ta g D σ H := h
theorem rd_gname {i : Nat} {q : L2.St → Hp → Prop} (h : q (σ.set i (some v)) H) : gName i v σ H q := h
theorem rd_if (h : c σ H fun b H1 => if b = true then t D σ H1 else u D σ H1) : tIfS c t u D σ H := h
theorem rd_var {i : Nat} (h : σ[i]? = some (some v)) (q : Q v H) : tVar i σ H Q := ⟨v, h, q⟩
theorem rd_c (q : Q v H) : tC v σ H Q := q
theorem rd_op (h : ta σ H fun x H1 => tb σ H1 fun y H2 => r x y H2 Q) : tOp r ta tb σ H Q := h
theorem rd_un {r : V → Hp → VK → Prop} (h : ta σ H fun x H1 => r x H1 Q) : tUn r ta σ H Q := h
theorem rd_nil {Q : List V → Hp → Prop} (q : Q [] H) : tNil σ H Q := q
theorem rd_cons {ts : TA} {Q : List V → Hp → Prop} (h : ta σ H fun x H1 => ts σ H1 fun xs H2 => Q (x :: xs) H2) : tCons ta ts σ H Q := h
theorem rd_cb {r : List V → Hp → VK → Prop} {ts : TA} (h : ts σ H fun vs H1 => r vs H1 Q) : tCB r ts σ H Q := h
theorem rd_call {sp : Sp} {dvs : List V} {E : XK} {ts : TA} (h : ts σ H fun vs H1 => sp (vs ++ dvs) H1 Q E) : tCall sp dvs E ts σ H Q := h
theorem rd_spT {sp : Sp} {vs : List V} {E : XK} (h : sp vs H (fun v H2 => TK H H2 → Q v H2) (fun c d H2 => TK H H2 → E c d H2)) : spT sp vs H Q E := h
theorem rd_test {Q : Bool → Hp → Prop} (h : ta σ H fun x H' => ∃ k, x = .bl k ∧ Q k H') : tTest ta σ H Q := h
theorem rd_tB {Q : Bool → Hp → Prop} (h : ta σ H fun x H' => ∃ k, x = .bl k ∧ Q k H') : tB ta σ H Q := h
theorem rd_bl {k : Bool} {Q : Bool → Prop} (h : Q k) : ∃ k', V.bl k = .bl k' ∧ Q k' := ⟨k, rfl, h⟩
theorem rd_not {Q : Bool → Hp → Prop} (h : c σ H fun c H1 => Q (!c) H1) : tNot c σ H Q := h
theorem rd_and {c' : TT} {Q : Bool → Hp → Prop} (h : c σ H fun k H1 => if k = true then c' σ H1 Q else Q false H1) : tAnd c c' σ H Q := h
theorem rd_or {c' : TT} {Q : Bool → Hp → Prop} (h : c σ H fun k H1 => if k = true then Q true H1 else c' σ H1 Q) : tOr c c' σ H Q := h
theorem rd_andV (h : ta σ H fun x H1 => ∃ c, x = .bl c ∧ if c = true then tb σ H1 Q else Q (.bl false) H1) : tAndV ta tb σ H Q := h
theorem rd_orV (h : ta σ H fun x H1 => ∃ c, x = .bl c ∧ if c = true then Q (.bl true) H1 else tb σ H1 Q) : tOrV ta tb σ H Q := h
theorem rd_notV (h : ta σ H fun x H1 => ∃ c, x = .bl c ∧ Q (.bl (!c)) H1) : tNotV ta σ H Q := h
theorem rd_ifE (h : c σ H fun b H1 => if b = true then ta σ H1 Q else tb σ H1 Q) : tIf c ta tb σ H Q := h
theorem rd_tup {ts : TA} (h : ts σ H fun xs H1 => xs.length ≤ sizeLine ∧ ∀ p, H1 p = none → Q (.ref p) (upd H1 p (.tup xs))) : tTup ts σ H Q := h
theorem rd_lst {ts : TA} (h : ts σ H fun xs H1 => xs.length ≤ sizeLine ∧ ∀ p, H1 p = none → Q (.ref p) (upd H1 p (.lst xs))) : tLst ts σ H Q := h
theorem rd_fld {f : Str} (h : ta σ H fun x H1 => ∃ a C dx fs v, x = .ref a ∧ H1 a = some (.ins C dx fs) ∧ Cls K C ∧ NoAttr K C f ∧ fs.lookup f = some v ∧ Q v H1) : tFld K ta f σ H Q := h
/-! operators on known values -/
theorem rd_I0 {g : Int → Int → V} {i j : Int} (q : Q (g i j) H) : rI0 g (.int i) (.int j) H Q := ⟨i, j, rfl, rfl, q⟩
theorem rd_addI {i j : Int} (q : Q (.int (i + j)) H) : rAddU K (.int i) (.int j) H Q := .inl ⟨i, j, rfl, rfl, q⟩
theorem rd_sub {i j : Int} (q : Q (.int (i - j)) H) : rSubU (.int i) (.int j) H Q := ⟨i, j, rfl, rfl, q⟩
theorem rd_lt {i j : Int} (q : Q (.bl (decide (i < j))) H) : rLtU (.int i) (.int j) H Q := ⟨i, j, rfl, rfl, q⟩
theorem rd_le {i j : Int} (q : Q (.bl (decide (i ≤ j))) H) : rLeU (.int i) (.int j) H Q := ⟨i, j, rfl, rfl, q⟩
theorem rd_gt {i j : Int} (q : Q (.bl (decide (j < i))) H) : rGtU (.int i) (.int j) H Q := ⟨i, j, rfl, rfl, q⟩
theorem rd_ge {i j : Int} (q : Q (.bl (decide (j ≤ i))) H) : rGeU (.int i) (.int j) H Q := ⟨i, j, rfl, rfl, q⟩
theorem rd_mod {i j : Int} (h : 0 < j) (q : Q (.int (i % j)) H) : rModU (.int i) (.int j) H Q := ⟨i, j, rfl, rfl, h, q⟩
theorem rd_div {i j : Int} (h : CDivW i j) (q : Q (.int (i / j)) H) : rDivU (.int i) (.int j) H Q := ⟨i, j, rfl, rfl, h, q⟩
theorem rd_mulW {i j : Int} (h : CMulW i j) (q : Q (.int (i * j)) H) : rMulU (.int i) (.int j) H Q := .inl ⟨i, j, rfl, rfl, h, q⟩
theorem rd_mul {i j : Int} (h : CMul i j) (q : Q (.int (i * j)) H) : rMulU (.int i) (.int j) H Q := .inr (.inl ⟨i, j, rfl, rfl, h, q⟩)
theorem rd_eqS (h : scal x y = true) (q : Q (.bl (decide (x = y))) H) : rEqU K x y H Q := .inl ⟨h, q⟩
theorem rd_neS (h : scal x y = true) (q : Q (.bl (!decide (x = y))) H) : rNeU K x y H Q := .inl ⟨h, q⟩
theorem rd_isN (q : Q (.bl (decide (x = .non))) H) : rIsN x .non H Q := ⟨rfl, q⟩
theorem rd_notN (q : Q (.bl (!decide (x = .non))) H) : rNotN x .non H Q := ⟨rfl, q⟩
theorem rd_ixL {p : Addr} {xs : List V} {i : Int} (h : SqL K H p xs) (ha : atI xs i = some v) (q : Q v H) : rIxU K (.ref p) (.int i) H Q := .inl ⟨p, xs, i, v, rfl, rfl, h, ha, q⟩
theorem rd_ixT {p : Addr} {xs : List V} {i : Int} (h : SqT K H p xs) (ha : atI xs i = some v) (q : Q v H) : rIxU K (.ref p) (.int i) H Q := .inr (.inl ⟨p, xs, i, v, rfl, rfl, h, ha, q⟩)
theorem rd_isi {n m : String} {b : Bool} (ty : TyX K H x (.type n)) (e : kitB n m = some b) (q : Q (.bl b) H) : rIsi K [x, .ty m] H Q := ⟨x, .ty m, .type n, .type m, b, rfl, .ty m, ty, kit_ty e, q⟩
end

/-! ### the built-in names -/
theorem bt_len : bootBuiltins "len" = some (.builtin "len") := by first | exact PySem.boot_len | exact PyProof.Rows.boot_len | decide +kernel
theorem bt_isinstance : bootBuiltins "isinstance" = some (.builtin "isinstance") := by first | exact PySem.boot_isinstance | exact PyProof.Rows.boot_isinstance | decide +kernel
theorem bt_max : bootBuiltins "max" = some (.builtin "max") := by first | exact PySem.boot_max | exact PyProof.Rows.boot_max | decide +kernel
theorem bt_min : bootBuiltins "min" = some (.builtin "min") := by first | exact PySem.boot_min | exact PyProof.Rows.boot_min | decide +kernel
theorem bt_divmod : bootBuiltins "divmod" = some (.builtin "divmod") := by first | exact PySem.boot_divmod | exact PyProof.Rows.boot_divmod | decide +kernel
theorem bt_all : bootBuiltins "all" = some (.builtin "all") := by first | exact PySem.boot_all | exact PyProof.Rows.boot_all | decide +kernel
theorem bt_sorted : bootBuiltins "sorted" = some (.builtin "sorted") := by first | exact PySem.boot_sorted | exact PyProof.Rows.boot_sorted | decide +kernel
theorem bt_sum : bootBuiltins "sum" = some (.builtin "sum") := by first | exact PySem.boot_sum | exact PyProof.Rows.boot_sum | decide +kernel
theorem bt_int : bootBuiltins "int" = some (.type "int") := by first | exact PySem.boot_int | exact PyProof.Rows.boot_int | decide +kernel
theorem bt_bool : bootBuiltins "bool" = some (.type "bool") := by first | exact PySem.boot_bool | exact PyProof.Rows.boot_bool | decide +kernel
theorem bt_str : bootBuiltins "str" = some (.type "str") := by first | exact PySem.boot_str | exact PyProof.Rows.boot_str | decide +kernel
theorem bt_list : bootBuiltins "list" = some (.type "list") := by first | exact PySem.boot_list | exact PyProof.Rows.boot_list | decide +kernel
theorem bt_tuple : bootBuiltins "tuple" = some (.type "tuple") := by first | exact PySem.boot_tuple | exact PyProof.Rows.boot_tuple | decide +kernel
theorem bt_dict : bootBuiltins "dict" = some (.type "dict") := by first | exact PySem.boot_dict | exact PyProof.Rows.boot_dict | decide +kernel
theorem bt_range : bootBuiltins "range" = some (.type "range") := by first | exact PySem.boot_range | exact PyProof.Rows.boot_range | decide +kernel
theorem bt_enumerate : bootBuiltins "enumerate" = some (.type "enumerate") := by first | exact PySem.boot_enumerate | exact PyProof.Rows.boot_enumerate | decide +kernel
theorem bt_zip : bootBuiltins "zip" = some (.type "zip") := by first | exact PySem.boot_zip | exact PyProof.Rows.boot_zip | decide +kernel
theorem bt_set : bootBuiltins "set" = some (.type "set") := by first | exact PySem.boot_set | exact PyProof.Rows.boot_set | decide +kernel
/-! ### kinds of values -/
inductive Kind | non | bl | int | str | lst | tup | dct
  deriving DecidableEq
def Kind.nm : Kind → String
  | .non => "NoneType" | .bl => "bool" | .int => "int" | .str => "str" | .lst => "list" | .tup => "tuple" | .dct => "dict"
def isSub : Kind → Kind → Bool
  | .bl, .int => true
  | .non, .non => true | .bl, .bl => true | .int, .int => true | .str, .str => true | .lst, .lst => true | .tup, .tup => true | .dct, .dct => true
  | _, _ => false
theorem kits (a b : Kind) (h : b ≠ .non) : kitB a.nm b.nm = some (isSub a b) := by
  cases b <;> first | exact absurd rfl h | (cases a <;> decide +kernel)
/-- a value of a known kind -/
def Kd (K : PySem.W.Frag) (H : Hp) (x : V) (k : Kind) : Prop := TyX K H x (.type k.nm)
section
variable {K : PySem.W.Frag} {H : Hp} {x : V} {k : Kind} {Q : VK}
theorem isk_int (d : Kd K H x k) (q : Q (.bl (isSub k .int)) H) : rIsi K [x, .ty "int"] H Q := rd_isi (m := Kind.nm .int) d (kits k .int (by intro z; cases z)) q
theorem isk_bool (d : Kd K H x k) (q : Q (.bl (isSub k .bl)) H) : rIsi K [x, .ty "bool"] H Q := rd_isi (m := Kind.nm .bl) d (kits k .bl (by intro z; cases z)) q
theorem isk_str (d : Kd K H x k) (q : Q (.bl (isSub k .str)) H) : rIsi K [x, .ty "str"] H Q := rd_isi (m := Kind.nm .str) d (kits k .str (by intro z; cases z)) q
theorem isk_list (d : Kd K H x k) (q : Q (.bl (isSub k .lst)) H) : rIsi K [x, .ty "list"] H Q := rd_isi (m := Kind.nm .lst) d (kits k .lst (by intro z; cases z)) q
theorem isk_tuple (d : Kd K H x k) (q : Q (.bl (isSub k .tup)) H) : rIsi K [x, .ty "tuple"] H Q := rd_isi (m := Kind.nm .tup) d (kits k .tup (by intro z; cases z)) q
theorem isk_dict (d : Kd K H x k) (q : Q (.bl (isSub k .dct)) H) : rIsi K [x, .ty "dict"] H Q := rd_isi (m := Kind.nm .dct) d (kits k .dct (by intro z; cases z)) q
theorem Kd.non : Kd K H .non .non := .base .non
theorem Kd.bl {b : Bool} : Kd K H (.bl b) .bl := .base (.bl b)
theorem Kd.int {i : Int} : Kd K H (.int i) .int := .base (.int i)
theorem Kd.str {x : Str} : Kd K H (.str x) .str := .base (.str x)
theorem Kd.tup {a : Addr} {xs : List V} (h : H a = some (.tup xs)) : Kd K H (.ref a) .tup := .base (.tup h)
theorem Kd.lst {a : Addr} {xs : List V} (h : H a = some (.lst xs)) : Kd K H (.ref a) .lst := .base (.lst h)
theorem Kd.dK {a : Addr} {xs : List (Key × V)} (h : H a = some (.dK xs)) : Kd K H (.ref a) .dct := .base (.dK h)
def isW : V → Bool
  | .int _ => true
  | _ => false
theorem tyx_int {t : Value} (h : TyX K H x t) : t = .type "int" → isW x = true := by
  intro e
  cases h with
  | base b => cases b <;> first | rfl | (exfalso; exact absurd (Value.type.inj e) (by decide)) | cases e
  | _ => exfalso; exact absurd (Value.type.inj e) (by decide)
theorem tyx_notint {t : Value} (h : TyX K H x t) : t ≠ .type "int" → isW x = false := by
  intro e
  cases h with
  | base b => cases b <;> first | rfl | (exact absurd rfl e)
  | _ => rfl
theorem isW_of (d : Kd K H x k) : isW x = (isSub k .int && !isSub k .bl) := by
  cases k with
  | int => exact tyx_int d rfl
  | _ => exact tyx_notint d (fun z => absurd (Value.type.inj z) (by decide))
end

/-! ### more steps -/
def rFld (K : PySem.W.Frag) (f : Str) : V → Hp → VK → Prop := fun x H1 Q => ∃ a C dx fs v, x = .ref a ∧ H1 a = some (.ins C dx fs) ∧ Cls K C ∧ NoAttr K C f ∧ fs.lookup f = some v ∧ Q v H1
def Fr1 (a : Addr) (H H' : Hp) : Prop := ∀ b o, H b = some o → b ≠ a → H' b = some o
/-- all but S stands -/
def Fr (S : Addr → Prop) (H H' : Hp) : Prop := ∀ b o, H b = some o → ¬ S b → H' b = some o
theorem Fr.refl (S : Addr → Prop) (H : Hp) : Fr S H H := fun _ _ h _ => h
theorem Fr.trans {S : Addr → Prop} {H H1 H2 : Hp} (a : Fr S H H1) (b : Fr S H1 H2) : Fr S H H2 := fun c o h n => b c o (a c o h n) n
theorem Fr.of_same {S : Addr → Prop} {H H1 : Hp} (a : Same H H1) : Fr S H H1 := fun c o h _ => a c o h
theorem Fr.mono {S S' : Addr → Prop} {H H1 : Hp} (a : Fr S H H1) (h : ∀ b, S b → S' b) : Fr S' H H1 := fun c o e n => a c o e fun z => n (h c z)
theorem Fr.upd {S : Addr → Prop} {H H1 : Hp} {a : Addr} {o : HO} (f : Fr S H H1) (h : S a ∨ H a = none) : Fr S H (upd H1 a o) := fun c u e n => by
  rw [upd_ne]
  · exact f c u e n
  · rintro rfl
    rcases h with h | h
    · exact n h
    · rw [h] at e; cases e
theorem Fr.one {a : Addr} {H : Hp} {o : HO} {S : Addr → Prop} (h : S a) : Fr S H (L2.upd H a o) := (Fr.refl S H).upd (.inl h)
theorem _root_.L2.Same.upd' {H H1 : Hp} {a : Addr} {o : HO} (f : Same H H1) (h : H a = none) : Same H (L2.upd H1 a o) := fun c u e => by
  rw [upd_ne (ne_of_none e h)]
  exact f c u e
theorem _root_.L2.Same.new {H : Hp} {a : Addr} {o : HO} (h : H a = none) : Same H (L2.upd H a o) := (Same.refl H).upd' h
theorem _root_.L2.Same.get {H H' : Hp} {a : Addr} {o : HO} (s : Same H H') (h : H a = some o) : H' a = some o := s a o h
theorem none_of_upd {H : Hp} {a b : Addr} {o : HO} (h : L2.upd H b o a = none) : H a = none := by
  unfold L2.upd at h
  split at h
  · cases h
  · exact h
section
variable {σ : L2.St} {H : Hp} {D : Ends} {Q : VK} {t u : TS} {ta tb tc : TE} {c : TT} {x y v : V} {r r' : R2} {K : PySem.W.Frag}
theorem rd_fldR {f : Str} (h : ta σ H fun x H1 => rFld K f x H1 Q) : tFld K ta f σ H Q := h
theorem fld_at {a C dx : Addr} {fs : List (Str × V)} {f : Str} (h : H a = some (.ins C dx fs)) (k : Cls K C) (n : NoAttr K C f) (l : fs.lookup f = some v) (q : Q v H) : rFld K f (.ref a) H Q := ⟨a, C, dx, fs, v, rfl, h, k, n, l, q⟩
theorem rd_chain (h : ta σ H fun x H1 => tb σ H1 fun y H2 => r x y H2 fun z H3 => ∃ k, z = .bl k ∧ (if k = true then tc σ H3 fun w' H4 => r' y w' H4 Q else Q (.bl false) H3)) : tChain r r' ta tb tc σ H Q := h
theorem rd_make {C : Addr} {sp : Sp} {dvs : List V} {E : XK} {ts : TA} (h : ts σ H fun vs H1 => ∀ x dx, H1 x = none → H1 dx = none → dx ≠ x → sp (.ref x :: (vs ++ dvs)) (upd (upd H1 dx (.own x)) x (.ins C dx [])) (fun v H2 => v = .non ∧ Q (.ref x) H2) E) : tMake C sp dvs E ts σ H Q := h
theorem rd_for {wi : TI} {g : TG} (h : wi σ H fun J H1 => ∃ W : Nat → Nat → L2.St → Hp → Prop, (∃ m, W 0 m σ H1) ∧ ∀ i m σ H, W i m σ H →
  (J.stop i H ∧ D.nx σ H) ∨ (J.go i H ∧ ∃ N : L2.St → Hp → Prop, (∀ σ' H', N σ' H' → ∃ m', m' < m ∧ W (i + 1) m' σ' H') ∧ ∀ x H', J.yld i H x H' → g x σ H' fun σ2 H2 => t { D with nx := N, ct := N, bk := D.nx } σ2 H2)) : tFor wi g t D σ H := h
theorem rd_iL {R : It → Hp → Prop} (h : ta σ H fun x H1 => ∃ a, x = .ref a ∧ (∃ xs, SqL K H1 a xs) ∧ R (Itl K a) H1) : iList K ta σ H R := h
theorem rd_iT {R : It → Hp → Prop} (h : ta σ H fun x H1 => ∃ a, x = .ref a ∧ (∃ xs, SqT K H1 a xs) ∧ R (Itt K a) H1) : iTup K ta σ H R := h
theorem rd_iR1 {ts : TA} {R : It → Hp → Prop} (h : ts σ H fun vs H1 => ∃ j : Int, vs = [.int j] ∧ -(2 ^ 62) ≤ j ∧ j < 2 ^ 62 ∧ R (Itr 0 j.toNat) H1) : iRng1 ts σ H R := h
theorem rd_iR2 {ts : TA} {R : It → Hp → Prop} (h : ts σ H fun vs H1 => ∃ i j : Int, vs = [.int i, .int j] ∧ (-(2 ^ 62) ≤ i ∧ i < 2 ^ 62 ∧ -(2 ^ 62) ≤ j ∧ j < 2 ^ 62) ∧ R (Itr i (j - i).toNat) H1) : iRng2 ts σ H R := h
theorem rd_gsub {to ti : TE} {ts : TSet} {q : L2.St → Hp → Prop} (h : to σ H fun o H1 => ti σ H1 fun i H2 => ts o i v H2 fun H3 => q σ H3) : gSub to ti ts v σ H q := h
theorem set_at {p : Addr} {xs : List V} {k : Int} {j : Nat} {q : Hp → Prop} (h : H p = some (.lst xs)) (hj : ixN xs.length k = some j) (hq : q (upd H p (.lst (xs.set j v)))) : rSetU (.ref p) (.int k) v H q := .inl ⟨p, xs, k, j, rfl, rfl, h, hj, hq⟩
theorem set_dk {p : Addr} {kvs : List (Key × V)} {k : Key} {q : Hp → Prop} (h : H p = some (.dK kvs)) (hl : kvs.length < sizeLine) (hq : q (upd H p (.dK (putK kvs k v)))) : rSetU (.ref p) (kV k) v H q := .inr ⟨p, _, rfl, DPut.k h hl, hq⟩
theorem set_dt {p b : Addr} {kvs : List (List Key × V)} {k : List Key} {q : Hp → Prop} (h : H p = some (.dT kvs)) (hb : H b = some (.tup (k.map kV))) (hl : kvs.length < sizeLine) (hq : q (upd H p (.dT (putK kvs k v)))) : rSetU (.ref p) (.ref b) v H q := .inr ⟨p, _, rfl, DPut.t h hb hl, hq⟩
theorem rd_sfld {tv : TE} {f : Str} (h : tv σ H fun y H1 => ta σ H1 fun x H2 => ∃ a C dx fs, x = .ref a ∧ H2 a = some (.ins C dx fs) ∧ Cls K C ∧ NoAttr K C f ∧ fs.length < 1000 ∧ D.nx σ (upd H2 a (.ins C dx (putF f y fs)))) : sFld K ta tv f D σ H := h
theorem put_at {q : Hp → Prop} {a C dx : Addr} {fs fs' : List (Str × V)} {f : Str} (h : H a = some (.ins C dx fs)) (k : Cls K C) (n : NoAttr K C f) (hl : fs.length < 1000) (e : putF f y fs = fs') (hq : q (upd H a (.ins C dx fs'))) :
    ∃ a' C dx fs, V.ref a = .ref a' ∧ H a' = some (.ins C dx fs) ∧ Cls K C ∧ NoAttr K C f ∧ fs.length < 1000 ∧ q (upd H a' (.ins C dx (putF f y fs))) := ⟨a, C, dx, fs, rfl, h, k, n, hl, by rw [e]; exact hq⟩
end

theorem atI_int {α : Type} {xs : List α} {k : Int} {v : α} (h0 : 0 ≤ k) (h : xs[k.toNat]? = some v) : atI xs k = some v := by
  obtain ⟨n, rfl⟩ : ∃ n : Nat, k = (n : Int) := ⟨k.toNat, by omega⟩
  exact atI_nat h
theorem rd_sz {A B : Prop} (a : A) (b : B) : A ∧ B := ⟨a, b⟩
theorem _root_.L2.Kd_same {K : PySem.W.Frag} {H H' : Hp} {x : V} {k : Kind} (s : Same H H') (d : Kd K H x k) : Kd K H' x k := by
  have key : ∀ {t : Value}, TyX K H x t → t = .type k.nm → TyX K H' x t := by
    intro t d e
    cases d with
    | base b =>
      cases b with
      | non => exact .base .non
      | bl => exact .base (.bl _)
      | int => exact .base (.int _)
      | str => exact .base (.str _)
      | flt => exact .base (.flt _)
      | lst q => exact .base (.lst (s _ _ q))
      | frz q => exact .base (.frz (s _ _ q))
      | tup q => exact .base (.tup (s _ _ q))
      | dK q => exact .base (.dK (s _ _ q))
      | dT q => exact .base (.dT (s _ _ q))
      | ins q a b c2 d2 f2 => exact .base (.ins (s _ _ q) a b c2 d2 f2)
    | byt => exact .byt _
    | set q => exact .set (s _ _ q)
    | kList q c => exact .kList q c
    | kTuple q c => exact .kTuple q c
    | kDict q c => exact .kDict q c
    | fTuple q => exact .fTuple (s _ _ q)
    | fDict q => exact .fDict (s _ _ q)
  exact key d rfl
theorem Kd.same {K : PySem.W.Frag} {H H' : Hp} {x : V} {k : Kind} (d : Kd K H x k) (s : Same H H') : Kd K H' x k := L2.Kd_same s d

theorem log2_mul {i j : Int} : (i * j).natAbs.log2 ≤ i.natAbs.log2 + j.natAbs.log2 + 1 := by
  rw [Int.natAbs_mul]
  by_cases h : i.natAbs * j.natAbs = 0
  · rw [h]; simp
  · have h1 := @Nat.lt_log2_self i.natAbs
    have h2 := @Nat.lt_log2_self j.natAbs
    have h3 : i.natAbs * j.natAbs < 2 ^ (i.natAbs.log2 + 1) * 2 ^ (j.natAbs.log2 + 1) := Nat.mul_lt_mul'' h1 h2
    rw [← Nat.pow_add] at h3
    have h4 := (Nat.log2_lt h).mpr h3
    omega
theorem log2_le {i j : Int} (h0 : 0 ≤ i) (h : i ≤ j) : i.natAbs.log2 ≤ j.natAbs.log2 := by
  by_cases e : i.natAbs = 0
  · rw [e]; simp
  · have h1 := Nat.log2_self_le e
    have h2 : j.natAbs ≠ 0 := by omega
    exact (Nat.le_log2 h2).mpr (Nat.le_trans h1 (by omega))
theorem mulW_of {i j : Int} (hi : i.natAbs.log2 < 400000) (hj : j.natAbs.log2 < 400000) : CMulW i j := by unfold CMulW; omega
theorem divP_of {i j : Int} (h : 0 < j) (hj : j.natAbs.log2 < 9000) : CDivP i j := ⟨h, PyProof.noPylong_of_log2 hj⟩
theorem divmod_at {i j : Int} {H : Hp} {Q : VK} (h : CDivP i j) (q : ∀ p, H p = none → Q (.ref p) (upd H p (.tup [.int (i / j), .int (i % j)]))) : rDivmod [.int i, .int j] H Q := ⟨i, j, rfl, h, q⟩

/-! ### xs[::s], s 1 or -1 -/
theorem pick_one (items : Array Value) : slicePick items none none (some 1) = items := by
  have e : slicePick items none none (some 1) = slicePick items none none none := rfl
  rw [e, PySem.W.kms_pick_eq]
  unfold PySem.W.kms_pick
  simp [PySem.W.kms_lo, PySem.W.kms_hi]
  rw [← Array.length_toList, List.take_length]
def rStep (K : PySem.W.Frag) : R2 := fun x y H Q => ∃ a xs i, x = .ref a ∧ y = .int i ∧ SqL K H a xs ∧ (i = 1 ∨ i = -1) ∧ ∀ p, H p = none → Q (.ref p) (upd H p (.lst (if i = 1 then xs else xs.reverse)))
section
variable {X : Cx}
theorem pe_sliceS {e st : Expr} {te ts : TE} {p3 pos : Pos} (he : PE X e te) (hst : PE X st ts) : PE X (.Subscript e (.Slice none none (some st) p3) pos) (tOp (rStep X.K) te ts) := by
  refine ⟨fun pins s σ H Q I h => ?_⟩
  refine Subscript_ (thn (he.run pins s σ H _ I h) fun v s1 ⟨x, H1, I1, r1, q1⟩ => ?_)
  refine wpAny_Slice (thn (po_none.run pins s1 σ H1 (fun o H2 => o = none ∧ H2 = H1) I1 ⟨rfl, rfl⟩) fun vl s2 ⟨l, H2, I2, pl, el, e2⟩ => ?_)
  subst el e2
  refine thn (po_none.run pins s2 σ H2 (fun o H3 => o = none ∧ H3 = H2) I2 ⟨rfl, rfl⟩) fun vu s3 ⟨u, H3, I3, pu, eu, e3⟩ => ?_
  subst eu e3
  rw [evalPart_some]
  refine thn (hst.run pins s3 σ H3 _ I3 q1) fun vs s4 ⟨y, H4, I4, r4, a, xs, i, ex, ey, hx, hi, q⟩ => ?_
  subst ex ey
  cases r1
  have ps : IsPart vs (some i) := by
    obtain ⟨t, rfl⟩ := r4
    exact .int _ _
  have I5 : Inv X pins σ H4 { s4 with heap := s4.heap.push { cls := .type "slice", data := .fields #[vl, vu, vs] } } := I4.kept (t' := s4.toks) fun b ob q => Heap.get?_push_of_some _ q
  obtain ⟨its, r, ht, hz⟩ := I5.list hx
  have hlen := r.length
  show wpAny (model X.prog X.w) X.A (subscriptTail e (.Slice none none (some st) p3) (.ref a) (.ref s4.heap.objs.size)) (EP X pins σ Q) X.xe { s4 with heap := s4.heap.push { cls := .type "slice", data := .fields #[vl, vu, vs] } }
  refine tail_any (ops := [.ref a, .ref s4.heap.objs.size]) ht.isList.typeIs (PySem.slot_list_getitem.lookup) ?_ (by with_unfolding_all rfl)
  rcases hi with rfl | rfl
  · refine wpAny_getItem_list_slice ht.isList (Heap.IsSliceOf.new _ vl vu vs) pl pu ps (by decide) ?_ (by rw [List.size_toArray]; omega)
    rw [pick_one]
    refine ⟨.ref _, _, I5.laid (t' := s4.toks) (o := .lst xs) (fun b ob q => Heap.get?_push_of_some _ q) (Nat.le_refl _) ?_, rfl, q _ (I5.hok.fresh (Nat.le_refl _))⟩
    exact ⟨hz, _, 0, r, Heap.get?_push_size _ rfl⟩
  · refine wpAny_getItem_list_slice ht.isList (Heap.IsSliceOf.new _ vl vu vs) pl pu ps (by decide) ?_ (by rw [List.size_toArray]; omega)
    rw [PySem.W.krv_pick]
    refine ⟨.ref _, _, I5.laid (t' := s4.toks) (o := .lst xs.reverse) (fun b ob q => Heap.get?_push_of_some _ q) (Nat.le_refl _) ?_, rfl, q _ (I5.hok.fresh (Nat.le_refl _))⟩
    exact ⟨by rw [List.length_reverse]; exact hz, _, 0, r.reverse, Heap.get?_push_size _ rfl⟩
/-! ### max(xs, default=d) over data -/
open PySem.W in
def rMaxD (K : PySem.W.Frag) (A : Around) : List V → List V → Hp → VK → Prop := fun xs zs H Q => ∃ a d vs ds, xs = [.ref a] ∧ zs = [d] ∧ SqL K H a vs ∧ DpAll K H vs ds ∧ AlikeAll ds ∧ A.units + 1 + PyData.depthAll ds < cLine ∧
  (ds = [] → Q d H) ∧ (∀ (y : PyData) (ys : List PyData) (i : Nat) (v : V), ds = y :: ys → vs[i]? = some v → ds[i]? = some (maxD y ys) → Q v H)
theorem dpAll_len {K : PySem.W.Frag} {H : Hp} : ∀ {vs : List V} {ds : List PyData}, DpAll K H vs ds → vs.length = ds.length
  | [], _, h => by cases h; rfl
  | v :: vs, _, h => by
    cases h with
    | cons h1 h2 => exact congrArg Nat.succ (dpAll_len h2)
theorem dpAll_get {K : PySem.W.Frag} {H : Hp} : ∀ {vs : List V} {ds : List PyData} {i : Nat} {v : V} {d : PyData}, DpAll K H vs ds → vs[i]? = some v → ds[i]? = some d → Dp K H v d
  | [], _, _, _, _, h, e, _ => by simp at e
  | x :: vs, _, 0, v, d, h, e, e2 => by
    cases h with
    | cons h1 h2 =>
      have q1 : x = v := Option.some.inj e
      have q2 := Option.some.inj e2
      rw [← q1, ← q2]
      exact h1
  | x :: vs, _, i + 1, v, d, h, e, e2 => by
    cases h with
    | cons h1 h2 => exact dpAll_get h2 (by simpa using e) (by simpa using e2)
open PySem.W in
theorem cb_maxD (hc : X.calm = true) : CallRK X (.builtin "max") ["default"] (rMaxD X.K X.A) := by
  intro pins s σ H xs zs us ws Q I r1 r2 h
  obtain ⟨a, d, vs, ds, rfl, rfl, hs, hd, ha, hu, q0, q1⟩ := h
  obtain ⟨u, rfl, ru⟩ := vals1 r1
  obtain ⟨w', rfl, rw'⟩ := vals1 r2
  cases ru
  obtain ⟨its, rv, hp, hz⟩ := I.list hs
  obtain ⟨as, hr⟩ := Dp.readsAll I ds vs its hd rv
  refine max_list_default (I.ok.hd hc) hp.isList (by simpa using hr) ha hu (fun e h' tk k => ?_) fun y ys i v h' tk bs e hv rd k => ?_
  · exact ⟨d, H, I.kept (t' := tk) k, rw', q0 e⟩
  · have hv2 : its[i]? = some v := by simpa using hv
    have hi : i < its.length := (List.getElem?_eq_some_iff.mp hv2).1
    have hlen := rv.length
    have hlen2 := dpAll_len hd
    have e1 : vs[i]? = some vs[i] := List.getElem?_eq_getElem (by omega)
    have e2 : ds[i]? = some ds[i] := List.getElem?_eq_getElem (by omega)
    have d1 := dpAll_get hd e1 e2
    obtain ⟨u1, eu1, ru1⟩ := rv.get e1
    have ev : u1 = v := by rw [hv2] at eu1; exact (Option.some.inj eu1).symm
    rw [ev] at ru1
    obtain ⟨as1, rd1⟩ := Dp.reads I ds[i] vs[i] v d1 ru1
    have un := (Reads.unique (reads_keeps k rd1) _ _ rd).1
    exact ⟨vs[i], H, I.kept (t' := tk) k, ru1, q1 y ys i _ e e1 (by rw [e2, un])⟩
/-! ### d.values(), max of it -/
/-- a view of a dict's values stands at p -/
def viewO (p d : Addr) : HO := .ext fun h => h.IsValuesView p d
def tValues (td : TE) : TE := fun σ H Q => td σ H fun x H1 => ∃ d kvs, x = .ref d ∧ H1 d = some (.dT kvs) ∧ ∀ p, H1 p = none → Q (.ref p) (upd H1 p (viewO p d))
theorem pe_values {e : Expr} {td : TE} {apos cpos : Pos} (he : PE X e td) (hbase : attributeBase e "values" X.env (eval e X.env) = eval e X.env := by rfl) (hline : (apos.endLine == cpos.line) = true := by rfl) : PE X (.Call (.Attribute e "values" apos) [] [] cpos) (tValues td) := by
  refine ⟨fun pins s σ H Q I h => ?_⟩
  refine wpAny_Call_method (T := "dict") (id := "dict.values") hbase rfl hline F.plainAttrs_dict F.slot_dict_values F.type_dict_values (thn (he.run pins s σ H _ I h) fun u s1 ⟨x, H1, I1, rx, d, kvs, ex, hd, q⟩ => ?_)
  subst ex
  obtain rfl : u = Value.ref d := rx
  obtain ⟨hs, es, ep, raw, hsz, hv⟩ := dt_raw I1.hok hd
  refine ⟨raw.typeIs, fun b z => ?_, ?_⟩
  · cases z
    obtain ⟨o, h1, h2, _⟩ := raw
    exact ⟨o, h1, h2.2.1⟩
  have hn : H1 s1.heap.objs.size = none := I1.hok.fresh (Nat.le_refl _)
  have hv : (s1.heap.push { cls := .type "dict_values", data := .fields #[.ref d] }).IsValuesView s1.heap.objs.size d := ⟨_, Heap.get?_push_size _ rfl, rfl, rfl⟩
  have fin : EP X pins σ Q (.ref s1.heap.objs.size) { s1 with heap := s1.heap.push { cls := .type "dict_values", data := .fields #[.ref d] } } := by
    refine ⟨.ref s1.heap.objs.size, _, I1.laid (t' := s1.toks) (o := viewO s1.heap.objs.size d) (fun b ob q => Heap.get?_push_of_some _ q) (Nat.le_refl _) ?_, rfl, q _ hn⟩
    refine ⟨hv, ⟨_, Heap.get?_push_size _ rfl⟩, fun h1 h2 a k => ?_⟩
    obtain ⟨o, e1, e2⟩ := a
    exact ⟨o, k o e1, e2⟩
  show wpAny _ _ (callWith cpos (.builtin "dict.values") [.ref d] [] []) _ X.xe s1
  exact method_meetsIn F.slot_dict_values F.entry_dict_values rfl (PySem.evalArgs_none ⟨rfl, raw.typeIs, F.args_dict_values_1 _, _, meets_dict_values_raw d hs, ⟨es, ep, raw⟩, fin⟩)
/-- max of a view of whole numbers -/
def rMaxV : List V → Hp → VK → Prop := fun xs H Q => ∃ (p d : Addr) (kvs : List (List Key × V)) (ns : List Int), xs = [.ref p] ∧ H p = some (viewO p d) ∧ H d = some (.dT kvs) ∧ kvs.map (·.2) = ns.map V.int ∧ 0 < ns.length ∧ ∀ m, m ∈ ns → (∀ y, y ∈ ns → y ≤ m) → Q (.int m) H
theorem argBest_mem {α : Type} {f : Nat → Nat → Bool} : ∀ k, argBest f k ≤ k
  | 0 => Nat.le_refl _
  | k + 1 => by
    have := argBest_mem (α := α) (f := f) k
    show (if f (k + 1) (argBest f k) then k + 1 else argBest f k) ≤ k + 1
    split <;> omega
theorem argBest_max {g : Nat → Int} : ∀ k, ∀ j, j ≤ k → g j ≤ g (argBest (fun i j => decide (g j < g i)) k)
  | 0, j, h => by
    have e : j = 0 := by omega
    subst e
    exact Int.le_refl _
  | k + 1, j, h => by
    show g j ≤ g (if decide (g (argBest (fun i j => decide (g j < g i)) k) < g (k + 1)) then k + 1 else argBest (fun i j => decide (g j < g i)) k)
    have ih := argBest_max (g := g) k
    by_cases e : g (argBest (fun i j => decide (g j < g i)) k) < g (k + 1)
    · rw [decide_eq_true e, if_pos rfl]
      by_cases ej : j = k + 1
      · subst ej; exact Int.le_refl _
      · have := ih j (by omega)
        omega
    · rw [decide_eq_false e, if_neg Bool.false_ne_true]
      by_cases ej : j = k + 1
      · subst ej; omega
      · exact ih j (by omega)
theorem cb_maxV (hc : X.calm = true) : CallR X (.builtin "max") rMaxV := by
  intro pins s σ H xs us Q I r h
  obtain ⟨p, d, kvs, ns, rfl, hp, hd, hm, hne, q⟩ := h
  obtain ⟨u, rfl, ru⟩ := vals1 r
  cases ru
  have hh := I.ok.hd hc
  obtain ⟨hs, es, ep, raw, hsz, hv⟩ := dt_raw I.hok hd
  obtain ⟨view, _, _⟩ := (show ObjOk X.prog X.w H s.heap p (viewO p d) from I.hok p _ hp)
  have hlen : kvs.length = ns.length := by rw [← List.length_map (f := (·.2)), hm, List.length_map]
  have hdl : d < s.heap.objs.size := by obtain ⟨o, h1, _⟩ := raw; exact Heap.lt_size h1
  have at_ : ∀ (i : Nat) (hi : i < es.size), ∃ t, es[i].val = .int (ns.getD i 0) t := fun i hi => by
    have hk : i < kvs.length := by omega
    have r1 := hv i hi kvs[i] (List.getElem?_eq_getElem hk)
    have e1 : (kvs.map (·.2))[i]? = some kvs[i].2 := by rw [List.getElem?_map, List.getElem?_eq_getElem hk]; rfl
    rw [hm, List.getElem?_map, List.getElem?_eq_getElem (show i < ns.length by omega)] at e1
    have e2 : V.int ns[i] = kvs[i].2 := Option.some.inj e1
    rw [← e2] at r1
    obtain ⟨t, e3⟩ := r1
    refine ⟨t, ?_⟩
    rw [e3, List.getD_eq_getElem?_getD, List.getElem?_eq_getElem (show i < ns.length by omega)]
    rfl
  refine call_max_walkH (wpAny_pyIter_values_raw view raw ?_)
  refine ⟨s.heap.objs.size, _, _, _, es.size, _, _, s.heap, fun i j => decide (ns.getD j 0 < ns.getD i 0), rfl, (Walks.rawValues (A := X.A.in1) hh s.heap.objs.size d (Nat.ne_of_lt hdl) es ep).toS, ⟨⟨_, Heap.get?_push_size _ rfl, rfl, rfl⟩, raw.at fun o e => Heap.get?_push_of_some _ e⟩, fun b hb => ?_, by omega, fun b o e hb => ?_, fun b o e => Heap.get?_push_of_some _ e, ?_, fun v s' hP m => ?_⟩
  · show b < (s.heap.push _).objs.size
    rw [Heap.size_push]
    rcases List.mem_cons.mp hb with rfl | hb
    · exact Nat.lt_succ_self _
    · rcases List.mem_cons.mp hb with rfl | hb
      · exact Nat.lt_succ_of_lt hdl
      · cases hb
  · exact absurd (Heap.lt_size e) ((List.mem_singleton.mp hb) ▸ Nat.lt_irrefl _)
  · rintro i j vi vj s2 Q2 E2 hk ⟨hi, rfl⟩ ⟨hj, rfl⟩ hq
    obtain ⟨t1, e1⟩ := at_ i hi
    obtain ⟨t2, e2⟩ := at_ j hj
    rw [e1, e2]
    show wpAny _ _ (compareOp .Gt (.int (ns.getD i 0) t1) (.int (ns.getD j 0) t2)) Q2 E2 s2
    exact gt_int hq
  · obtain ⟨h', tk, rfl, hk'⟩ := PySem.W.moved_old rfl rfl m
    obtain ⟨hi, rfl⟩ := hP
    obtain ⟨t, e⟩ := at_ _ hi
    rw [e]
    refine ⟨.int _, H, I.kept (t' := tk) hk', ⟨t, rfl⟩, q _ ?_ fun y hy => ?_⟩
    · rw [List.getD_eq_getElem?_getD, List.getElem?_eq_getElem (by omega)]
      exact List.getElem_mem _
    · obtain ⟨j, hj, rfl⟩ := List.getElem_of_mem hy
      have := argBest_max (g := fun i => ns.getD i 0) (es.size - 1) j (by omega)
      have e2 : ns.getD j 0 = ns[j] := by rw [List.getD_eq_getElem?_getD, List.getElem?_eq_getElem hj]; rfl
      rw [← e2]
      exact this
end

/-! ### lists of tuples -/
/-- the values are tuples of these items -/
def Tps (H : Hp) : List V → List (List V) → Prop := Paired fun v d => ∃ t, v = .ref t ∧ H t = some (.tup d)
theorem Tps.tk {H H' : Hp} {vs : List V} {ds : List (List V)} (h : Tps H vs ds) (k : TK H H') : Tps H' vs ds := Paired.mapP h fun _ _ ⟨t, e, q⟩ => ⟨t, e, k.tup q⟩
theorem Tps.same {H H' : Hp} {vs : List V} {ds : List (List V)} (h : Tps H vs ds) (k : Same H H') : Tps H' vs ds := h.tk (TK.of_same k)
theorem Tps.snoc {H : Hp} {vs : List V} {ds : List (List V)} {t : Addr} {d : List V} (h : Tps H vs ds) (e : H t = some (.tup d)) : Tps H (vs ++ [.ref t]) (ds ++ [d]) := Paired.snoc h ⟨t, rfl, e⟩
theorem Tps.len {H : Hp} {vs : List V} {ds : List (List V)} (h : Tps H vs ds) : vs.length = ds.length := Paired.length h
theorem Tps.at_ {H : Hp} : ∀ {vs : List V} {ds : List (List V)} {i : Nat} {d : List V}, Tps H vs ds → ds[i]? = some d → ∃ t, vs[i]? = some (.ref t) ∧ H t = some (.tup d)
  | _, _, _, _, .nil, e => by simp at e
  | _, _, 0, _, .cons r _, e => by
    have e1 := Option.some.inj e
    obtain ⟨t, e2, e3⟩ := r
    rw [e1] at e3
    exact ⟨t, by rw [e2]; rfl, e3⟩
  | _, _, i + 1, d, .cons _ t, e => by
    obtain ⟨x, h1, h2⟩ := Tps.at_ (i := i) (d := d) t (by simpa using e)
    exact ⟨x, by simpa using h1, h2⟩
theorem app_at {K : PySem.W.Frag} {l : Addr} {xs : List V} {y : V} {H : Hp} {Q : VK} (h : H l = some (.lst xs)) (hl : xs.length < sizeLine) (q : Q .non (upd H l (.lst (xs ++ [y])))) : tyV K "list" (.ref l) H ∧ rAppend (.ref l) [y] H Q := ⟨.inl ⟨rfl, _, .inl (.inl h)⟩, l, xs, y, rfl, rfl, h, hl, q⟩
theorem lt_size {n : Nat} (h : n ≤ 1000000) : n < sizeLine := Nat.lt_of_le_of_lt h (by decide)
theorem le_size {n : Nat} (h : n ≤ 1000000) : n ≤ sizeLine := Nat.le_of_lt (lt_size h)
/-- a method of a built-in type -/
theorem rd_bm {K : PySem.W.Frag} {T : String} {r : V → List V → Hp → VK → Prop} {to : TE} {ts : TA} {σ : L2.St} {H : Hp} {Q : VK} (h : to σ H fun x H1 => tyV K T x H1 ∧ ts σ H1 fun xs H2 => r x xs H2 Q) : tBM K T r to ts σ H Q := h
theorem rd_bm0 {K : PySem.W.Frag} {T : String} {r : V → List V → Hp → VK → Prop} {to : TE} {σ : L2.St} {H : Hp} {Q : VK} (h : to σ H fun x H1 => tyV K T x H1 ∧ r x [] H1 Q) : tBM0 K T r to σ H Q := h
theorem ty_lst {K : PySem.W.Frag} {l : Addr} {xs : List V} {H : Hp} {B : Prop} (h : H l = some (.lst xs)) (q : B) : tyV K "list" (.ref l) H ∧ B := ⟨.inl ⟨rfl, _, .inl (.inl h)⟩, q⟩
theorem rd_app {l : Addr} {xs : List V} {y : V} {H : Hp} {Q : VK} (h : H l = some (.lst xs)) (hl : xs.length < sizeLine) (q : Q .non (upd H l (.lst (xs ++ [y])))) : rAppend (.ref l) [y] H Q := ⟨l, xs, y, rfl, rfl, h, hl, q⟩
theorem rd_lenL {K : PySem.W.Frag} {l : Addr} {xs : List V} {H : Hp} {Q : VK} (h : SqL K H l xs) (q : Q (.int xs.length) H) : rLenU K [.ref l] H Q := .inl ⟨l, xs, rfl, .inl h, q⟩
theorem rd_lenT {K : PySem.W.Frag} {l : Addr} {xs : List V} {H : Hp} {Q : VK} (h : SqT K H l xs) (q : Q (.int xs.length) H) : rLenU K [.ref l] H Q := .inl ⟨l, xs, rfl, .inr h, q⟩
theorem rd_lenS {K : PySem.W.Frag} {z : Str} {H : Hp} {Q : VK} (h : z.length ≤ sizeLine) (q : Q (.int z.length) H) : rLenU K [.str z] H Q := .inr (.inr ⟨.str z, z.length, rfl, ⟨h, rfl⟩, q⟩)
theorem rng_at {j : Int} {H : Hp} {R : It → Hp → Prop} (h0 : -(2 ^ 62) ≤ j) (h1 : j < 2 ^ 62) (q : R (Itr 0 j.toNat) H) : ∃ j' : Int, [V.int j] = [.int j'] ∧ -(2 ^ 62) ≤ j' ∧ j' < 2 ^ 62 ∧ R (Itr 0 j'.toNat) H := ⟨j, rfl, h0, h1, q⟩
theorem rd_ckw {r : List V → List V → Hp → VK → Prop} {ts tk : TA} {σ : L2.St} {H : Hp} {Q : VK} (h : ts σ H fun vs H1 => tk σ H1 fun zs H2 => r vs zs H2 Q) : tCKw r ts tk σ H Q := h

/-- all but S stands, no more is told -/
theorem Fr.get {S : Addr → Prop} {H H' : Hp} {a : Addr} {o : HO} (f : Fr S H H') (h : H a = some o) (n : ¬ S a) : H' a = some o := f a o h n
theorem Fr.free {S : Addr → Prop} {H H' : Hp} {a : Addr} (f : Fr S H H') (h : H' a = none) : S a ∨ H a = none := by
  by_cases s : S a
  · exact .inl s
  · refine .inr ?_
    cases e : H a with
    | none => rfl
    | some o =>
      rw [f a o e s] at h
      cases h
theorem Fr.new {S : Addr → Prop} {H H' : Hp} {a : Addr} {o : HO} (f : Fr S H H') (h : H' a = none) : Fr S H (L2.upd H' a o) := f.upd (f.free h)
theorem eqv_nil {ds : List PyData} : PyData.eqv (.list ds) (.list []) = ds.isEmpty := by
  cases ds <;> simp [PyData.eqv, PyData.eqvAll]
theorem rd_neD {K : PySem.W.Frag} {x y : V} {d e : PyData} {H : Hp} {Q : VK} (hd : Dp K H x d) (he : Dp K H y e) (sd : SeqAt.shaped d = true) (se : SeqAt.shaped e = true) (q : Q (.bl (!PyData.eqv d e)) H) : rNeU K x y H Q := .inr ⟨d, e, hd, he, sd, se, q⟩
theorem rd_eqD {K : PySem.W.Frag} {x y : V} {d e : PyData} {H : Hp} {Q : VK} (hd : Dp K H x d) (he : Dp K H y e) (sd : SeqAt.shaped d = true) (se : SeqAt.shaped e = true) (q : Q (.bl (PyData.eqv d e)) H) : rEqU K x y H Q := .inr (.inl ⟨d, e, hd, he, sd, se, q⟩)
theorem rd_eq0 {K : PySem.W.Frag} {a b : Addr} {kvs : List (List Key × V)} {H : Hp} {Q : VK} (ha : H a = some (.dT kvs)) (hb : H b = some (.dT [])) (q : Q (.bl kvs.isEmpty) H) : rEqU K (.ref a) (.ref b) H Q := .inr (.inr ⟨a, b, kvs, rfl, rfl, ha, hb, q⟩)
theorem rd_dget1 {td ty : TE} {σ : L2.St} {H : Hp} {Q : VK} (h : td σ H fun x H1 => ∃ a, x = .ref a ∧ IsD H1 a ∧ ty σ H1 fun y H2 => ∃ o, DGet H2 a y o ∧ Q (o.getD .non) H2) : tDGet1 td ty σ H Q := h
theorem rd_dget2 {td ty tx : TE} {σ : L2.St} {H : Hp} {Q : VK} (h : td σ H fun x H1 => ∃ a, x = .ref a ∧ IsD H1 a ∧ ty σ H1 fun y H2 => tx σ H2 fun z H3 => ∃ o, DGet H3 a y o ∧ Q (o.getD z) H3) : tDGet2 td ty tx σ H Q := h
theorem rd_isdT {a : Addr} {kvs : List (List Key × V)} {H : Hp} {P : Addr → Prop} (h : H a = some (.dT kvs)) (q : P a) : ∃ a', V.ref a = .ref a' ∧ IsD H a' ∧ P a' := ⟨a, rfl, .inr ⟨kvs, .inl h⟩, q⟩
theorem rd_isdK {a : Addr} {kvs : List (Key × V)} {H : Hp} {P : Addr → Prop} (h : H a = some (.dK kvs)) (q : P a) : ∃ a', V.ref a = .ref a' ∧ IsD H a' ∧ P a' := ⟨a, rfl, .inl ⟨kvs, .inl h⟩, q⟩
theorem rd_values {td : TE} {σ : L2.St} {H : Hp} {Q : VK} (h : td σ H fun x H1 => ∃ d kvs, x = .ref d ∧ H1 d = some (.dT kvs) ∧ ∀ p, H1 p = none → Q (.ref p) (upd H1 p (viewO p d))) : tValues td σ H Q := h
theorem rd_pow {i j : Int} {H : Hp} {Q : VK} (h : CPow i j) (q : Q (.int (i ^ j.toNat)) H) : rPowU (.int i) (.int j) H Q := ⟨i, j, rfl, rfl, h, q⟩
theorem rd_max2 {i j : Int} {H : Hp} {Q : VK} (q : Q (.int (if j > i then j else i)) H) : rMax2 [.int i, .int j] H Q := ⟨i, j, rfl, q⟩
theorem rd_min2 {i j : Int} {H : Hp} {Q : VK} (q : Q (.int (if j < i then j else i)) H) : rMin2 [.int i, .int j] H Q := ⟨i, j, rfl, q⟩
theorem rd_slL {K : PySem.W.Frag} {a : Addr} {xs : List V} {lo hi : Option Int} {H : Hp} {Q : VK} (h : SqL K H a xs) (q : ∀ p, H p = none → Q (.ref p) (upd H p (.lst (cutV xs lo hi)))) : rSlU K (.ref a) lo hi H Q := .inl ⟨a, xs, rfl, h, q⟩
theorem rd_sl {r : V → Option Int → Option Int → Hp → VK → Prop} {te : TE} {tl th : TO} {σ : L2.St} {H : Hp} {Q : VK} (h : te σ H fun x H1 => tl σ H1 fun l H2 => th σ H2 fun u H3 => r x l u H3 Q) : tSl r te tl th σ H Q := h
theorem rd_part {te : TE} {σ : L2.St} {H : Hp} {Q : Option Int → Hp → Prop} (h : te σ H fun x H1 => ∃ i, x = .int i ∧ Q (some i) H1) : tPart te σ H Q := h
theorem rd_pint {i : Int} {Q : Int → Prop} (h : Q i) : ∃ j, V.int i = .int j ∧ Q j := ⟨i, rfl, h⟩
theorem rd_pnone {σ : L2.St} {H : Hp} {Q : Option Int → Hp → Prop} (h : Q none H) : tNoPart σ H Q := h
theorem rd_catL {K : PySem.W.Frag} {a b : Addr} {xs ys : List V} {H : Hp} {Q : VK} (ha : H a = some (.lst xs)) (hb : H b = some (.lst ys)) (hl : xs.length + ys.length ≤ sizeLine) (q : ∀ p, H p = none → Q (.ref p) (upd H p (.lst (xs ++ ys)))) : rAddU K (.ref a) (.ref b) H Q := .inr (.inr (.inl ⟨a, b, xs, ys, rfl, rfl, ha, hb, hl, q⟩))

/-- a change of a thing that is none of these -/
theorem TK.upd {H H1 : Hp} {a : Addr} {o : HO} (k : TK H H1) (h : ∀ u, Imm u → H1 a ≠ some u) : TK H (L2.upd H1 a o) := fun b u i e => by
  have e1 := k b u i e
  rw [upd_ne (fun z => h u i (by rw [← z]; exact e1))]
  exact e1
theorem TK.lst {H H1 : Hp} {a : Addr} {o : HO} {xs : List V} (k : TK H H1) (h : H1 a = some (.lst xs)) : TK H (L2.upd H1 a o) := k.upd fun u i e => by rw [h] at e; cases e; exact i
theorem TK.new {H H1 : Hp} {a : Addr} {o : HO} (k : TK H H1) (h : H1 a = none) : TK H (L2.upd H1 a o) := k.upd fun u i e => by rw [h] at e; cases e
/-- the script: a list of ints that nobody can change -/
def Scr (K : PySem.W.Frag) (H : Hp) (a : Addr) (ns : List Int) : Prop := SqL K H a (ns.map V.int) ∧ (∀ H', TK H H' → SqL K H' a (ns.map V.int))
theorem Scr.of_only {K : PySem.W.Frag} {H : Hp} {a : Addr} {ns : List Int} (o : Only H) (h : SqL K H a (ns.map V.int)) : Scr K H a ns := by
  refine ⟨h, fun H' k => ?_⟩
  rcases h with (h | ⟨u, h⟩) | h
  · rcases o a with z | ⟨_, _, z⟩ <;> rw [h] at z <;> cases z
  · exact .inl (.inr ⟨u, k _ _ trivial h⟩)
  · exact .inr h
theorem Scr.tk {K : PySem.W.Frag} {H H' : Hp} {a : Addr} {ns : List Int} (s : Scr K H a ns) (k : TK H H') : Scr K H' a ns := ⟨s.2 H' k, fun H2 k2 => s.2 H2 (k.trans k2)⟩

theorem rd_inL {K : PySem.W.Frag} {p : Addr} {xs : List V} {x : V} {b : Bool} {H : Hp} {Q : VK} (h : SqL K H p xs) (fx : flatV x = true) (fs : xs.all flatV = true) (e : inV x xs = b) (q : Q (.bl b) H) : rInU K x (.ref p) H Q := .inl ⟨p, xs, rfl, .inl h, fx, fs, by rw [e]; exact q⟩
theorem rd_inT {K : PySem.W.Frag} {p : Addr} {xs : List V} {x : V} {b : Bool} {H : Hp} {Q : VK} (h : SqT K H p xs) (fx : flatV x = true) (fs : xs.all flatV = true) (e : inV x xs = b) (q : Q (.bl b) H) : rInU K x (.ref p) H Q := .inl ⟨p, xs, rfl, .inr h, fx, fs, by rw [e]; exact q⟩
theorem rd_clear {l : Addr} {xs : List V} {H : Hp} {Q : VK} (h : H l = some (.lst xs)) (q : Q .non (upd H l (.lst []))) : rClear (.ref l) [] H Q := ⟨l, xs, rfl, rfl, h, q⟩
theorem rd_listL {K : PySem.W.Frag} {a : Addr} {xs : List V} {H : Hp} {Q : VK} (h : SqL K H a xs) (q : ∀ l, H l = none → Q (.ref l) (upd H l (.lst xs))) : rListOf K [.ref a] H Q := ⟨a, xs, rfl, .inl h, q⟩
theorem eqv_self {d : PyData} (h : SeqAt.shaped d = true) : PyData.eqv d d = true := by
  unfold SeqAt.shaped at h
  exact PySem.SeqAt.eqv_refl_plain d (PyData.plain_of_canLay0 d (by simpa using (Bool.and_eq_true_iff.mp h).1))
theorem rd_neSame {K : PySem.W.Frag} {x y : V} {d : PyData} {H : Hp} {Q : VK} (hd : Dp K H x d) (he : Dp K H y d) (sd : SeqAt.shaped d = true) (q : Q (.bl false) H) : rNeU K x y H Q := rd_neD hd he sd sd (by rw [eqv_self sd]; exact q)
theorem cdiv_of {i j : Int} (h : 0 < j) (hj : j.natAbs.log2 < 9000) : CDivW i j := ⟨h, hj⟩
theorem rd_slT {K : PySem.W.Frag} {a : Addr} {xs : List V} {lo hi : Option Int} {H : Hp} {Q : VK} (h : SqT K H a xs) (q1 : HT.sIx xs.length 0 lo = 0 ∧ HT.sIx xs.length xs.length hi = xs.length → Q (.ref a) H)
    (q2 : ¬ (HT.sIx xs.length 0 lo = 0 ∧ HT.sIx xs.length xs.length hi = xs.length) → ∀ p, H p = none → Q (.ref p) (upd H p (.tup (cutV xs lo hi)))) : rSlU K (.ref a) lo hi H Q := .inr (.inl ⟨a, xs, rfl, h, q1, q2⟩)
theorem menu_at {xs : List V} {r : Int} (h0 : 0 ≤ r) (h1 : r < xs.length) : ∃ v, v ∈ xs ∧ atI xs r = some v := by
  have hl : r.toNat < xs.length := by omega
  exact ⟨xs[r.toNat], List.getElem_mem _, atI_int h0 (List.getElem?_eq_getElem hl)⟩
theorem cutV_mem {xs : List V} {lo hi : Option Int} {v : V} (h : v ∈ cutV xs lo hi) : v ∈ xs := List.mem_of_mem_drop (List.mem_of_mem_take h)
theorem cutV_ints {ns : List Int} {lo hi : Option Int} {v : V} (h : v ∈ cutV (ns.map V.int) lo hi) : ∃ i, v = .int i := by
  obtain ⟨i, _, e⟩ := List.mem_map.mp (cutV_mem h)
  exact ⟨i, e.symm⟩
theorem rd_step {K : PySem.W.Frag} {a : Addr} {xs : List V} {i : Int} {H : Hp} {Q : VK} (h : SqL K H a xs) (hi : i = 1 ∨ i = -1) (q : ∀ p, H p = none → Q (.ref p) (upd H p (.lst (if i = 1 then xs else xs.reverse)))) : rStep K (.ref a) (.int i) H Q := ⟨a, xs, i, rfl, rfl, h, hi, q⟩
theorem sq_of {K : PySem.W.Frag} {H : Hp} {a : Addr} {xs : List V} (h : H a = some (.lst xs)) : SqL K H a xs := .inl (.inl h)
theorem st_of {K : PySem.W.Frag} {H : Hp} {a : Addr} {xs : List V} (h : H a = some (.tup xs)) : SqT K H a xs := .inl (.inl h)

theorem rd_lc {wi : TI} {g : TG} {tt : TT} {te : TE} {vs : List Nat} {σ : L2.St} {H : Hp} {Q : VK} (h : wi σ H fun J H1 => ∀ D, H1 D = none → ∃ W : Nat → Nat → Hp → Prop, (∃ m, W 0 m (upd H1 D (.lst []))) ∧ ∀ i m H, W i m H →
    (J.stop i H ∧ Q (.ref D) H) ∨ (J.go i H ∧ ∃ Nx : Hp → Prop, (∀ H', Nx H' → ∃ m', m' < m ∧ W (i + 1) m' H') ∧ ∀ x H', J.yld i H x H' → g x (wipe σ vs) H' fun σ2 H2 => wipe σ2 vs = wipe σ vs ∧ tt σ2 H2 fun b H3 =>
      if b = true then te σ2 H3 fun y H4 => ∃ acc, H4 D = some (.lst acc) ∧ acc.length < sizeLine ∧ Nx (upd H4 D (.lst (acc ++ [y]))) else Nx H3)) : tLc wi g tt te vs σ H Q := h
theorem rd_yes {σ : L2.St} {H : Hp} {Q : Bool → Hp → Prop} (h : Q true H) : tYes σ H Q := h
/-! Own rules: try, calls in a try, a def that is handed the exception, footprints. -/

/-! ### calls in a try: the way out may look at the slots -/
def tMethS (C : Addr) (m : Str) (sp : Sp) (dv : List V) (Eσ : L2.St → XK) (ta : TE) (t : TA) : TE := fun σ H Q => ta σ H fun x H1 => ∃ b dx fs, x = .ref b ∧ H1 b = some (.ins C dx fs) ∧ fs.lookup m = none ∧ t σ H1 fun ws H2 => sp (x :: (ws ++ dv)) H2 Q (Eσ σ)
def tCallZ (sp : Sp) (dv : List V) (Eσ : L2.St → XK) (t : TA) : TE := fun σ H Q => t σ H fun ws H1 => sp (ws ++ dv) H1 Q (Eσ σ)
def tMakeS (C : Addr) (sp : Sp) (dv : List V) (Eσ : L2.St → XK) (t : TA) : TE := fun σ H Q => t σ H fun ws H1 => ∀ b dx, H1 b = none → H1 dx = none → dx ≠ b → sp (.ref b :: (ws ++ dv)) (upd (upd H1 dx (.own b)) b (.ins C dx [])) (fun v H2 => v = .non ∧ Q (.ref b) H2) (Eσ σ)
section
variable {X : Cx} {Z : Zn} {k j : Nat} {C : Addr} {ps : List Str} {sp : Sp} {dvs : List V} {W : WX} {x m : Str} {p pos apos : Pos} {e o : Expr} {es : List Expr} {ta : TE} {t : TA}
theorem fn_runZ {CX : CXT} {f : Addr} {fd : FuncData} {ds : List Value} {Eo : XK} {pp : List (Addr × Obj)} {τ : L2.St} {G : Hp} {sh : Shared} {R : VK} {us : List Value} {ws : List V} (F : FnOk X.prog X.w X.K X.mg X.base CX k f fd ps sp) (hr : Room k X.A) (hb : Binds X.K fd ps ds) (hd : Vals dvs ds) (hx : PassesAt CX X τ Eo)
    (J : L2.Inv X pp τ G sh) (rv : Vals ws us) (g : sp (ws ++ dvs) G R Eo) : wpAny (model X.prog X.w) X.A (call (.ref f) us) (EP X pp τ R) X.xe sh := by
  have rr : Vals (ws ++ dvs) (us ++ ds) := rv.append hd
  have ll : (us ++ ds).length = ps.length := rr.length ▸ F.len _ _ _ _ g
  refine wpAny_call (codeAny_mono (F.run X.A X.stack sh G ⟨us, []⟩ (us ++ ds) (ws ++ dvs) R Eo hr J.env0 (hb sh us J.kIn ll) rr g) fun y s2 z => ?_)
  match y, z with
  | .error e, z => exact hx pp G sh e s2 J z
  | .ok (.ret u), z => exact J.after z
theorem pe_gS (G : GF Z x k ps dvs sp) (hr : Room k X.A) (hg : Gl X x) (tk : Takes X W) (ha : PA X (e :: es) t) (hI : In X Z := by exact ⟨rfl, rfl, rfl, rfl, rfl⟩)
    (hdb : (x == ("__debug__" : Str)) = false := by decide) (he : starEach (e :: es) X.env = (false, eval e X.env) :: starEach es X.env := by rfl) (hpl : (backTo pos (starEach es X.env)).any (·.1) = false := by rfl) :
    PE X (.Call (.Name x p) (e :: es) [] pos) (tCallZ (spT sp) dvs (WE W) t) := by
  obtain ⟨f, fd, ds, h1, h2, h3, h4, h5⟩ := G.ex
  obtain ⟨i1, i2, i3, i4, i5⟩ := hI
  rw [← i3] at h2 h3
  rw [← i4] at h1
  rw [← i1, ← i2, ← i3, ← i4, ← i5] at h5
  exact ⟨fun pp sh τ G R J q => wpAny_Call_Name_kw (ld_glob J hg h1 (PySem.W.callWith_K (h₀ := X.base) J.ok.mod.kin h2 (thn (ha.run pos pp sh τ G _ J q) fun us s1 ⟨ws, H1, I1, rv, q1⟩ => ⟨I1.kIn, fn_runZ h5.tk hr h3 h4 (passAt tk τ) I1 rv q1⟩) he hpl) hdb)⟩
theorem pe_g0S (G : GF Z x k ps dvs sp) (hr : Room k X.A) (hg : Gl X x) (tk : Takes X W) (hI : In X Z := by exact ⟨rfl, rfl, rfl, rfl, rfl⟩) (hdb : (x == ("__debug__" : Str)) = false := by decide) :
    PE X (.Call (.Name x p) [] [] pos) (tCallZ (spT sp) dvs (WE W) tNil) := by
  obtain ⟨f, fd, ds, h1, h2, h3, h4, h5⟩ := G.ex
  obtain ⟨i1, i2, i3, i4, i5⟩ := hI
  rw [← i3] at h2 h3
  rw [← i4] at h1
  rw [← i1, ← i2, ← i3, ← i4, ← i5] at h5
  exact ⟨fun pp sh τ G R J q => wpAny_Call_Name_kw (ld_glob J hg h1 (PySem.W.callWith_K0 J.kIn h2 (fn_runZ (us := []) h5.tk hr h3 h4 (passAt tk τ) J .nil q)) hdb)⟩
theorem pe_mS {pl : Sem Bool} (G : MF Z C m k ps dvs sp) (he : PE X o ta) (hr : Room k X.A) (tk : Takes X W) (ha : PA X (e :: es) t) (hI : In X Z := by exact ⟨rfl, rfl, rfl, rfl, rfl⟩)
    (hst : starEach (e :: es) X.env = (false, eval e X.env) :: starEach es X.env := by rfl) (hpl : (backTo pos (starEach es X.env)).any (·.1) = false := by rfl)
    (ht : eval (.Call (.Attribute o m apos) (e :: es) [] pos) X.env = (do
      let ov ← eval o X.env
      standAt apos.atName
      let (f, first) ← holding [ov] (getMethod ov m pl)
      callWith pos f first (backTo pos (starEach (e :: es) X.env)) (backToKw pos (keywordEach [] X.env))) := by rfl) :
    PE X (.Call (.Attribute o m apos) (e :: es) [] pos) (tMethS C m (spT sp) dvs (WE W) ta t) := by
  obtain ⟨f, fd, ds, h1, h2, h3, h4, h5⟩ := G.ex
  obtain ⟨i1, i2, i3, i4, i5⟩ := hI
  rw [← i3] at h1 h2 h3
  rw [← i1, ← i2, ← i3, ← i4, ← i5] at h5
  refine ⟨fun pp sh τ G R J q => PySem.W.methodCall_KW (pl := pl) (thn (he.run pp sh τ G _ J q) fun u s1 ⟨y, H1, I1, ry, b, dx, fs, ey, eb, l, q1⟩ => ?_) ht⟩
  subst ey
  cases ry
  exact getmeth_ok I1 eb h1 h2 l (PySem.W.callWith_K (first := [.ref b]) (h₀ := X.base) I1.ok.mod.kin h2.kp (thn (ha.run pos pp s1 τ H1 _ I1 q1) fun us s2 ⟨ws, H2, I2, rv, q2⟩ => ⟨I2.kIn, fn_runZ (us := .ref b :: us) (ws := .ref b :: ws) h5.tk hr h3 h4 (passAt tk τ) I2 (.cons rfl rv) q2⟩) hst hpl)
theorem pe_m0S {pl : Sem Bool} (G : MF Z C m k ps dvs sp) (he : PE X o ta) (hr : Room k X.A) (tk : Takes X W) (hI : In X Z := by exact ⟨rfl, rfl, rfl, rfl, rfl⟩)
    (ht : eval (.Call (.Attribute o m apos) [] [] pos) X.env = (do
      let ov ← eval o X.env
      standAt apos.atName
      let (f, first) ← holding [ov] (getMethod ov m pl)
      callWith pos f first (backTo pos (starEach [] X.env)) (backToKw pos (keywordEach [] X.env))) := by rfl) :
    PE X (.Call (.Attribute o m apos) [] [] pos) (tMethS C m (spT sp) dvs (WE W) ta tNil) := by
  obtain ⟨f, fd, ds, h1, h2, h3, h4, h5⟩ := G.ex
  obtain ⟨i1, i2, i3, i4, i5⟩ := hI
  rw [← i3] at h1 h2 h3
  rw [← i1, ← i2, ← i3, ← i4, ← i5] at h5
  refine ⟨fun pp sh τ G R J q => PySem.W.methodCall_KW (pl := pl) (thn (he.run pp sh τ G _ J q) fun u s1 ⟨y, H1, I1, ry, b, dx, fs, ey, eb, l, q1⟩ => ?_) ht⟩
  subst ey
  cases ry
  exact getmeth_ok I1 eb h1 h2 l (PySem.W.callWith_K0 (first := [.ref b]) I1.kIn h2.kp (fn_runZ (us := [.ref b]) (ws := [.ref b]) h5.tk hr h3 h4 (passAt tk τ) I1 (.cons rfl .nil) q1))
end

/-! ### a def that is handed the exception which is handled: it stands pinned -/
/-- what is promised of such a def: cls the exception's class, dd its dict -/
abbrev SpE := Value → Option Addr → Addr → List V → Hp → VK → Prop
structure FnE (P : Program) (w : World) (K : PySem.W.Frag) (mg : Str → Option Value) (base : Heap) (k : Nat) (f : Addr) (fd : FuncData) (ps : List Str) (sp : SpE) : Prop where
  run : ∀ (A : Around) (outer : List Env) (s : Shared) (H : Hp) (args : Args) (us : List Value) (vs : List V) (Q : VK) (p : Addr × Obj) (cls : Value) (dd : Option Addr), L2H.RoomH k A → Zc cls dd p.2 → (∃ fs, p.2.data = .fields fs) → L2H.PinOk outer H s p → Env0 P w K mg base A outer s H → BindsTo s fd args (ps.zip us) → Vals vs us → vs.length = ps.length → sp cls dd p.1 vs H Q →
    codeAny (model P w) A (.call (.ref f) args) (CR (L2.CX P w) outer P w H s Q fun _ _ _ => False) s
/-- a def of the module that keeps such a promise -/
structure GE (Z : Zn) (x : Str) (k : Nat) (ps : List Str) (sp : SpE) : Prop where
  ex : ∃ f fd, Z.mg x = some (.ref f) ∧ PySem.W.keepIn Z.K (.ref f) = true ∧ Binds Z.K fd ps [] ∧ FnE Z.P Z.w Z.K Z.mg Z.base k f fd ps sp
/-- where its body is read -/
abbrev bodyE (Z : Zn) (N : List Str) (qual : Str) (st : Stmt) (f : Addr) (cdv : Value) (A : Around) (outer : List Env) (s : Shared) (H : Hp) (p : Addr × Obj) : Cx := L2H.cxH (L2.CX Z.P Z.w) Z.P Z.w Z.K Z.mg Z.base N qual (defScope st) f cdv A outer s H (fun _ _ _ => False) p
def BodyE (Z : Zn) (N ps : List Str) (qual : Str) (st : Stmt) (f : Addr) (k : Nat) (sp : SpE) : Prop :=
  ∀ (cdv : Value) (A : Around) (outer : List Env) (s : Shared) (H : Hp) (vs : List V) (Q : VK) (p : Addr × Obj) (cls : Value) (dd : Option Addr), Zc cls dd p.2 → (∃ fs, p.2.data = .fields fs) → L2H.RoomH k (bodyE Z N qual st f cdv A outer s H p).A → vs.length = ps.length → sp cls dd p.1 vs H Q →
    ∃ t, PSs (bodyE Z N qual st f cdv A outer s H p) (defBody st) t ∧ t { nx := fun _ H' => Q .non H', rt := Q } (start N vs) H
theorem GE.of {Z : Zn} {x : Str} {st : Stmt} {f : Addr} {N ps : List Str} {k : Nat} {sp : SpE} (D : DF Z x x st [] f) (g : Z.mg x = some (.ref f)) (b : BindsBy x x st ps) (S : FnScope N ps (defScope st)) (hb : BodyE Z N ps x st f k sp) : GE Z x (k + 1) ps sp := by
  obtain ⟨fd, F⟩ := D.fn
  refine ⟨f, fd, g, F.kp, FunD.bindsN F b, ⟨fun A outer s H args us vs Q p cls dd room zc fl pin e0 bi rv hl hsp => ?_⟩⟩
  obtain ⟨oc, od, dV, kV, doc, pm, an, cdv, ct, osl, rfl, lk, hcd, _, _⟩ := F.ex
  have hul := hl
  have KX : Z.K.In s.heap := e0.mod.kin.keeps fun c o e => (e0.bs c o e).1
  have lim : s.heap.NoLimit := e0.mod.nolimit.keeps fun c o e => (e0.bs c o e).1
  have kinds : ∀ y ∈ ps.zip us, (defScope st).names.lookup y.1 = some .local ∨ ((defScope st).names.lookup y.1 = some .cell ∧ ((cellsFrom (s.heap.objs.size + 1) (defScope st).names []).lookup y.1).isSome = true) := by
    rintro ⟨n, v⟩ hy
    have z := S.par n (List.of_mem_zip hy).1
    exact z.elim .inl fun q => .inr ⟨q, PySem.W.cellsFrom_some _ _ _ (.inl q)⟩
  refine codeAny_call_function room.depth (KX _ _ lk) rfl S.co S.gen rfl (PySem.W.codeRec_of KX hcd) (bi _ _ _ _ (wpAny_newFunctionEnv_cells S.kind kinds fun env he s1 y => ?_))
  subst he
  obtain ⟨t, ht, hq⟩ := hb cdv A outer s H vs Q p cls dd zc fl (room.deeper _) hl hsp
  have J0 : L2.Inv (bodyE Z N x st f cdv A outer s H p) [] (start N vs) H s1 := L2H.inv_startH S pin e0 hul rv y
  refine ⟨lim.keeps y.toInCall.keep, codeAny_func ?_⟩
  refine wpAny_mono (ht.run [] s1 (start N vs) H _ J0 hq) (fun w s2 z => ?_) fun _ _ z => z
  have fin : ∀ {τ : L2.St} {G : Hp} {v : V} {u : Value}, L2.Inv (bodyE Z N x st f cdv A outer s H p) [] τ G s2 → RelV v u → Q v G → CE outer Z.P Z.w H s Q u s2 := fun {τ G v u} J r2 q2 => ⟨v, G, J.os, J.bare, J.base, J.hok, r2, q2⟩
  cases w with
  | ret u =>
    obtain ⟨v, τ, G, J, r2, q2⟩ := z
    exact fin J r2 q2
  | next =>
    obtain ⟨τ, G, J, q2⟩ := z
    exact fin (v := V.non) (u := Value.none) J rfl q2
  | brk =>
    obtain ⟨_, _, _, q2⟩ := z
    exact q2.elim
  | cont =>
    obtain ⟨_, _, _, q2⟩ := z
    exact q2.elim
/-- f(e) in the suite, e the exception -/
def tCallE (sp : SpE) (cls : Value) (dd : Option Addr) (a : Addr) (t : TA) : TE := fun σ H Q => t σ H fun ws H1 => sp cls dd a ws H1 Q
theorem pe_gE {X : Cx} {Z : Zn} {k : Nat} {ps : List Str} {sp : SpE} {x : Str} {p pos : Pos} {e : Expr} {es : List Expr} {t : TA} {a : Addr} {oe : Obj} {cls : Value} {dd : Option Addr} {pn : List (Addr × Obj)} (G : GE Z x k ps sp) (zc : Zc cls dd oe) (fl : ∃ fs, oe.data = .fields fs) (hr : L2H.RoomH k (X.suite a ((a, oe) :: pn)).A) (hg : Gl (X.suite a ((a, oe) :: pn)) x)
    (ha : PA (X.suite a ((a, oe) :: pn)) (e :: es) t) (hlen : es.length + 1 = ps.length) (hI : In X Z := by exact ⟨rfl, rfl, rfl, rfl, rfl⟩)
    (hdb : (x == ("__debug__" : Str)) = false := by decide) (he : starEach (e :: es) X.env = (false, eval e X.env) :: starEach es X.env := by rfl) (hpl : (backTo pos (starEach es X.env)).any (·.1) = false := by rfl)
    (hv : ∀ σ H Q, t σ H Q → t σ H fun ws H1 => ws.length = es.length + 1 ∧ Q ws H1) :
    PE (X.suite a ((a, oe) :: pn)) (.Call (.Name x p) (e :: es) [] pos) (tCallE sp cls dd a t) := by
  obtain ⟨f, fd, h1, h2, h3, h5⟩ := G.ex
  obtain ⟨i1, i2, i3, i4, i5⟩ := hI
  rw [← i3] at h2 h3
  rw [← i4] at h1
  rw [← i1, ← i2, ← i3, ← i4, ← i5] at h5
  refine ⟨fun pp sh τ G R J q => wpAny_Call_Name_kw (ld_glob J hg h1 (PySem.W.callWith_K (h₀ := X.base) J.ok.mod.kin h2 (thn (ha.run pos pp sh τ G _ J (hv _ _ _ q)) fun us s1 ⟨ws, H1, I1, rv, wl, q1⟩ => ⟨I1.kIn, ?_⟩) he hpl) hdb)⟩
  have P1 := I1.pin (a, oe) (List.mem_append_left _ List.mem_cons_self)
  have pin : L2H.PinOk X.stack H1 s1 (a, oe) := ⟨P1.1, P1.2.1, fun hm => (List.mem_cons.mp (I1.stkSub a hm)).elim P1.2.2.1 P1.2.2.2.1, P1.2.2.2.2⟩
  have hul : (us ++ []).length = ps.length := by rw [List.append_nil, ← rv.length, wl, hlen]
  have bb := h3 s1 us I1.kIn hul
  rw [List.append_nil] at bb
  refine wpAny_call (codeAny_mono (h5.run (X.suite a ((a, oe) :: pn)).A X.stack s1 H1 ⟨us, []⟩ us ws R (a, oe) cls dd hr zc fl pin I1.env0 bb rv (wl.trans hlen) q1) fun y s2 z => ?_)
  match y, z with
  | .error e, ⟨_, _, _, _, _, _, _, _, _, _, _, _, z9⟩ => exact z9
  | .ok (.ret u), z => exact I1.after z
/-- isinstance(e, c) in such a def -/
def rIsP (K : PySem.W.Frag) (cls : Value) (dd : Option Addr) (a : Addr) : List V → Hp → VK → Prop := fun xs H Q => ∃ (D : Addr) (c : V) (cv : Value) (b : Bool), cls = .ref D ∧ dd = none ∧ ExcC K D ∧ xs = [.ref a, c] ∧ (∀ u, RelV c u → u = cv) ∧ PySem.W.kitOne K cls cv = some b ∧ Q (.bl b) H
theorem cb_isP {X : Cx} {p : Addr × Obj} {cls : Value} {dd : Option Addr} (hp : p ∈ X.pn) (zc : Zc cls dd p.2) (fl : ∃ fs, p.2.data = .fields fs) : CallR X (.builtin "isinstance") (rIsP X.K cls dd p.1) := by
  intro pp τ sh G xs us R J rv h
  obtain ⟨D, c, cv, b, e1, e2, C, e3, hcv, e, q⟩ := h
  subst e1 e2 e3
  obtain ⟨u, v, rfl, r1, r2⟩ : ∃ u v, us = [u, v] ∧ RelV (.ref p.1) u ∧ RelV c v := by
    cases rv with
    | cons a b =>
      cases b with
      | cons c d => cases d; exact ⟨_, _, rfl, a, c⟩
  cases r1
  have ev := hcv _ r2
  subst ev
  have g := (J.pin p (List.mem_append.mpr (.inl hp))).1
  obtain ⟨fs, hv⟩ := fl
  have at_ : PySem.W.InstAt τ.heap p.1 p.2 D none := by
    obtain ⟨pa, oc, od, oda, osl⟩ := p
    obtain ⟨z1, z2⟩ := zc
    dsimp only at z1 z2 hv g
    subst z1 z2 hv
    exact ⟨g, rfl, rfl, trivial⟩
  exact PySem.W.kia_one (PySem.W.handS_kitx_exc C.hg C.hk C.hs C.hd C.ha C.hn C.ht C.hm) J.kIn at_ e (fun z => nomatch z) fun tk => ⟨.bl b, G, J.kept (t' := tk) fun _ _ z => z, rfl, q⟩
theorem kit_exm {K : PySem.W.Frag} {D C : Addr} {b : Bool} (h : PySem.W.exmOne K (.ref D) (.ref C) = some b) (e : D = C → b = true) : PySem.W.kitOne K (.ref D) (.ref C) = some b := by
  unfold PySem.W.exmOne at h
  unfold PySem.W.kitOne
  split at h
  · by_cases x : D = C
    · rw [if_pos (by rw [x]; exact beq_self_eq_true _), e x]
    · rw [if_neg (by intro z; exact x (Value.ref.inj (beq_iff_eq.mp z)))]
      exact h
  · cases h
/-- checks of an exception's class -/
def excCB (K : PySem.W.Frag) (D : Addr) : Bool := He.eqO (PySem.W.findIn K (.ref D) "__getattribute__") (some (some (.builtin "BaseException.__getattribute__"))) && (He.eqO (PySem.W.findIn K (.ref D) "__getattr__") (some none) && (decide (PySem.W.subIn K (.ref D) (.type "BaseException") = some true) &&
  (PySem.W.hasDictIn K D && (He.eqO (PySem.W.findIn K (.ref D) "__class__") (some (some (.builtin "object.__class__"))) && (He.eqO (PySem.W.specialIn K (.builtin "object.__class__") "__get__") (some (some (.builtin "getset_descriptor.__get__"))) &&
  (decide (PySem.W.takesIn K (.builtin "object.__class__") = some true) && decide (PySem.W.mroIn K D (.type "object") = some true)))))))
theorem excCB_ok {K : PySem.W.Frag} {D : Addr} (h : excCB K D = true) : ExcC K D := by
  obtain ⟨h1, h⟩ := He.ba h
  obtain ⟨h2, h⟩ := He.ba h
  obtain ⟨h3, h⟩ := He.ba h
  obtain ⟨h4, h⟩ := He.ba h
  obtain ⟨h5, h⟩ := He.ba h
  obtain ⟨h6, h⟩ := He.ba h
  obtain ⟨h7, h8⟩ := He.ba h
  exact ⟨He.eqO_ok h1, He.eqO_ok h2, of_decide_eq_true h3, h4, He.eqO_ok h5, He.eqO_ok h6, of_decide_eq_true h7, of_decide_eq_true h8⟩
/-- of all these classes -/
def excAll (xs : List Str) (K : PySem.W.Frag) : Bool := xs.all fun x => excCB K (He.ga K x)
theorem excAll_ok {xs : List Str} {K : PySem.W.Frag} (h : excAll xs K = true) (i : Nat) {x : Str} (e : xs[i]? = some x := by rfl) : ExcC K (He.ga K x) := excCB_ok (List.all_eq_true.mp h x (List.mem_of_getElem? e))
/-- the hook, with these checks -/
def hookE (n : Nat) (fa : List He.Fa) (fn : List He.DefD) (xs : List Str) : PySem.W.Hook where
  α := Bool × He.AlD
  obs := fun s => (excAll xs (He.frG s.heap.get? (He.asD s.heap.get? n)), He.obsDG n fa fn s.heap.get?)
  val := fun _ => (true, He.valD fn)
  says := fun _ h => ∃ K : PySem.W.Frag, K.In h ∧ He.SaysD fa fn K ∧ excAll xs K = true
  of := fun _ _ e => ⟨_, He.frG_in, congrArg (fun z : Bool × He.AlD => z.2) e, congrArg (fun z : Bool × He.AlD => z.1) e⟩
  keeps := fun _ _ _ ⟨K, hK, c, d⟩ k => ⟨K, PySem.W.Frag.In.keeps hK k, c, d⟩
def obsE (n : Nat) (fa : List He.Fa) (fn : List He.DefD) (xs : List Str) (g : Addr → Option Obj) : Bool × He.AlD := (excAll xs (He.frG g (He.asD g n)), He.obsDG n fa fn g)
theorem obsE_eq {n : Nat} {fa : List He.Fa} {fn : List He.DefD} {xs : List Str} {g : Addr → Option Obj} {s : Shared} (h : ∀ a, g a = s.heap.get? a) : obsE n fa fn xs g = (hookE n fa fn xs).obs s := by
  obtain rfl : g = s.heap.get? := funext h
  rfl

/-! ### methods of lists and texts -/
section
variable {X : Cx}
def rCntV (K : PySem.W.Frag) : V → List V → Hp → VK → Prop := fun x xs H Q => ∃ (a : Addr) (ys : List V) (y : V), x = V.ref a ∧ xs = [y] ∧ SqL K H a ys ∧ flatV y = true ∧ ys.all flatV = true ∧ Q (.int ((ys.countP fun z => eqV z y : Nat) : Int)) H
theorem count_eqU {x : V} : ∀ {xs : List V} {us : List Value}, Vals xs us → xs.all flatV = true → us.countP (eqU x) = xs.countP fun y => eqV y x
  | _, _, .nil, _ => rfl
  | y :: xs, u :: us, .cons r t, f => by
    rw [List.all_cons, Bool.and_eq_true] at f
    rw [List.countP_cons, List.countP_cons, count_eqU t f.2, eqU_of r f.1]
theorem mt_count : MtR X "list.count" (rCntV X.K) := by
  intro pp τ sh G x xs v us R J rx rv h
  obtain ⟨a, ys, y, rfl, rfl, hs, fy, fys, q⟩ := h
  cases rx
  cases rv with
  | cons ry rt =>
    rename_i uy ut
    cases rt
    obtain ⟨its, rv, ⟨⟨cls, dd, data, sl⟩, n, ho, hc, hdn, hd⟩, hlen⟩ := J.list hs
    simp only at hc hd
    subst hc hd
    refine call_meets PySem.F.slot_list_count ⟨_, ho, rfl⟩ PySem.F.entry_list_count (PySem.F.args_list_count_2 _ _) (SeqAt.list_countAt a its.toArray n dd sl uy (eqU y)) ⟨ho, fun u' hu' => mem_eqAt ry fy rv fys u' (by simpa using hu'), ?_⟩
    rw [show its.toArray.toList = its from rfl, count_eqU rv fys]
    exact ⟨.int _, G, J.tok _, ⟨_, rfl⟩, q⟩
theorem cb_all (hc : X.calm = true) : CallR X (.builtin "all") (rAll X.K) := cr_all hc
theorem cb_any (hc : X.calm = true) : CallR X (.builtin "any") (rAny X.K) := cr_any hc
theorem cb_sorted : CallR X (.builtin "sorted") (rSortedPO X.K) := cr_sortedPO
end

/-- a class of one's own as a value -/
theorem pe_gc {X : Cx} {Z : Zn} {x : Str} {C : Addr} {pos : Pos} (G : Z.mg x = some (.ref C)) (hg : Gl X x) (hI : In X Z := by exact ⟨rfl, rfl, rfl, rfl, rfl⟩) (hd : (x == ("__debug__" : Str)) = false := by decide) : PE X (.Name x pos) (tC (.ref C)) := by
  obtain ⟨i1, i2, i3, i4, i5⟩ := hI
  rw [← i4] at G
  exact pe_glob hg G rfl hd
theorem pe_fldK {X : Cx} {K : PySem.W.Frag} {e : Expr} {te : TE} {f : Str} {pos : Pos} (hk : X.K = K) (he : PE X e te) (h2 : attributeBase e f X.env (eval e X.env) = eval e X.env) : PE X (.Attribute e f pos) (tFld K te f) := hk ▸ pe_fld he h2
/-! ### steps -/
section
variable {σ : L2.St} {H : Hp} {D : Ends} {Q : VK} {t u : TS} {ta tb : TE} {x y v : V} {K : PySem.W.Frag}
theorem rd_callZ {sp : Sp} {dvs : List V} {E : L2.St → XK} {ts : TA} (h : ts σ H fun vs H1 => sp (vs ++ dvs) H1 Q (E σ)) : tCallZ sp dvs E ts σ H Q := h
theorem rd_callE {sp : SpE} {cls : Value} {dd : Option Addr} {a : Addr} {ts : TA} (h : ts σ H fun ws H1 => sp cls dd a ws H1 Q) : tCallE sp cls dd a ts σ H Q := h
/-- o.m(..): the instance stands -/
theorem rd_meth {C : Addr} {m : Str} {sp : Sp} {dvs : List V} {E : XK} {ts : TA} (h : ta σ H fun x H1 => ∃ a dx fs, x = .ref a ∧ H1 a = some (.ins C dx fs) ∧ fs.lookup m = none ∧ ts σ H1 fun vs H2 => sp (x :: (vs ++ dvs)) H2 Q E) : tMeth C m sp dvs E ta ts σ H Q := h
theorem rd_methS {C : Addr} {m : Str} {sp : Sp} {dvs : List V} {E : L2.St → XK} {ts : TA} (h : ta σ H fun x H1 => ∃ a dx fs, x = .ref a ∧ H1 a = some (.ins C dx fs) ∧ fs.lookup m = none ∧ ts σ H1 fun vs H2 => sp (x :: (vs ++ dvs)) H2 Q (E σ)) : tMethS C m sp dvs E ta ts σ H Q := h
theorem on_ins {C a dx : Addr} {fs : List (Str × V)} {m : Str} {P : Prop} (h : H a = some (.ins C dx fs)) (l : fs.lookup m = none) (p : P) : ∃ b dx fs, V.ref a = .ref b ∧ H b = some (.ins C dx fs) ∧ fs.lookup m = none ∧ P := ⟨a, dx, fs, rfl, h, l, p⟩
theorem rd_try {i : Nat} {c : Value} {tb : WX → TS} {ts : Addr → Value → Option Addr → TS} {Wout : WX} (h : tb (wAs K c i ts Wout D) D σ H) : (fun D σ H => tb (wAs K c i ts Wout D) D σ H) D σ H := h
/-- the clause takes it -/
theorem rd_caught {c cls : Value} {d : Option Addr} {i : Nat} {ts : Addr → Value → Option Addr → TS} {Wout : WX} (e : PySem.W.exmOne K cls c = some true) (h : ∀ a, H a = none → ts a cls d { nx := fun σ' H' => D.nx (σ'.set i none) H', rt := D.rt, bk := fun σ' H' => D.bk (σ'.set i none) H', ct := fun σ' H' => D.ct (σ'.set i none) H' } (σ.set i (some (.ref a))) H) : WE (wAs K c i ts Wout D) σ cls d H :=
  ⟨true, e, fun _ => h, fun z => Bool.noConfusion z⟩
theorem rd_isP {cls : Value} {dd : Option Addr} {a D C : Addr} {b : Bool} (e1 : cls = .ref D) (e2 : dd = none) (C0 : ExcC K D) (e : PySem.W.kitOne K (.ref D) (.ref C) = some b) (q : Q (.bl b) H) : rIsP K cls dd a [.ref a, .ref C] H Q := ⟨D, .ref C, .ref C, b, e1, e2, C0, rfl, fun _ z => z, by rw [e1]; exact e, q⟩
/-- while, by a word and a measure; each turn's test is read where it stands -/
theorem while2 {c : TT} {tb : TS} (Pv : L2.St → Hp → Prop) (μ : L2.St → Hp → Nat) (h0 : Pv σ H)
    (hs : ∀ σ H, Pv σ H → c σ H fun b H1 => if b = true then ∃ N : L2.St → Hp → Prop, (∀ σ' H', N σ' H' → ∃ k, k < μ σ H ∧ (k = μ σ' H' ∧ Pv σ' H')) ∧ tb { D with nx := N, ct := N, bk := D.nx } σ H1 else D.nx σ H1) : tWhile c tb D σ H :=
  ⟨fun k σ H => k = μ σ H ∧ Pv σ H, ⟨_, rfl, h0⟩, fun k σ H ⟨e, z⟩ => by subst e; exact hs σ H z⟩
theorem wh_go {tb : TS} {Pv : L2.St → Hp → Prop} {μ : L2.St → Hp → Nat} {n : Nat} {bk : L2.St → Hp → Prop} (h : tb { D with nx := fun σ' H' => Pv σ' H' ∧ μ σ' H' < n, ct := fun σ' H' => Pv σ' H' ∧ μ σ' H' < n, bk := bk } σ H) :
    ∃ N : L2.St → Hp → Prop, (∀ σ' H', N σ' H' → ∃ k, k < n ∧ (k = μ σ' H' ∧ Pv σ' H')) ∧ tb { D with nx := N, ct := N, bk := bk } σ H := ⟨_, fun _ _ z => ⟨_, z.2, rfl, z.1⟩, h⟩
/-- an if whose ways meet again: J is what the way on may lean on -/
theorem rd_ifG {c : TT} (J : Hp → Prop) (h2 : ∀ H1, J H1 → u D σ H1) (h1 : ∀ R : Hp → Prop, (∀ H1, J H1 → R H1) → c σ H fun b H1 => if b = true then t D σ H1 else R H1) : tIfS c t u D σ H := h1 (u D σ) h2
/-- both ways go on -/
theorem rd_ifJ {c : TT} (J : L2.St → Hp → Prop) (h2 : ∀ σ1 H1, J σ1 H1 → D.nx σ1 H1) (h1 : ∀ R : L2.St → Hp → Prop, (∀ σ1 H1, J σ1 H1 → R σ1 H1) → c σ H fun b H1 => if b = true then t { D with nx := R } σ H1 else u { D with nx := R } σ H1) : tIfS c t u D σ H := h1 D.nx h2
theorem rd_tM0 {r : V → List V → Hp → VK → Prop} (h : ta σ H fun x H1 => (∃ a, x = .str a) ∧ r x [] H1 Q) : tM0 r ta σ H Q := h
theorem rd_tM1 {r : V → List V → Hp → VK → Prop} (h : ta σ H fun x H1 => (∃ a, x = .str a) ∧ tb σ H1 fun y H2 => r x [y] H2 Q) : tM1 r ta tb σ H Q := h
theorem rd_gcons {g : TG} {gs : TGs} {x : V} {xs : List V} {q : L2.St → Hp → Prop} (h : g x σ H fun σ2 H2 => gs xs σ2 H2 q) : gCons g gs (x :: xs) σ H q := ⟨x, xs, rfl, h⟩
theorem rd_gnil {q : L2.St → Hp → Prop} (h : q σ H) : gNil [] σ H q := ⟨rfl, h⟩
theorem rd_iS {te : TE} {R : It → Hp → Prop} (h : te σ H fun v H1 => ∃ x, v = .str x ∧ R (Its x) H1) : iStr te σ H R := h
theorem rd_inS {c : Nat} {z : Str} (q : Q (.bl (decide (c ∈ z.cps.toList))) H) : rInU K (.str ⟨#[c]⟩) (.str z) H Q := .inr (.inr ⟨c, z, rfl, rfl, q⟩)
theorem rd_all {a : Addr} {bs : List Bool} (h : SqL K H a (bs.map V.bl)) (q : Q (.bl (bs.all id)) H) : rAll K [.ref a] H Q := ⟨a, bs, rfl, h, q⟩
theorem rd_disp {trs : List (TE × TE)} (h : ∀ p, H p = none → tPairs trs σ (upd H p (.dK [])) fun ps H2 => H2 p = some (.dK []) ∧ ∃ kvs : List (Key × V), ps = kvs.map (fun kv => (kV kv.1, kv.2)) ∧ kvs.length ≤ 15 ∧ Q (.ref p) (upd H2 p (.dK (mergeK [] kvs)))) : tDisp trs σ H Q := h
theorem rd_pp {tk tv : TE} {r : List (TE × TE)} {R : List (V × V) → Hp → Prop} (h : tk σ H fun x H1 => tv σ H1 fun y H2 => tPairs r σ H2 fun ps H3 => R ((x, y) :: ps) H3) : tPairs ((tk, tv) :: r) σ H R := h
theorem rd_pp0 {R : List (V × V) → Hp → Prop} (h : R [] H) : tPairs [] σ H R := h
theorem rd_dT (h : ∀ p, H p = none → Q (.ref p) (upd H p (.dT []))) : tDNewU σ H Q := .inr h
theorem rd_dK (h : ∀ p, H p = none → Q (.ref p) (upd H p (.dK []))) : tDNewU σ H Q := .inl h
end

/-! ### whose is what: a thing's own addresses -/
/-- S grew to S', nothing else changed -/
structure Ext (S S' : Addr → Prop) (H H' : Hp) : Prop where
  fr : Fr S H H'
  nw : ∀ a, S' a → S a ∨ H a = none
def Live (S : Addr → Prop) (H : Hp) : Prop := ∀ a, S a → H a ≠ none
def Apart (S T : Addr → Prop) : Prop := ∀ a, S a → ¬ T a
theorem Apart.symm {S T : Addr → Prop} (h : Apart S T) : Apart T S := fun a t s => h a s t
theorem Ext.refl (S : Addr → Prop) (H : Hp) : Ext S S H H := ⟨Fr.refl _ _, fun _ h => .inl h⟩
theorem Ext.same {S : Addr → Prop} {H H' : Hp} (s : Same H H') : Ext S S H H' := ⟨Fr.of_same s, fun _ h => .inl h⟩
theorem Ext.trans {S S' S'' : Addr → Prop} {H H' H'' : Hp} (x : Ext S S' H H') (y : Ext S' S'' H' H'') : Ext S S'' H H'' := by
  refine ⟨fun b o e n => y.fr b o (x.fr b o e n) fun z => ?_, fun a h => ?_⟩
  · rcases x.nw b z with z | z
    · exact n z
    · rw [e] at z; cases z
  · rcases y.nw a h with h | h
    · exact x.nw a h
    · by_cases s : S a
      · exact .inl s
      · refine .inr ?_
        cases e : H a with
        | none => rfl
        | some o => rw [x.fr a o e s] at h; cases h
theorem Ext.apart {S S' T : Addr → Prop} {H H' : Hp} (x : Ext S S' H H') (l : Live T H) (a : Apart S T) : Apart S' T := fun b h t => by
  rcases x.nw b h with h | h
  · exact a b h t
  · exact l b t h
theorem Ext.keep {S S' T : Addr → Prop} {H H' : Hp} (x : Ext S S' H H') (a : Apart S T) {b : Addr} {o : HO} (t : T b) (e : H b = some o) : H' b = some o := x.fr b o e fun s => a b s t
theorem Live.ext {S S' T : Addr → Prop} {H H' : Hp} (x : Ext S S' H H') (l : Live T H) (a : Apart S T) : Live T H' := fun b t => by
  cases e : H b with
  | none => exact absurd e (l b t)
  | some o => rw [x.keep a t e]; exact fun z => nomatch z
theorem Live.same {T : Addr → Prop} {H H' : Hp} (s : Same H H') (l : Live T H) : Live T H' := Live.ext (S := fun _ => False) (Ext.same s) l fun _ z => z.elim
/-- own sets, numbered: none meets another, all of them stand -/
structure Fam (O : Nat → Addr → Prop) (H : Hp) : Prop where
  ap : ∀ i j, i ≠ j → Apart (O i) (O j)
  lv : ∀ i, Live (O i) H
def Fam.put (O : Nat → Addr → Prop) (i : Nat) (S : Addr → Prop) : Nat → Addr → Prop := fun j => if j = i then S else O j
theorem Fam.put_same {O : Nat → Addr → Prop} {i : Nat} {S : Addr → Prop} : Fam.put O i S i = S := if_pos rfl
theorem Fam.put_ne {O : Nat → Addr → Prop} {i j : Nat} {S : Addr → Prop} (h : j ≠ i) : Fam.put O i S j = O j := if_neg h
theorem Fam.step {O : Nat → Addr → Prop} {H H' : Hp} {i : Nat} {S : Addr → Prop} (F : Fam O H) (x : Ext (O i) S H H') (l : Live S H') : Fam (Fam.put O i S) H' := by
  refine ⟨fun a b hab => ?_, fun a => ?_⟩
  · by_cases ha : a = i
    · have hb : b ≠ i := fun e => hab (ha.trans e.symm)
      rw [ha, Fam.put_same, Fam.put_ne hb]
      exact x.apart (F.lv b) (F.ap i b (fun e => hb e.symm))
    · rw [Fam.put_ne ha]
      by_cases hb : b = i
      · rw [hb, Fam.put_same]
        exact (x.apart (F.lv a) (F.ap i a (fun e => ha e.symm))).symm
      · rw [Fam.put_ne hb]
        exact F.ap a b hab
  · by_cases ha : a = i
    · rw [ha, Fam.put_same]; exact l
    · rw [Fam.put_ne ha]
      exact Live.ext x (F.lv a) (F.ap i a (fun e => ha e.symm))
theorem Fam.keep {O : Nat → Addr → Prop} {H H' : Hp} {i j : Nat} {S : Addr → Prop} (F : Fam O H) (x : Ext (O i) S H H') (h : j ≠ i) : ∀ b o, O j b → H b = some o → H' b = some o := fun b o hb e => x.keep (F.ap i j (fun e => h e.symm)) hb e
theorem Fam.same {O : Nat → Addr → Prop} {H H' : Hp} (F : Fam O H) (s : Same H H') : Fam O H' := ⟨F.ap, fun i => (F.lv i).same s⟩
/-! own sets by a list: which address is whose -/
def FamL (ps : List (Addr × Nat)) (H : Hp) : Prop := (ps.map (·.1)).Nodup ∧ ∀ q ∈ ps, H q.1 ≠ none
theorem FamL.nil {H : Hp} : FamL [] H := ⟨List.nodup_nil, fun _ h => nomatch h⟩
theorem FamL.same {ps : List (Addr × Nat)} {H H' : Hp} (F : FamL ps H) (s : Same H H') : FamL ps H' := ⟨F.1, fun q hq z => by
  cases e : H q.1 with
  | none => exact F.2 q hq e
  | some o => rw [s _ _ e] at z; cases z⟩
theorem FamL.grow {ps : List (Addr × Nat)} {H H' : Hp} (F : FamL ps H) (s : ∀ b, H b ≠ none → H' b ≠ none) : FamL ps H' := ⟨F.1, fun q hq => s _ (F.2 q hq)⟩
theorem FamL.new {ps : List (Addr × Nat)} {H : Hp} {a : Addr} (F : FamL ps H) (h : H a = none) (i : Nat) {H' : Hp} (s : Same H H') (h' : H' a ≠ none) : FamL ((a, i) :: ps) H' := by
  refine ⟨List.nodup_cons.mpr ⟨fun hm => ?_, F.1⟩, fun q hq => ?_⟩
  · obtain ⟨q, hq, rfl⟩ := List.mem_map.mp hm
    exact F.2 q hq h
  · rcases List.mem_cons.mp hq with rfl | hq
    · exact h'
    · exact (F.same s).2 q hq
theorem FamL.one {ps : List (Addr × Nat)} {H : Hp} (F : FamL ps H) {a : Addr} {i j : Nat} (h1 : (a, i) ∈ ps) (h2 : (a, j) ∈ ps) : i = j := by
  have nd := F.1
  clear F
  induction ps with
  | nil => cases h1
  | cons q qs ih =>
    rw [List.map_cons, List.nodup_cons] at nd
    rcases List.mem_cons.mp h1 with e1 | h1
    · rcases List.mem_cons.mp h2 with e2 | h2
      · have := e1.trans e2.symm; exact congrArg (·.2) this
      · exact absurd (List.mem_map.mpr ⟨_, h2, by rw [← e1]⟩) nd.1
    · rcases List.mem_cons.mp h2 with e2 | h2
      · exact absurd (List.mem_map.mpr ⟨_, h1, by rw [← e2]⟩) nd.1
      · exact ih h1 h2 nd.2
theorem FamL.ne {ps : List (Addr × Nat)} {H : Hp} (F : FamL ps H) {a b : Addr} {i j : Nat} (h1 : (a, i) ∈ ps) (h2 : (b, j) ∈ ps) (h : i ≠ j) : a ≠ b := by
  rintro rfl; exact h (F.one h1 h2)
theorem FamL.fam {ps : List (Addr × Nat)} {H : Hp} (F : FamL ps H) : Fam (fun i a => (a, i) ∈ ps) H := ⟨fun _ _ h a h1 h2 => h (F.one h1 h2), fun _ a h => F.2 (a, _) h⟩
theorem FamL.set {ps : List (Addr × Nat)} {H : Hp} (F : FamL ps H) {a : Addr} {o : HO} : FamL ps (upd H a o) := ⟨F.1, fun q hq z => F.2 q hq (none_of_upd z)⟩
theorem FamL.at {ps : List (Addr × Nat)} {H : Hp} {a : Addr} {o : HO} (F : FamL ps H) (h : H a = none) (i : Nat) : FamL ((a, i) :: ps) (upd H a o) := F.new h i (Same.new h) (by rw [upd_same]; exact fun z => nomatch z)
/-- an instance that makes one more thing -/
theorem FamL.make {ps : List (Addr × Nat)} {H H' : Hp} {p dx lp C : Addr} {x y : HO} (F : FamL ps H) (h1 : H p = none) (h2 : H dx = none) (f : Fr (· = p) (upd (upd H dx (.own p)) p (.ins C dx [])) H') (e : H' p = some x) (h3 : (upd (upd H dx (.own p)) p (.ins C dx [])) lp = none) (e2 : H' lp = some y) (i : Nat) : FamL ((lp, i) :: (p, i) :: ps) H' ∧ Same H H' := by
  have s : Same H H' := fun b o w => f b o (by rw [upd_ne (ne_of_none w h1), upd_ne (ne_of_none w h2)]; exact w) (ne_of_none w h1)
  have s1 : Same H (upd (upd H dx (.own p)) p (.ins C dx [])) := (Same.new h2).upd' h1
  have f1 : FamL ((p, i) :: ps) (upd (upd H dx (.own p)) p (.ins C dx [])) := F.new h1 i s1 (by rw [upd_same]; exact fun z => nomatch z)
  have f2 : FamL ((lp, i) :: (p, i) :: ps) (upd (upd (upd H dx (.own p)) p (.ins C dx [])) lp y) := f1.at h3 i
  refine ⟨f2.grow fun b hb z => ?_, s⟩
  by_cases e1 : b = p
  · rw [e1, e] at z; cases z
  · by_cases e3 : b = lp
    · rw [e3, e2] at z; cases z
    · rw [upd_ne e3] at hb
      cases w : (upd (upd H dx (.own p)) p (.ins C dx [])) b with
      | none => exact hb w
      | some o => rw [f _ _ w e1] at z; cases z
theorem SqT.tk {K : PySem.W.Frag} {H H' : Hp} {a : Addr} {xs : List V} (h : SqT K H a xs) (k : TK H H') : SqT K H' a xs := by
  rcases h with (h | ⟨o, h⟩) | h
  · exact .inl (.inl (k.tup h))
  · exact .inl (.inr ⟨o, k _ _ trivial h⟩)
  · exact .inr h
def top (i : Nat) : Stmt := PySem.Challenge.pw_namehouses_k29_whole_let_cut_and_let_aga.main.body.getD i (.Pass ⟨0, 0, 0, 0⟩)
abbrev s_is_whole : Stmt := top 9
abbrev s_is_below : Stmt := top 10
abbrev s_Shape_init : Stmt := inClass (top 11) 0
abbrev s_parts_of : Stmt := top 12
abbrev s_is_holder : Stmt := top 16
abbrev s_Let_init : Stmt := inClass (top 17) 0
abbrev s_Let_has : Stmt := inClass (top 17) 1
abbrev s_Let_overlaps : Stmt := inClass (top 17) 2
abbrev s_Let_told : Stmt := inClass (top 17) 3
abbrev s_Common_init : Stmt := inClass (top 18) 0
abbrev s_Common_let : Stmt := inClass (top 18) 1
abbrev s_Common_ends_of : Stmt := inClass (top 18) 2
abbrev s_Common_free_begin : Stmt := inClass (top 18) 3
abbrev s_Common_free_house : Stmt := inClass (top 18) 4
abbrev s_Common_cut : Stmt := inClass (top 18) 5
abbrev s_Common_leases : Stmt := inClass (top 18) 6
abbrev s_Common_holder_of : Stmt := inClass (top 18) 7
abbrev s__law_cell_at : Stmt := top 20
abbrev s__law_mixed : Stmt := top 21
abbrev s__law_digits : Stmt := top 22
abbrev s__law_next : Stmt := top 23
abbrev s__law_refused : Stmt := top 24
abbrev s__law_done : Stmt := top 25
abbrev s__law_free : Stmt := top 26
abbrev s__law_let : Stmt := top 27
abbrev s__law_cut : Stmt := top 28
abbrev s__law_due : Stmt := top 29
abbrev s__law_lease : Stmt := top 30
abbrev s__law_used : Stmt := top 31
abbrev s__law_drawn_let : Stmt := top 32
abbrev s__law_deeds : Stmt := top 33
abbrev s__law_whole : Stmt := top 34
abbrev s_law : Stmt := top 35
def fa : List He.Fa := [.glo "is_whole", .glo "is_below", .mkr "Shape", .glo "parts_of", .glo "is_holder", .mkr "Let", .meth "Let" "has", .meth "Let" "overlaps", .meth "Let" "told", .mkr "Common", .meth "Common" "let", .meth "Common" "ends_of", .meth "Common" "free_begin", .meth "Common" "free_house", .meth "Common" "cut", .meth "Common" "leases", .meth "Common" "holder_of", .glo "_law_cell_at", .glo "_law_mixed", .glo "_law_digits", .glo "_law_next", .glo "_law_refused", .glo "_law_done", .glo "_law_free", .glo "_law_let", .glo "_law_cut", .glo "_law_due", .glo "_law_lease", .glo "_law_used", .glo "_law_drawn_let", .glo "_law_deeds", .glo "_law_whole", .glo "law", .glo "HouseError", .exc "HouseError", .glo "NoShape", .exc "NoShape", .glo "NoName", .exc "NoName", .glo "NoTime", .exc "NoTime", .glo "NoHolder", .exc "NoHolder", .glo "NoLease", .exc "NoLease", .glo "Ended", .exc "Ended", .glo "Shape", .cls "Shape", .glo "Let", .cls "Let", .glo "Common", .cls "Common", .noat "Shape" "moments", .noat "Shape" "houses", .noat "Shape" "counts", .noat "Let" "holder", .noat "Let" "lease", .noat "Let" "end", .noat "Let" "is_cut", .noat "Common" "shape", .noat "Common" "lets", .exm "HouseError" "Ended" false, .exm "HouseError" "HouseError" true, .exm "HouseError" "NoHolder" false, .exm "HouseError" "NoLease" false, .exm "HouseError" "NoName" false, .exm "HouseError" "NoTime" false, .exm "NoShape" "Ended" false, .exm "NoShape" "HouseError" true, .exm "NoShape" "NoHolder" false, .exm "NoShape" "NoLease" false, .exm "NoShape" "NoName" false, .exm "NoShape" "NoTime" false, .exm "NoName" "Ended" false, .exm "NoName" "HouseError" true, .exm "NoName" "NoHolder" false, .exm "NoName" "NoLease" false, .exm "NoName" "NoName" true, .exm "NoName" "NoTime" false, .exm "NoTime" "Ended" false, .exm "NoTime" "HouseError" true, .exm "NoTime" "NoHolder" false, .exm "NoTime" "NoLease" false, .exm "NoTime" "NoName" false, .exm "NoTime" "NoTime" true, .exm "NoHolder" "Ended" false, .exm "NoHolder" "HouseError" true, .exm "NoHolder" "NoHolder" true, .exm "NoHolder" "NoLease" false, .exm "NoHolder" "NoName" false, .exm "NoHolder" "NoTime" false, .exm "NoLease" "Ended" false, .exm "NoLease" "HouseError" true, .exm "NoLease" "NoHolder" false, .exm "NoLease" "NoLease" true, .exm "NoLease" "NoName" false, .exm "NoLease" "NoTime" false, .exm "Ended" "Ended" true, .exm "Ended" "HouseError" true, .exm "Ended" "NoHolder" false, .exm "Ended" "NoLease" false, .exm "Ended" "NoName" false, .exm "Ended" "NoTime" false, .free "all", .free "bool", .free "divmod", .free "int", .free "isinstance", .free "len", .free "max", .free "min", .free "range", .free "sorted", .free "str", .free "tuple", .str "LETTERS" "abcdefghijklmnopqrstuvwxyz", .int "MOST_LETTERS" 8]
def fn : List He.DefD := [⟨("is_whole", none), "is_whole", "is_whole", defArgs s_is_whole, defBody s_is_whole, defScope s_is_whole, [], []⟩,
  ⟨("is_below", none), "is_below", "is_below", defArgs s_is_below, defBody s_is_below, defScope s_is_below, [], []⟩,
  ⟨("Shape", some "__init__"), "__init__", "Shape.__init__", defArgs s_Shape_init, defBody s_Shape_init, defScope s_Shape_init, [], []⟩,
  ⟨("parts_of", none), "parts_of", "parts_of", defArgs s_parts_of, defBody s_parts_of, defScope s_parts_of, [], []⟩,
  ⟨("is_holder", none), "is_holder", "is_holder", defArgs s_is_holder, defBody s_is_holder, defScope s_is_holder, [], []⟩,
  ⟨("Let", some "__init__"), "__init__", "Let.__init__", defArgs s_Let_init, defBody s_Let_init, defScope s_Let_init, [], []⟩,
  ⟨("Let", some "has"), "has", "Let.has", defArgs s_Let_has, defBody s_Let_has, defScope s_Let_has, [], []⟩,
  ⟨("Let", some "overlaps"), "overlaps", "Let.overlaps", defArgs s_Let_overlaps, defBody s_Let_overlaps, defScope s_Let_overlaps, [], []⟩,
  ⟨("Let", some "told"), "told", "Let.told", defArgs s_Let_told, defBody s_Let_told, defScope s_Let_told, [], []⟩,
  ⟨("Common", some "__init__"), "__init__", "Common.__init__", defArgs s_Common_init, defBody s_Common_init, defScope s_Common_init, [], []⟩,
  ⟨("Common", some "let"), "let", "Common.let", defArgs s_Common_let, defBody s_Common_let, defScope s_Common_let, [], []⟩,
  ⟨("Common", some "ends_of"), "ends_of", "Common.ends_of", defArgs s_Common_ends_of, defBody s_Common_ends_of, defScope s_Common_ends_of, [], []⟩,
  ⟨("Common", some "free_begin"), "free_begin", "Common.free_begin", defArgs s_Common_free_begin, defBody s_Common_free_begin, defScope s_Common_free_begin, [], []⟩,
  ⟨("Common", some "free_house"), "free_house", "Common.free_house", defArgs s_Common_free_house, defBody s_Common_free_house, defScope s_Common_free_house, [], []⟩,
  ⟨("Common", some "cut"), "cut", "Common.cut", defArgs s_Common_cut, defBody s_Common_cut, defScope s_Common_cut, [], []⟩,
  ⟨("Common", some "leases"), "leases", "Common.leases", defArgs s_Common_leases, defBody s_Common_leases, defScope s_Common_leases, [], []⟩,
  ⟨("Common", some "holder_of"), "holder_of", "Common.holder_of", defArgs s_Common_holder_of, defBody s_Common_holder_of, defScope s_Common_holder_of, [], []⟩,
  ⟨("_law_cell_at", none), "_law_cell_at", "_law_cell_at", defArgs s__law_cell_at, defBody s__law_cell_at, defScope s__law_cell_at, [], []⟩,
  ⟨("_law_mixed", none), "_law_mixed", "_law_mixed", defArgs s__law_mixed, defBody s__law_mixed, defScope s__law_mixed, [], []⟩,
  ⟨("_law_digits", none), "_law_digits", "_law_digits", defArgs s__law_digits, defBody s__law_digits, defScope s__law_digits, [], []⟩,
  ⟨("_law_next", none), "_law_next", "_law_next", defArgs s__law_next, defBody s__law_next, defScope s__law_next, [], []⟩,
  ⟨("_law_refused", none), "_law_refused", "_law_refused", defArgs s__law_refused, defBody s__law_refused, defScope s__law_refused, [], []⟩,
  ⟨("_law_done", none), "_law_done", "_law_done", defArgs s__law_done, defBody s__law_done, defScope s__law_done, [], []⟩,
  ⟨("_law_free", none), "_law_free", "_law_free", defArgs s__law_free, defBody s__law_free, defScope s__law_free, [], []⟩,
  ⟨("_law_let", none), "_law_let", "_law_let", defArgs s__law_let, defBody s__law_let, defScope s__law_let, [], []⟩,
  ⟨("_law_cut", none), "_law_cut", "_law_cut", defArgs s__law_cut, defBody s__law_cut, defScope s__law_cut, [], []⟩,
  ⟨("_law_due", none), "_law_due", "_law_due", defArgs s__law_due, defBody s__law_due, defScope s__law_due, [], []⟩,
  ⟨("_law_lease", none), "_law_lease", "_law_lease", defArgs s__law_lease, defBody s__law_lease, defScope s__law_lease, [], []⟩,
  ⟨("_law_used", none), "_law_used", "_law_used", defArgs s__law_used, defBody s__law_used, defScope s__law_used, [], []⟩,
  ⟨("_law_drawn_let", none), "_law_drawn_let", "_law_drawn_let", defArgs s__law_drawn_let, defBody s__law_drawn_let, defScope s__law_drawn_let, [], []⟩,
  ⟨("_law_deeds", none), "_law_deeds", "_law_deeds", defArgs s__law_deeds, defBody s__law_deeds, defScope s__law_deeds, [], []⟩,
  ⟨("_law_whole", none), "_law_whole", "_law_whole", defArgs s__law_whole, defBody s__law_whole, defScope s__law_whole, [], []⟩,
  ⟨("law", none), "law", "law", defArgs s_law, defBody s_law, defScope s_law, [], []⟩]
def exs : List Str := ["HouseError", "NoShape", "NoName", "NoTime", "NoHolder", "NoLease", "Ended"]
/-- what the top has left -/
structure Tx (Z : Zn) : Prop where
  h : ∃ h : Heap, Z.K.In h ∧ h.Ns mainGlobals Z.mg
  c : He.SaysD fa fn Z.K
  x : excAll exs Z.K = true
section
variable {Z : Zn} (T : Tx Z)
include T
theorem Tx.glo (i : Nat) {x : Str} (e : fa[i]? = some (.glo x) := by rfl) : Z.mg x = some (.ref (He.ga Z.K x)) := by
  obtain ⟨h, X, G⟩ := T.h
  exact He.glo_ok X G (T.c.fact i e)
theorem Tx.free (i : Nat) {x : Str} (e : fa[i]? = some (.free x) := by rfl) : Z.mg x = none := by
  obtain ⟨h, X, G⟩ := T.h
  exact He.free_ok X G (T.c.fact i e)
theorem Tx.str (i : Nat) {x z : Str} (e : fa[i]? = some (.str x z) := by rfl) : ∃ u, Z.mg x = some u ∧ RelV (.str z) u := by
  obtain ⟨h, X, G⟩ := T.h
  obtain ⟨t, q⟩ := He.str_ok X G (T.c.fact i e)
  exact ⟨_, q, t, rfl⟩
theorem Tx.int (i : Nat) {x : Str} {z : Int} (e : fa[i]? = some (.int x z) := by rfl) : ∃ u, Z.mg x = some u ∧ RelV (.int z) u := by
  obtain ⟨h, X, G⟩ := T.h
  obtain ⟨t, q⟩ := He.int_ok X G (T.c.fact i e)
  exact ⟨_, q, t, rfl⟩
theorem Tx.exc (i j : Nat) {x : Str} (e : fa[i]? = some (.exc x) := by rfl) (e2 : fa[j]? = some (.glo x) := by rfl) : XF Z x (He.ga Z.K x) := by
  obtain ⟨h1, h2, h3, h4⟩ := He.exc_ok (T.c.fact i e)
  exact ⟨T.glo j e2, h1, h2, h3, h4⟩
theorem Tx.df (i : Nat) {x qual : Str} {st : Stmt} {p : Str × Option Str} (e : fn[i]? = some ⟨p, x, qual, defArgs st, defBody st, defScope st, [], []⟩ := by rfl) : DF Z x qual st [] (He.fAd Z.K p) := ⟨T.c.def_ i e⟩

theorem n_all : Z.mg "all" = none := T.free 104
theorem n_bool : Z.mg "bool" = none := T.free 105
theorem n_divmod : Z.mg "divmod" = none := T.free 106
theorem n_int : Z.mg "int" = none := T.free 107
theorem n_isinstance : Z.mg "isinstance" = none := T.free 108
theorem n_len : Z.mg "len" = none := T.free 109
theorem n_max : Z.mg "max" = none := T.free 110
theorem n_min : Z.mg "min" = none := T.free 111
theorem n_range : Z.mg "range" = none := T.free 112
theorem n_sorted : Z.mg "sorted" = none := T.free 113
theorem n_str : Z.mg "str" = none := T.free 114
theorem n_tuple : Z.mg "tuple" = none := T.free 115
theorem x_HouseError : XF Z "HouseError" (He.ga Z.K "HouseError") := T.exc 34 33
theorem x_NoShape : XF Z "NoShape" (He.ga Z.K "NoShape") := T.exc 36 35
theorem x_NoName : XF Z "NoName" (He.ga Z.K "NoName") := T.exc 38 37
theorem x_NoTime : XF Z "NoTime" (He.ga Z.K "NoTime") := T.exc 40 39
theorem x_NoHolder : XF Z "NoHolder" (He.ga Z.K "NoHolder") := T.exc 42 41
theorem x_NoLease : XF Z "NoLease" (He.ga Z.K "NoLease") := T.exc 44 43
theorem x_Ended : XF Z "Ended" (He.ga Z.K "Ended") := T.exc 46 45
theorem xc_HouseError : ExcC Z.K (He.ga Z.K "HouseError") := excAll_ok T.x 0
theorem xc_NoShape : ExcC Z.K (He.ga Z.K "NoShape") := excAll_ok T.x 1
theorem xc_NoName : ExcC Z.K (He.ga Z.K "NoName") := excAll_ok T.x 2
theorem xc_NoTime : ExcC Z.K (He.ga Z.K "NoTime") := excAll_ok T.x 3
theorem xc_NoHolder : ExcC Z.K (He.ga Z.K "NoHolder") := excAll_ok T.x 4
theorem xc_NoLease : ExcC Z.K (He.ga Z.K "NoLease") := excAll_ok T.x 5
theorem xc_Ended : ExcC Z.K (He.ga Z.K "Ended") := excAll_ok T.x 6
theorem em_HouseError_Ended : PySem.W.exmOne Z.K (.ref (He.ga Z.K "HouseError")) (.ref (He.ga Z.K "Ended")) = some false := He.exm_ok (T.c.fact 62 rfl)
theorem em_NoShape_Ended : PySem.W.exmOne Z.K (.ref (He.ga Z.K "NoShape")) (.ref (He.ga Z.K "Ended")) = some false := He.exm_ok (T.c.fact 68 rfl)
theorem em_NoName_Ended : PySem.W.exmOne Z.K (.ref (He.ga Z.K "NoName")) (.ref (He.ga Z.K "Ended")) = some false := He.exm_ok (T.c.fact 74 rfl)
theorem em_NoTime_Ended : PySem.W.exmOne Z.K (.ref (He.ga Z.K "NoTime")) (.ref (He.ga Z.K "Ended")) = some false := He.exm_ok (T.c.fact 80 rfl)
theorem em_NoHolder_Ended : PySem.W.exmOne Z.K (.ref (He.ga Z.K "NoHolder")) (.ref (He.ga Z.K "Ended")) = some false := He.exm_ok (T.c.fact 86 rfl)
theorem em_NoLease_Ended : PySem.W.exmOne Z.K (.ref (He.ga Z.K "NoLease")) (.ref (He.ga Z.K "Ended")) = some false := He.exm_ok (T.c.fact 92 rfl)
theorem em_Ended_Ended : PySem.W.exmOne Z.K (.ref (He.ga Z.K "Ended")) (.ref (He.ga Z.K "Ended")) = some true := He.exm_ok (T.c.fact 98 rfl)
theorem em_HouseError_HouseError : PySem.W.exmOne Z.K (.ref (He.ga Z.K "HouseError")) (.ref (He.ga Z.K "HouseError")) = some true := He.exm_ok (T.c.fact 63 rfl)
theorem em_NoShape_HouseError : PySem.W.exmOne Z.K (.ref (He.ga Z.K "NoShape")) (.ref (He.ga Z.K "HouseError")) = some true := He.exm_ok (T.c.fact 69 rfl)
theorem em_NoName_HouseError : PySem.W.exmOne Z.K (.ref (He.ga Z.K "NoName")) (.ref (He.ga Z.K "HouseError")) = some true := He.exm_ok (T.c.fact 75 rfl)
theorem em_NoTime_HouseError : PySem.W.exmOne Z.K (.ref (He.ga Z.K "NoTime")) (.ref (He.ga Z.K "HouseError")) = some true := He.exm_ok (T.c.fact 81 rfl)
theorem em_NoHolder_HouseError : PySem.W.exmOne Z.K (.ref (He.ga Z.K "NoHolder")) (.ref (He.ga Z.K "HouseError")) = some true := He.exm_ok (T.c.fact 87 rfl)
theorem em_NoLease_HouseError : PySem.W.exmOne Z.K (.ref (He.ga Z.K "NoLease")) (.ref (He.ga Z.K "HouseError")) = some true := He.exm_ok (T.c.fact 93 rfl)
theorem em_Ended_HouseError : PySem.W.exmOne Z.K (.ref (He.ga Z.K "Ended")) (.ref (He.ga Z.K "HouseError")) = some true := He.exm_ok (T.c.fact 99 rfl)
theorem em_HouseError_NoHolder : PySem.W.exmOne Z.K (.ref (He.ga Z.K "HouseError")) (.ref (He.ga Z.K "NoHolder")) = some false := He.exm_ok (T.c.fact 64 rfl)
theorem em_NoShape_NoHolder : PySem.W.exmOne Z.K (.ref (He.ga Z.K "NoShape")) (.ref (He.ga Z.K "NoHolder")) = some false := He.exm_ok (T.c.fact 70 rfl)
theorem em_NoName_NoHolder : PySem.W.exmOne Z.K (.ref (He.ga Z.K "NoName")) (.ref (He.ga Z.K "NoHolder")) = some false := He.exm_ok (T.c.fact 76 rfl)
theorem em_NoTime_NoHolder : PySem.W.exmOne Z.K (.ref (He.ga Z.K "NoTime")) (.ref (He.ga Z.K "NoHolder")) = some false := He.exm_ok (T.c.fact 82 rfl)
theorem em_NoHolder_NoHolder : PySem.W.exmOne Z.K (.ref (He.ga Z.K "NoHolder")) (.ref (He.ga Z.K "NoHolder")) = some true := He.exm_ok (T.c.fact 88 rfl)
theorem em_NoLease_NoHolder : PySem.W.exmOne Z.K (.ref (He.ga Z.K "NoLease")) (.ref (He.ga Z.K "NoHolder")) = some false := He.exm_ok (T.c.fact 94 rfl)
theorem em_Ended_NoHolder : PySem.W.exmOne Z.K (.ref (He.ga Z.K "Ended")) (.ref (He.ga Z.K "NoHolder")) = some false := He.exm_ok (T.c.fact 100 rfl)
theorem em_HouseError_NoLease : PySem.W.exmOne Z.K (.ref (He.ga Z.K "HouseError")) (.ref (He.ga Z.K "NoLease")) = some false := He.exm_ok (T.c.fact 65 rfl)
theorem em_NoShape_NoLease : PySem.W.exmOne Z.K (.ref (He.ga Z.K "NoShape")) (.ref (He.ga Z.K "NoLease")) = some false := He.exm_ok (T.c.fact 71 rfl)
theorem em_NoName_NoLease : PySem.W.exmOne Z.K (.ref (He.ga Z.K "NoName")) (.ref (He.ga Z.K "NoLease")) = some false := He.exm_ok (T.c.fact 77 rfl)
theorem em_NoTime_NoLease : PySem.W.exmOne Z.K (.ref (He.ga Z.K "NoTime")) (.ref (He.ga Z.K "NoLease")) = some false := He.exm_ok (T.c.fact 83 rfl)
theorem em_NoHolder_NoLease : PySem.W.exmOne Z.K (.ref (He.ga Z.K "NoHolder")) (.ref (He.ga Z.K "NoLease")) = some false := He.exm_ok (T.c.fact 89 rfl)
theorem em_NoLease_NoLease : PySem.W.exmOne Z.K (.ref (He.ga Z.K "NoLease")) (.ref (He.ga Z.K "NoLease")) = some true := He.exm_ok (T.c.fact 95 rfl)
theorem em_Ended_NoLease : PySem.W.exmOne Z.K (.ref (He.ga Z.K "Ended")) (.ref (He.ga Z.K "NoLease")) = some false := He.exm_ok (T.c.fact 101 rfl)
theorem em_HouseError_NoName : PySem.W.exmOne Z.K (.ref (He.ga Z.K "HouseError")) (.ref (He.ga Z.K "NoName")) = some false := He.exm_ok (T.c.fact 66 rfl)
theorem em_NoShape_NoName : PySem.W.exmOne Z.K (.ref (He.ga Z.K "NoShape")) (.ref (He.ga Z.K "NoName")) = some false := He.exm_ok (T.c.fact 72 rfl)
theorem em_NoName_NoName : PySem.W.exmOne Z.K (.ref (He.ga Z.K "NoName")) (.ref (He.ga Z.K "NoName")) = some true := He.exm_ok (T.c.fact 78 rfl)
theorem em_NoTime_NoName : PySem.W.exmOne Z.K (.ref (He.ga Z.K "NoTime")) (.ref (He.ga Z.K "NoName")) = some false := He.exm_ok (T.c.fact 84 rfl)
theorem em_NoHolder_NoName : PySem.W.exmOne Z.K (.ref (He.ga Z.K "NoHolder")) (.ref (He.ga Z.K "NoName")) = some false := He.exm_ok (T.c.fact 90 rfl)
theorem em_NoLease_NoName : PySem.W.exmOne Z.K (.ref (He.ga Z.K "NoLease")) (.ref (He.ga Z.K "NoName")) = some false := He.exm_ok (T.c.fact 96 rfl)
theorem em_Ended_NoName : PySem.W.exmOne Z.K (.ref (He.ga Z.K "Ended")) (.ref (He.ga Z.K "NoName")) = some false := He.exm_ok (T.c.fact 102 rfl)
theorem em_HouseError_NoTime : PySem.W.exmOne Z.K (.ref (He.ga Z.K "HouseError")) (.ref (He.ga Z.K "NoTime")) = some false := He.exm_ok (T.c.fact 67 rfl)
theorem em_NoShape_NoTime : PySem.W.exmOne Z.K (.ref (He.ga Z.K "NoShape")) (.ref (He.ga Z.K "NoTime")) = some false := He.exm_ok (T.c.fact 73 rfl)
theorem em_NoName_NoTime : PySem.W.exmOne Z.K (.ref (He.ga Z.K "NoName")) (.ref (He.ga Z.K "NoTime")) = some false := He.exm_ok (T.c.fact 79 rfl)
theorem em_NoTime_NoTime : PySem.W.exmOne Z.K (.ref (He.ga Z.K "NoTime")) (.ref (He.ga Z.K "NoTime")) = some true := He.exm_ok (T.c.fact 85 rfl)
theorem em_NoHolder_NoTime : PySem.W.exmOne Z.K (.ref (He.ga Z.K "NoHolder")) (.ref (He.ga Z.K "NoTime")) = some false := He.exm_ok (T.c.fact 91 rfl)
theorem em_NoLease_NoTime : PySem.W.exmOne Z.K (.ref (He.ga Z.K "NoLease")) (.ref (He.ga Z.K "NoTime")) = some false := He.exm_ok (T.c.fact 97 rfl)
theorem em_Ended_NoTime : PySem.W.exmOne Z.K (.ref (He.ga Z.K "Ended")) (.ref (He.ga Z.K "NoTime")) = some false := He.exm_ok (T.c.fact 103 rfl)
theorem ki_HouseError_Ended : PySem.W.kitOne Z.K (.ref (He.ga Z.K "HouseError")) (.ref (He.ga Z.K "Ended")) = some false := kit_exm (em_HouseError_Ended T) (fun e => by have h := em_HouseError_Ended T; rw [e, em_Ended_Ended T] at h; cases h)
theorem ki_NoShape_Ended : PySem.W.kitOne Z.K (.ref (He.ga Z.K "NoShape")) (.ref (He.ga Z.K "Ended")) = some false := kit_exm (em_NoShape_Ended T) (fun e => by have h := em_NoShape_Ended T; rw [e, em_Ended_Ended T] at h; cases h)
theorem ki_NoName_Ended : PySem.W.kitOne Z.K (.ref (He.ga Z.K "NoName")) (.ref (He.ga Z.K "Ended")) = some false := kit_exm (em_NoName_Ended T) (fun e => by have h := em_NoName_Ended T; rw [e, em_Ended_Ended T] at h; cases h)
theorem ki_NoTime_Ended : PySem.W.kitOne Z.K (.ref (He.ga Z.K "NoTime")) (.ref (He.ga Z.K "Ended")) = some false := kit_exm (em_NoTime_Ended T) (fun e => by have h := em_NoTime_Ended T; rw [e, em_Ended_Ended T] at h; cases h)
theorem ki_NoHolder_Ended : PySem.W.kitOne Z.K (.ref (He.ga Z.K "NoHolder")) (.ref (He.ga Z.K "Ended")) = some false := kit_exm (em_NoHolder_Ended T) (fun e => by have h := em_NoHolder_Ended T; rw [e, em_Ended_Ended T] at h; cases h)
theorem ki_NoLease_Ended : PySem.W.kitOne Z.K (.ref (He.ga Z.K "NoLease")) (.ref (He.ga Z.K "Ended")) = some false := kit_exm (em_NoLease_Ended T) (fun e => by have h := em_NoLease_Ended T; rw [e, em_Ended_Ended T] at h; cases h)
theorem ki_Ended_Ended : PySem.W.kitOne Z.K (.ref (He.ga Z.K "Ended")) (.ref (He.ga Z.K "Ended")) = some true := kit_exm (em_Ended_Ended T) (fun _ => rfl)
theorem ki_HouseError_HouseError : PySem.W.kitOne Z.K (.ref (He.ga Z.K "HouseError")) (.ref (He.ga Z.K "HouseError")) = some true := kit_exm (em_HouseError_HouseError T) (fun _ => rfl)
theorem ki_NoShape_HouseError : PySem.W.kitOne Z.K (.ref (He.ga Z.K "NoShape")) (.ref (He.ga Z.K "HouseError")) = some true := kit_exm (em_NoShape_HouseError T) (fun _ => rfl)
theorem ki_NoName_HouseError : PySem.W.kitOne Z.K (.ref (He.ga Z.K "NoName")) (.ref (He.ga Z.K "HouseError")) = some true := kit_exm (em_NoName_HouseError T) (fun _ => rfl)
theorem ki_NoTime_HouseError : PySem.W.kitOne Z.K (.ref (He.ga Z.K "NoTime")) (.ref (He.ga Z.K "HouseError")) = some true := kit_exm (em_NoTime_HouseError T) (fun _ => rfl)
theorem ki_NoHolder_HouseError : PySem.W.kitOne Z.K (.ref (He.ga Z.K "NoHolder")) (.ref (He.ga Z.K "HouseError")) = some true := kit_exm (em_NoHolder_HouseError T) (fun _ => rfl)
theorem ki_NoLease_HouseError : PySem.W.kitOne Z.K (.ref (He.ga Z.K "NoLease")) (.ref (He.ga Z.K "HouseError")) = some true := kit_exm (em_NoLease_HouseError T) (fun _ => rfl)
theorem ki_Ended_HouseError : PySem.W.kitOne Z.K (.ref (He.ga Z.K "Ended")) (.ref (He.ga Z.K "HouseError")) = some true := kit_exm (em_Ended_HouseError T) (fun _ => rfl)
theorem ki_HouseError_NoHolder : PySem.W.kitOne Z.K (.ref (He.ga Z.K "HouseError")) (.ref (He.ga Z.K "NoHolder")) = some false := kit_exm (em_HouseError_NoHolder T) (fun e => by have h := em_HouseError_NoHolder T; rw [e, em_NoHolder_NoHolder T] at h; cases h)
theorem ki_NoShape_NoHolder : PySem.W.kitOne Z.K (.ref (He.ga Z.K "NoShape")) (.ref (He.ga Z.K "NoHolder")) = some false := kit_exm (em_NoShape_NoHolder T) (fun e => by have h := em_NoShape_NoHolder T; rw [e, em_NoHolder_NoHolder T] at h; cases h)
theorem ki_NoName_NoHolder : PySem.W.kitOne Z.K (.ref (He.ga Z.K "NoName")) (.ref (He.ga Z.K "NoHolder")) = some false := kit_exm (em_NoName_NoHolder T) (fun e => by have h := em_NoName_NoHolder T; rw [e, em_NoHolder_NoHolder T] at h; cases h)
theorem ki_NoTime_NoHolder : PySem.W.kitOne Z.K (.ref (He.ga Z.K "NoTime")) (.ref (He.ga Z.K "NoHolder")) = some false := kit_exm (em_NoTime_NoHolder T) (fun e => by have h := em_NoTime_NoHolder T; rw [e, em_NoHolder_NoHolder T] at h; cases h)
theorem ki_NoHolder_NoHolder : PySem.W.kitOne Z.K (.ref (He.ga Z.K "NoHolder")) (.ref (He.ga Z.K "NoHolder")) = some true := kit_exm (em_NoHolder_NoHolder T) (fun _ => rfl)
theorem ki_NoLease_NoHolder : PySem.W.kitOne Z.K (.ref (He.ga Z.K "NoLease")) (.ref (He.ga Z.K "NoHolder")) = some false := kit_exm (em_NoLease_NoHolder T) (fun e => by have h := em_NoLease_NoHolder T; rw [e, em_NoHolder_NoHolder T] at h; cases h)
theorem ki_Ended_NoHolder : PySem.W.kitOne Z.K (.ref (He.ga Z.K "Ended")) (.ref (He.ga Z.K "NoHolder")) = some false := kit_exm (em_Ended_NoHolder T) (fun e => by have h := em_Ended_NoHolder T; rw [e, em_NoHolder_NoHolder T] at h; cases h)
theorem ki_HouseError_NoLease : PySem.W.kitOne Z.K (.ref (He.ga Z.K "HouseError")) (.ref (He.ga Z.K "NoLease")) = some false := kit_exm (em_HouseError_NoLease T) (fun e => by have h := em_HouseError_NoLease T; rw [e, em_NoLease_NoLease T] at h; cases h)
theorem ki_NoShape_NoLease : PySem.W.kitOne Z.K (.ref (He.ga Z.K "NoShape")) (.ref (He.ga Z.K "NoLease")) = some false := kit_exm (em_NoShape_NoLease T) (fun e => by have h := em_NoShape_NoLease T; rw [e, em_NoLease_NoLease T] at h; cases h)
theorem ki_NoName_NoLease : PySem.W.kitOne Z.K (.ref (He.ga Z.K "NoName")) (.ref (He.ga Z.K "NoLease")) = some false := kit_exm (em_NoName_NoLease T) (fun e => by have h := em_NoName_NoLease T; rw [e, em_NoLease_NoLease T] at h; cases h)
theorem ki_NoTime_NoLease : PySem.W.kitOne Z.K (.ref (He.ga Z.K "NoTime")) (.ref (He.ga Z.K "NoLease")) = some false := kit_exm (em_NoTime_NoLease T) (fun e => by have h := em_NoTime_NoLease T; rw [e, em_NoLease_NoLease T] at h; cases h)
theorem ki_NoHolder_NoLease : PySem.W.kitOne Z.K (.ref (He.ga Z.K "NoHolder")) (.ref (He.ga Z.K "NoLease")) = some false := kit_exm (em_NoHolder_NoLease T) (fun e => by have h := em_NoHolder_NoLease T; rw [e, em_NoLease_NoLease T] at h; cases h)
theorem ki_NoLease_NoLease : PySem.W.kitOne Z.K (.ref (He.ga Z.K "NoLease")) (.ref (He.ga Z.K "NoLease")) = some true := kit_exm (em_NoLease_NoLease T) (fun _ => rfl)
theorem ki_Ended_NoLease : PySem.W.kitOne Z.K (.ref (He.ga Z.K "Ended")) (.ref (He.ga Z.K "NoLease")) = some false := kit_exm (em_Ended_NoLease T) (fun e => by have h := em_Ended_NoLease T; rw [e, em_NoLease_NoLease T] at h; cases h)
theorem ki_HouseError_NoName : PySem.W.kitOne Z.K (.ref (He.ga Z.K "HouseError")) (.ref (He.ga Z.K "NoName")) = some false := kit_exm (em_HouseError_NoName T) (fun e => by have h := em_HouseError_NoName T; rw [e, em_NoName_NoName T] at h; cases h)
theorem ki_NoShape_NoName : PySem.W.kitOne Z.K (.ref (He.ga Z.K "NoShape")) (.ref (He.ga Z.K "NoName")) = some false := kit_exm (em_NoShape_NoName T) (fun e => by have h := em_NoShape_NoName T; rw [e, em_NoName_NoName T] at h; cases h)
theorem ki_NoName_NoName : PySem.W.kitOne Z.K (.ref (He.ga Z.K "NoName")) (.ref (He.ga Z.K "NoName")) = some true := kit_exm (em_NoName_NoName T) (fun _ => rfl)
theorem ki_NoTime_NoName : PySem.W.kitOne Z.K (.ref (He.ga Z.K "NoTime")) (.ref (He.ga Z.K "NoName")) = some false := kit_exm (em_NoTime_NoName T) (fun e => by have h := em_NoTime_NoName T; rw [e, em_NoName_NoName T] at h; cases h)
theorem ki_NoHolder_NoName : PySem.W.kitOne Z.K (.ref (He.ga Z.K "NoHolder")) (.ref (He.ga Z.K "NoName")) = some false := kit_exm (em_NoHolder_NoName T) (fun e => by have h := em_NoHolder_NoName T; rw [e, em_NoName_NoName T] at h; cases h)
theorem ki_NoLease_NoName : PySem.W.kitOne Z.K (.ref (He.ga Z.K "NoLease")) (.ref (He.ga Z.K "NoName")) = some false := kit_exm (em_NoLease_NoName T) (fun e => by have h := em_NoLease_NoName T; rw [e, em_NoName_NoName T] at h; cases h)
theorem ki_Ended_NoName : PySem.W.kitOne Z.K (.ref (He.ga Z.K "Ended")) (.ref (He.ga Z.K "NoName")) = some false := kit_exm (em_Ended_NoName T) (fun e => by have h := em_Ended_NoName T; rw [e, em_NoName_NoName T] at h; cases h)
theorem ki_HouseError_NoTime : PySem.W.kitOne Z.K (.ref (He.ga Z.K "HouseError")) (.ref (He.ga Z.K "NoTime")) = some false := kit_exm (em_HouseError_NoTime T) (fun e => by have h := em_HouseError_NoTime T; rw [e, em_NoTime_NoTime T] at h; cases h)
theorem ki_NoShape_NoTime : PySem.W.kitOne Z.K (.ref (He.ga Z.K "NoShape")) (.ref (He.ga Z.K "NoTime")) = some false := kit_exm (em_NoShape_NoTime T) (fun e => by have h := em_NoShape_NoTime T; rw [e, em_NoTime_NoTime T] at h; cases h)
theorem ki_NoName_NoTime : PySem.W.kitOne Z.K (.ref (He.ga Z.K "NoName")) (.ref (He.ga Z.K "NoTime")) = some false := kit_exm (em_NoName_NoTime T) (fun e => by have h := em_NoName_NoTime T; rw [e, em_NoTime_NoTime T] at h; cases h)
theorem ki_NoTime_NoTime : PySem.W.kitOne Z.K (.ref (He.ga Z.K "NoTime")) (.ref (He.ga Z.K "NoTime")) = some true := kit_exm (em_NoTime_NoTime T) (fun _ => rfl)
theorem ki_NoHolder_NoTime : PySem.W.kitOne Z.K (.ref (He.ga Z.K "NoHolder")) (.ref (He.ga Z.K "NoTime")) = some false := kit_exm (em_NoHolder_NoTime T) (fun e => by have h := em_NoHolder_NoTime T; rw [e, em_NoTime_NoTime T] at h; cases h)
theorem ki_NoLease_NoTime : PySem.W.kitOne Z.K (.ref (He.ga Z.K "NoLease")) (.ref (He.ga Z.K "NoTime")) = some false := kit_exm (em_NoLease_NoTime T) (fun e => by have h := em_NoLease_NoTime T; rw [e, em_NoTime_NoTime T] at h; cases h)
theorem ki_Ended_NoTime : PySem.W.kitOne Z.K (.ref (He.ga Z.K "Ended")) (.ref (He.ga Z.K "NoTime")) = some false := kit_exm (em_Ended_NoTime T) (fun e => by have h := em_Ended_NoTime T; rw [e, em_NoTime_NoTime T] at h; cases h)
theorem glo_HouseError : Z.mg "HouseError" = some (.ref (He.ga Z.K "HouseError")) := T.glo 33
theorem glo_NoShape : Z.mg "NoShape" = some (.ref (He.ga Z.K "NoShape")) := T.glo 35
theorem glo_NoName : Z.mg "NoName" = some (.ref (He.ga Z.K "NoName")) := T.glo 37
theorem glo_NoTime : Z.mg "NoTime" = some (.ref (He.ga Z.K "NoTime")) := T.glo 39
theorem glo_NoHolder : Z.mg "NoHolder" = some (.ref (He.ga Z.K "NoHolder")) := T.glo 41
theorem glo_NoLease : Z.mg "NoLease" = some (.ref (He.ga Z.K "NoLease")) := T.glo 43
theorem glo_Ended : Z.mg "Ended" = some (.ref (He.ga Z.K "Ended")) := T.glo 45
theorem glo_Shape : Z.mg "Shape" = some (.ref (He.ga Z.K "Shape")) := T.glo 47
theorem glo_Let : Z.mg "Let" = some (.ref (He.ga Z.K "Let")) := T.glo 49
theorem glo_Common : Z.mg "Common" = some (.ref (He.ga Z.K "Common")) := T.glo 51
theorem k_LETTERS : ∃ u, Z.mg "LETTERS" = some u ∧ RelV (.str "abcdefghijklmnopqrstuvwxyz") u := T.str 116
theorem k_MOST_LETTERS : ∃ u, Z.mg "MOST_LETTERS" = some u ∧ RelV (.int 8) u := T.int 117
theorem cls_Shape : Cls Z.K (He.ga Z.K "Shape") := He.cls_ok (T.c.fact 48 rfl)
theorem na_Shape_moments : NoAttr Z.K (He.ga Z.K "Shape") "moments" := He.noat_ok (T.c.fact 53 rfl)
theorem na_Shape_houses : NoAttr Z.K (He.ga Z.K "Shape") "houses" := He.noat_ok (T.c.fact 54 rfl)
theorem na_Shape_counts : NoAttr Z.K (He.ga Z.K "Shape") "counts" := He.noat_ok (T.c.fact 55 rfl)
theorem cls_Let : Cls Z.K (He.ga Z.K "Let") := He.cls_ok (T.c.fact 50 rfl)
theorem na_Let_holder : NoAttr Z.K (He.ga Z.K "Let") "holder" := He.noat_ok (T.c.fact 56 rfl)
theorem na_Let_lease : NoAttr Z.K (He.ga Z.K "Let") "lease" := He.noat_ok (T.c.fact 57 rfl)
theorem na_Let_end : NoAttr Z.K (He.ga Z.K "Let") "end" := He.noat_ok (T.c.fact 58 rfl)
theorem na_Let_is_cut : NoAttr Z.K (He.ga Z.K "Let") "is_cut" := He.noat_ok (T.c.fact 59 rfl)
theorem cls_Common : Cls Z.K (He.ga Z.K "Common") := He.cls_ok (T.c.fact 52 rfl)
theorem na_Common_shape : NoAttr Z.K (He.ga Z.K "Common") "shape" := He.noat_ok (T.c.fact 60 rfl)
theorem na_Common_lets : NoAttr Z.K (He.ga Z.K "Common") "lets" := He.noat_ok (T.c.fact 61 rfl)
end
local macro_rules | `(tactic| walk_at "ne") => `(tactic| first | assumption | (apply Ne.symm; assumption) | (exact ne_of_none (by assumption) (by assumption)) | (exact Ne.symm (ne_of_none (by assumption) (by assumption))))
local macro_rules | `(tactic| walk_at "hp") => `(tactic| first | assumption | exact upd_same | (refine (upd_ne ?_).trans ?_ <;> first | walk_at "ne" | walk_at "hp"))
local macro_rules | `(tactic| walk_at "sq") => `(tactic| first | assumption | exact .inl (.inl (by walk_at "hp")))
local macro_rules | `(tactic| walk_at "sz") => `(tactic| first | decide | (simp only [List.length_cons, List.length_nil, List.length_map]; decide) | assumption)
local macro_rules | `(tactic| walk_at "r1") => `(tactic| first
  | with_reducible refine rd_seq ?_
  | ((with_reducible refine rd_var (v := ?vv) ?vh ?vq); case vh => exact rfl)
  | with_reducible refine rd_c ?_
  | with_reducible refine rd_op ?_
  | with_reducible refine rd_asg ?_
  | with_reducible refine rd_gname ?_
  | with_reducible refine rd_gcons ?_
  | with_reducible refine rd_tM0 ?_
  | with_reducible refine rd_tM1 ?_
  | with_reducible refine rd_gnil ?_
  | with_reducible refine rd_test ?_
  | with_reducible refine rd_tB ?_
  | with_reducible refine rd_bl ?_
  | with_reducible refine rd_nil ?_
  | with_reducible refine rd_cons ?_
  | with_reducible refine rd_cb ?_
  | with_reducible refine rd_call ?_
  | with_reducible refine rd_spT ?_
  | with_reducible refine rd_ret ?_
  | with_reducible refine rd_drop ?_
  | with_reducible refine rd_next ?_
  | with_reducible refine rd_not ?_
  | with_reducible refine rd_and ?_
  | with_reducible refine rd_or ?_
  | with_reducible refine rd_andV ?_
  | with_reducible refine rd_orV ?_
  | with_reducible refine rd_notV ?_
  | with_reducible refine rd_ifE ?_
  | with_reducible refine rd_tup ?_
  | with_reducible refine rd_lst ?_
  | ((with_reducible refine @rd_sz (_ ≤ sizeLine) _ ?_ ?_); focus walk_at "sz")
  | with_reducible refine rd_un ?_
  | with_reducible refine rd_fldR ?_
  | with_reducible refine rd_chain ?_
  | with_reducible refine rd_make ?_
  | with_reducible refine rd_for ?_
  | with_reducible refine rd_iL ?_
  | with_reducible refine rd_iT ?_
  | with_reducible refine rd_iS ?_
  | with_reducible refine rd_iR1 ?_
  | with_reducible refine rd_iR2 ?_
  | with_reducible refine rd_gsub ?_
  | with_reducible refine rd_sfld ?_
  | with_reducible refine rd_addI ?_
  | with_reducible refine rd_sub ?_
  | with_reducible refine rd_lt ?_
  | with_reducible refine rd_le ?_
  | with_reducible refine rd_gt ?_
  | with_reducible refine rd_ge ?_
  | ((with_reducible refine rd_mod ?_ ?_); focus (first | decide | omega))
  | with_reducible refine rd_isN ?_
  | with_reducible refine rd_bm ?_
  | with_reducible refine rd_bm0 ?_
  | with_reducible refine rd_ckw ?_
  | with_reducible refine rd_lc ?_
  | with_reducible refine rd_yes ?_
  | with_reducible refine rd_callZ ?_
  | with_reducible refine rd_callE ?_
  | with_reducible refine rd_meth ?_
  | with_reducible refine rd_methS ?_
  | with_reducible refine rd_dget1 ?_
  | with_reducible refine rd_dget2 ?_
  | with_reducible refine rd_values ?_
  | with_reducible refine rd_sl ?_
  | with_reducible refine rd_part ?_
  | with_reducible refine rd_pint ?_
  | with_reducible refine rd_pnone ?_
  | with_reducible refine rd_max2 ?_
  | with_reducible refine rd_min2 ?_
  | ((with_reducible refine rd_neS ?_ ?_); focus exact rfl)
  | ((with_reducible refine rd_eqS ?_ ?_); focus exact rfl)
  | with_reducible refine rd_notN ?_
  | with_reducible refine rd_retN ?_
  | with_reducible refine rd_pp ?_
  | with_reducible refine rd_pp0 ?_
  | with_reducible refine iteT ?_
  | with_reducible refine iteF ?_
  | ((with_reducible show ite _ _ _); first | refine iteT ?_ | refine iteF ?_))
local macro_rules | `(tactic| walk_at "rs") => `(tactic| repeat walk_at "r1")
local macro_rules | `(tactic| walk_at "rd1") => `(tactic| first | walk_at "r1" | with_reducible refine rd_if ?_)
local macro_rules | `(tactic| walk_at "rd") => `(tactic| repeat walk_at "rd1")
local macro_rules | `(tactic| walk_at "len") => `(tactic| (intro vs H Q E h; repeat (first | exact (congrArg List.length h.1).trans rfl | obtain ⟨_, h⟩ := h)))
/-! ## is_whole -/
def N_is_whole : List Str := ["thing"]
theorem sc_is_whole : FnScope N_is_whole ["thing"] (defScope s_is_whole) := ⟨rfl, rfl, rfl, by decide +kernel, rfl, by decide +kernel, by decide +kernel⟩
theorem b_is_whole : BindsBy "is_whole" "is_whole" s_is_whole ["thing"] := fun _ _ _ _ _ _ us hl => match us, hl with | [_], _ => rfl
def sp_is_whole (Z : Zn) : Sp := fun vs H Q _ => ∃ x k, vs = [x] ∧ Kd Z.K H x k ∧ Q (.bl (isW x)) H
theorem w_is_whole {Z : Zn} (T : Tx Z) : BodyOk Z N_is_whole "is_whole" s_is_whole (He.fAd Z.K ("is_whole", none)) 0 (sp_is_whole Z) := by
  intro cdv A outer s H vs Q E hr hu tk hx hp h
  have sc := sc_is_whole
  refine ⟨_, (pss_one (ps_ret (pe_and (pe_callB (cb_isinstance) (by rfl) (n_isinstance T) bt_isinstance (pa_cons (pv 0) (pa_cons (pe_ty (n_int T) (by rfl) bt_int) pa_nil))) (pe_one (pe_not (pe_callB (cb_isinstance) (by rfl) (n_isinstance T) bt_isinstance (pa_cons (pv 0) (pa_cons (pe_ty (n_bool T) (by rfl) bt_bool) pa_nil)))))))), ?_⟩
  obtain ⟨x, n, rfl, kd, q⟩ := h
  rw [isW_of kd] at q
  walk_at "rd"
  refine isk_int kd ?_
  walk_at "rd"
  cases n
  all_goals first | exact q | (refine iteT ?_; walk_at "rd"; refine isk_bool kd ?_; walk_at "rd"; exact q)
theorem ok_is_whole {Z : Zn} (T : Tx Z) : GF Z "is_whole" 1 ["thing"] [] (sp_is_whole Z) := GF.of (T.df 0) (T.glo 0) b_is_whole sc_is_whole (by walk_at "len") (w_is_whole T)


/-! ## is_below -/
def N_is_below : List Str := ["thing", "most"]
theorem sc_is_below : FnScope N_is_below ["thing", "most"] (defScope s_is_below) := ⟨rfl, rfl, rfl, by decide +kernel, rfl, by decide +kernel, by decide +kernel⟩
theorem b_is_below : BindsBy "is_below" "is_below" s_is_below ["thing", "most"] := fun _ _ _ _ _ _ us hl => match us, hl with | [_, _], _ => rfl
/-- a whole number from 0 on below m -/
def isB (x : V) (m : Int) : Bool := match x with
  | .int i => decide (0 ≤ i) && decide (i < m)
  | _ => false
theorem isB_not {x : V} {m : Int} (h : isW x = false) : isB x m = false := by
  cases x <;> first | rfl | cases h
def sp_is_below (Z : Zn) : Sp := fun vs H Q _ => ∃ x k m, vs = [x, .int m] ∧ Kd Z.K H x k ∧ Q (.bl (isB x m)) H
theorem w_is_below {Z : Zn} (T : Tx Z) : BodyOk Z N_is_below "is_below" s_is_below (He.fAd Z.K ("is_below", none)) 1 (sp_is_below Z) := by
  intro cdv A outer s H vs Q E hr hu tk hx hp h
  have sc := sc_is_below
  refine ⟨_, (pss_one (ps_ret (pe_and (pe_g (ok_is_whole T) (hr.mono (by decide)) (by rfl) hx (pa_cons (pv 0) pa_nil)) (pe_one (pe_chain op_leU op_ltU pe_int (pv 0) (pv 1)))))), ?_⟩
  obtain ⟨x, n, m, rfl, kd, q⟩ := h
  walk_at "rd"
  refine ⟨x, n, rfl, kd, fun _ => ?_⟩
  walk_at "rd"
  cases x with
  | int i =>
    walk_at "rd"
    cases h : decide (0 ≤ i) with
    | false =>
      walk_at "rd"
      have e : isB (.int i) m = false := by show (decide (0 ≤ i) && _) = false; rw [h]; rfl
      rw [e] at q
      exact q
    | true =>
      walk_at "rd"
      have e : isB (.int i) m = decide (i < m) := by show (decide (0 ≤ i) && _) = _; rw [h]; rfl
      rw [e] at q
      exact q
  | _ => exact iteF q
theorem ok_is_below {Z : Zn} (T : Tx Z) : GF Z "is_below" 2 ["thing", "most"] [] (sp_is_below Z) := GF.of (T.df 1) (T.glo 1) b_is_below sc_is_below (by walk_at "len") (w_is_below T)


/-! ## Shape.__init__ -/
def N_Shape_init : List Str := ["self", "moments", "houses", "counts", "number"]
theorem sc_Shape_init : FnScope N_Shape_init ["self", "moments", "houses", "counts"] (defScope s_Shape_init) := ⟨rfl, rfl, rfl, by decide +kernel, rfl, by decide +kernel, by decide +kernel⟩
theorem b_Shape_init : BindsBy "__init__" "Shape.__init__" s_Shape_init ["self", "moments", "houses", "counts"] := fun _ _ _ _ _ _ us hl => match us, hl with | [_, _, _, _], _ => rfl
/-- a Shape's attributes -/
def shFs (m h c : Int) : List (Str × V) := [("moments", .int m), ("houses", .int h), ("counts", .int c)]
theorem sh_m (m h c : Int) : (shFs m h c).lookup ("moments" : Str) = some (.int m) := by kernel_rfl
theorem sh_h (m h c : Int) : (shFs m h c).lookup ("houses" : Str) = some (.int h) := by kernel_rfl
theorem sh_c (m h c : Int) : (shFs m h c).lookup ("counts" : Str) = some (.int c) := by kernel_rfl
/-- a shape of three numbers stands at p -/
structure ShapeAt (Z : Zn) (H : Hp) (p : Addr) (m h c : Int) : Prop where
  at_ : ∃ dx, H p = some (.ins (He.ga Z.K "Shape") dx (shFs m h c))
  pm : 1 ≤ m
  ph : 1 ≤ h
  pc : 1 ≤ c
  bm : m.natAbs.log2 < 3000
  bh : h.natAbs.log2 < 3000
  bc : c.natAbs.log2 < 3000
theorem ShapeAt.fr {Z : Zn} {S : Addr → Prop} {H H' : Hp} {p : Addr} {m h c : Int} (x : ShapeAt Z H p m h c) (f : Fr S H H') (n : ¬ S p) : ShapeAt Z H' p m h c := ⟨let ⟨dx, e⟩ := x.at_; ⟨dx, f _ _ e n⟩, x.pm, x.ph, x.pc, x.bm, x.bh, x.bc⟩
theorem ShapeAt.same {Z : Zn} {H H' : Hp} {p : Addr} {m h c : Int} (x : ShapeAt Z H p m h c) (f : Same H H') : ShapeAt Z H' p m h c := ⟨let ⟨dx, e⟩ := x.at_; ⟨dx, f _ _ e⟩, x.pm, x.ph, x.pc, x.bm, x.bh, x.bc⟩
theorem sh_moments {Z : Zn} (T : Tx Z) {H : Hp} {p : Addr} {m h c : Int} {Q : VK} (x : ShapeAt Z H p m h c) (q : Q (.int m) H) : rFld Z.K "moments" (.ref p) H Q := let ⟨dx, e⟩ := x.at_; fld_at e (cls_Shape T) (na_Shape_moments T) (sh_m m h c) q
theorem sh_houses {Z : Zn} (T : Tx Z) {H : Hp} {p : Addr} {m h c : Int} {Q : VK} (x : ShapeAt Z H p m h c) (q : Q (.int h) H) : rFld Z.K "houses" (.ref p) H Q := let ⟨dx, e⟩ := x.at_; fld_at e (cls_Shape T) (na_Shape_houses T) (sh_h m h c) q
theorem sh_counts {Z : Zn} (T : Tx Z) {H : Hp} {p : Addr} {m h c : Int} {Q : VK} (x : ShapeAt Z H p m h c) (q : Q (.int c) H) : rFld Z.K "counts" (.ref p) H Q := let ⟨dx, e⟩ := x.at_; fld_at e (cls_Shape T) (na_Shape_counts T) (sh_c m h c) q

theorem shFs1 (m : V) : putF "moments" m [] = ([("moments", m)] : List (Str × V)) := by kernel_rfl
theorem shFs2 (m h : V) : putF "houses" h ([("moments", m)] : List (Str × V)) = ([("moments", m), ("houses", h)] : List (Str × V)) := by kernel_rfl
theorem shFs3 (m h c : V) : putF "counts" c ([("moments", m), ("houses", h)] : List (Str × V)) = ([("moments", m), ("houses", h), ("counts", c)] : List (Str × V)) := by kernel_rfl
/-- numbers that make a shape, of a bounded size -/
def isN1 (x : V) : Bool := match x with
  | .int i => decide (1 ≤ i)
  | _ => false
theorem isN1_int {i : Int} : isN1 (.int i) = decide (1 ≤ i) := rfl
/-- Shape(a, b, c): p the new instance -/
def sp_Shape_init (Z : Zn) : Sp := fun vs H Q E => ∃ p dx a b c ka kb kc, vs = [.ref p, a, b, c] ∧ H p = some (.ins (He.ga Z.K "Shape") dx []) ∧ Kd Z.K H a ka ∧ Kd Z.K H b kb ∧ Kd Z.K H c kc ∧
  (isN1 a = true → isN1 b = true → isN1 c = true → ∀ H', Fr (· = p) H H' → H' p = some (.ins (He.ga Z.K "Shape") dx [("moments", a), ("houses", b), ("counts", c)]) → Q .non H') ∧
  ((isN1 a && isN1 b && isN1 c) = false → ∀ H', Same H H' → E (.ref (He.ga Z.K "NoShape")) none H')
/-- one number's test -/
theorem shape_turn {x : V} : (isW x = false → isN1 x = false) ∧ ∀ i, x = .int i → isN1 x = !decide (i < 1) := by
  refine ⟨fun h => ?_, ?_⟩
  · cases x <;> first | rfl | cases h
  · rintro i rfl
    show decide (1 ≤ i) = !decide (i < 1)
    by_cases h : i < 1
    · rw [decide_eq_true h, decide_eq_false (by omega)]; rfl
    · rw [decide_eq_false h, decide_eq_true (by omega)]; rfl
theorem w_Shape_init {Z : Zn} (T : Tx Z) : BodyOk Z N_Shape_init "Shape.__init__" s_Shape_init (He.fAd Z.K ("Shape", some "__init__")) 1 (sp_Shape_init Z) := by
  intro cdv A outer s H vs Q E hr hu tk hx hp h
  have sc := sc_Shape_init
  refine ⟨_, (pss_cons (ps_for hp rfl (pi_tup (pe_tup (pa_cons (pv 1) (pa_cons (pv 2) (pa_cons (pv 3) pa_nil))))) (pg_name (i := 4) sc.nd rfl (by first | exact Or.inl rfl | exact Or.inr rfl))
    (pss_one (ps_if (PW.pt (pw_or (pt_not (pt_val (pe_g (ok_is_whole T) (hr.mono (by decide)) (by rfl) hx (pa_cons (pv 4) pa_nil)))) (pw_or1 (pt_cmpR op_ltU (pv 4) pe_int (nomark _)))))
    (pss_one (ps_x (x_NoShape T) rfl tk (by rfl)))
    pss_nil)))
    (pss_cons (ps_fld (pv 0) (pv 1) rfl)
    (pss_cons (ps_fld (pv 0) (pv 2) rfl)
    (pss_one (ps_fld (pv 0) (pv 3) rfl))))), ?_⟩
  obtain ⟨p, dx, a, b, c, ka, kb, kc, rfl, hp, da, db, dc, q, qe⟩ := h
  walk_at "rd"
  intro t ht
  have npt : p ≠ t := ne_of_none hp ht
  have s0 : Same H (upd H t (.tup [a, b, c])) := Same.new ht
  walk_at "rd"
  refine ⟨t, rfl, ⟨[a, b, c], .inl (.inl upd_same)⟩, for_tup (K := Z.K) (a := t) (xs := [a, b, c]) (fun i σ H2 => ∃ y, σ = [some (.ref p), some a, some b, some c, y] ∧ H2 = upd H t (.tup [a, b, c]) ∧ (0 < i → isN1 a = true) ∧ (1 < i → isN1 b = true) ∧ (2 < i → isN1 c = true))
    ⟨none, rfl, rfl, by omega, by omega, by omega⟩ (fun i σ H2 _ ⟨_, _, e, _⟩ => by rw [e]; exact .inl (.inl upd_same)) ?_ ?_⟩
  · rintro i x σ H2 hi ⟨y, rfl, rfl, h0, h1, h2⟩
    have hx3 : (i = 0 ∧ x = a) ∨ (i = 1 ∧ x = b) ∨ (i = 2 ∧ x = c) := by
      match i, hi with
      | 0, e => exact .inl ⟨rfl, (Option.some.inj e).symm⟩
      | 1, e => exact .inr (.inl ⟨rfl, (Option.some.inj e).symm⟩)
      | 2, e => exact .inr (.inr ⟨rfl, (Option.some.inj e).symm⟩)
    obtain ⟨kx, dk⟩ : ∃ kx, Kd Z.K (upd H t (.tup [a, b, c])) x kx := by
      rcases hx3 with ⟨_, rfl⟩ | ⟨_, rfl⟩ | ⟨_, rfl⟩
      · exact ⟨ka, da.same s0⟩
      · exact ⟨kb, db.same s0⟩
      · exact ⟨kc, dc.same s0⟩
    have bad : isN1 x = false → E (.ref (He.ga Z.K "NoShape")) none (upd H t (.tup [a, b, c])) := fun e => qe (by
      rcases hx3 with ⟨_, rfl⟩ | ⟨_, rfl⟩ | ⟨_, rfl⟩ <;> rw [e] <;> simp) _ s0
    have good : isN1 x = true → ∃ y, ([some (.ref p), some a, some b, some c, some x] : L2.St) = [some (.ref p), some a, some b, some c, y] ∧ upd H t (.tup [a, b, c]) = upd H t (.tup [a, b, c]) ∧ (0 < i + 1 → isN1 a = true) ∧ (1 < i + 1 → isN1 b = true) ∧ (2 < i + 1 → isN1 c = true) := fun e => by
      refine ⟨some x, rfl, rfl, fun _ => ?_, fun _ => ?_, fun _ => ?_⟩
      · rcases hx3 with ⟨rfl, rfl⟩ | ⟨rfl, rfl⟩ | ⟨rfl, rfl⟩
        · exact e
        · exact h0 (by omega)
        · exact h0 (by omega)
      · rcases hx3 with ⟨rfl, rfl⟩ | ⟨rfl, rfl⟩ | ⟨rfl, rfl⟩
        · omega
        · exact e
        · exact h1 (by omega)
      · rcases hx3 with ⟨rfl, rfl⟩ | ⟨rfl, rfl⟩ | ⟨rfl, rfl⟩
        · omega
        · omega
        · exact e
    walk_at "rd"
    refine ⟨x, kx, rfl, dk, fun _ => ?_⟩
    walk_at "rd"
    cases hw : isW x with
    | false =>
      walk_at "rd"
      exact bad (shape_turn.1 hw)
    | true =>
      cases x with
      | int n =>
        walk_at "rd"
        have e := (shape_turn (x := .int n)).2 n rfl
        cases hn : decide (n < 1) with
        | true =>
          rw [hn] at e
          walk_at "rd"
          exact bad e
        | false =>
          rw [hn] at e
          walk_at "rd"
          exact good e
      | _ => cases hw
  · rintro σ H2 ⟨y, rfl, rfl, h0, h1, h2⟩
    have hp1 : (upd H t (.tup [a, b, c])) p = some (.ins (He.ga Z.K "Shape") dx []) := by rw [upd_ne npt]; exact hp
    walk_at "rd"
    refine put_at hp1 (cls_Shape T) (na_Shape_moments T) (by walk_at "sz") (shFs1 a) ?_
    walk_at "rd"
    refine put_at upd_same (cls_Shape T) (na_Shape_houses T) (by walk_at "sz") (shFs2 a b) ?_
    walk_at "rd"
    refine put_at upd_same (cls_Shape T) (na_Shape_counts T) (by walk_at "sz") (shFs3 a b c) ?_
    refine q (h0 (by show 0 < 3; decide)) (h1 (by show 1 < 3; decide)) (h2 (by show 2 < 3; decide)) _ ?_ upd_same
    refine Fr.upd (Fr.upd (Fr.upd (Fr.of_same s0) (.inl rfl)) (.inl rfl)) (.inl rfl)
theorem ok_Shape {Z : Zn} (T : Tx Z) : CF Z "Shape" (He.ga Z.K "Shape") 2 ["self", "moments", "houses", "counts"] [] (sp_Shape_init Z) := CF.of (T.df (p := ("Shape", some "__init__")) 2) (T.glo 47) (He.mkr_ok (T.c.fact 2 rfl)) b_Shape_init sc_Shape_init (by walk_at "len") (w_Shape_init T)


/-! ## parts_of -/
def N_parts_of : List Str := ["shape", "name", "rest", "count", "moment", "house"]
theorem sc_parts_of : FnScope N_parts_of ["shape", "name"] (defScope s_parts_of) := ⟨rfl, rfl, rfl, by decide +kernel, rfl, by decide +kernel, by decide +kernel⟩
theorem b_parts_of : BindsBy "parts_of" "parts_of" s_parts_of ["shape", "name"] := fun _ _ _ _ _ _ us hl => match us, hl with | [_, _], _ => rfl
/-- the moment, the house, the count of a name -/
def ptsM (h c n : Int) : Int := n / c / h
def ptsH (h c n : Int) : Int := n / c % h
def ptsC (c n : Int) : Int := n % c
def sp_parts_of (Z : Zn) : Sp := fun vs H Q E => ∃ p x k m h c, vs = [.ref p, x] ∧ ShapeAt Z H p m h c ∧ Kd Z.K H x k ∧
  (∀ n, x = .int n → 0 ≤ n → n < m * h * c → ∀ t H', Same H H' → H t = none → H' t = some (.tup [.int (ptsM h c n), .int (ptsH h c n), .int (ptsC c n)]) → Q (.ref t) H') ∧
  (isB x (m * h * c) = false → E (.ref (He.ga Z.K "NoName")) none H)
theorem w_parts_of {Z : Zn} (T : Tx Z) : BodyOk Z N_parts_of "parts_of" s_parts_of (He.fAd Z.K ("parts_of", none)) 2 (sp_parts_of Z) := by
  intro cdv A outer s H vs Q E hr hu tk hx hp h
  have sc := sc_parts_of
  refine ⟨_, (pss_cons (ps_if (pt_not (pt_val (pe_g (ok_is_below T) (hr.mono (by decide)) (by rfl) hx (pa_cons (pv 1) (pa_cons (pe_op op_mulU (pe_op op_mulU (pe_fld (pv 0) rfl) (pe_fld (pv 0) rfl)) (pe_fld (pv 0) rfl)) pa_nil)))))
    (pss_one (ps_x (x_NoName T) rfl tk (by rfl)))
    pss_nil)
    (pss_cons (ps_asg (pe_callB (cb_divmod) (by rfl) (n_divmod T) bt_divmod (pa_cons (pv 1) (pa_cons (pe_fld (pv 0) rfl) pa_nil))) (pg_tup (by rfl) (pgs_cons (pg_name (i := 2) sc.nd rfl (by first | exact Or.inl rfl | exact Or.inr rfl)) (pgs_cons (pg_name (i := 3) sc.nd rfl (by first | exact Or.inl rfl | exact Or.inr rfl)) pgs_nil))))
    (pss_cons (ps_asg (pe_callB (cb_divmod) (by rfl) (n_divmod T) bt_divmod (pa_cons (pv 2) (pa_cons (pe_fld (pv 0) rfl) pa_nil))) (pg_tup (by rfl) (pgs_cons (pg_name (i := 4) sc.nd rfl (by first | exact Or.inl rfl | exact Or.inr rfl)) (pgs_cons (pg_name (i := 5) sc.nd rfl (by first | exact Or.inl rfl | exact Or.inr rfl)) pgs_nil))))
    (pss_one (ps_ret (pe_tup (pa_cons (pv 4) (pa_cons (pv 5) (pa_cons (pv 3) pa_nil))))))))), ?_⟩
  obtain ⟨p, x, k, m, h, c, rfl, S, kd, q, qe⟩ := h
  walk_at "rd"
  refine sh_moments T S ?_
  walk_at "rd"
  refine sh_houses T S ?_
  walk_at "rd"
  have l1 := S.bm
  have l2 := S.bh
  have l3 := S.bc
  have l4 := @log2_mul m h
  refine rd_mulW (mulW_of (by omega) (by omega)) ?_
  walk_at "rd"
  refine sh_counts T S ?_
  walk_at "rd"
  refine rd_mulW (mulW_of (by omega) (by omega)) ?_
  walk_at "rd"
  refine ⟨x, k, _, rfl, kd, fun _ => ?_⟩
  walk_at "rd"
  cases hb : isB x (m * h * c) with
  | false =>
    walk_at "rd"
    exact qe hb
  | true =>
    walk_at "rd"
    cases x with
    | int n =>
      have hb2 := Bool.and_eq_true_iff.mp (show (decide (0 ≤ n) && decide (n < m * h * c)) = true from hb)
      have n0 := of_decide_eq_true hb2.1
      have n1 := of_decide_eq_true hb2.2
      have q := q n rfl n0 n1
      refine sh_counts T S ?_
      have pc := S.pc
      have ph := S.ph
      walk_at "rd"
      refine divmod_at (divP_of (by omega) (by omega)) fun t ht => ?_
      have s1 : Same H (upd H t (.tup [.int (n / c), .int (n % c)])) := Same.new ht
      walk_at "rd"
      refine ⟨t, _, rfl, .inl (.inl upd_same), rfl, _, _, rfl, _, _, rfl, rfl, ?_⟩
      walk_at "rd"
      refine sh_houses T (S.same s1) ?_
      walk_at "rd"
      refine divmod_at (divP_of (by omega) (by omega)) fun t2 ht2 => ?_
      have s2 := s1.upd' (o := .tup [.int (n / c / h), .int (n / c % h)]) (none_of_upd ht2)
      walk_at "rd"
      refine ⟨t2, _, rfl, .inl (.inl upd_same), rfl, _, _, rfl, _, _, rfl, rfl, ?_⟩
      walk_at "rd"
      intro t3 ht3
      exact q t3 _ (s2.upd' (none_of_upd (none_of_upd ht3))) (none_of_upd (none_of_upd ht3)) upd_same
    | _ => cases hb
theorem ok_parts_of {Z : Zn} (T : Tx Z) : GF Z "parts_of" 3 ["shape", "name"] [] (sp_parts_of Z) := GF.of (T.df 3) (T.glo 3) b_parts_of sc_parts_of (by walk_at "len") (w_parts_of T)


/-! ## is_holder -/
def N_is_holder : List Str := ["thing", "sign"]
theorem sc_is_holder : FnScope N_is_holder ["thing"] (defScope s_is_holder) := ⟨rfl, rfl, rfl, by decide +kernel, rfl, by decide +kernel, by decide +kernel⟩
theorem b_is_holder : BindsBy "is_holder" "is_holder" s_is_holder ["thing"] := fun _ _ _ _ _ _ us hl => match us, hl with | [_], _ => rfl
/-- a holder's name -/
def holdB : V → Bool
  | .str z => decide (1 ≤ z.length) && (decide (z.length ≤ 8) && z.cps.toList.all fun c => decide (c ∈ (Str.ofString "abcdefghijklmnopqrstuvwxyz").cps.toList))
  | _ => false
def sp_is_holder (Z : Zn) : Sp := fun vs H Q _ => ∃ x k, vs = [x] ∧ Kd Z.K H x k ∧ (∀ z, x = .str z → z.length ≤ sizeLine) ∧ ∀ H', Same H H' → Q (.bl (holdB x)) H'
theorem kd_str {K : PySem.W.Frag} {H : Hp} {x : V} (d : Kd K H x .str) : ∃ z, x = .str z := by
  have key : ∀ {t : Value}, TyX K H x t → t = .type "str" → ∃ z, x = .str z := by
    intro t h e
    cases h with
    | base b => cases b <;> first | exact ⟨_, rfl⟩ | (exfalso; exact absurd (Value.type.inj e) (by decide)) | cases e
    | _ => exfalso; exact absurd (Value.type.inj e) (by decide)
  exact key d rfl
theorem hold_of {K : PySem.W.Frag} {H : Hp} {x : V} {k : Kind} (d : Kd K H x k) (h : k ≠ .str) : holdB x = false := by
  cases x with
  | str z =>
    exfalso
    have key : ∀ {t : Value}, TyX K H (.str z) t → t = .type k.nm → False := by
      intro t q e
      cases q with
      | base b =>
        cases b
        have e2 := Value.type.inj e
        cases k <;> first | exact h rfl | exact absurd e2 (by decide)
    exact key d rfl
  | _ => rfl
theorem w_is_holder {Z : Zn} (T : Tx Z) : BodyOk Z N_is_holder "is_holder" s_is_holder (He.fAd Z.K ("is_holder", none)) 0 (sp_is_holder Z) := by
  intro cdv A outer s H vs Q E hr hu tk hx hp h
  have sc := sc_is_holder
  refine ⟨_, (pss_cons (ps_if (PW.pt (pw_or (pt_not (pt_val (pe_callB (cb_isinstance) (by rfl) (n_isinstance T) bt_isinstance (pa_cons (pv 0) (pa_cons (pe_ty (n_str T) (by rfl) bt_str) pa_nil))))) (pw_or (pt_cmpR op_ltU (pe_callB (cb_len) (by rfl) (n_len T) bt_len (pa_cons (pv 0) pa_nil)) pe_int (nomark _)) (pw_or1 (pt_cmpR op_gtU (pe_callB (cb_len) (by rfl) (n_len T) bt_len (pa_cons (pv 0) pa_nil)) (pe_k (k_MOST_LETTERS T) (by rfl)) (nomark _))))))
    (pss_one (ps_ret pe_bl))
    pss_nil)
    (pss_one (ps_ret (pe_callB (cb_all rfl) (by rfl) (n_all T) bt_all (pa_cons (pe_lc (own := [("sign", 1)]) (g := (gName 1)) (tt := tYes) rfl sc.nd (pi_str (pv 0)) (blkOk_by (N := N_is_holder) (sc := defScope s_is_holder) (by decide +kernel)) (fun _ _ _ _ _ => (pg_name (i := 1) sc.nd rfl (by first | exact Or.inl rfl | exact Or.inr rfl))) (fun _ _ _ _ _ => pts_nil) (fun _ _ _ _ _ => (pe_cmpR (op_inK (K := Z.K) rfl (by exact hu)) (pv 1) (pe_k (k_LETTERS T) (by rfl)) (by rfl)))) pa_nil))))), ?_⟩
  obtain ⟨x, k, rfl, dk, hz, q⟩ := h
  walk_at "rd"
  refine isk_str dk ?_
  by_cases hk : k = .str
  case neg =>
    have e : isSub k .str = false := by cases k <;> first | rfl | exact absurd rfl hk
    rw [e]
    walk_at "rd"
    rw [← hold_of dk hk]
    exact q _ (Same.refl _)
  subst hk
  obtain ⟨z, rfl⟩ := kd_str dk
  walk_at "rd"
  have hz1 := hz z rfl
  have q' : ∀ b, b = holdB (.str z) → ∀ H', Same H H' → Q (.bl b) H' := fun b e => by rw [e]; exact q
  refine rd_lenS hz1 ?_
  walk_at "rd"
  by_cases h1 : ((z.length : Nat) : Int) < 1
  · rw [decide_eq_true h1]
    walk_at "rd"
    refine q' _ ?_ _ (Same.refl _)
    show false = (decide (1 ≤ z.length) && _)
    rw [decide_eq_false (by omega), Bool.false_and]
  rw [decide_eq_false h1]
  walk_at "rd"
  refine rd_lenS hz1 ?_
  walk_at "rd"
  by_cases h2 : (8 : Int) < ((z.length : Nat) : Int)
  · rw [decide_eq_true h2]
    walk_at "rd"
    refine q' _ ?_ _ (Same.refl _)
    show false = (_ && (decide (z.length ≤ 8) && _))
    rw [decide_eq_false (show ¬ z.length ≤ 8 by omega), Bool.false_and, Bool.and_false]
  rw [decide_eq_false h2]
  walk_at "rd"
  refine ⟨z, rfl, fun L hL => lc_it walk_str (fun i H5 => Same H H5 ∧ H5 L = some (.lst (((z.cps.toList.map fun c => decide (c ∈ (Str.ofString "abcdefghijklmnopqrstuvwxyz").cps.toList)).take i).map V.bl))) ?_ (fun _ _ _ _ => trivial) ?_ ?_⟩
  · exact ⟨Same.new hL, upd_same⟩
  · rintro i x H5 H6 hi ⟨s5, hL5⟩ ⟨rfl, c, hc, rfl⟩
    walk_at "rd"
    refine ⟨rfl, ?_⟩
    walk_at "rd"
    refine rd_inS ?_
    have hcl : z.cps.toList[i]? = some c := by rw [Array.getElem?_toList]; exact hc
    refine ⟨_, hL5, lt_size ?_, s5.upd' hL, ?_⟩
    · rw [List.length_map, List.length_take]
      have : z.cps.size = z.length := rfl
      omega
    · rw [upd_same, List.take_add_one, List.getElem?_map, hcl, List.map_append]
      rfl
  · rintro H5 ⟨s5, hL5⟩
    have e : (z.cps.toList.map fun c => decide (c ∈ (Str.ofString "abcdefghijklmnopqrstuvwxyz").cps.toList)).take z.cps.size = z.cps.toList.map fun c => decide (c ∈ (Str.ofString "abcdefghijklmnopqrstuvwxyz").cps.toList) := by
      rw [List.take_of_length_le (by rw [List.length_map]; simp)]
    rw [e] at hL5
    refine rd_all (sq_of hL5) ?_
    refine q' _ ?_ _ s5
    show _ = (decide (1 ≤ z.length) && (decide (z.length ≤ 8) && _))
    rw [decide_eq_true (show 1 ≤ z.length by omega), decide_eq_true (show z.length ≤ 8 by omega), List.all_map]
    rfl
theorem ok_is_holder {Z : Zn} (T : Tx Z) : GF Z "is_holder" 1 ["thing"] [] (sp_is_holder Z) := GF.of (T.df 4) (T.glo 4) b_is_holder sc_is_holder (by walk_at "len") (w_is_holder T)


/-! ## Let.__init__ -/
def N_Let_init : List Str := ["self", "holder", "lease"]
theorem sc_Let_init : FnScope N_Let_init ["self", "holder", "lease"] (defScope s_Let_init) := ⟨rfl, rfl, rfl, by decide +kernel, rfl, by decide +kernel, by decide +kernel⟩
theorem b_Let_init : BindsBy "__init__" "Let.__init__" s_Let_init ["self", "holder", "lease"] := fun _ _ _ _ _ _ us hl => match us, hl with | [_, _, _], _ => rfl
/-- a Let's attributes -/
def ltFs (h : V) (t : Addr) (e : Int) (c : Bool) : List (Str × V) := [("holder", h), ("lease", .ref t), ("end", .int e), ("is_cut", .bl c)]
theorem lt_h (h : V) (t : Addr) (e : Int) (c : Bool) : (ltFs h t e c).lookup ("holder" : Str) = some h := by kernel_rfl
theorem lt_l (h : V) (t : Addr) (e : Int) (c : Bool) : (ltFs h t e c).lookup ("lease" : Str) = some (.ref t) := by kernel_rfl
theorem lt_e (h : V) (t : Addr) (e : Int) (c : Bool) : (ltFs h t e c).lookup ("end" : Str) = some (.int e) := by kernel_rfl
theorem lt_c (h : V) (t : Addr) (e : Int) (c : Bool) : (ltFs h t e c).lookup ("is_cut" : Str) = some (.bl c) := by kernel_rfl
theorem lt_has (h : V) (t : Addr) (e : Int) (c : Bool) : (ltFs h t e c).lookup ("has" : Str) = none := by kernel_rfl
theorem lt_overlaps (h : V) (t : Addr) (e : Int) (c : Bool) : (ltFs h t e c).lookup ("overlaps" : Str) = none := by kernel_rfl
theorem lt_told (h : V) (t : Addr) (e : Int) (c : Bool) : (ltFs h t e c).lookup ("told" : Str) = none := by kernel_rfl
theorem lt_put_e (h : V) (t : Addr) (e e' : Int) (c : Bool) : putF "end" (.int e') (ltFs h t e c) = ltFs h t e' c := by kernel_rfl
theorem lt_put_c (h : V) (t : Addr) (e : Int) (c c' : Bool) : putF "is_cut" (.bl c') (ltFs h t e c) = ltFs h t e c' := by kernel_rfl
theorem ltp1 (h : V) : putF "holder" h [] = ([("holder", h)] : List (Str × V)) := by kernel_rfl
theorem ltp2 (h l : V) : putF "lease" l ([("holder", h)] : List (Str × V)) = ([("holder", h), ("lease", l)] : List (Str × V)) := by kernel_rfl
theorem ltp3 (h l e : V) : putF "end" e ([("holder", h), ("lease", l)] : List (Str × V)) = ([("holder", h), ("lease", l), ("end", e)] : List (Str × V)) := by kernel_rfl
theorem ltp4 (h l e c : V) : putF "is_cut" c ([("holder", h), ("lease", l), ("end", e)] : List (Str × V)) = ([("holder", h), ("lease", l), ("end", e), ("is_cut", c)] : List (Str × V)) := by kernel_rfl
/-- what a Let tells: holder, house, begin, the lease's end, the end now, cut or not -/
structure LetS where
  h : Str
  ho : Int
  b : Int
  u : Int
  e : Int
  cut : Bool
structure LetAt (Z : Zn) (H : Hp) (a : Addr) (l : LetS) : Prop where
  ex : ∃ dx t, H a = some (.ins (He.ga Z.K "Let") dx (ltFs (.str l.h) t l.e l.cut)) ∧ H t = some (.tup [.int l.ho, .int l.b, .int l.u])
section
variable {Z : Zn} {H H' : Hp} {a dx t : Addr} {l : LetS} {h : V} {e : Int} {c : Bool} {Q : VK}
theorem LetAt.same (x : LetAt Z H a l) (s : Same H H') : LetAt Z H' a l := let ⟨dx, t, p, q⟩ := x.ex; ⟨dx, t, s _ _ p, s _ _ q⟩
theorem LetAt.keep (x : LetAt Z H a l) (k : ∀ o, H a = some o → H' a = some o) (tk : TK H H') : LetAt Z H' a l := let ⟨dx, t, p, q⟩ := x.ex; ⟨dx, t, k _ p, tk.tup q⟩
theorem fl_holder (T : Tx Z) (x : H a = some (.ins (He.ga Z.K "Let") dx (ltFs h t e c))) (q : Q h H) : rFld Z.K "holder" (.ref a) H Q := fld_at x (cls_Let T) (na_Let_holder T) (lt_h _ _ _ _) q
theorem fl_lease (T : Tx Z) (x : H a = some (.ins (He.ga Z.K "Let") dx (ltFs h t e c))) (q : Q (.ref t) H) : rFld Z.K "lease" (.ref a) H Q := fld_at x (cls_Let T) (na_Let_lease T) (lt_l _ _ _ _) q
theorem fl_end (T : Tx Z) (x : H a = some (.ins (He.ga Z.K "Let") dx (ltFs h t e c))) (q : Q (.int e) H) : rFld Z.K "end" (.ref a) H Q := fld_at x (cls_Let T) (na_Let_end T) (lt_e _ _ _ _) q
theorem fl_cut (T : Tx Z) (x : H a = some (.ins (He.ga Z.K "Let") dx (ltFs h t e c))) (q : Q (.bl c) H) : rFld Z.K "is_cut" (.ref a) H Q := fld_at x (cls_Let T) (na_Let_is_cut T) (lt_c _ _ _ _) q
end
def sp_Let_init (Z : Zn) : Sp := fun vs H Q _ => ∃ p dx h t a b c, vs = [.ref p, h, .ref t] ∧ H p = some (.ins (He.ga Z.K "Let") dx []) ∧ H t = some (.tup [a, b, .int c]) ∧ t ≠ p ∧
  ∀ H', Fr (· = p) H H' → H' p = some (.ins (He.ga Z.K "Let") dx (ltFs h t c false)) → (∀ b, H' b = none → H b = none) → Q .non H'
theorem w_Let_init {Z : Zn} (T : Tx Z) : BodyOk Z N_Let_init "Let.__init__" s_Let_init (He.fAd Z.K ("Let", some "__init__")) 0 (sp_Let_init Z) := by
  intro cdv A outer s H vs Q E hr hu tk hx hp h
  have sc := sc_Let_init
  refine ⟨_, (pss_cons (ps_fld (pv 0) (pv 1) rfl)
    (pss_cons (ps_fld (pv 0) (pv 2) rfl)
    (pss_cons (ps_fld (pv 0) (pe_ix (ix_U hu) (pv 2) pe_int (fun _ _ => rfl)) rfl)
    (pss_one (ps_fld (pv 0) pe_bl rfl))))), ?_⟩
  obtain ⟨p, dx, h, t, a, b, c, rfl, hp, ht, ntp, q⟩ := h
  walk_at "rd"
  refine put_at hp (cls_Let T) (na_Let_holder T) (by simp) (ltp1 _) ?_
  walk_at "rd"
  refine put_at upd_same (cls_Let T) (na_Let_lease T) (by simp) (ltp2 _ _) ?_
  walk_at "rd"
  refine rd_ixT (st_of (by rw [upd_ne ntp, upd_ne ntp]; exact ht)) (v := .int c) rfl ?_
  walk_at "rd"
  refine put_at upd_same (cls_Let T) (na_Let_end T) (by simp) (ltp3 _ _ _) ?_
  walk_at "rd"
  refine put_at upd_same (cls_Let T) (na_Let_is_cut T) (by simp) (ltp4 _ _ _ _) ?_
  refine q _ ?_ upd_same fun b e => none_of_upd (none_of_upd (none_of_upd (none_of_upd e)))
  exact ((((Fr.refl (· = p) _).upd (.inl rfl)).upd (.inl rfl)).upd (.inl rfl)).upd (.inl rfl)
theorem ok_Let {Z : Zn} (T : Tx Z) : CF Z "Let" (He.ga Z.K "Let") 1 ["self", "holder", "lease"] [] (sp_Let_init Z) := CF.of (T.df (p := ("Let", some "__init__")) 5) (T.glo 49) (He.mkr_ok (T.c.fact 5 rfl)) b_Let_init sc_Let_init (by walk_at "len") (w_Let_init T)


/-! ## Let.has -/
def N_Let_has : List Str := ["self", "house", "moment"]
theorem sc_Let_has : FnScope N_Let_has ["self", "house", "moment"] (defScope s_Let_has) := ⟨rfl, rfl, rfl, by decide +kernel, rfl, by decide +kernel, by decide +kernel⟩
theorem b_Let_has : BindsBy "has" "Let.has" s_Let_has ["self", "house", "moment"] := fun _ _ _ _ _ _ us hl => match us, hl with | [_, _, _], _ => rfl
def LetS.has (l : LetS) (ho t : Int) : Bool := decide (l.ho = ho) && (decide (l.b ≤ t) && decide (t < l.e))
def sp_Let_has (Z : Zn) : Sp := fun vs H Q _ => ∃ p l ho t, vs = [.ref p, .int ho, .int t] ∧ LetAt Z H p l ∧ Q (.bl (l.has ho t)) H
theorem w_Let_has {Z : Zn} (T : Tx Z) : BodyOk Z N_Let_has "Let.has" s_Let_has (He.fAd Z.K ("Let", some "has")) 0 (sp_Let_has Z) := by
  intro cdv A outer s H vs Q E hr hu tk hx hp h
  have sc := sc_Let_has
  refine ⟨_, (pss_one (ps_ret (pe_and (pe_cmpR (op_eqU hr.units) (pe_ix (ix_U hu) (pe_fld (pv 0) rfl) pe_int (fun _ _ => rfl)) (pv 1) (nomark _)) (pe_one (pe_chain op_leU op_ltU (pe_ix (ix_U hu) (pe_fld (pv 0) rfl) pe_int (fun _ _ => rfl)) (pv 2) (pe_fld (pv 0) rfl)))))), ?_⟩
  obtain ⟨p, l, ho, t, rfl, hl, q⟩ := h
  obtain ⟨dx, tt, e1, e2⟩ := hl.ex
  have q' : ∀ b, b = l.has ho t → Q (.bl b) H := fun b e => by rw [e]; exact q
  walk_at "rd"
  refine fl_lease T e1 ?_
  walk_at "rd"
  refine rd_ixT (st_of e2) (v := .int l.ho) rfl ?_
  walk_at "rd"
  by_cases h1 : l.ho = ho
  · rw [decide_eq_true (show V.int l.ho = V.int ho by rw [h1])]
    walk_at "rd"
    refine fl_lease T e1 ?_
    walk_at "rd"
    refine rd_ixT (st_of e2) (v := .int l.b) rfl ?_
    walk_at "rd"
    by_cases h2 : l.b ≤ t
    · rw [decide_eq_true h2]
      walk_at "rd"
      refine fl_end T e1 ?_
      walk_at "rd"
      refine q' _ ?_
      unfold LetS.has
      rw [decide_eq_true h1, decide_eq_true h2]
      rfl
    · rw [decide_eq_false h2]
      walk_at "rd"
      refine q' _ ?_
      unfold LetS.has
      rw [decide_eq_false h2, Bool.false_and, Bool.and_false]
  · rw [decide_eq_false (show ¬ V.int l.ho = V.int ho from fun z => h1 (V.int.inj z))]
    walk_at "rd"
    refine q' _ ?_
    unfold LetS.has
    rw [decide_eq_false h1, Bool.false_and]
theorem ok_Let_has {Z : Zn} (T : Tx Z) : MF Z (He.ga Z.K "Let") "has" 1 ["self", "house", "moment"] [] (sp_Let_has Z) := MF.of (T.df (p := ("Let", some "has")) 6) (cls_Let T) (He.meth_ok (T.c.fact 6 rfl)) b_Let_has sc_Let_has (by walk_at "len") (w_Let_has T)


/-! ## Let.overlaps -/
def N_Let_overlaps : List Str := ["self", "first", "end"]
theorem sc_Let_overlaps : FnScope N_Let_overlaps ["self", "first", "end"] (defScope s_Let_overlaps) := ⟨rfl, rfl, rfl, by decide +kernel, rfl, by decide +kernel, by decide +kernel⟩
theorem b_Let_overlaps : BindsBy "overlaps" "Let.overlaps" s_Let_overlaps ["self", "first", "end"] := fun _ _ _ _ _ _ us hl => match us, hl with | [_, _, _], _ => rfl
def LetS.over (l : LetS) (f n : Int) : Bool := decide (max f l.b < min n l.e)
def sp_Let_overlaps (Z : Zn) : Sp := fun vs H Q _ => ∃ p l f n, vs = [.ref p, .int f, .int n] ∧ LetAt Z H p l ∧ Q (.bl (l.over f n)) H
theorem w_Let_overlaps {Z : Zn} (T : Tx Z) : BodyOk Z N_Let_overlaps "Let.overlaps" s_Let_overlaps (He.fAd Z.K ("Let", some "overlaps")) 0 (sp_Let_overlaps Z) := by
  intro cdv A outer s H vs Q E hr hu tk hx hp h
  have sc := sc_Let_overlaps
  refine ⟨_, (pss_one (ps_ret (pe_cmpR op_ltU (pe_callB (cb_max2 rfl) (by rfl) (n_max T) bt_max (pa_cons (pv 1) (pa_cons (pe_ix (ix_U hu) (pe_fld (pv 0) rfl) pe_int (fun _ _ => rfl)) pa_nil))) (pe_callB (cb_min2 rfl) (by rfl) (n_min T) bt_min (pa_cons (pv 2) (pa_cons (pe_fld (pv 0) rfl) pa_nil))) (nomark _)))), ?_⟩
  obtain ⟨p, l, f, n, rfl, hl, q⟩ := h
  obtain ⟨dx, tt, e1, e2⟩ := hl.ex
  have q' : ∀ b, b = l.over f n → Q (.bl b) H := fun b e => by rw [e]; exact q
  walk_at "rd"
  refine fl_lease T e1 ?_
  walk_at "rd"
  refine rd_ixT (st_of e2) (v := .int l.b) rfl ?_
  walk_at "rd"
  refine fl_end T e1 ?_
  walk_at "rd"
  refine q' _ ?_
  unfold LetS.over
  have a : (if l.b > f then l.b else f) = max f l.b := by split <;> omega
  have b : (if l.e < n then l.e else n) = min n l.e := by split <;> omega
  rw [a, b]
theorem ok_Let_overlaps {Z : Zn} (T : Tx Z) : MF Z (He.ga Z.K "Let") "overlaps" 1 ["self", "first", "end"] [] (sp_Let_overlaps Z) := MF.of (T.df (p := ("Let", some "overlaps")) 7) (cls_Let T) (He.meth_ok (T.c.fact 7 rfl)) b_Let_overlaps sc_Let_overlaps (by walk_at "len") (w_Let_overlaps T)


/-! ## Let.told -/
def N_Let_told : List Str := ["self"]
theorem sc_Let_told : FnScope N_Let_told ["self"] (defScope s_Let_told) := ⟨rfl, rfl, rfl, by decide +kernel, rfl, by decide +kernel, by decide +kernel⟩
theorem b_Let_told : BindsBy "told" "Let.told" s_Let_told ["self"] := fun _ _ _ _ _ _ us hl => match us, hl with | [_], _ => rfl
def LetS.l4 (l : LetS) : List V := [.str l.h, .int l.ho, .int l.b, .int l.e]
def sp_Let_told (Z : Zn) : Sp := fun vs H Q _ => ∃ p l, vs = [.ref p] ∧ LetAt Z H p l ∧ ∀ t, H t = none → Q (.ref t) (upd H t (.tup l.l4))
theorem w_Let_told {Z : Zn} (T : Tx Z) : BodyOk Z N_Let_told "Let.told" s_Let_told (He.fAd Z.K ("Let", some "told")) 0 (sp_Let_told Z) := by
  intro cdv A outer s H vs Q E hr hu tk hx hp h
  have sc := sc_Let_told
  refine ⟨_, (pss_one (ps_ret (pe_tup (pa_cons (pe_fld (pv 0) rfl) (pa_cons (pe_ix (ix_U hu) (pe_fld (pv 0) rfl) pe_int (fun _ _ => rfl)) (pa_cons (pe_ix (ix_U hu) (pe_fld (pv 0) rfl) pe_int (fun _ _ => rfl)) (pa_cons (pe_fld (pv 0) rfl) pa_nil))))))), ?_⟩
  obtain ⟨p, l, rfl, hl, q⟩ := h
  obtain ⟨dx, tt, e1, e2⟩ := hl.ex
  walk_at "rd"
  refine fl_holder T e1 ?_
  walk_at "rd"
  refine fl_lease T e1 ?_
  walk_at "rd"
  refine rd_ixT (st_of e2) (v := .int l.ho) rfl ?_
  walk_at "rd"
  refine fl_lease T e1 ?_
  walk_at "rd"
  refine rd_ixT (st_of e2) (v := .int l.b) rfl ?_
  walk_at "rd"
  refine fl_end T e1 ?_
  walk_at "rd"
  exact q
theorem ok_Let_told {Z : Zn} (T : Tx Z) : MF Z (He.ga Z.K "Let") "told" 1 ["self"] [] (sp_Let_told Z) := MF.of (T.df (p := ("Let", some "told")) 8) (cls_Let T) (He.meth_ok (T.c.fact 8 rfl)) b_Let_told sc_Let_told (by walk_at "len") (w_Let_told T)


/-! ## Common.__init__ -/
def N_Common_init : List Str := ["self", "shape"]
theorem sc_Common_init : FnScope N_Common_init ["self", "shape"] (defScope s_Common_init) := ⟨rfl, rfl, rfl, by decide +kernel, rfl, by decide +kernel, by decide +kernel⟩
theorem b_Common_init : BindsBy "__init__" "Common.__init__" s_Common_init ["self", "shape"] := fun _ _ _ _ _ _ us hl => match us, hl with | [_, _], _ => rfl
def coFs (sp lp : Addr) : List (Str × V) := [("shape", .ref sp), ("lets", .ref lp)]
theorem co_s (a b : Addr) : (coFs a b).lookup ("shape" : Str) = some (.ref a) := by kernel_rfl
theorem co_l (a b : Addr) : (coFs a b).lookup ("lets" : Str) = some (.ref b) := by kernel_rfl
theorem cop1 (h : V) : putF "shape" h [] = ([("shape", h)] : List (Str × V)) := by kernel_rfl
theorem cop2 (a b : Addr) : putF "lets" (.ref b) ([("shape", .ref a)] : List (Str × V)) = coFs a b := by kernel_rfl
def sp_Common_init (Z : Zn) : Sp := fun vs H Q _ => ∃ p dx s, vs = [.ref p, .ref s] ∧ H p = some (.ins (He.ga Z.K "Common") dx []) ∧
  ∀ H' lp, Fr (· = p) H H' → H' p = some (.ins (He.ga Z.K "Common") dx (coFs s lp)) → H lp = none → H' lp = some (.lst []) → Q .non H'
theorem w_Common_init {Z : Zn} (T : Tx Z) : BodyOk Z N_Common_init "Common.__init__" s_Common_init (He.fAd Z.K ("Common", some "__init__")) 0 (sp_Common_init Z) := by
  intro cdv A outer s H vs Q E hr hu tk hx hp h
  have sc := sc_Common_init
  refine ⟨_, (pss_cons (ps_fld (pv 0) (pv 1) rfl)
    (pss_one (ps_fld (pv 0) (pe_lst pa_nil) rfl))), ?_⟩
  obtain ⟨p, dx, s, rfl, hp, q⟩ := h
  walk_at "rd"
  refine put_at hp (cls_Common T) (na_Common_shape T) (by simp) (cop1 _) ?_
  walk_at "rd"
  intro lp hlp
  have n1 : p ≠ lp := by
    rintro rfl
    rw [upd_same] at hlp
    cases hlp
  walk_at "rd"
  refine put_at ((upd_ne n1).trans upd_same) (cls_Common T) (na_Common_lets T) (by simp) (cop2 _ _) ?_
  refine q _ lp ?_ upd_same (none_of_upd hlp) (by rw [upd_ne n1.symm]; exact upd_same)
  exact (((Fr.refl (· = p) _).upd (.inl rfl)).upd (.inr (none_of_upd hlp))).upd (.inl rfl)
theorem ok_Common {Z : Zn} (T : Tx Z) : CF Z "Common" (He.ga Z.K "Common") 1 ["self", "shape"] [] (sp_Common_init Z) := CF.of (T.df (p := ("Common", some "__init__")) 9) (T.glo 51) (He.mkr_ok (T.c.fact 9 rfl)) b_Common_init sc_Common_init (by walk_at "len") (w_Common_init T)
/-- the book at p: its lets at as, in order; S its own addresses -/
structure CommonAt (Z : Zn) (H : Hp) (p sp : Addr) (S : Addr → Prop) (as : List Addr) (L : List LetS) : Prop where
  ex : ∃ dx lp, H p = some (.ins (He.ga Z.K "Common") dx (coFs sp lp)) ∧ H lp = some (.lst (as.map V.ref)) ∧ S lp
  ls : Paired (LetAt Z H) as L
  own : S p ∧ ∀ a ∈ as, S a
  nd : as.Nodup
  lv : Live S H
section
variable {Z : Zn} {H H' : Hp} {p sp : Addr} {S : Addr → Prop} {as : List Addr} {L : List LetS} {Q : VK}
theorem paired_memP {α β : Type} {F G : α → β → Prop} : ∀ {l₁ : List α} {l₂ : List β}, Paired F l₁ l₂ → (∀ a b, a ∈ l₁ → F a b → G a b) → Paired G l₁ l₂
  | _, _, .nil, _ => .nil
  | _, _, .cons r t, f => .cons (f _ _ List.mem_cons_self r) (paired_memP t fun a b m => f a b (List.mem_cons_of_mem _ m))
theorem CommonAt.keep (C : CommonAt Z H p sp S as L) (k : ∀ b o, S b → H b = some o → H' b = some o) (tk : TK H H') : CommonAt Z H' p sp S as L := by
  obtain ⟨⟨dx, lp, e1, e2, s1⟩, ls, ⟨o1, o2⟩, nd, lv⟩ := C
  refine ⟨⟨dx, lp, k _ _ o1 e1, k _ _ s1 e2, s1⟩, paired_memP ls fun a l m x => x.keep (fun o => k _ _ (o2 a m)) tk, ⟨o1, o2⟩, nd, fun b s => ?_⟩
  cases e : H b with
  | none => exact absurd e (lv b s)
  | some o => rw [k b o s e]; exact fun z => nomatch z
theorem CommonAt.same (C : CommonAt Z H p sp S as L) (s : Same H H') : CommonAt Z H' p sp S as L := C.keep (fun b o _ e => s b o e) (TK.of_same s)
theorem CommonAt.len (C : CommonAt Z H p sp S as L) : as.length = L.length := Paired.length C.ls
theorem CommonAt.at_ (C : CommonAt Z H p sp S as L) {i : Nat} {x : V} (h : (as.map V.ref)[i]? = some x) : ∃ a l, x = .ref a ∧ as[i]? = some a ∧ L[i]? = some l ∧ LetAt Z H a l := by
  rw [List.getElem?_map] at h
  cases e : as[i]? with
  | none => rw [e] at h; cases h
  | some a =>
    rw [e] at h
    obtain ⟨l, e2, q⟩ := paired_get C.ls e
    exact ⟨a, l, (Option.some.inj h).symm, rfl, e2, q⟩
theorem fl_shape (T : Tx Z) (C : CommonAt Z H p sp S as L) (q : Q (.ref sp) H) : rFld Z.K "shape" (.ref p) H Q := let ⟨_, _, e, _, _⟩ := C.ex; fld_at e (cls_Common T) (na_Common_shape T) (co_s _ _) q
theorem fl_lets (T : Tx Z) (C : CommonAt Z H p sp S as L) (q : ∀ lp, H lp = some (.lst (as.map V.ref)) → Q (.ref lp) H) : rFld Z.K "lets" (.ref p) H Q := let ⟨_, lp, e, e2, _⟩ := C.ex; fld_at e (cls_Common T) (na_Common_lets T) (co_l _ _) (q lp e2)
theorem co_meth (C : CommonAt Z H p sp S as L) {m : Str} {P : Prop} (h : ∀ a b, (coFs a b).lookup m = none) (q : P) : ∃ b dx fs, V.ref p = .ref b ∧ H b = some (.ins (He.ga Z.K "Common") dx fs) ∧ fs.lookup m = none ∧ P := let ⟨dx, lp, e, _, _⟩ := C.ex; ⟨p, dx, _, rfl, e, h _ _, q⟩
theorem co_no_let (a b : Addr) : (coFs a b).lookup ("let" : Str) = none := by kernel_rfl
theorem co_no_cut (a b : Addr) : (coFs a b).lookup ("cut" : Str) = none := by kernel_rfl
theorem co_no_leases (a b : Addr) : (coFs a b).lookup ("leases" : Str) = none := by kernel_rfl
theorem co_no_holder_of (a b : Addr) : (coFs a b).lookup ("holder_of" : Str) = none := by kernel_rfl
theorem co_no_free_house (a b : Addr) : (coFs a b).lookup ("free_house" : Str) = none := by kernel_rfl
theorem co_no_free_begin (a b : Addr) : (coFs a b).lookup ("free_begin" : Str) = none := by kernel_rfl
theorem co_no_ends_of (a b : Addr) : (coFs a b).lookup ("ends_of" : Str) = none := by kernel_rfl
end
/-- two lets of one house don't meet -/
def ApartL (a b : LetS) : Prop := a.ho = b.ho → a.e ≤ b.b ∨ b.e ≤ a.b ∨ a.e ≤ a.b ∨ b.e ≤ b.b
/-- what holds of every book, of m moments and h houses -/
structure GoodL (L : List LetS) (m h : Int) : Prop where
  ho : ∀ l ∈ L, 0 ≤ l.ho ∧ l.ho < h
  iv : ∀ l ∈ L, 0 ≤ l.b ∧ l.b < l.u ∧ l.u ≤ m ∧ l.b ≤ l.e ∧ l.e ≤ l.u ∧ (l.cut = false → l.e = l.u)
  dj : L.Pairwise ApartL
  len : L.length ≤ 100000
  ok : ∀ l ∈ L, PyData.strOk l.h = true
/-- a let of the house meets the stretch from f to n -/
def clash (L : List LetS) (h f n : Int) : Bool := L.any fun l => decide (l.ho = h) && l.over f n

/-! ## Common.ends_of -/
def N_Common_ends_of : List Str := ["self", "house", "some", "one"]
theorem sc_Common_ends_of : FnScope N_Common_ends_of ["self", "house"] (defScope s_Common_ends_of) := ⟨rfl, rfl, rfl, by decide +kernel, rfl, by decide +kernel, by decide +kernel⟩
theorem b_Common_ends_of : BindsBy "ends_of" "Common.ends_of" s_Common_ends_of ["self", "house"] := fun _ _ _ _ _ _ us hl => match us, hl with | [_, _], _ => rfl
/-- the stretches of a house, empty ones left out -/
def endsL (L : List LetS) (h : Int) : List (Int × Int) := (L.filter fun l => decide (l.ho = h) && decide (l.b < l.e)).map fun l => (l.b, l.e)
abbrev pr2 (q : Int × Int) : List V := [.int q.1, .int q.2]
def lexLe (a b : Int × Int) : Prop := a.1 < b.1 ∨ (a.1 = b.1 ∧ a.2 ≤ b.2)
def kPair (H : Hp) : V → Int × Int
  | .ref t => match H t with
    | some (.tup [.int a, .int b]) => (a, b)
    | _ => (0, 0)
  | _ => (0, 0)
theorem kPair_at {H : Hp} {t : Addr} {q : Int × Int} (h : H t = some (.tup (pr2 q))) : kPair H (.ref t) = q := by
  show (match H t with
    | some (.tup [.int a, .int b]) => (a, b)
    | _ => ((0, 0) : Int × Int)) = q
  rw [h]
theorem tps_mem {H : Hp} : ∀ {vs : List V} {ds : List (List V)} {x : V}, Tps H vs ds → x ∈ vs → ∃ d, d ∈ ds ∧ ∃ t, x = .ref t ∧ H t = some (.tup d)
  | _, _, _, .nil, h => nomatch h
  | _, _, x, .cons r t, h => by
    rcases List.mem_cons.mp h with rfl | h
    · exact ⟨_, List.mem_cons_self, r⟩
    · obtain ⟨d, h1, h2⟩ := tps_mem t h
      exact ⟨d, List.mem_cons_of_mem _ h1, h2⟩
theorem tps_of {H : Hp} : ∀ {ys : List V}, (∀ x ∈ ys, ∃ t, x = .ref t ∧ H t = some (.tup (pr2 (kPair H x)))) → Tps H ys ((ys.map (kPair H)).map pr2)
  | [], _ => .nil
  | y :: ys, h => .cons (h y List.mem_cons_self) (tps_of fun x hx => h x (List.mem_cons_of_mem _ hx))
theorem tps_k {H : Hp} : ∀ {vs : List V} {P : List (Int × Int)}, Tps H vs (P.map pr2) → vs.map (kPair H) = P
  | [], [], _ => rfl
  | [], _ :: _, h => by cases h
  | _ :: _, [], h => by cases h
  | v :: vs, q :: P, h => by
    cases h with
    | cons r t =>
      obtain ⟨a, rfl, e⟩ := r
      rw [List.map_cons, kPair_at e, tps_k t]
def sp_Common_ends_of (Z : Zn) : Sp := fun vs H Q _ => ∃ p sp S as L h, vs = [.ref p, .int h] ∧ CommonAt Z H p sp S as L ∧ L.length ≤ 100000 ∧
  ∀ (H' : Hp) (r : Addr) (ws : List V) (P : List (Int × Int)), Same H H' → H r = none → H' r = some (.lst ws) → Tps H' ws (P.map pr2) → P.Perm (endsL L h) → P.Pairwise lexLe → Q (.ref r) H'
theorem w_Common_ends_of {Z : Zn} (T : Tx Z) : BodyOk Z N_Common_ends_of "Common.ends_of" s_Common_ends_of (He.fAd Z.K ("Common", some "ends_of")) 0 (sp_Common_ends_of Z) := by
  intro cdv A outer s H vs Q E hr hu tk hx hp h
  have sc := sc_Common_ends_of
  refine ⟨_, (pss_cons (ps_setLc (i := 2) (own := [("one", 3)]) (g := (gName 3)) (tt := _) rfl sc.nd rfl rfl (sw_true rfl rfl rfl (by decide +kernel)) (pi_list (pe_fld (pv 0) rfl)) (blkOk_by (N := N_Common_ends_of) (sc := defScope s_Common_ends_of) (by decide +kernel)) (fun _ _ _ _ _ => (pg_name (i := 3) sc.nd rfl (by first | exact Or.inl rfl | exact Or.inr rfl))) (fun _ _ _ _ _ => (pts_one (PW.pt (pw_and (pt_cmpR (op_eqK (K := Z.K) rfl (by exact hr.units)) (pe_ix (ix_K (K := Z.K) rfl (by exact hu)) (pe_fldK (K := Z.K) rfl (pv 3) rfl) pe_int (fun _ _ => rfl)) (pv 1) (nomark _)) (pw_and1 (pt_cmpR op_ltU (pe_ix (ix_K (K := Z.K) rfl (by exact hu)) (pe_fldK (K := Z.K) rfl (pv 3) rfl) pe_int (fun _ _ => rfl)) (pe_fldK (K := Z.K) rfl (pv 3) rfl) (nomark _))))))) (fun _ _ _ _ _ => (pe_tup (pa_cons (pe_ix (ix_K (K := Z.K) rfl (by exact hu)) (pe_fldK (K := Z.K) rfl (pv 3) rfl) pe_int (fun _ _ => rfl)) (pa_cons (pe_fldK (K := Z.K) rfl (pv 3) rfl) pa_nil)))))
    (pss_one (ps_ret (pe_callB (cb_sorted) (by rfl) (n_sorted T) bt_sorted (pa_cons (pv 2) pa_nil))))), ?_⟩
  obtain ⟨p, sp, S, as, L, h, rfl, C, hlen, q⟩ := h
  have cl := C.len
  walk_at "rd"
  refine fl_lets T C fun lp hlp => ?_
  refine ⟨lp, rfl, ⟨_, sq_of hlp⟩, fun D hD => lc_it (walk_list (K := Z.K) (a := lp) (xs := as.map V.ref)) (fun i H5 => ∃ ws, Same H H5 ∧ H5 D = some (.lst ws) ∧ Tps H5 ws ((endsL (L.take i) h).map pr2)) ?_ ?_ ?_ ?_⟩
  · exact ⟨[], Same.new hD, upd_same, .nil⟩
  · rintro i H5 _ ⟨_, s5, _⟩
    exact sq_of (s5 _ _ hlp)
  · rintro i x H5 H6 hi ⟨ws, s5, hD5, tp⟩ ⟨rfl, hx⟩
    obtain ⟨a, l, rfl, ha, hl, at_⟩ := (C.same s5).at_ hx
    obtain ⟨dx, t, e1, e2⟩ := at_.ex
    have tk1 : (L.take (i + 1)) = L.take i ++ [l] := by rw [List.take_add_one, hl]; rfl
    have stay : ∀ H', (decide (l.ho = h) && decide (l.b < l.e)) = false → H' = H6 → ∃ ws, Same H H' ∧ H' D = some (.lst ws) ∧ Tps H' ws ((endsL (L.take (i + 1)) h).map pr2) := by
      rintro H' z rfl
      refine ⟨ws, s5, hD5, ?_⟩
      rw [tk1]
      unfold endsL
      rw [List.filter_append, List.filter_cons_of_neg (by rw [z]; exact Bool.false_ne_true)]
      rw [List.filter_nil, List.append_nil]
      exact tp
    walk_at "rd"
    refine ⟨rfl, ?_⟩
    walk_at "rd"
    refine fl_lease T e1 ?_
    walk_at "rd"
    refine rd_ixT (st_of e2) (v := .int l.ho) rfl ?_
    walk_at "rd"
    by_cases h1 : l.ho = h
    case neg =>
      rw [decide_eq_false (show ¬ V.int l.ho = V.int h from fun z => h1 (V.int.inj z))]
      walk_at "rd"
      exact stay _ (by rw [decide_eq_false h1, Bool.false_and]) rfl
    rw [decide_eq_true (show V.int l.ho = V.int h by rw [h1])]
    walk_at "rd"
    refine fl_lease T e1 ?_
    walk_at "rd"
    refine rd_ixT (st_of e2) (v := .int l.b) rfl ?_
    walk_at "rd"
    refine fl_end T e1 ?_
    walk_at "rd"
    by_cases h2 : l.b < l.e
    case neg =>
      rw [decide_eq_false h2]
      walk_at "rd"
      exact stay _ (by rw [decide_eq_false h2, Bool.and_false]) rfl
    rw [decide_eq_true h2]
    walk_at "rd"
    refine fl_lease T e1 ?_
    walk_at "rd"
    refine rd_ixT (st_of e2) (v := .int l.b) rfl ?_
    walk_at "rd"
    refine fl_end T e1 ?_
    walk_at "rd"
    intro r hr
    have s6 : Same H6 (upd H6 r (.tup [.int l.b, .int l.e])) := Same.new hr
    have hwl : ws.length ≤ 100000 := by
      rw [tp.len, List.length_map]
      unfold endsL
      rw [List.length_map]
      have h3 := List.length_filter_le (fun l : LetS => decide (l.ho = h) && decide (l.b < l.e)) (L.take i)
      rw [List.length_take] at h3
      omega
    refine ⟨ws, s6 _ _ hD5, lt_size (by omega), _, (s5.trans s6).upd' hD, upd_same, ?_⟩
    have tp2 : Tps (upd (upd H6 r (.tup [.int l.b, .int l.e])) D (.lst (ws ++ [V.ref r]))) ws ((endsL (L.take i) h).map pr2) := (tp.same s6).tk (TK.lst (TK.refl _) (s6 _ _ hD5))
    have e4 : (endsL (L.take (i + 1)) h).map pr2 = (endsL (L.take i) h).map pr2 ++ [pr2 (l.b, l.e)] := by
      rw [tk1]
      unfold endsL
      rw [List.filter_append, List.filter_cons_of_pos (by rw [decide_eq_true h1, decide_eq_true h2]; rfl), List.filter_nil, List.map_append, List.map_append]
      rfl
    rw [e4]
    refine tp2.snoc ?_
    rw [upd_ne (ne_of_none hD5 hr).symm]
    exact upd_same
  · rintro H5 ⟨ws, s5, hD5, tp⟩
    rw [List.take_of_length_le (by rw [List.length_map]; omega)] at tp
    walk_at "rd"
    refine ⟨D, ws, kPair H5, rfl, sq_of hD5, fun x hx => ?_, fun ys r st sb hr => ?_⟩
    · obtain ⟨d, hd, t, e1, e2⟩ := tps_mem tp hx
      obtain ⟨q0, _, rfl⟩ := List.mem_map.mp hd
      refine ⟨t, e1, ?_⟩
      rw [e1, kPair_at e2]
      exact e2
    · have hp := sb.perm
      have hall : ∀ x ∈ ys, ∃ t, x = .ref t ∧ H5 t = some (.tup (pr2 (kPair H5 x))) := fun x hx => by
        obtain ⟨d, hd, t, e1, e2⟩ := tps_mem tp (hp.mem_iff.mp hx)
        obtain ⟨q0, _, rfl⟩ := List.mem_map.mp hd
        refine ⟨t, e1, ?_⟩
        rw [e1, kPair_at e2]
        exact e2
      refine q _ r ys (ys.map (kPair H5)) (s5.upd' ?_) ?_ upd_same ?_ ?_ ?_
      · cases e : H r with
        | none => rfl
        | some o => rw [s5 _ _ e] at hr; cases hr
      · cases e : H r with
        | none => rfl
        | some o => rw [s5 _ _ e] at hr; cases hr
      · have t1 : Tps H5 ys ((ys.map (kPair H5)).map pr2) := tps_of hall
        exact t1.same (Same.new hr)
      · have t2 : ws.map (kPair H5) = endsL L h := tps_k tp
        rw [← t2]
        exact hp.map _
      · rw [List.pairwise_map]
        refine st.imp fun {a b} z => ?_
        have z2 := SrtO.lexB_no.mp z
        unfold lexLe
        omega
theorem ok_Common_ends_of {Z : Zn} (T : Tx Z) : MF Z (He.ga Z.K "Common") "ends_of" 1 ["self", "house"] [] (sp_Common_ends_of Z) := MF.of (T.df (p := ("Common", some "ends_of")) 11) (cls_Common T) (He.meth_ok (T.c.fact 11 rfl)) b_Common_ends_of sc_Common_ends_of (by walk_at "len") (w_Common_ends_of T)


/-! ## Common.free_begin -/
def N_Common_free_begin : List Str := ["self", "house", "moment", "span", "begin", "first", "end"]
theorem sc_Common_free_begin : FnScope N_Common_free_begin ["self", "house", "moment", "span"] (defScope s_Common_free_begin) := ⟨rfl, rfl, rfl, by decide +kernel, rfl, by decide +kernel, by decide +kernel⟩
theorem b_Common_free_begin : BindsBy "free_begin" "Common.free_begin" s_Common_free_begin ["self", "house", "moment", "span"] := fun _ _ _ _ _ _ us hl => match us, hl with | [_, _, _, _], _ => rfl
theorem clash_iff {L : List LetS} {h f n : Int} : clash L h f n = true ↔ ∃ l ∈ L, l.ho = h ∧ max f l.b < min n l.e := by
  unfold clash
  rw [List.any_eq_true]
  constructor
  · rintro ⟨l, hl, z⟩
    obtain ⟨z1, z2⟩ := Bool.and_eq_true_iff.mp z
    exact ⟨l, hl, of_decide_eq_true z1, of_decide_eq_true z2⟩
  · rintro ⟨l, hl, z1, z2⟩
    refine ⟨l, hl, ?_⟩
    unfold LetS.over
    rw [decide_eq_true z1, decide_eq_true z2]
    rfl
theorem clash_ends {L : List LetS} {h f s : Int} (hs : 1 ≤ s) : clash L h f (f + s) = true ↔ ∃ q ∈ endsL L h, q.1 < f + s ∧ f < q.2 := by
  rw [clash_iff]
  constructor
  · rintro ⟨l, hl, e, z⟩
    refine ⟨(l.b, l.e), List.mem_map.mpr ⟨l, List.mem_filter.mpr ⟨hl, ?_⟩, rfl⟩, ?_, ?_⟩
    · rw [decide_eq_true e, decide_eq_true (show l.b < l.e by omega)]
      rfl
    · show l.b < f + s
      omega
    · show f < l.e
      omega
  · rintro ⟨q, hq, z1, z2⟩
    obtain ⟨l, hl, rfl⟩ := List.mem_map.mp hq
    obtain ⟨hl, z⟩ := List.mem_filter.mp hl
    obtain ⟨z3, z4⟩ := Bool.and_eq_true_iff.mp z
    have z5 := of_decide_eq_true z3
    have z6 := of_decide_eq_true z4
    refine ⟨l, hl, z5, ?_⟩
    have a : l.b < f + s := z1
    have b : f < l.e := z2
    omega
/-- the stretches of one house, in order: none begins ahead of the one ahead's end -/
theorem ends_apart {L : List LetS} {h : Int} (dj : L.Pairwise ApartL) : (endsL L h).Pairwise fun a b => a.1 < a.2 ∧ b.1 < b.2 ∧ (a.2 ≤ b.1 ∨ b.2 ≤ a.1) := by
  unfold endsL
  rw [List.pairwise_map]
  refine List.Pairwise.imp_of_mem (R := ApartL) (fun {a b} ha hb z => ?_) (dj.filter _)
  obtain ⟨_, za⟩ := List.mem_filter.mp ha
  obtain ⟨_, zb⟩ := List.mem_filter.mp hb
  obtain ⟨a1, a2⟩ := Bool.and_eq_true_iff.mp za
  obtain ⟨b1, b2⟩ := Bool.and_eq_true_iff.mp zb
  have a1 := of_decide_eq_true a1
  have a2 := of_decide_eq_true a2
  have b1 := of_decide_eq_true b1
  have b2 := of_decide_eq_true b2
  have := z (a1.trans b1.symm)
  exact ⟨a2, b2, by omega⟩
theorem ends_sorted {L : List LetS} {h : Int} {P : List (Int × Int)} (dj : L.Pairwise ApartL) (pm : P.Perm (endsL L h)) (st : P.Pairwise lexLe) : P.Pairwise fun a b => a.2 ≤ b.1 ∧ b.1 < b.2 := by
  have h1 := (pm.pairwise_iff (R := fun (a b : Int × Int) => a.1 < a.2 ∧ b.1 < b.2 ∧ (a.2 ≤ b.1 ∨ b.2 ≤ a.1)) (fun {a b} z => ⟨z.2.1, z.1, z.2.2.symm⟩)).mpr (ends_apart dj)
  refine (h1.and st).imp fun {a b} z => ?_
  obtain ⟨⟨z1, z2, z3⟩, z4⟩ := z
  unfold lexLe at z4
  exact ⟨by omega, z2⟩
def sp_Common_free_begin (Z : Zn) : Sp := fun vs H Q _ => ∃ p sp S as L h f s, vs = [.ref p, .int h, .int f, .int s] ∧ CommonAt Z H p sp S as L ∧ L.length ≤ 100000 ∧ L.Pairwise ApartL ∧ 1 ≤ s ∧
  ∀ H' r, Same H H' → f ≤ r → clash L h r (r + s) = false → (∀ g, f ≤ g → g < r → clash L h g (g + s) = true) → Q (.int r) H'
theorem w_Common_free_begin {Z : Zn} (T : Tx Z) : BodyOk Z N_Common_free_begin "Common.free_begin" s_Common_free_begin (He.fAd Z.K ("Common", some "free_begin")) 1 (sp_Common_free_begin Z) := by
  intro cdv A outer s H vs Q E hr hu tk hx hp h
  have sc := sc_Common_free_begin
  refine ⟨_, (pss_cons (ps_set (i := 4) sc.nd rfl (by first | exact Or.inl rfl | exact Or.inr rfl) (pv 2))
    (pss_cons (ps_for hp rfl (pi_list (pe_m (ok_Common_ends_of T) (pv 0) (hr.mono (by decide)) hx (pa_cons (pv 1) pa_nil))) (pg_tup (by rfl) (pgs_cons (pg_name (i := 5) sc.nd rfl (by first | exact Or.inl rfl | exact Or.inr rfl)) (pgs_cons (pg_name (i := 6) sc.nd rfl (by first | exact Or.inl rfl | exact Or.inr rfl)) pgs_nil)))
    (pss_one (ps_if (PW.pt (pw_and (pt_cmpR op_ltU (pv 5) (pe_op op_addU (pv 4) (pv 3)) (nomark _)) (pw_and1 (pt_cmpR op_ltU (pv 4) (pv 6) (nomark _)))))
    (pss_one (ps_set (i := 4) sc.nd rfl (by first | exact Or.inl rfl | exact Or.inr rfl) (pv 6)))
    pss_nil)))
    (pss_one (ps_ret (pv 4))))), ?_⟩
  obtain ⟨p, sp, S, as, L, h, f, s1, rfl, C, hlen, dj, hs, q⟩ := h
  walk_at "rd"
  obtain ⟨dx, lp, e1, e2, _⟩ := C.ex
  refine on_ins e1 (co_no_ends_of _ _) ?_
  walk_at "rd"
  refine ⟨p, sp, S, as, L, h, rfl, C, hlen, fun H1 r ws P sm hr hr1 tp pm st _ => ?_⟩
  have so := ends_sorted dj pm st
  have pl : ws.length = P.length := by rw [tp.len, List.length_map]
  refine ⟨r, rfl, ⟨_, sq_of hr1⟩, for_it (walk_list (K := Z.K) (a := r) (xs := ws)) (fun i σ H2 => ∃ y5 y6 g, σ = [some (.ref p), some (.int h), some (.int f), some (.int s1), some (.int g), y5, y6] ∧ H2 = H1 ∧ f ≤ g ∧
    (∀ x, f ≤ x → x < g → clash L h x (x + s1) = true) ∧ ∀ q0 ∈ P.take i, ¬ (q0.1 < g + s1 ∧ g < q0.2)) ?_ ?_ ?_ ?_⟩
  · exact ⟨none, none, f, rfl, rfl, Int.le_refl _, fun x h1 h2 => by omega, fun q0 hq => nomatch hq⟩
  · rintro i σ H2 _ ⟨_, _, _, _, rfl, _⟩
    exact sq_of hr1
  · rintro i x σ H2 _ hi ⟨y5, y6, g, rfl, rfl, hg, hcl, hno⟩ ⟨rfl, hx⟩
    have hiP : i < P.length := by rw [← pl]; exact hi
    have hP : P[i]? = some P[i] := List.getElem?_eq_getElem hiP
    obtain ⟨t, hxt, ht⟩ := tp.at_ (i := i) (d := pr2 P[i]) (by rw [List.getElem?_map, hP]; rfl)
    rw [hxt] at hx
    cases hx
    have mem : P[i] ∈ endsL L h := pm.mem_iff.mp (List.getElem_mem _)
    have tk1 : P.take (i + 1) = P.take i ++ [P[i]] := by rw [List.take_add_one, hP]; rfl
    refine ⟨t, _, rfl, st_of ht, rfl, ?_⟩
    walk_at "rd"
    have ends : ∀ g' , f ≤ g' → (∀ x, f ≤ x → x < g' → clash L h x (x + s1) = true) → (∀ q0 ∈ P.take (i + 1), ¬ (q0.1 < g' + s1 ∧ g' < q0.2)) → True := fun _ _ _ _ => trivial
    by_cases h1 : P[i].1 < g + s1
    case neg =>
      rw [decide_eq_false h1]
      walk_at "rd"
      refine ⟨_, _, g, rfl, rfl, hg, hcl, fun q0 hq => ?_⟩
      rw [tk1] at hq
      rcases List.mem_append.mp hq with hq | hq
      · exact hno q0 hq
      · rw [List.mem_singleton.mp hq]
        exact fun z => h1 z.1
    rw [decide_eq_true h1]
    walk_at "rd"
    by_cases h2 : g < P[i].2
    case neg =>
      rw [decide_eq_false h2]
      walk_at "rd"
      refine ⟨_, _, g, rfl, rfl, hg, hcl, fun q0 hq => ?_⟩
      rw [tk1] at hq
      rcases List.mem_append.mp hq with hq | hq
      · exact hno q0 hq
      · rw [List.mem_singleton.mp hq]
        exact fun z => h2 z.2
    rw [decide_eq_true h2]
    walk_at "rd"
    refine ⟨_, _, P[i].2, rfl, rfl, by omega, fun x h3 h4 => ?_, fun q0 hq => ?_⟩
    · by_cases h5 : x < g
      · exact hcl x h3 h5
      · exact (clash_ends hs).mpr ⟨_, mem, by omega, h4⟩
    · rw [tk1] at hq
      rcases List.mem_append.mp hq with hq | hq
      · obtain ⟨j, hj, rfl⟩ := List.getElem_of_mem hq
        rw [List.length_take] at hj
        have hji : j < i := by omega
        have z := (List.pairwise_iff_getElem.mp so) j i (by omega) hiP hji
        rw [List.getElem_take]
        omega
      · rw [List.mem_singleton.mp hq]
        omega
  · rintro σ H2 ⟨y5, y6, g, rfl, rfl, hg, hcl, hno⟩
    walk_at "rd"
    refine q _ g sm hg ?_ hcl
    cases e : clash L h g (g + s1) with
    | false => rfl
    | true =>
      obtain ⟨q0, hq, z⟩ := (clash_ends hs).mp e
      refine absurd z (hno q0 ?_)
      rw [List.take_of_length_le (by omega)]
      exact pm.mem_iff.mpr hq
theorem ok_Common_free_begin {Z : Zn} (T : Tx Z) : MF Z (He.ga Z.K "Common") "free_begin" 2 ["self", "house", "moment", "span"] [] (sp_Common_free_begin Z) := MF.of (T.df (p := ("Common", some "free_begin")) 12) (cls_Common T) (He.meth_ok (T.c.fact 12 rfl)) b_Common_free_begin sc_Common_free_begin (by walk_at "len") (w_Common_free_begin T)


/-! ## Common.free_house -/
def N_Common_free_house : List Str := ["self", "moment", "span", "taken", "one", "house"]
theorem sc_Common_free_house : FnScope N_Common_free_house ["self", "moment", "span"] (defScope s_Common_free_house) := ⟨rfl, rfl, rfl, by decide +kernel, rfl, by decide +kernel, by decide +kernel⟩
theorem b_Common_free_house : BindsBy "free_house" "Common.free_house" s_Common_free_house ["self", "moment", "span"] := fun _ _ _ _ _ _ us hl => match us, hl with | [_, _, _], _ => rfl
def sp_Common_free_house (Z : Zn) : Sp := fun vs H Q _ => ∃ p sp S as L m h c f s, vs = [.ref p, .int f, .int s] ∧ CommonAt Z H p sp S as L ∧ ShapeAt Z H sp m h c ∧ (∀ l ∈ L, 0 ≤ l.ho ∧ l.ho < h) ∧ L.length ≤ 100000 ∧
  (∀ (k : Nat) H', Same H H' → (∀ j : Nat, j < k → clash L j f (f + s) = true) → clash L k f (f + s) = false → Q (if (k : Int) < h then .int k else .non) H')
theorem w_Common_free_house {Z : Zn} (T : Tx Z) : BodyOk Z N_Common_free_house "Common.free_house" s_Common_free_house (He.fAd Z.K ("Common", some "free_house")) 1 (sp_Common_free_house Z) := by
  intro cdv A outer s H vs Q E hr hu tk hx hp h
  have sc := sc_Common_free_house
  refine ⟨_, (pss_cons (ps_set (i := 3) sc.nd rfl (by first | exact Or.inl rfl | exact Or.inr rfl) pe_dnewU)
    (pss_cons (ps_for hp rfl (pi_list (pe_fld (pv 0) rfl)) (pg_name (i := 4) sc.nd rfl (by first | exact Or.inl rfl | exact Or.inr rfl))
    (pss_one (ps_if (pt_val (pe_m (ok_Let_overlaps T) (pv 4) (hr.mono (by decide)) hx (pa_cons (pv 1) (pa_cons (pe_op op_addU (pv 1) (pv 2)) pa_nil))))
    (pss_one (ps_asg pe_bl (pg_sub (pv 3) (pe_ix (ix_U hu) (pe_fld (pv 4) rfl) pe_int (fun _ _ => rfl)) (set_U hu))))
    pss_nil)))
    (pss_cons (ps_set (i := 5) sc.nd rfl (by first | exact Or.inl rfl | exact Or.inr rfl) pe_int)
    (pss_cons (ps_while hp (pt_cmpR (op_inU hu) (pv 5) (pv 3) (by rfl))
    (pss_one (ps_set (i := 5) sc.nd rfl (by first | exact Or.inl rfl | exact Or.inr rfl) (pe_op op_addU (pv 5) pe_int))))
    (pss_cons (ps_if (pt_cmpR op_ltU (pv 5) (pe_fld (pe_fld (pv 0) rfl) rfl) (nomark _))
    (pss_one (ps_ret (pv 5)))
    pss_nil)
    (pss_one (ps_ret pe_non))))))), ?_⟩
  obtain ⟨p, sp, S, as, L, m, h, c, f, s1, rfl, C, Sh, hho, hlen, q⟩ := h
  have cl := C.len
  walk_at "rd"
  refine .inl fun d hd => ?_
  have sd : Same H (upd H d (.dK [])) := Same.new hd
  walk_at "rd"
  refine fl_lets T (C.same sd) fun lp hlp => ?_
  have hlp0 : H lp = some (.lst (as.map V.ref)) := by
    rw [upd_ne] at hlp
    · exact hlp
    · rintro rfl
      rw [upd_same] at hlp
      cases hlp
  refine ⟨lp, rfl, ⟨_, sq_of hlp⟩, for_it (walk_list (K := Z.K) (a := lp) (xs := as.map V.ref)) (fun i σ H2 => ∃ y4 y5 kvs, σ = [some (.ref p), some (.int f), some (.int s1), some (.ref d), y4, y5] ∧ Same H H2 ∧ H2 d = some (.dK kvs) ∧ kvs.length ≤ i ∧
    ∀ k : Int, (valV kvs (.inl k : Key)).isSome = (L.take i).any fun l => decide (l.ho = k) && l.over f (f + s1)) ?_ ?_ ?_ ?_⟩
  · exact ⟨none, none, [], rfl, sd, upd_same, Nat.le_refl _, fun k => rfl⟩
  · rintro i σ H2 _ ⟨_, _, _, _, s2, _⟩
    exact sq_of (s2 _ _ hlp0)
  · rintro i x σ H2 _ hi ⟨y4, y5, kvs, rfl, s2, hd2, kl, hk⟩ ⟨rfl, hx⟩
    obtain ⟨a, l, rfl, ha, hl, at_⟩ := (C.same s2).at_ hx
    obtain ⟨dx, t, e1, e2⟩ := at_.ex
    have tk1 : (L.take (i + 1)) = L.take i ++ [l] := by rw [List.take_add_one, hl]; rfl
    walk_at "rd"
    refine on_ins e1 (lt_overlaps _ _ _ _) ?_
    walk_at "rd"
    refine ⟨a, l, f, f + s1, rfl, at_, fun _ => ?_⟩
    walk_at "rd"
    cases ho : l.over f (f + s1) with
    | false =>
      walk_at "rd"
      refine ⟨_, _, kvs, rfl, s2, hd2, Nat.le_succ_of_le kl, fun k => ?_⟩
      rw [hk, tk1, List.any_append]
      simp [ho]
    | true =>
      walk_at "rd"
      refine fl_lease T e1 ?_
      walk_at "rd"
      refine rd_ixT (st_of e2) (v := .int l.ho) rfl ?_
      refine set_dk (k := .inl l.ho) hd2 (lt_size (by have := hi; rw [List.length_map] at this; omega)) ?_
      walk_at "rd"
      refine ⟨_, _, _, rfl, s2.upd' hd, upd_same, ?_, fun k => ?_⟩
      · unfold putK
        split
        · rw [List.length_map]; omega
        · rw [List.length_append]; simp; omega
      · rw [valV_put, tk1, List.any_append]
        by_cases e : k = l.ho
        · subst e
          simp [ho]
        · rw [if_neg (by intro z; exact e (Sum.inl.inj z)), hk]
          have e2 : ¬ l.ho = k := fun z => e z.symm
          simp [e2]
  · rintro σ H2 ⟨y4, y5, kvs, rfl, s2, hd2, kl, hk⟩
    have hk2 : ∀ k : Int, (valV kvs (.inl k : Key)).isSome = clash L k f (f + s1) := fun k => by
      rw [hk, List.take_of_length_le (by rw [List.length_map]; omega)]
      rfl
    walk_at "rd"
    refine while2 (fun σ H3 => H3 = H2 ∧ ∃ j : Nat, σ = [some (.ref p), some (.int f), some (.int s1), some (.ref d), y4, some (.int j)] ∧ ∀ i : Nat, i < j → clash L i f (f + s1) = true) (fun σ _ => match σ with
      | [_, _, _, _, _, some (.int j)] => (h - j).toNat
      | _ => 0) ⟨rfl, 0, rfl, fun i hi => absurd hi (Nat.not_lt_zero _)⟩ ?_
    · rintro σ H3 ⟨rfl, j, rfl, hj⟩
      walk_at "rd"
      refine .inr (.inl ⟨d, _, rfl, DGet.k (k := .inl (j : Int)) hd2, ?_⟩)
      rw [hk2]
      cases hc : clash L j f (f + s1) with
      | true =>
        walk_at "rd"
        refine wh_go ?_
        walk_at "rd"
        have hjh : (j : Int) < h := by
          obtain ⟨l, hl, z⟩ := List.any_eq_true.mp hc
          have z1 := (Bool.and_eq_true_iff.mp z).1
          have z2 := of_decide_eq_true z1
          have := hho l hl
          omega
        refine ⟨⟨rfl, j + 1, rfl, fun i hi => ?_⟩, ?_⟩
        · rcases Nat.lt_succ_iff_lt_or_eq.mp hi with hi | hi
          · exact hj i hi
          · rw [hi]; exact hc
        · show (h - ((j : Int) + 1)).toNat < (h - (j : Int)).toNat
          omega
      | false =>
        walk_at "rd"
        refine fl_shape T (C.same s2) ?_
        walk_at "rd"
        refine sh_houses T (Sh.same s2) ?_
        walk_at "rd"
        have z := q j _ s2 hj hc
        by_cases hjh : (j : Int) < h
        · rw [if_pos hjh] at z
          rw [decide_eq_true hjh]
          walk_at "rd"
          exact z
        · rw [if_neg hjh] at z
          rw [decide_eq_false hjh]
          walk_at "rd"
          exact z
theorem ok_Common_free_house {Z : Zn} (T : Tx Z) : MF Z (He.ga Z.K "Common") "free_house" 2 ["self", "moment", "span"] [] (sp_Common_free_house Z) := MF.of (T.df (p := ("Common", some "free_house")) 13) (cls_Common T) (He.meth_ok (T.c.fact 13 rfl)) b_Common_free_house sc_Common_free_house (by walk_at "len") (w_Common_free_house T)


/-! ## Common.let -/
def N_Common_let : List Str := ["self", "holder", "house", "moment", "span", "begin", "lease"]
theorem sc_Common_let : FnScope N_Common_let ["self", "holder", "house", "moment", "span"] (defScope s_Common_let) := ⟨rfl, rfl, rfl, by decide +kernel, rfl, by decide +kernel, by decide +kernel⟩
theorem b_Common_let : BindsBy "let" "Common.let" s_Common_let ["self", "holder", "house", "moment", "span"] := fun _ _ _ _ _ _ us hl => match us, hl with | [_, _, _, _, _], _ => rfl
def FitN (L : List LetS) (m h f s a b : Int) : Prop := b = f ∧ 0 ≤ a ∧ a < h ∧ clash L a f (f + s) = false ∧ (∀ j, 0 ≤ j → j < a → clash L j f (f + s) = true) ∧ f + s ≤ m
def NoFitN (L : List LetS) (m h f s : Int) : Prop := m < f + s ∨ ∀ j, 0 ≤ j → j < h → clash L j f (f + s) = true
def FitH (L : List LetS) (m x f s a b : Int) : Prop := a = x ∧ f ≤ b ∧ clash L x b (b + s) = false ∧ (∀ g, f ≤ g → g < b → clash L x g (g + s) = true) ∧ b + s ≤ m
def NoFitH (L : List LetS) (m x f s : Int) : Prop := ∀ g, f ≤ g → g + s ≤ m → clash L x g (g + s) = true
/-- where the stretch goes; that it goes nowhere -/
def Fit (L : List LetS) (m h : Int) (hou : V) (f s a b : Int) : Prop := (hou = .non ∧ FitN L m h f s a b) ∨ ∃ x, hou = .int x ∧ FitH L m x f s a b
def NoFit (L : List LetS) (m h : Int) (hou : V) (f s : Int) : Prop := (hou = .non ∧ NoFitN L m h f s) ∨ ∃ x, hou = .int x ∧ NoFitH L m x f s
theorem hold_strOk {z : Str} (h : holdB (.str z) = true) : PyData.strOk z = true := by
  have h2 : (decide (1 ≤ z.length) && (decide (z.length ≤ 8) && z.cps.toList.all fun c => decide (c ∈ (Str.ofString "abcdefghijklmnopqrstuvwxyz").cps.toList))) = true := h
  have h3 := (Bool.and_eq_true_iff.mp (Bool.and_eq_true_iff.mp h2).2).2
  have h4 : ∀ c ∈ (Str.ofString "abcdefghijklmnopqrstuvwxyz").cps.toList, c < 0x110000 := by decide +kernel
  unfold PyData.strOk
  rw [← Array.all_toList]
  refine List.all_eq_true.mpr fun c hc => ?_
  have := h4 c (of_decide_eq_true (List.all_eq_true.mp h3 c hc))
  simpa using this
theorem good_snoc {L : List LetS} {m h a b s : Int} {z : Str} (g : GoodL L m h) (ha : 0 ≤ a ∧ a < h) (hb : 0 ≤ b) (hs : 1 ≤ s) (hm : b + s ≤ m) (hc : clash L a b (b + s) = false) (hl : L.length < 100000) (hz : PyData.strOk z = true) : GoodL (L ++ [⟨z, a, b, b + s, b + s, false⟩]) m h := by
  refine ⟨fun l hl => ?_, fun l hl => ?_, ?_, by rw [List.length_append]; simp; omega, fun l hl => (List.mem_append.mp hl).elim (g.ok l) fun w => by rw [List.mem_singleton.mp w]; exact hz⟩
  · rcases List.mem_append.mp hl with hl | hl
    · exact g.ho l hl
    · rw [List.mem_singleton.mp hl]; exact ha
  · rcases List.mem_append.mp hl with hl | hl
    · exact g.iv l hl
    · rw [List.mem_singleton.mp hl]
      exact ⟨hb, by show b < b + s; omega, hm, by show b ≤ b + s; omega, Int.le_refl _, fun _ => rfl⟩
  · rw [List.pairwise_append]
    refine ⟨g.dj, List.pairwise_singleton _ _, fun l hl n hn => ?_⟩
    rw [List.mem_singleton.mp hn]
    intro e
    have z : ¬ (max b l.b < min (b + s) l.e) := fun z => by
      have : clash L a b (b + s) = true := clash_iff.mpr ⟨l, hl, e, z⟩
      rw [hc] at this
      cases this
    show l.e ≤ b ∨ b + s ≤ l.b ∨ l.e ≤ l.b ∨ b + s ≤ b
    omega
def sp_Common_let (Z : Zn) : Sp := fun vs H Q E => ∃ p sp S as L m h c hol hou mom spn kh kq km ks, vs = [.ref p, hol, hou, mom, spn] ∧ CommonAt Z H p sp S as L ∧ ShapeAt Z H sp m h c ∧ GoodL L m h ∧ L.length < 100000 ∧
  Kd Z.K H hol kh ∧ Kd Z.K H hou kq ∧ Kd Z.K H mom km ∧ Kd Z.K H spn ks ∧ (∀ z, hol = .str z → z.length ≤ sizeLine) ∧
  (holdB hol = false → ∀ H', Same H H' → E (.ref (He.ga Z.K "NoHolder")) none H') ∧
  (holdB hol = true → hou ≠ .non → isB hou h = false → ∀ H', Same H H' → E (.ref (He.ga Z.K "NoName")) none H') ∧
  (holdB hol = true → (hou = .non ∨ isB hou h = true) → (isW mom = false ∨ isW spn = false ∨ ∃ s, spn = .int s ∧ s < 1) → ∀ H', Same H H' → E (.ref (He.ga Z.K "NoTime")) none H') ∧
  (∀ z mo s, hol = .str z → holdB hol = true → (hou = .non ∨ isB hou h = true) → mom = .int mo → spn = .int s → 1 ≤ s →
    (∀ a b, Fit L m h hou (max 0 mo) s a b → ∀ H' t x, Ext S (fun y => S y ∨ y = x) H H' → CommonAt Z H' p sp (fun y => S y ∨ y = x) (as ++ [x]) (L ++ [⟨z, a, b, b + s, b + s, false⟩]) → GoodL (L ++ [⟨z, a, b, b + s, b + s, false⟩]) m h →
      H t = none → H' t = some (.tup [.int a, .int b, .int (b + s)]) → Q (.ref t) H') ∧
    (NoFit L m h hou (max 0 mo) s → ∀ H', Same H H' → E (.ref (He.ga Z.K "Ended")) none H'))
theorem w_Common_let {Z : Zn} (T : Tx Z) : BodyOk Z N_Common_let "Common.let" s_Common_let (He.fAd Z.K ("Common", some "let")) 2 (sp_Common_let Z) := by
  intro cdv A outer s H vs Q E hr hu tk hx hp h
  have sc := sc_Common_let
  refine ⟨_, (pss_cons (ps_if (pt_not (pt_val (pe_g (ok_is_holder T) (hr.mono (by decide)) (by rfl) hx (pa_cons (pv 1) pa_nil))))
    (pss_one (ps_x (x_NoHolder T) rfl tk (by rfl)))
    pss_nil)
    (pss_cons (ps_if (PW.pt (pw_and (pt_cmpR op_notN2 (pv 2) pe_non (nomark _)) (pw_and1 (pt_not (pt_val (pe_g (ok_is_below T) (hr.mono (by decide)) (by rfl) hx (pa_cons (pv 2) (pa_cons (pe_fld (pe_fld (pv 0) rfl) rfl) pa_nil))))))))
    (pss_one (ps_x (x_NoName T) rfl tk (by rfl)))
    pss_nil)
    (pss_cons (ps_if (PW.pt (pw_or (pt_not (pt_val (pe_g (ok_is_whole T) (hr.mono (by decide)) (by rfl) hx (pa_cons (pv 3) pa_nil)))) (pw_or (pt_not (pt_val (pe_g (ok_is_whole T) (hr.mono (by decide)) (by rfl) hx (pa_cons (pv 4) pa_nil)))) (pw_or1 (pt_cmpR op_ltU (pv 4) pe_int (nomark _))))))
    (pss_one (ps_x (x_NoTime T) rfl tk (by rfl)))
    pss_nil)
    (pss_cons (ps_set (i := 5) sc.nd rfl (by first | exact Or.inl rfl | exact Or.inr rfl) (pe_callB (cb_max2 rfl) (by rfl) (n_max T) bt_max (pa_cons pe_int (pa_cons (pv 3) pa_nil))))
    (pss_cons (ps_if (pt_cmpR op_isN2 (pv 2) pe_non (nomark _))
    (pss_one (ps_set (i := 2) sc.nd rfl (by first | exact Or.inl rfl | exact Or.inr rfl) (pe_m (ok_Common_free_house T) (pv 0) (hr.mono (by decide)) hx (pa_cons (pv 5) (pa_cons (pv 4) pa_nil)))))
    (pss_one (ps_set (i := 5) sc.nd rfl (by first | exact Or.inl rfl | exact Or.inr rfl) (pe_m (ok_Common_free_begin T) (pv 0) (hr.mono (by decide)) hx (pa_cons (pv 2) (pa_cons (pv 5) (pa_cons (pv 4) pa_nil)))))))
    (pss_cons (ps_if (PW.pt (pw_or (pt_cmpR op_isN2 (pv 2) pe_non (nomark _)) (pw_or1 (pt_cmpR op_gtU (pe_op op_addU (pv 5) (pv 4)) (pe_fld (pe_fld (pv 0) rfl) rfl) (nomark _)))))
    (pss_one (ps_x (x_Ended T) rfl tk (by rfl)))
    pss_nil)
    (pss_cons (ps_set (i := 6) sc.nd rfl (by first | exact Or.inl rfl | exact Or.inr rfl) (pe_tup (pa_cons (pv 2) (pa_cons (pv 5) (pa_cons (pe_op op_addU (pv 5) (pv 4)) pa_nil)))))
    (pss_cons (ps_expr (pe_bm PySem.F.plainAttrs_list PySem.F.slot_list_append PySem.F.type_list_append mt_append (pe_fld (pv 0) rfl) (pa_cons (pe_c (ok_Let T) (hr.mono (by decide)) (by rfl) hx (pa_cons (pv 1) (pa_cons (pv 6) pa_nil))) pa_nil)))
    (pss_one (ps_ret (pv 6))))))))))), ?_⟩
  obtain ⟨p, sp, S, as, L, m, h, c, hol, hou, mom, spn, kh, kq, km, ks, rfl, C, Sh, G, hlen, dh, dq, dm, ds, hz, e1, e2, e3, q⟩ := h
  walk_at "rd"
  refine ⟨hol, kh, rfl, dh, hz, fun H1 s1 _ => ?_⟩
  have C1 := C.same s1
  have Sh1 := Sh.same s1
  cases hh : holdB hol with
  | false =>
    walk_at "rd"
    exact e1 hh _ s1
  | true =>
    walk_at "rs"
    refine rd_ifG (fun H2 => H2 = H1 ∧ (hou = .non ∨ isB hou h = true)) ?_ ?_
    case refine_2 =>
      intro R hR
      walk_at "rd"
      by_cases hn : hou = .non
      · rw [decide_eq_true hn]
        walk_at "rd"
        exact hR _ ⟨rfl, .inl hn⟩
      · rw [decide_eq_false hn]
        walk_at "rd"
        refine fl_shape T C1 ?_
        walk_at "rd"
        refine sh_houses T Sh1 ?_
        walk_at "rd"
        refine ⟨hou, kq, h, rfl, dq.same s1, fun _ => ?_⟩
        walk_at "rd"
        cases hb : isB hou h with
        | false =>
          walk_at "rd"
          exact e2 hh hn hb _ s1
        | true =>
          walk_at "rd"
          exact hR _ ⟨rfl, .inr hb⟩
    rintro _ ⟨rfl, hq⟩
    walk_at "rd"
    refine ⟨mom, km, rfl, dm.same s1, fun _ => ?_⟩
    walk_at "rd"
    cases hw : isW mom with
    | false =>
      walk_at "rd"
      exact e3 hh hq (.inl hw) _ s1
    | true =>
      walk_at "rd"
      refine ⟨spn, ks, rfl, ds.same s1, fun _ => ?_⟩
      walk_at "rd"
      cases hw2 : isW spn with
      | false =>
        walk_at "rd"
        exact e3 hh hq (.inr (.inl hw2)) _ s1
      | true =>
        walk_at "rd"
        obtain ⟨mo, rfl⟩ : ∃ i, mom = .int i := by cases mom <;> first | exact ⟨_, rfl⟩ | cases hw
        obtain ⟨s, rfl⟩ : ∃ i, spn = .int i := by cases spn <;> first | exact ⟨_, rfl⟩ | cases hw2
        obtain ⟨z, rfl⟩ : ∃ z, hol = .str z := by cases hol <;> first | exact ⟨_, rfl⟩ | cases hh
        walk_at "rd"
        by_cases hs : s < 1
        · rw [decide_eq_true hs]
          walk_at "rd"
          exact e3 hh hq (.inr (.inr ⟨s, rfl, hs⟩)) _ s1
        rw [decide_eq_false hs]
        have hs1 : 1 ≤ s := by omega
        obtain ⟨q1, q2⟩ := q z mo s rfl hh hq rfl rfl hs1
        walk_at "rs"
        have emax : (if mo > 0 then mo else 0) = max 0 mo := by split <;> omega
        rw [emax]
        refine rd_ifJ (fun σ2 H2 => Same H H2 ∧ ∃ (y : V) (b : Int), σ2 = [some (.ref p), some (.str z), some y, some (.int mo), some (.int s), some (.int b), none] ∧ ((∃ a, y = .int a ∧ ((b + s ≤ m → Fit L m h hou (max 0 mo) s a b) ∧ (¬ b + s ≤ m → NoFit L m h hou (max 0 mo) s))) ∨ (y = .non ∧ NoFit L m h hou (max 0 mo) s))) ?_ ?_
        case refine_2 =>
          intro R hR
          walk_at "rd"
          by_cases hn : hou = .non
          · rw [decide_eq_true hn]
            walk_at "rd"
            obtain ⟨dx, lp, x1, x2, _⟩ := C1.ex
            refine on_ins x1 (co_no_free_house _ _) ?_
            walk_at "rd"
            refine ⟨p, sp, S, as, L, m, h, c, _, s, rfl, C1, Sh1, G.ho, by omega, fun k H2 s2 hk1 hk2 _ => ?_⟩
            walk_at "rd"
            refine hR _ _ ⟨s1.trans s2, _, max 0 mo, rfl, ?_⟩
            by_cases hkh : (k : Int) < h
            · rw [if_pos hkh]
              refine .inl ⟨k, rfl, fun hm => .inl ⟨hn, rfl, by omega, hkh, hk2, fun j h1 h2 => ?_, hm⟩, fun hm => .inl ⟨hn, .inl (by omega)⟩⟩
              have := hk1 j.toNat (by omega)
              rwa [show ((j.toNat : Nat) : Int) = j by omega] at this
            · rw [if_neg hkh]
              refine .inr ⟨rfl, .inl ⟨hn, .inr fun j h1 h2 => ?_⟩⟩
              have := hk1 j.toNat (by omega)
              rwa [show ((j.toNat : Nat) : Int) = j by omega] at this
          · rw [decide_eq_false hn]
            obtain ⟨x, rfl⟩ : ∃ i, hou = .int i := by
              rcases hq with hq | hq
              · exact absurd hq hn
              · cases hou <;> first | exact ⟨_, rfl⟩ | cases hq
            walk_at "rd"
            obtain ⟨dx, lp, x1, x2, _⟩ := C1.ex
            refine on_ins x1 (co_no_free_begin _ _) ?_
            walk_at "rd"
            refine ⟨p, sp, S, as, L, x, max 0 mo, s, rfl, C1, by omega, G.dj, hs1, fun H2 r s2 h1 h2 h3 _ => ?_⟩
            walk_at "rd"
            refine hR _ _ ⟨s1.trans s2, _, r, rfl, .inl ⟨x, rfl, fun hm => .inr ⟨x, rfl, rfl, h1, h2, h3, hm⟩, fun hm => .inr ⟨x, rfl, fun g h4 h5 => h3 g h4 (by omega)⟩⟩⟩
        rintro σ2 H2 ⟨s2, y, b, rfl, hy⟩
        have C2 := C.same s2
        have Sh2 := Sh.same s2
        walk_at "rd"
        rcases hy with ⟨a, rfl, f1, f2⟩ | ⟨rfl, nf⟩
        case inr =>
          walk_at "rd"
          exact q2 nf _ s2
        rw [decide_eq_false (show ¬ V.int a = V.non from fun z => nomatch z)]
        walk_at "rd"
        refine fl_shape T C2 ?_
        walk_at "rd"
        refine sh_moments T Sh2 ?_
        walk_at "rd"
        by_cases hm : b + s ≤ m
        case neg =>
          rw [decide_eq_true (show m < b + s by omega)]
          walk_at "rd"
          exact q2 (f2 hm) _ s2
        rw [decide_eq_false (show ¬ m < b + s by omega)]
        have fit := f1 hm
        walk_at "rd"
        intro t ht
        have s3 : Same H2 (upd H2 t (.tup [.int a, .int b, .int (b + s)])) := Same.new ht
        have ht3 : (upd H2 t (.tup [.int a, .int b, .int (b + s)])) t = some (.tup [.int a, .int b, .int (b + s)]) := upd_same
        generalize upd H2 t (.tup [.int a, .int b, .int (b + s)]) = H3 at s3 ht3
        walk_at "rd"
        have s03 := s2.trans s3
        have C3 := C.same s03
        obtain ⟨dc, lp', x1, x2, slp⟩ := C3.ex
        refine fld_at x1 (cls_Common T) (na_Common_lets T) (co_l _ _) ?_
        have hlp := x2
        refine ty_lst hlp ?_
        walk_at "rd"
        intro x dx hx hdx ndx
        have ntx : t ≠ x := ne_of_none ht3 hx
        have ntd : t ≠ dx := ne_of_none ht3 hdx
        refine ⟨x, dx, _, t, .int a, .int b, b + s, rfl, upd_same, by rw [upd_ne ntx, upd_ne ntd]; exact ht3, ntx, fun H4 f4 hx4 _ tk4 => ⟨rfl, ?_⟩⟩
        have keep : ∀ {b' : Addr} {o : HO}, H3 b' = some o → H4 b' = some o := fun {b' o} e => f4 b' o (by rw [upd_ne (ne_of_none e hx), upd_ne (ne_of_none e hdx)]; exact e) (ne_of_none e hx)
        have keep0 : ∀ {b' : Addr} {o : HO}, H b' = some o → H4 b' = some o := fun {b' o} e => keep (s03 _ _ e)
        have hlp4 := keep hlp
        have cl := C.len
        walk_at "rd"
        refine rd_app hlp4 (lt_size (by rw [List.length_map]; omega)) ?_
        walk_at "rd"
        have nx : ∀ {b' : Addr} {o : HO}, H b' = some o → b' ≠ x := fun e => ne_of_none (s03 _ _ e) hx
        have hx0 : H x = none := by
          cases e : H x with
          | none => rfl
          | some o => rw [s03 _ _ e] at hx; cases hx
        have ht0 : H t = none := by
          cases e : H t with
          | none => rfl
          | some o => rw [s2 _ _ e] at ht; cases ht
        have npl : p ≠ lp' := by
          rintro rfl
          rw [x1] at x2
          cases x2
        have nxl : x ≠ lp' := (ne_of_none hlp hx).symm
        have tkl : TK H4 (upd H4 lp' (.lst (as.map V.ref ++ [V.ref x]))) := TK.lst (TK.refl _) hlp4
        refine q1 a b fit _ t x ⟨?_, fun y hy => hy.elim .inl fun e => .inr (by rw [e]; exact hx0)⟩ ?_ ?_ ht0 ?_
        · intro b' o e ns
          rw [upd_ne (fun z => ns (by rw [z]; exact slp))]
          exact keep0 e
        · refine ⟨⟨dc, lp', by rw [upd_ne npl]; exact keep x1, by rw [upd_same, List.map_append]; rfl, .inl slp⟩, ?_, ⟨.inl C.own.1, fun y hy => ?_⟩, ?_, ?_⟩
          · refine Paired.snoc (paired_memP C3.ls fun y l my at_ => ?_) ⟨⟨dx, t, ?_, ?_⟩⟩
            · refine at_.keep (fun o e => ?_) ((TK.of_same (Same.refl _)).trans fun b' o i e => tkl b' o i (keep e))
              rw [upd_ne ?_]
              · exact keep e
              · rintro rfl
                obtain ⟨_, _, e5, _⟩ := at_.ex
                rw [e5] at x2
                cases x2
            · rw [upd_ne nxl]
              exact hx4
            · exact tkl.tup (keep ht3)
          · rcases List.mem_append.mp hy with hy | hy
            · exact .inl (C.own.2 y hy)
            · exact .inr (List.mem_singleton.mp hy)
          · rw [List.nodup_append]
            refine ⟨C.nd, by simp, fun y hy w hw => ?_⟩
            rw [List.mem_singleton.mp hw]
            have l0 := C.lv y (C.own.2 y hy)
            rintro rfl
            exact l0 hx0
          · rintro y (hy | rfl)
            · by_cases e : y = lp'
              · rw [e, upd_same]; exact fun z => nomatch z
              · rw [upd_ne e]
                cases e2 : H y with
                | none => exact absurd e2 (C.lv y hy)
                | some o => rw [keep0 e2]; exact fun z => nomatch z
            · rw [upd_ne nxl, hx4]
              exact fun z => nomatch z
        · have hf : 0 ≤ a ∧ a < h ∧ 0 ≤ b ∧ clash L a b (b + s) = false := by
            rcases fit with ⟨_, rfl, f3, f4, f5, _⟩ | ⟨x', ex, rfl, f3, f4, _⟩
            · exact ⟨f3, f4, by omega, f5⟩
            · subst ex
              rcases hq with hq | hq
              · cases hq
              · have hq2 : (decide (0 ≤ a) && decide (a < h)) = true := hq
                obtain ⟨g1, g2⟩ := Bool.and_eq_true_iff.mp hq2
                exact ⟨of_decide_eq_true g1, of_decide_eq_true g2, by omega, f4⟩
          exact good_snoc G ⟨hf.1, hf.2.1⟩ hf.2.2.1 hs1 hm hf.2.2.2 hlen (hold_strOk hh)
        · exact tkl.tup (keep ht3)
theorem ok_Common_let {Z : Zn} (T : Tx Z) : MF Z (He.ga Z.K "Common") "let" 3 ["self", "holder", "house", "moment", "span"] [] (sp_Common_let Z) := MF.of (T.df (p := ("Common", some "let")) 10) (cls_Common T) (He.meth_ok (T.c.fact 10 rfl)) b_Common_let sc_Common_let (by walk_at "len") (w_Common_let T)


/-! ## Common.cut -/
def N_Common_cut : List Str := ["self", "lease", "used", "found", "one", "number"]
theorem sc_Common_cut : FnScope N_Common_cut ["self", "lease", "used"] (defScope s_Common_cut) := ⟨rfl, rfl, rfl, by decide +kernel, rfl, by decide +kernel, by decide +kernel⟩
theorem b_Common_cut : BindsBy "cut" "Common.cut" s_Common_cut ["self", "lease", "used"] := fun _ _ _ _ _ _ us hl => match us, hl with | [_, _, _], _ => rfl
def l3D (l : LetS) : PyData := .tuple [.int l.ho, .int l.b, .int l.u]
theorem l3_eqv {l : LetS} {a b u : Int} : PyData.eqv (l3D l) (.tuple [.int a, .int b, .int u]) = decide (l.ho = a ∧ l.b = b ∧ l.u = u) := by
  rw [Bool.eq_iff_iff]
  unfold l3D
  simp [PyData.eqv, PyData.eqvAll]
/-- a let that the lease names -/
def LetS.named (l : LetS) (d : PyData) (kl : Kind) : Bool := PyData.eqv (l3D l) d && (isSub kl .tup && !l.cut)
theorem named_one {L : List LetS} {m h : Int} (g : GoodL L m h) {i j : Nat} {l n : LetS} (hi : L[i]? = some l) (hj : L[j]? = some n) (e : l.ho = n.ho ∧ l.b = n.b ∧ l.u = n.u) (c1 : l.cut = false) (c2 : n.cut = false) : i = j := by
  obtain ⟨a1, b1⟩ := List.getElem?_eq_some_iff.mp hi
  obtain ⟨a2, b2⟩ := List.getElem?_eq_some_iff.mp hj
  have g1 := g.iv l (List.mem_of_getElem? hi)
  have g2 := g.iv n (List.mem_of_getElem? hj)
  have e1 := g1.2.2.2.2.2 c1
  have e2 := g2.2.2.2.2.2 c2
  have key : ∀ x y (hx : x < L.length) (hy : y < L.length), x < y → L[x].ho = L[y].ho → L[x].e ≤ L[y].b ∨ L[y].e ≤ L[x].b ∨ L[x].e ≤ L[x].b ∨ L[y].e ≤ L[y].b := fun x y hx hy hxy e => List.pairwise_iff_getElem.mp g.dj x y hx hy hxy e
  rcases Nat.lt_trichotomy i j with h1 | h1 | h1
  · have := key i j a1 a2 h1 (by rw [b1, b2]; exact e.1)
    rw [b1, b2] at this
    omega
  · exact h1
  · have := key j i a2 a1 h1 (by rw [b1, b2]; exact e.1.symm)
    rw [b1, b2] at this
    omega
theorem good_set {L : List LetS} {m h : Int} (g : GoodL L m h) {i : Nat} {l : LetS} (hi : L[i]? = some l) {e : Int} (h1 : l.b ≤ e) (h2 : e ≤ l.e) : GoodL (L.set i { l with e := e, cut := true }) m h := by
  have hl := List.mem_of_getElem? hi
  obtain ⟨a1, b1⟩ := List.getElem?_eq_some_iff.mp hi
  refine ⟨fun n hn => ?_, fun n hn => ?_, ?_, by rw [List.length_set]; exact g.len, fun n hn => (List.mem_or_eq_of_mem_set hn).elim (g.ok n) fun w => by rw [w]; exact g.ok l hl⟩
  · rcases List.mem_or_eq_of_mem_set hn with hn | rfl
    · exact g.ho n hn
    · exact g.ho l hl
  · rcases List.mem_or_eq_of_mem_set hn with hn | rfl
    · exact g.iv n hn
    · obtain ⟨g1, g2, g3, g4, g5, _⟩ := g.iv l hl
      exact ⟨g1, g2, g3, h1, by show e ≤ l.u; omega, fun z => nomatch z⟩
  · refine List.pairwise_iff_getElem.mpr fun x y hx hy hxy => ?_
    rw [List.length_set] at hx hy
    have z := List.pairwise_iff_getElem.mp g.dj x y hx hy hxy
    rw [List.getElem_set, List.getElem_set]
    intro eh
    by_cases ex : i = x
    · subst ex
      have ny : ¬ i = y := by omega
      rw [if_pos rfl, if_neg ny] at eh ⊢
      rw [b1] at z
      have := z eh
      show e ≤ L[y].b ∨ L[y].e ≤ l.b ∨ e ≤ l.b ∨ L[y].e ≤ L[y].b
      omega
    · rw [if_neg ex] at eh ⊢
      by_cases ey : i = y
      · subst ey
        rw [if_pos rfl] at eh ⊢
        rw [b1] at z
        have := z eh
        show L[x].e ≤ l.b ∨ e ≤ L[x].b ∨ L[x].e ≤ L[x].b ∨ e ≤ l.b
        omega
      · rw [if_neg ey] at eh ⊢
        exact z eh
theorem paired_set {α β : Type} {F G : α → β → Prop} : ∀ {l₁ : List α} {l₂ : List β} {i : Nat} {b : β} {a : α}, Paired F l₁ l₂ → l₁[i]? = some a → l₁.Nodup → G a b → (∀ x y, x ≠ a → F x y → G x y) → Paired G l₁ (l₂.set i b)
  | _, _, _, _, _, .nil, h, _, _, _ => by simp at h
  | x :: xs, y :: ys, 0, b, a, .cons r t, h, nd, g, f => by
    have e : x = a := Option.some.inj h
    subst e
    refine .cons g (paired_memP t fun z w hz q => f z w ?_ q)
    rintro rfl
    exact (List.nodup_cons.mp nd).1 hz
  | x :: xs, y :: ys, i + 1, b, a, .cons r t, h, nd, g, f => by
    have h' : xs[i]? = some a := by simpa using h
    refine .cons (f _ _ ?_ r) (paired_set t h' (List.nodup_cons.mp nd).2 g f)
    rintro rfl
    exact (List.nodup_cons.mp nd).1 (List.mem_of_getElem? h')
theorem CommonAt.set {Z : Zn} {H H' : Hp} {p sp : Addr} {S : Addr → Prop} {as : List Addr} {L : List LetS} {i : Nat} {a : Addr} {l : LetS} (C : CommonAt Z H p sp S as L) (ha : as[i]? = some a) (at_ : LetAt Z H' a l) (k : ∀ b o, b ≠ a → H b = some o → H' b = some o) (tk : TK H H') : CommonAt Z H' p sp S as (L.set i l) := by
  obtain ⟨⟨dx, lp, e1, e2, s1⟩, ls, ⟨o1, o2⟩, nd, lv⟩ := C
  have hm := List.mem_of_getElem? ha
  obtain ⟨d0, t0, c1, c2⟩ := at_.ex
  have isL : ∃ dx t h e c, H a = some (.ins (He.ga Z.K "Let") dx (ltFs h t e c)) := by
    obtain ⟨l0, _, q⟩ := paired_get ls ha
    obtain ⟨d1, t1, q1, _⟩ := q.ex
    exact ⟨_, _, _, _, _, q1⟩
  obtain ⟨d1, t1, h1, ee, cc, isL⟩ := isL
  have np : p ≠ a := by
    rintro rfl
    rw [isL] at e1
    have := (HO.ins.inj (Option.some.inj e1)).2.2
    have z := (List.cons.inj this).1
    exact absurd (show (Str.ofString "holder") = Str.ofString "shape" from congrArg Prod.fst z) (by decide)
  have nl : lp ≠ a := by
    rintro rfl
    rw [isL] at e2
    cases e2
  refine ⟨⟨dx, lp, k _ _ np e1, k _ _ nl e2, s1⟩, paired_set ls ha nd at_ fun x y nx q => q.keep (fun o => k _ _ nx) tk, ⟨o1, o2⟩, nd, fun b s => ?_⟩
  by_cases eb : b = a
  · rw [eb, c1]; exact fun z => nomatch z
  · cases e : H b with
    | none => exact absurd e (lv b s)
    | some o => rw [k b o eb e]; exact fun z => nomatch z
def badUse (used : V) (b u : Int) : Prop := used ≠ .non ∧ (isW used = false ∨ ∃ x, used = .int x ∧ ¬ (b ≤ x ∧ x < u))
def endUse (used : V) (b u e : Int) : Prop := (used = .non ∧ e = b) ∨ ∃ x, used = .int x ∧ b ≤ x ∧ x < u ∧ e = x + 1
def sp_Common_cut (Z : Zn) : Sp := fun vs H Q E => ∃ p sp S as L m h lease used ku kl d, vs = [.ref p, lease, used] ∧ CommonAt Z H p sp S as L ∧ GoodL L m h ∧ Dp Z.K H lease d ∧ SeqAt.shaped d = true ∧ Kd Z.K H lease kl ∧ Kd Z.K H used ku ∧
  ((∃ t a b u, lease = .ref t ∧ H t = some (.tup [.int a, .int b, .int u]) ∧ d = .tuple [.int a, .int b, .int u]) ∨ ∀ l ∈ L, l.named d kl = false) ∧
  ((∀ l ∈ L, l.named d kl = false) → ∀ H', Same H H' → E (.ref (He.ga Z.K "NoLease")) none H') ∧
  (∀ (i : Nat) l, L[i]? = some l → l.named d kl = true → (∃ t, lease = .ref t ∧ H t = some (.tup [.int l.ho, .int l.b, .int l.u])) →
    (badUse used l.b l.u → ∀ H', Same H H' → E (.ref (He.ga Z.K "NoTime")) none H') ∧
    (∀ e, endUse used l.b l.u e → ∀ H', Ext S S H H' → CommonAt Z H' p sp S as (L.set i { l with e := e, cut := true }) → GoodL (L.set i { l with e := e, cut := true }) m h → Q .non H'))
theorem w_Common_cut {Z : Zn} (T : Tx Z) : BodyOk Z N_Common_cut "Common.cut" s_Common_cut (He.fAd Z.K ("Common", some "cut")) 1 (sp_Common_cut Z) := by
  intro cdv A outer s H vs Q E hr hu tk hx hp h
  have sc := sc_Common_cut
  refine ⟨_, (pss_cons (ps_set (i := 3) sc.nd rfl (by first | exact Or.inl rfl | exact Or.inr rfl) pe_non)
    (pss_cons (ps_for hp rfl (pi_list (pe_fld (pv 0) rfl)) (pg_name (i := 4) sc.nd rfl (by first | exact Or.inl rfl | exact Or.inr rfl))
    (pss_one (ps_if (PW.pt (pw_and (pt_cmpR (op_eqU hr.units) (pe_fld (pv 4) rfl) (pv 1) (nomark _)) (pw_and (pt_val (pe_callB (cb_isinstance) (by rfl) (n_isinstance T) bt_isinstance (pa_cons (pv 1) (pa_cons (pe_ty (n_tuple T) (by rfl) bt_tuple) pa_nil)))) (pw_and1 (pt_not (pt_val (pe_fld (pv 4) rfl)))))))
    (pss_one (ps_set (i := 3) sc.nd rfl (by first | exact Or.inl rfl | exact Or.inr rfl) (pv 4)))
    pss_nil)))
    (pss_cons (ps_if (PW.pt (pw_or (pt_cmpR op_isN2 (pv 3) pe_non (nomark _)) (pw_or1 (pt_not (pt_val (pe_callB (cb_all rfl) (by rfl) (n_all T) bt_all (pa_cons (pe_lc (own := [("number", 5)]) (g := (gName 5)) (tt := tYes) rfl sc.nd (pi_tup (pv 1)) (blkOk_by (N := N_Common_cut) (sc := defScope s_Common_cut) (by decide +kernel)) (fun _ _ _ _ _ => (pg_name (i := 5) sc.nd rfl (by first | exact Or.inl rfl | exact Or.inr rfl))) (fun _ _ _ _ _ => pts_nil) (fun _ _ _ _ _ => (pe_g (ok_is_whole T) (by exact hr.mono (by decide)) (by rfl) passL (pa_cons (pv 5) pa_nil)))) pa_nil)))))))
    (pss_one (ps_x (x_NoLease T) rfl tk (by rfl)))
    pss_nil)
    (pss_cons (ps_if (PW.pt (pw_and (pt_cmpR op_notN2 (pv 2) pe_non (nomark _)) (pw_and1 (PW.pt (pw_or (pt_not (pt_val (pe_g (ok_is_whole T) (hr.mono (by decide)) (by rfl) hx (pa_cons (pv 2) pa_nil)))) (pw_or (pt_cmpR op_ltU (pv 2) (pe_ix (ix_U hu) (pv 1) pe_int (fun _ _ => rfl)) (nomark _)) (pw_or1 (pt_cmpR op_geU (pv 2) (pe_ix (ix_U hu) (pv 1) pe_int (fun _ _ => rfl)) (nomark _)))))))))
    (pss_one (ps_x (x_NoTime T) rfl tk (by rfl)))
    pss_nil)
    (pss_cons (ps_fld (pv 3) pe_bl rfl)
    (pss_one (ps_fld (pv 3) (pe_ifExp (pt_cmpR op_isN2 (pv 2) pe_non (nomark _)) (pe_ix (ix_U hu) (pv 1) pe_int (fun _ _ => rfl)) (pe_op op_addU (pv 2) pe_int)) rfl))))))), ?_⟩
  obtain ⟨p, sp, S, as, L, m, h, lease, used, ku, kl, d, rfl, C, G, dp, shd, dl, du, hab, qN, qY⟩ := h
  have cl := C.len
  walk_at "rd"
  obtain ⟨dco, lp, x1, hlp, slp⟩ := C.ex
  refine fld_at x1 (cls_Common T) (na_Common_lets T) (co_l _ _) ?_
  refine ⟨lp, rfl, ⟨_, sq_of hlp⟩, for_it (walk_list (K := Z.K) (a := lp) (xs := as.map V.ref)) (fun j σ H2 => H2 = H ∧ ∃ f y4 y5, σ = [some (.ref p), some lease, some used, some f, y4, y5] ∧ ((f = .non ∧ ∀ l ∈ L.take j, l.named d kl = false) ∨ ∃ (i : Nat) (a : Addr) (l : LetS), f = .ref a ∧ as[i]? = some a ∧ L[i]? = some l ∧ l.named d kl = true)) ?_ ?_ ?_ ?_⟩
  · exact ⟨rfl, .non, none, none, rfl, .inl ⟨rfl, fun l hl => nomatch hl⟩⟩
  · rintro j σ H2 _ ⟨rfl, _⟩
    exact sq_of hlp
  · rintro j x σ H2 _ hj ⟨rfl, f, y4, y5, rfl, hf⟩ ⟨rfl, hgx⟩
    obtain ⟨a, l, rfl, ha, hl, at_⟩ := C.at_ hgx
    obtain ⟨dy, tt, e1, e2⟩ := at_.ex
    have tk1 : (L.take (j + 1)) = L.take j ++ [l] := by rw [List.take_add_one, hl]; rfl
    have stay : l.named d kl = false → ((f = .non ∧ ∀ l ∈ L.take (j + 1), l.named d kl = false) ∨ ∃ (i : Nat) (a : Addr) (l : LetS), f = .ref a ∧ as[i]? = some a ∧ L[i]? = some l ∧ l.named d kl = true) := fun z => by
      rcases hf with ⟨hf, hno⟩ | hf
      · refine .inl ⟨hf, fun n hn => ?_⟩
        rw [tk1] at hn
        rcases List.mem_append.mp hn with hn | hn
        · exact hno n hn
        · rw [List.mem_singleton.mp hn]; exact z
      · exact .inr hf
    walk_at "rd"
    refine fl_lease T e1 ?_
    walk_at "rd"
    refine rd_eqD (d := l3D l) (.tup (st_of e2) (.cons (.int _) (.cons (.int _) (.cons (.int _) .nil)))) dp rfl shd ?_
    walk_at "rd"
    cases h1 : PyData.eqv (l3D l) d with
    | false =>
      walk_at "rd"
      exact ⟨rfl, f, _, _, rfl, stay (by unfold LetS.named; rw [h1]; rfl)⟩
    | true =>
      walk_at "rd"
      refine isk_tuple dl ?_
      walk_at "rd"
      cases h2 : isSub kl .tup with
      | false =>
        walk_at "rd"
        exact ⟨rfl, f, _, _, rfl, stay (by unfold LetS.named; rw [h1, h2]; rfl)⟩
      | true =>
        walk_at "rd"
        refine fl_cut T e1 ?_
        walk_at "rd"
        cases h3 : l.cut with
        | true =>
          walk_at "rd"
          exact ⟨rfl, f, _, _, rfl, stay (by unfold LetS.named; rw [h1, h2, h3]; rfl)⟩
        | false =>
          walk_at "rd"
          exact ⟨rfl, _, _, _, rfl, .inr ⟨j, a, l, rfl, ha, hl, by unfold LetS.named; rw [h1, h2, h3]; rfl⟩⟩
  · rintro σ H2 ⟨rfl, f, y4, y5, rfl, hf⟩
    rw [List.take_of_length_le (by rw [List.length_map]; omega)] at hf
    walk_at "rd"
    rcases hf with ⟨rfl, hno⟩ | ⟨i, a, l, rfl, ha, hl, hnm⟩
    · walk_at "rd"
      exact qN hno _ (Same.refl _)
    · rw [decide_eq_false (show ¬ V.ref a = V.non from fun z => nomatch z)]
      have hlm := List.mem_of_getElem? hl
      obtain ⟨t, la, lb, lu, rfl, ht, rfl⟩ : ∃ t a b u, lease = .ref t ∧ H2 t = some (.tup [.int a, .int b, .int u]) ∧ d = .tuple [.int a, .int b, .int u] := by
        rcases hab with hab | hab
        · exact hab
        · rw [hab l hlm] at hnm; cases hnm
      have hnm' := hnm
      unfold LetS.named at hnm'
      obtain ⟨n1, n2⟩ := Bool.and_eq_true_iff.mp hnm'
      obtain ⟨n2, n3⟩ := Bool.and_eq_true_iff.mp n2
      rw [l3_eqv] at n1
      obtain ⟨m1, m2, m3⟩ := of_decide_eq_true n1
      subst m1 m2 m3
      have ncut : l.cut = false := by simpa using n3
      obtain ⟨q1, q2⟩ := qY i l hl hnm ⟨t, rfl, ht⟩
      obtain ⟨g1, g2, g3, g4, g5, g6⟩ := G.iv l hlm
      have ee := g6 ncut
      obtain ⟨l0, hl0, at_⟩ := paired_get C.ls ha
      rw [hl] at hl0
      cases hl0
      obtain ⟨dy, tt, e1, e2⟩ := at_.ex
      walk_at "rd"
      refine ⟨t, rfl, ⟨_, st_of ht⟩, fun D hD => lc_it (walk_tup (K := Z.K) (a := t) (xs := [.int l.ho, .int l.b, .int l.u])) (fun i H5 => Same H2 H5 ∧ H5 D = some (.lst (([true, true, true].take i).map V.bl))) ?_ ?_ ?_ ?_⟩
      · exact ⟨Same.new hD, upd_same⟩
      · rintro i H5 _ ⟨s5, _⟩
        exact st_of (s5 _ _ ht)
      · rintro j x H5 H6 hj ⟨s5, hD5⟩ ⟨rfl, hx⟩
        obtain ⟨n, rfl⟩ : ∃ n, x = V.int n := by
          match j, hx with
          | 0, e => exact ⟨_, (Option.some.inj e).symm⟩
          | 1, e => exact ⟨_, (Option.some.inj e).symm⟩
          | 2, e => exact ⟨_, (Option.some.inj e).symm⟩
        walk_at "rd"
        refine ⟨rfl, ?_⟩
        walk_at "rd"
        refine ⟨.int n, .int, rfl, Kd.int, fun _ => ?_⟩
        refine ⟨_, hD5, lt_size (by rw [List.length_map, List.length_take]; simp only [List.length_cons, List.length_nil]; omega), s5.upd' hD, ?_⟩
        rw [upd_same]
        match j, hj with
        | 0, _ => rfl
        | 1, _ => rfl
        | 2, _ => rfl
      · rintro H5 ⟨s5, hD5⟩
        walk_at "rd"
        refine rd_all (bs := [true, true, true]) (sq_of hD5) ?_
        walk_at "rs"
        refine rd_ifG (fun H6 => H6 = H5 ∧ ∃ e, endUse used l.b l.u e ∧ (used = .non → e = l.b) ∧ ∀ x, used = .int x → e = x + 1) ?_ ?_
        case refine_2 =>
          intro R hR
          walk_at "rd"
          by_cases hn : used = .non
          · rw [decide_eq_true hn]
            walk_at "rd"
            exact hR _ ⟨rfl, l.b, .inl ⟨hn, rfl⟩, fun _ => rfl, fun x e => by rw [hn] at e; cases e⟩
          · rw [decide_eq_false hn]
            walk_at "rd"
            refine ⟨used, ku, rfl, du.same s5, fun _ => ?_⟩
            walk_at "rd"
            cases hw : isW used with
            | false =>
              walk_at "rd"
              exact q1 ⟨hn, .inl hw⟩ _ s5
            | true =>
              obtain ⟨x, rfl⟩ : ∃ i, used = .int i := by cases used <;> first | exact ⟨_, rfl⟩ | cases hw
              walk_at "rd"
              refine rd_ixT (st_of (s5 _ _ ht)) (v := .int l.b) rfl ?_
              walk_at "rd"
              by_cases h1 : x < l.b
              · rw [decide_eq_true h1]
                walk_at "rd"
                exact q1 ⟨hn, .inr ⟨x, rfl, by omega⟩⟩ _ s5
              rw [decide_eq_false h1]
              walk_at "rd"
              refine rd_ixT (st_of (s5 _ _ ht)) (v := .int l.u) rfl ?_
              walk_at "rd"
              by_cases h2 : l.u ≤ x
              · rw [decide_eq_true h2]
                walk_at "rd"
                exact q1 ⟨hn, .inr ⟨x, rfl, by omega⟩⟩ _ s5
              rw [decide_eq_false h2]
              walk_at "rd"
              exact hR _ ⟨rfl, x + 1, .inr ⟨x, rfl, by omega, by omega, rfl⟩, fun e => absurd e hn, fun y e => by rw [V.int.inj e]⟩
        rintro H5 ⟨rfl, e, he, he1, he2⟩
        walk_at "rd"
        refine put_at (s5 _ _ e1) (cls_Let T) (na_Let_is_cut T) (by simp [ltFs]) (lt_put_c _ _ _ _ _) ?_
        have nta : t ≠ a := by
          rintro rfl
          rw [ht] at e1
          cases e1
        have ntta : tt ≠ a := by
          rintro rfl
          rw [e2] at e1
          cases e1
        have fin : ∀ H7, H7 = upd (upd H5 a (.ins (He.ga Z.K "Let") dy (ltFs (.str l.h) tt l.e true))) a (.ins (He.ga Z.K "Let") dy (ltFs (.str l.h) tt e true)) → Q .non H7 := by
          rintro _ rfl
          have tk7 : TK H2 (upd (upd H5 a (.ins (He.ga Z.K "Let") dy (ltFs (.str l.h) tt l.e true))) a (.ins (He.ga Z.K "Let") dy (ltFs (.str l.h) tt e true))) := by
            refine ((TK.of_same s5).upd fun u i z => ?_).upd fun u i z => ?_
            · rw [s5 _ _ e1] at z; cases z; exact i
            · rw [upd_same] at z; cases z; exact i
          refine q2 e he _ ⟨?_, fun b hb => .inl hb⟩ ?_ ?_
          · intro b o eb nb
            have : b ≠ a := by
              rintro rfl
              exact nb (C.own.2 _ (List.mem_of_getElem? ha))
            rw [upd_ne this, upd_ne this]
            exact s5 _ _ eb
          · refine C.set ha ⟨dy, tt, upd_same, tk7.tup e2⟩ (fun b o nb eb => ?_) tk7
            rw [upd_ne nb, upd_ne nb]
            exact s5 _ _ eb
          · refine good_set G hl ?_ ?_
            · rcases he with ⟨_, rfl⟩ | ⟨x, _, hx1, hx2, rfl⟩ <;> omega
            · rcases he with ⟨_, rfl⟩ | ⟨x, _, hx1, hx2, rfl⟩ <;> omega
        walk_at "rd"
        by_cases hn : used = .non
        · rw [decide_eq_true hn]
          walk_at "rd"
          refine rd_ixT (st_of (by rw [upd_ne nta]; exact s5 _ _ ht)) (v := .int l.b) rfl ?_
          walk_at "rd"
          refine put_at upd_same (cls_Let T) (na_Let_end T) (by simp [ltFs]) (lt_put_e _ _ _ _ _) ?_
          rw [← he1 hn]
          exact fin _ rfl
        · rw [decide_eq_false hn]
          obtain ⟨x, rfl⟩ : ∃ x, used = .int x := by
            rcases he with ⟨he, _⟩ | ⟨x, he, _⟩
            · exact absurd he hn
            · exact ⟨x, he⟩
          walk_at "rd"
          refine put_at upd_same (cls_Let T) (na_Let_end T) (by simp [ltFs]) (lt_put_e _ _ _ _ _) ?_
          rw [← he2 x rfl]
          exact fin _ rfl
theorem ok_Common_cut {Z : Zn} (T : Tx Z) : MF Z (He.ga Z.K "Common") "cut" 2 ["self", "lease", "used"] [] (sp_Common_cut Z) := MF.of (T.df (p := ("Common", some "cut")) 14) (cls_Common T) (He.meth_ok (T.c.fact 14 rfl)) b_Common_cut sc_Common_cut (by walk_at "len") (w_Common_cut T)


/-! ## Common.leases -/
def N_Common_leases : List Str := ["self", "one"]
theorem sc_Common_leases : FnScope N_Common_leases ["self"] (defScope s_Common_leases) := ⟨rfl, rfl, rfl, by decide +kernel, rfl, by decide +kernel, by decide +kernel⟩
theorem b_Common_leases : BindsBy "leases" "Common.leases" s_Common_leases ["self"] := fun _ _ _ _ _ _ us hl => match us, hl with | [_], _ => rfl
def sp_Common_leases (Z : Zn) : Sp := fun vs H Q _ => ∃ p sp S as L, vs = [.ref p] ∧ CommonAt Z H p sp S as L ∧ L.length ≤ 100000 ∧ ∀ (H' : Hp) (r : Addr) (ws : List V), Same H H' → H r = none → H' r = some (.lst ws) → Tps H' ws (L.map LetS.l4) → Q (.ref r) H'
theorem w_Common_leases {Z : Zn} (T : Tx Z) : BodyOk Z N_Common_leases "Common.leases" s_Common_leases (He.fAd Z.K ("Common", some "leases")) 1 (sp_Common_leases Z) := by
  intro cdv A outer s H vs Q E hr hu tk hx hp h
  have sc := sc_Common_leases
  refine ⟨_, (pss_one (ps_ret (pe_lc (own := [("one", 1)]) (g := (gName 1)) (tt := tYes) rfl sc.nd (pi_list (pe_fld (pv 0) rfl)) (blkOk_by (N := N_Common_leases) (sc := defScope s_Common_leases) (by decide +kernel)) (fun _ _ _ _ _ => (pg_name (i := 1) sc.nd rfl (by first | exact Or.inl rfl | exact Or.inr rfl))) (fun _ _ _ _ _ => pts_nil) (fun _ _ _ _ _ => (pe_m0 (ok_Let_told T) (pv 1) (by exact hr.mono (by decide)) passL))))), ?_⟩
  obtain ⟨p, sp, S, as, L, rfl, C, hlen, q⟩ := h
  have cl := C.len
  walk_at "rd"
  refine fl_lets T C fun lp hlp => ?_
  refine ⟨lp, rfl, ⟨_, sq_of hlp⟩, fun D hD => lc_it (walk_list (K := Z.K) (a := lp) (xs := as.map V.ref)) (fun i H5 => ∃ ws, Same H H5 ∧ H5 D = some (.lst ws) ∧ Tps H5 ws ((L.take i).map LetS.l4)) ?_ ?_ ?_ ?_⟩
  · exact ⟨[], Same.new hD, upd_same, .nil⟩
  · rintro i H5 _ ⟨_, s5, _⟩
    exact sq_of (s5 _ _ hlp)
  · rintro i x H5 H6 hi ⟨ws, s5, hD5, tp⟩ ⟨rfl, hx⟩
    obtain ⟨a, l, rfl, ha, hl, at_⟩ := (C.same s5).at_ hx
    obtain ⟨dx, t, e1, e2⟩ := at_.ex
    have tk1 : (L.take (i + 1)) = L.take i ++ [l] := by rw [List.take_add_one, hl]; rfl
    walk_at "rd"
    refine ⟨rfl, ?_⟩
    walk_at "rd"
    refine on_ins e1 (lt_told _ _ _ _) ?_
    walk_at "rd"
    refine ⟨a, l, rfl, at_, fun r hr _ => ?_⟩
    have s6 : Same H6 (upd H6 r (.tup l.l4)) := Same.new hr
    have hwl : ws.length ≤ 100000 := by
      rw [tp.len, List.length_map, List.length_take]
      omega
    refine ⟨ws, s6 _ _ hD5, lt_size (by omega), _, (s5.trans s6).upd' hD, upd_same, ?_⟩
    have tp2 : Tps (upd (upd H6 r (.tup l.l4)) D (.lst (ws ++ [V.ref r]))) ws ((L.take i).map LetS.l4) := (tp.same s6).tk (TK.lst (TK.refl _) (s6 _ _ hD5))
    rw [tk1, List.map_append]
    refine tp2.snoc ?_
    rw [upd_ne (ne_of_none hD5 hr).symm]
    exact upd_same
  · rintro H5 ⟨ws, s5, hD5, tp⟩
    rw [List.take_of_length_le (by rw [List.length_map]; omega)] at tp
    exact q _ D ws s5 hD hD5 tp
theorem ok_Common_leases {Z : Zn} (T : Tx Z) : MF Z (He.ga Z.K "Common") "leases" 2 ["self"] [] (sp_Common_leases Z) := MF.of (T.df (p := ("Common", some "leases")) 15) (cls_Common T) (He.meth_ok (T.c.fact 15 rfl)) b_Common_leases sc_Common_leases (by walk_at "len") (w_Common_leases T)


/-! ## Common.holder_of -/
def N_Common_holder_of : List Str := ["self", "name", "moment", "house", "count", "one"]
theorem sc_Common_holder_of : FnScope N_Common_holder_of ["self", "name"] (defScope s_Common_holder_of) := ⟨rfl, rfl, rfl, by decide +kernel, rfl, by decide +kernel, by decide +kernel⟩
theorem b_Common_holder_of : BindsBy "holder_of" "Common.holder_of" s_Common_holder_of ["self", "name"] := fun _ _ _ _ _ _ us hl => match us, hl with | [_, _], _ => rfl
/-- who has the house then -/
def holderL (L : List LetS) (ho t : Int) : V := match L.find? fun l => l.has ho t with
  | some l => .str l.h
  | none => .non
def sp_Common_holder_of (Z : Zn) : Sp := fun vs H Q E => ∃ p sp S as L x k m h c, vs = [.ref p, x] ∧ CommonAt Z H p sp S as L ∧ ShapeAt Z H sp m h c ∧ Kd Z.K H x k ∧
  (∀ n, x = .int n → 0 ≤ n → n < m * h * c → ∀ H', Same H H' → Q (holderL L (ptsH h c n) (ptsM h c n)) H') ∧
  (isB x (m * h * c) = false → E (.ref (He.ga Z.K "NoName")) none H)
theorem w_Common_holder_of {Z : Zn} (T : Tx Z) : BodyOk Z N_Common_holder_of "Common.holder_of" s_Common_holder_of (He.fAd Z.K ("Common", some "holder_of")) 3 (sp_Common_holder_of Z) := by
  intro cdv A outer s H vs Q E hr hu tk hx hp h
  have sc := sc_Common_holder_of
  refine ⟨_, (pss_cons (ps_asg (pe_g (ok_parts_of T) (hr.mono (by decide)) (by rfl) hx (pa_cons (pe_fld (pv 0) rfl) (pa_cons (pv 1) pa_nil))) (pg_tup (by rfl) (pgs_cons (pg_name (i := 2) sc.nd rfl (by first | exact Or.inl rfl | exact Or.inr rfl)) (pgs_cons (pg_name (i := 3) sc.nd rfl (by first | exact Or.inl rfl | exact Or.inr rfl)) (pgs_cons (pg_name (i := 4) sc.nd rfl (by first | exact Or.inl rfl | exact Or.inr rfl)) pgs_nil)))))
    (pss_cons (ps_for hp rfl (pi_list (pe_fld (pv 0) rfl)) (pg_name (i := 5) sc.nd rfl (by first | exact Or.inl rfl | exact Or.inr rfl))
    (pss_one (ps_if (pt_val (pe_m (ok_Let_has T) (pv 5) (hr.mono (by decide)) hx (pa_cons (pv 3) (pa_cons (pv 2) pa_nil))))
    (pss_one (ps_ret (pe_fld (pv 5) rfl)))
    pss_nil)))
    (pss_one (ps_ret pe_non)))), ?_⟩
  obtain ⟨p, sp, S, as, L, x, k, m, h, c, rfl, C, Sh, dx, q, qe⟩ := h
  have cl := C.len
  walk_at "rd"
  refine fl_shape T C ?_
  walk_at "rd"
  refine ⟨sp, x, k, m, h, c, rfl, Sh, dx, fun n en h0 h1 t H1 s1 ht0 ht _ => ?_, fun hb _ => qe hb⟩
  subst en
  have q := q n rfl h0 h1
  refine ⟨t, _, rfl, st_of ht, rfl, ?_⟩
  walk_at "rd"
  refine fl_lets T (C.same s1) fun lp hlp => ?_
  refine ⟨lp, rfl, ⟨_, sq_of hlp⟩, for_it (walk_list (K := Z.K) (a := lp) (xs := as.map V.ref)) (fun i σ H2 => ∃ y5, σ = [some (.ref p), some (.int n), some (.int (ptsM h c n)), some (.int (ptsH h c n)), some (.int (ptsC c n)), y5] ∧ H2 = H1 ∧ ∀ l ∈ L.take i, l.has (ptsH h c n) (ptsM h c n) = false) ?_ ?_ ?_ ?_⟩
  · exact ⟨none, rfl, rfl, fun l hl => nomatch hl⟩
  · rintro i σ H2 _ ⟨_, _, rfl, _⟩
    exact sq_of hlp
  · rintro i x σ H2 _ hi ⟨y5, rfl, rfl, hno⟩ ⟨rfl, hx⟩
    obtain ⟨a, l, rfl, ha, hl, at_⟩ := (C.same s1).at_ hx
    obtain ⟨dy, tt, e1, e2⟩ := at_.ex
    have tk1 : (L.take (i + 1)) = L.take i ++ [l] := by rw [List.take_add_one, hl]; rfl
    walk_at "rd"
    refine on_ins e1 (lt_has _ _ _ _) ?_
    walk_at "rd"
    refine ⟨a, l, ptsH h c n, ptsM h c n, rfl, at_, fun _ => ?_⟩
    walk_at "rd"
    cases hh : l.has (ptsH h c n) (ptsM h c n) with
    | false =>
      walk_at "rd"
      refine ⟨_, rfl, rfl, fun l' hl' => ?_⟩
      rw [tk1] at hl'
      rcases List.mem_append.mp hl' with hl' | hl'
      · exact hno l' hl'
      · rw [List.mem_singleton.mp hl']; exact hh
    | true =>
      walk_at "rd"
      refine fl_holder T e1 ?_
      walk_at "rd"
      have e : holderL L (ptsH h c n) (ptsM h c n) = .str l.h := by
        unfold holderL
        have e5 : L.find? (fun l => l.has (ptsH h c n) (ptsM h c n)) = some l := by
          have e6 : L = L.take i ++ l :: L.drop (i + 1) := by
            have hil : i < L.length := (List.getElem?_eq_some_iff.mp hl).1
            have e7 := List.drop_eq_getElem_cons hil
            have e8 : L[i] = l := (List.getElem?_eq_some_iff.mp hl).2
            rw [e8] at e7
            rw [← e7, List.take_append_drop]
          have e9 : (L.take i).find? (fun l => l.has (ptsH h c n) (ptsM h c n)) = none := List.find?_eq_none.mpr fun l' hl' => by rw [hno l' hl']; exact Bool.false_ne_true
          rw [e6, List.find?_append, e9, List.find?_cons, hh]
          rfl
        rw [e5]
      rw [← e]
      exact q _ s1
  · rintro σ H2 ⟨y5, rfl, rfl, hno⟩
    rw [List.take_of_length_le (by rw [List.length_map]; omega)] at hno
    walk_at "rd"
    have e : holderL L (ptsH h c n) (ptsM h c n) = .non := by
      unfold holderL
      rw [List.find?_eq_none.mpr (fun l' hl' => by rw [hno l' hl']; exact Bool.false_ne_true)]
    rw [← e]
    exact q _ s1
theorem ok_Common_holder_of {Z : Zn} (T : Tx Z) : MF Z (He.ga Z.K "Common") "holder_of" 4 ["self", "name"] [] (sp_Common_holder_of Z) := MF.of (T.df (p := ("Common", some "holder_of")) 16) (cls_Common T) (He.meth_ok (T.c.fact 16 rfl)) b_Common_holder_of sc_Common_holder_of (by walk_at "len") (w_Common_holder_of T)


/-! ## _law_cell_at -/
def N__law_cell_at : List Str := ["script", "k"]
theorem sc__law_cell_at : FnScope N__law_cell_at ["script", "k"] (defScope s__law_cell_at) := ⟨rfl, rfl, rfl, by decide +kernel, rfl, by decide +kernel, by decide +kernel⟩
theorem b__law_cell_at : BindsBy "_law_cell_at" "_law_cell_at" s__law_cell_at ["script", "k"] := fun _ _ _ _ _ _ us hl => match us, hl with | [_, _], _ => rfl
/-- the k-th number of the script, or 0 -/
def cellAt (ns : List Int) (k : Int) : Int := (ns[k.toNat]?).getD 0
def sp__law_cell_at (Z : Zn) : Sp := fun vs H Q _ => ∃ a ns k, vs = [.ref a, .int k] ∧ SqL Z.K H a (ns.map V.int) ∧ 0 ≤ k ∧ Q (.int (cellAt ns k)) H
theorem w__law_cell_at {Z : Zn} (T : Tx Z) : BodyOk Z N__law_cell_at "_law_cell_at" s__law_cell_at (He.fAd Z.K ("_law_cell_at", none)) 0 (sp__law_cell_at Z) := by
  intro cdv A outer s H vs Q E hr hu tk hx hp h
  have sc := sc__law_cell_at
  refine ⟨_, (pss_cons (ps_if (pt_cmpR op_ltU (pv 1) (pe_callB (cb_len) (by rfl) (n_len T) bt_len (pa_cons (pv 0) pa_nil)) (nomark _))
    (pss_one (ps_ret (pe_ix (ix_U hu) (pv 0) (pv 1) (fun _ _ => rfl))))
    pss_nil)
    (pss_one (ps_ret pe_int))), ?_⟩
  obtain ⟨a, ns, k, rfl, hS, hk, q⟩ := h
  walk_at "rd"
  refine .inl ⟨a, _, rfl, .inl hS, ?_⟩
  walk_at "rd"
  rw [List.length_map]
  cases hc : decide (k < (ns.length : Int)) with
  | true =>
    have hk2 := of_decide_eq_true hc
    have hl : k.toNat < ns.length := by omega
    walk_at "rd"
    refine rd_ixL hS (v := .int (ns[k.toNat])) ?_ ?_
    · exact atI_int hk (by rw [List.getElem?_map, List.getElem?_eq_getElem hl]; rfl)
    · have e : cellAt ns k = ns[k.toNat] := by unfold cellAt; rw [List.getElem?_eq_getElem hl]; rfl
      rw [e] at q
      exact q
  | false =>
    have hk2 := of_decide_eq_false hc
    walk_at "rd"
    have e : cellAt ns k = 0 := by unfold cellAt; rw [List.getElem?_eq_none (by omega)]; rfl
    rw [e] at q
    exact q
theorem ok__law_cell_at {Z : Zn} (T : Tx Z) : GF Z "_law_cell_at" 1 ["script", "k"] [] (sp__law_cell_at Z) := GF.of (T.df 17) (T.glo 17) b__law_cell_at sc__law_cell_at (by walk_at "len") (w__law_cell_at T)


/-! ## _law_mixed -/
def N__law_mixed : List Str := ["cell", "k", "number"]
theorem sc__law_mixed : FnScope N__law_mixed ["cell", "k"] (defScope s__law_mixed) := ⟨rfl, rfl, rfl, by decide +kernel, rfl, by decide +kernel, by decide +kernel⟩
theorem b__law_mixed : BindsBy "_law_mixed" "_law_mixed" s__law_mixed ["cell", "k"] := fun _ _ _ _ _ _ us hl => match us, hl with | [_, _], _ => rfl
def sp__law_mixed (Z : Zn) : Sp := fun vs H Q _ => ∃ c k : Int, vs = [.int c, .int k] ∧ ∀ r, Q (.int r) H
theorem cmul_l {i j : Int} (h : -(2 ^ 64) < i ∧ i < 2 ^ 64) : CMul i j := .inl h
theorem cmul_r {i j : Int} (h : -(2 ^ 64) < j ∧ j < 2 ^ 64) : CMul i j := .inr h
theorem cmul_mod {x n j : Int} (h : 0 < n) (h2 : n < 2 ^ 64) : CMul (x % n) j := .inl (by
  have h3 := Int.emod_nonneg x (show n ≠ 0 by omega)
  have h4 := Int.emod_lt_of_pos x h
  omega)
theorem w__law_mixed {Z : Zn} (T : Tx Z) : BodyOk Z N__law_mixed "_law_mixed" s__law_mixed (He.fAd Z.K ("_law_mixed", none)) 0 (sp__law_mixed Z) := by
  intro cdv A outer s H vs Q E hr hu tk hx hp h
  have sc := sc__law_mixed
  refine ⟨_, (pss_cons (ps_set (i := 2) sc.nd rfl (by first | exact Or.inl rfl | exact Or.inr rfl) (pe_op op_modU (pe_op op_mulU (pe_op op_addU (pe_op op_addU (pe_op op_modU (pv 0) pe_int) (pe_op op_mulU pe_int (pv 1))) pe_int) pe_int) pe_int))
    (pss_cons (ps_set (i := 2) sc.nd rfl (by first | exact Or.inl rfl | exact Or.inr rfl) (pe_op op_modU (pe_op op_mulU (pv 2) (pe_op op_addU (pe_op op_divU (pv 2) pe_int) pe_int)) pe_int))
    (pss_cons (ps_set (i := 2) sc.nd rfl (by first | exact Or.inl rfl | exact Or.inr rfl) (pe_op op_modU (pe_op op_mulU (pv 2) (pe_op op_addU (pe_op op_addU (pe_op op_divU (pv 2) pe_int) pe_int) (pv 1))) pe_int))
    (pss_one (ps_ret (pe_op op_modU (pe_op op_mulU (pv 2) (pe_op op_addU (pe_op op_divU (pv 2) pe_int) pe_int)) pe_int)))))), ?_⟩
  obtain ⟨c, k, rfl, q⟩ := h
  walk_at "rd"
  refine rd_mul (cmul_l (by decide)) ?_
  walk_at "rd"
  refine rd_mul (cmul_r (by decide)) ?_
  walk_at "rd"
  refine rd_div (cdiv_of (by decide) (by decide)) ?_
  walk_at "rd"
  refine rd_mul (cmul_mod (by decide) (by decide)) ?_
  walk_at "rd"
  refine rd_div (cdiv_of (by decide) (by decide)) ?_
  walk_at "rd"
  refine rd_mul (cmul_mod (by decide) (by decide)) ?_
  walk_at "rd"
  refine rd_div (cdiv_of (by decide) (by decide)) ?_
  walk_at "rd"
  refine rd_mul (cmul_mod (by decide) (by decide)) ?_
  walk_at "rd"
  exact q _
theorem ok__law_mixed {Z : Zn} (T : Tx Z) : GF Z "_law_mixed" 1 ["cell", "k"] [] (sp__law_mixed Z) := GF.of (T.df 18) (T.glo 18) b__law_mixed sc__law_mixed (by walk_at "len") (w__law_mixed T)


/-! ## _law_digits -/
def N__law_digits : List Str := ["cell"]
theorem sc__law_digits : FnScope N__law_digits ["cell"] (defScope s__law_digits) := ⟨rfl, rfl, rfl, by decide +kernel, rfl, by decide +kernel, by decide +kernel⟩
theorem b__law_digits : BindsBy "_law_digits" "_law_digits" s__law_digits ["cell"] := fun _ _ _ _ _ _ us hl => match us, hl with | [_], _ => rfl
/-- a source of draws: what its list holds -/
structure Src where
  d : Int
  c : Int
  n : Int
def Src.l (s : Src) : List V := [.int s.d, .int s.c, .int s.n]
def sp__law_digits (Z : Zn) : Sp := fun vs H Q _ => ∃ c : Int, vs = [.int c] ∧ ∀ p s, H p = none → Q (.ref p) (upd H p (.lst (Src.l s)))
theorem w__law_digits {Z : Zn} (T : Tx Z) : BodyOk Z N__law_digits "_law_digits" s__law_digits (He.fAd Z.K ("_law_digits", none)) 0 (sp__law_digits Z) := by
  intro cdv A outer s H vs Q E hr hu tk hx hp h
  have sc := sc__law_digits
  refine ⟨_, (pss_one (ps_ret (pe_lst (pa_cons (pe_op op_mulU (pe_op op_divU (pv 0) pe_int) (pe_op op_subU pe_int (pe_op op_modU (pv 0) pe_int))) (pa_cons (pv 0) (pa_cons pe_int pa_nil)))))), ?_⟩
  obtain ⟨c, rfl, q⟩ := h
  walk_at "rd"
  refine rd_div (cdiv_of (by decide) (by decide)) ?_
  walk_at "rd"
  refine rd_mul (cmul_r (by omega)) ?_
  walk_at "rd"
  exact fun p hp => q p ⟨_, _, _⟩ hp
theorem ok__law_digits {Z : Zn} (T : Tx Z) : GF Z "_law_digits" 1 ["cell"] [] (sp__law_digits Z) := GF.of (T.df 19) (T.glo 19) b__law_digits sc__law_digits (by walk_at "len") (w__law_digits T)


/-! ## _law_next -/
def N__law_next : List Str := ["source", "many", "found"]
theorem sc__law_next : FnScope N__law_next ["source", "many"] (defScope s__law_next) := ⟨rfl, rfl, rfl, by decide +kernel, rfl, by decide +kernel, by decide +kernel⟩
theorem b__law_next : BindsBy "_law_next" "_law_next" s__law_next ["source", "many"] := fun _ _ _ _ _ _ us hl => match us, hl with | [_, _], _ => rfl
/-- a draw below m: some number of 0 .. m - 1, the source turned -/
def sp__law_next (Z : Zn) : Sp := fun vs H Q _ => ∃ a s m, vs = [.ref a, .int m] ∧ H a = some (.lst (Src.l s)) ∧ 0 < m ∧ m.natAbs.log2 < 9000 ∧ ∀ r s', 0 ≤ r → r < m → Q (.int r) (upd H a (.lst (Src.l s')))
theorem w__law_next {Z : Zn} (T : Tx Z) : BodyOk Z N__law_next "_law_next" s__law_next (He.fAd Z.K ("_law_next", none)) 1 (sp__law_next Z) := by
  intro cdv A outer s H vs Q E hr hu tk hx hp h
  have sc := sc__law_next
  refine ⟨_, (pss_cons (ps_if (pt_cmpR op_gtU (pe_ix (ix_U hu) (pv 0) pe_int (fun _ _ => rfl)) pe_int (nomark _))
    (pss_cons (ps_set (i := 2) sc.nd rfl (by first | exact Or.inl rfl | exact Or.inr rfl) (pe_op op_modU (pe_ix (ix_U hu) (pv 0) pe_int (fun _ _ => rfl)) (pv 1)))
    (pss_cons (ps_asg (pe_op op_divU (pe_ix (ix_U hu) (pv 0) pe_int (fun _ _ => rfl)) (pv 1)) (pg_sub (pv 0) pe_int (set_U hu)))
    (pss_one (ps_ret (pv 2)))))
    pss_nil)
    (pss_cons (ps_asg (pe_op op_addU (pe_ix (ix_U hu) (pv 0) pe_int (fun _ _ => rfl)) pe_int) (pg_sub (pv 0) pe_int (set_U hu)))
    (pss_one (ps_ret (pe_op op_modU (pe_g (ok__law_mixed T) (hr.mono (by decide)) (by rfl) hx (pa_cons (pe_ix (ix_U hu) (pv 0) pe_int (fun _ _ => rfl)) (pa_cons (pe_ix (ix_U hu) (pv 0) pe_int (fun _ _ => rfl)) pa_nil))) (pv 1)))))), ?_⟩
  obtain ⟨a, s, m, rfl, hS, hm, hl, q⟩ := h
  have fin : ∀ (x : Int) (s' : Src), Q (.int (x % m)) (upd H a (.lst (Src.l s'))) := fun x s' => q _ _ (Int.emod_nonneg _ (by omega)) (Int.emod_lt_of_pos _ hm)
  have h1 : SqL Z.K H a (Src.l s) := .inl (.inl hS)
  walk_at "rd"
  refine rd_ixL h1 (v := .int s.d) rfl ?_
  walk_at "rd"
  cases hc : decide (0 < s.d) with
  | true =>
    walk_at "rd"
    refine rd_ixL h1 (v := .int s.d) rfl ?_
    walk_at "rd"
    refine rd_ixL h1 (v := .int s.d) rfl ?_
    walk_at "rd"
    refine rd_div (cdiv_of hm hl) ?_
    walk_at "rd"
    refine set_at hS (j := 0) rfl ?_
    walk_at "rd"
    exact fin s.d ⟨s.d / m, s.c, s.n⟩
  | false =>
    walk_at "rd"
    refine rd_ixL h1 (v := .int s.n) rfl ?_
    walk_at "rd"
    refine set_at hS (j := 2) rfl ?_
    have h2 : SqL Z.K (upd H a (.lst (Src.l ⟨s.d, s.c, s.n + 1⟩))) a (Src.l ⟨s.d, s.c, s.n + 1⟩) := .inl (.inl upd_same)
    walk_at "rd"
    refine rd_ixL h2 (v := .int s.c) rfl ?_
    walk_at "rd"
    refine rd_ixL h2 (v := .int (s.n + 1)) rfl ?_
    walk_at "rd"
    refine ⟨_, _, rfl, fun r _ => ?_⟩
    walk_at "rd"
    exact fin r ⟨s.d, s.c, s.n + 1⟩
theorem ok__law_next {Z : Zn} (T : Tx Z) : GF Z "_law_next" 2 ["source", "many"] [] (sp__law_next Z) := GF.of (T.df 20) (T.glo 20) b__law_next sc__law_next (by walk_at "len") (w__law_next T)
/-- only the source at d was turned since H0 (and things made) -/
structure Drawn (d : Addr) (H0 H : Hp) : Prop where
  fr : Fr (· = d) H0 H
  at_ : ∃ s : Src, H d = some (.lst (Src.l s))
theorem Drawn.start {d : Addr} {H : Hp} {s : Src} (h : H d = some (.lst (Src.l s))) : Drawn d H H := ⟨Fr.refl _ _, s, h⟩
theorem Drawn.new {d a : Addr} {H0 H : Hp} {o : HO} (x : Drawn d H0 H) (h : H a = none) : Drawn d H0 (upd H a o) := by
  obtain ⟨s, e⟩ := x.at_
  exact ⟨x.fr.new h, s, by rw [upd_ne (ne_of_none e h)]; exact e⟩
theorem Drawn.same {d : Addr} {H0 H H' : Hp} (x : Drawn d H0 H) (h : Same H H') : Drawn d H0 H' := by
  obtain ⟨s, e⟩ := x.at_
  exact ⟨x.fr.trans (Fr.of_same h), s, h _ _ e⟩
theorem Drawn.get {d a : Addr} {H0 H : Hp} {o : HO} (x : Drawn d H0 H) (h : H0 a = some o) (n : a ≠ d) : H a = some o := x.fr a o h n
theorem Drawn.tk {d : Addr} {H0 H : Hp} (x : Drawn d H0 H) {s : Src} (h : H0 d = some (.lst (Src.l s))) : TK H0 H := fun b o i e => x.fr b _ e (by rintro rfl; rw [h] at e; cases e; exact i)
/-- a draw -/
theorem nx_step {Z : Zn} {d : Addr} {m : Int} {H0 H : Hp} {Q : VK} {E : XK} (I : Drawn d H0 H) (hm : 0 < m) (hl : m.natAbs.log2 < 9000) (k : ∀ r H', 0 ≤ r → r < m → Drawn d H0 H' → TK H H' → (∀ b o, H b = some o → b ≠ d → H' b = some o) → Q (.int r) H') : spT (sp__law_next Z) ([V.ref d, V.int m] ++ []) H Q E := by
  obtain ⟨s, e⟩ := I.at_
  refine ⟨d, s, m, rfl, e, hm, hl, fun r s' h0 h1 tk => k r _ h0 h1 ⟨?_, s', upd_same⟩ tk fun b o hb nb => ?_⟩
  · exact I.fr.trans (Fr.one rfl)
  · rw [upd_ne nb]
    exact hb

/-! ## _law_refused -/
def N__law_refused : List Str := ["e", "kinds"]
theorem sc__law_refused : FnScope N__law_refused ["e"] (defScope s__law_refused) := ⟨rfl, rfl, rfl, by decide +kernel, rfl, by decide +kernel, by decide +kernel⟩
theorem b__law_refused : BindsBy "_law_refused" "_law_refused" s__law_refused ["e"] := fun _ _ _ _ _ _ us hl => match us, hl with | [_], _ => rfl
def five29 : List (Str × Str) := [("NoHolder", "holder"), ("NoName", "name"), ("NoTime", "time"), ("Ended", "ended"), ("NoLease", "lease")]
def sp__law_refused (Z : Zn) : SpE := fun cls dd a vs H Q => vs = [.ref a] ∧ dd = none ∧ ∃ x nm, (x, nm) ∈ five29 ∧ cls = .ref (He.ga Z.K x) ∧ ∀ H' t, Same H H' → H t = none → H' t = some (.tup [.str nm, .non]) → Q (.ref t) H'
theorem w__law_refused {Z : Zn} (T : Tx Z) : BodyE Z N__law_refused ["e"] "_law_refused" s__law_refused (He.fAd Z.K ("_law_refused", none)) 0 (sp__law_refused Z) := by
  intro cdv A outer s H vs Q p cls dd zc fl room hl h
  have hrU : (bodyE Z N__law_refused "_law_refused" s__law_refused (He.fAd Z.K ("_law_refused", none)) cdv A outer s H p).A.units + 64 < cLine := by have := room.un; omega
  have hu : (bodyE Z N__law_refused "_law_refused" s__law_refused (He.fAd Z.K ("_law_refused", none)) cdv A outer s H p).A.units + 1 < cLine := by omega
  have sc := sc__law_refused
  refine ⟨_, (pss_cons (ps_set (i := 1) sc.nd rfl (by first | exact Or.inl rfl | exact Or.inr rfl) (pe_lst (pa_cons (pe_callB (cb_isP (p := p) (by exact List.mem_singleton.mpr rfl) zc fl) (by rfl) (n_isinstance T) bt_isinstance (pa_cons (pv 0) (pa_cons (pe_gc (glo_NoHolder T) (by rfl)) pa_nil))) (pa_cons (pe_callB (cb_isP (p := p) (by exact List.mem_singleton.mpr rfl) zc fl) (by rfl) (n_isinstance T) bt_isinstance (pa_cons (pv 0) (pa_cons (pe_gc (glo_NoName T) (by rfl)) pa_nil))) (pa_cons (pe_callB (cb_isP (p := p) (by exact List.mem_singleton.mpr rfl) zc fl) (by rfl) (n_isinstance T) bt_isinstance (pa_cons (pv 0) (pa_cons (pe_gc (glo_NoTime T) (by rfl)) pa_nil))) (pa_cons (pe_callB (cb_isP (p := p) (by exact List.mem_singleton.mpr rfl) zc fl) (by rfl) (n_isinstance T) bt_isinstance (pa_cons (pv 0) (pa_cons (pe_gc (glo_Ended T) (by rfl)) pa_nil))) pa_nil))))))
    (pss_cons (ps_expr (pe_bm PySem.F.plainAttrs_list PySem.F.slot_list_append PySem.F.type_list_append mt_append (pv 1) (pa_cons (pe_callB (cb_isP (p := p) (by exact List.mem_singleton.mpr rfl) zc fl) (by rfl) (n_isinstance T) bt_isinstance (pa_cons (pv 0) (pa_cons (pe_gc (glo_NoLease T) (by rfl)) pa_nil))) pa_nil)))
    (pss_cons (ps_if (pt_cmpR (op_neU hrU) (pe_bm PySem.F.plainAttrs_list PySem.F.slot_list_count PySem.F.type_list_count mt_count (pv 1) (pa_cons pe_bl pa_nil)) pe_int (nomark _))
    (pss_one (ps_ret (pe_tup (pa_cons pe_str (pa_cons pe_non pa_nil)))))
    pss_nil)
    (pss_one (ps_ret (pe_tup (pa_cons (pe_ix (ix_U hu) (pe_lst (pa_cons pe_str (pa_cons pe_str (pa_cons pe_str (pa_cons pe_str (pa_cons pe_str pa_nil)))))) (pe_bm PySem.F.plainAttrs_list PySem.F.slot_list_index PySem.F.type_list_index mt_index (pv 1) (pa_cons pe_bl pa_nil)) (fun _ _ => rfl)) (pa_cons pe_non pa_nil)))))))), ?_⟩
  obtain ⟨rfl, rfl, x, nm, hx, rfl, q⟩ := h
  simp only [five29, List.mem_cons, Prod.mk.injEq, List.not_mem_nil, or_false] at hx
  rcases hx with ⟨rfl, rfl⟩ | ⟨rfl, rfl⟩ | ⟨rfl, rfl⟩ | ⟨rfl, rfl⟩ | ⟨rfl, rfl⟩
  · walk_at "rd"
    refine rd_isP rfl rfl (xc_NoHolder T) (ki_NoHolder_NoHolder T) ?_
    walk_at "rd"
    refine rd_isP rfl rfl (xc_NoHolder T) (ki_NoHolder_NoName T) ?_
    walk_at "rd"
    refine rd_isP rfl rfl (xc_NoHolder T) (ki_NoHolder_NoTime T) ?_
    walk_at "rd"
    refine rd_isP rfl rfl (xc_NoHolder T) (ki_NoHolder_Ended T) ?_
    walk_at "rd"
    intro k hk
    have s1 : Same H (upd H k (.lst [.bl true, .bl false, .bl false, .bl false])) := Same.new hk
    have hk1 : (upd H k (.lst [.bl true, .bl false, .bl false, .bl false])) k = some (.lst [.bl true, .bl false, .bl false, .bl false]) := upd_same
    generalize upd H k (.lst [.bl true, .bl false, .bl false, .bl false]) = H1 at s1 hk1
    walk_at "rd"
    refine ty_lst hk1 ?_
    walk_at "rd"
    refine rd_isP rfl rfl (xc_NoHolder T) (ki_NoHolder_NoLease T) ?_
    walk_at "rd"
    refine rd_app hk1 (lt_size (by decide)) ?_
    have hk2 : (upd H1 k (.lst ([.bl true, .bl false, .bl false, .bl false] ++ [.bl false]))) k = some (.lst [.bl true, .bl false, .bl false, .bl false, .bl false]) := upd_same
    have s2 : Same H (upd H1 k (.lst ([.bl true, .bl false, .bl false, .bl false] ++ [.bl false]))) := s1.upd' hk
    generalize upd H1 k (.lst ([.bl true, .bl false, .bl false, .bl false] ++ [.bl false])) = H2 at s2 hk2
    walk_at "rd"
    refine ty_lst hk2 ?_
    walk_at "rd"
    refine ⟨k, _, .bl true, rfl, rfl, sq_of hk2, rfl, rfl, ?_⟩
    walk_at "rd"
    intro l hl
    have s3 : Same H2 (upd H2 l (.lst [.str "holder", .str "name", .str "time", .str "ended", .str "lease"])) := Same.new hl
    have hl3 : (upd H2 l (.lst [.str "holder", .str "name", .str "time", .str "ended", .str "lease"])) l = some (.lst [.str "holder", .str "name", .str "time", .str "ended", .str "lease"]) := upd_same
    generalize upd H2 l (.lst [.str "holder", .str "name", .str "time", .str "ended", .str "lease"]) = H3 at s3 hl3
    walk_at "rd"
    refine ty_lst (s3 _ _ hk2) ?_
    walk_at "rd"
    refine ⟨k, _, .bl true, 0, .bl true, rfl, rfl, sq_of (s3 _ _ hk2), rfl, rfl, rfl, rfl, fun j z' hj hz => ?_, ?_⟩
    · match j, hj with
      | j, hj => exact absurd hj (Nat.not_lt_zero _)
    refine rd_ixL (sq_of hl3) (v := .str "holder") rfl ?_
    walk_at "rd"
    intro t ht
    refine q _ t ((s2.trans s3).trans (Same.new ht)) ?_ upd_same
    cases e : H t with
    | none => rfl
    | some o => rw [(s2.trans s3) _ _ e] at ht; cases ht
  · walk_at "rd"
    refine rd_isP rfl rfl (xc_NoName T) (ki_NoName_NoHolder T) ?_
    walk_at "rd"
    refine rd_isP rfl rfl (xc_NoName T) (ki_NoName_NoName T) ?_
    walk_at "rd"
    refine rd_isP rfl rfl (xc_NoName T) (ki_NoName_NoTime T) ?_
    walk_at "rd"
    refine rd_isP rfl rfl (xc_NoName T) (ki_NoName_Ended T) ?_
    walk_at "rd"
    intro k hk
    have s1 : Same H (upd H k (.lst [.bl false, .bl true, .bl false, .bl false])) := Same.new hk
    have hk1 : (upd H k (.lst [.bl false, .bl true, .bl false, .bl false])) k = some (.lst [.bl false, .bl true, .bl false, .bl false]) := upd_same
    generalize upd H k (.lst [.bl false, .bl true, .bl false, .bl false]) = H1 at s1 hk1
    walk_at "rd"
    refine ty_lst hk1 ?_
    walk_at "rd"
    refine rd_isP rfl rfl (xc_NoName T) (ki_NoName_NoLease T) ?_
    walk_at "rd"
    refine rd_app hk1 (lt_size (by decide)) ?_
    have hk2 : (upd H1 k (.lst ([.bl false, .bl true, .bl false, .bl false] ++ [.bl false]))) k = some (.lst [.bl false, .bl true, .bl false, .bl false, .bl false]) := upd_same
    have s2 : Same H (upd H1 k (.lst ([.bl false, .bl true, .bl false, .bl false] ++ [.bl false]))) := s1.upd' hk
    generalize upd H1 k (.lst ([.bl false, .bl true, .bl false, .bl false] ++ [.bl false])) = H2 at s2 hk2
    walk_at "rd"
    refine ty_lst hk2 ?_
    walk_at "rd"
    refine ⟨k, _, .bl true, rfl, rfl, sq_of hk2, rfl, rfl, ?_⟩
    walk_at "rd"
    intro l hl
    have s3 : Same H2 (upd H2 l (.lst [.str "holder", .str "name", .str "time", .str "ended", .str "lease"])) := Same.new hl
    have hl3 : (upd H2 l (.lst [.str "holder", .str "name", .str "time", .str "ended", .str "lease"])) l = some (.lst [.str "holder", .str "name", .str "time", .str "ended", .str "lease"]) := upd_same
    generalize upd H2 l (.lst [.str "holder", .str "name", .str "time", .str "ended", .str "lease"]) = H3 at s3 hl3
    walk_at "rd"
    refine ty_lst (s3 _ _ hk2) ?_
    walk_at "rd"
    refine ⟨k, _, .bl true, 1, .bl true, rfl, rfl, sq_of (s3 _ _ hk2), rfl, rfl, rfl, rfl, fun j z' hj hz => ?_, ?_⟩
    · match j, hj with
      | 0, _ => cases hz; rfl
    refine rd_ixL (sq_of hl3) (v := .str "name") rfl ?_
    walk_at "rd"
    intro t ht
    refine q _ t ((s2.trans s3).trans (Same.new ht)) ?_ upd_same
    cases e : H t with
    | none => rfl
    | some o => rw [(s2.trans s3) _ _ e] at ht; cases ht
  · walk_at "rd"
    refine rd_isP rfl rfl (xc_NoTime T) (ki_NoTime_NoHolder T) ?_
    walk_at "rd"
    refine rd_isP rfl rfl (xc_NoTime T) (ki_NoTime_NoName T) ?_
    walk_at "rd"
    refine rd_isP rfl rfl (xc_NoTime T) (ki_NoTime_NoTime T) ?_
    walk_at "rd"
    refine rd_isP rfl rfl (xc_NoTime T) (ki_NoTime_Ended T) ?_
    walk_at "rd"
    intro k hk
    have s1 : Same H (upd H k (.lst [.bl false, .bl false, .bl true, .bl false])) := Same.new hk
    have hk1 : (upd H k (.lst [.bl false, .bl false, .bl true, .bl false])) k = some (.lst [.bl false, .bl false, .bl true, .bl false]) := upd_same
    generalize upd H k (.lst [.bl false, .bl false, .bl true, .bl false]) = H1 at s1 hk1
    walk_at "rd"
    refine ty_lst hk1 ?_
    walk_at "rd"
    refine rd_isP rfl rfl (xc_NoTime T) (ki_NoTime_NoLease T) ?_
    walk_at "rd"
    refine rd_app hk1 (lt_size (by decide)) ?_
    have hk2 : (upd H1 k (.lst ([.bl false, .bl false, .bl true, .bl false] ++ [.bl false]))) k = some (.lst [.bl false, .bl false, .bl true, .bl false, .bl false]) := upd_same
    have s2 : Same H (upd H1 k (.lst ([.bl false, .bl false, .bl true, .bl false] ++ [.bl false]))) := s1.upd' hk
    generalize upd H1 k (.lst ([.bl false, .bl false, .bl true, .bl false] ++ [.bl false])) = H2 at s2 hk2
    walk_at "rd"
    refine ty_lst hk2 ?_
    walk_at "rd"
    refine ⟨k, _, .bl true, rfl, rfl, sq_of hk2, rfl, rfl, ?_⟩
    walk_at "rd"
    intro l hl
    have s3 : Same H2 (upd H2 l (.lst [.str "holder", .str "name", .str "time", .str "ended", .str "lease"])) := Same.new hl
    have hl3 : (upd H2 l (.lst [.str "holder", .str "name", .str "time", .str "ended", .str "lease"])) l = some (.lst [.str "holder", .str "name", .str "time", .str "ended", .str "lease"]) := upd_same
    generalize upd H2 l (.lst [.str "holder", .str "name", .str "time", .str "ended", .str "lease"]) = H3 at s3 hl3
    walk_at "rd"
    refine ty_lst (s3 _ _ hk2) ?_
    walk_at "rd"
    refine ⟨k, _, .bl true, 2, .bl true, rfl, rfl, sq_of (s3 _ _ hk2), rfl, rfl, rfl, rfl, fun j z' hj hz => ?_, ?_⟩
    · match j, hj with
      | 0, _ => cases hz; rfl
      | 1, _ => cases hz; rfl
    refine rd_ixL (sq_of hl3) (v := .str "time") rfl ?_
    walk_at "rd"
    intro t ht
    refine q _ t ((s2.trans s3).trans (Same.new ht)) ?_ upd_same
    cases e : H t with
    | none => rfl
    | some o => rw [(s2.trans s3) _ _ e] at ht; cases ht
  · walk_at "rd"
    refine rd_isP rfl rfl (xc_Ended T) (ki_Ended_NoHolder T) ?_
    walk_at "rd"
    refine rd_isP rfl rfl (xc_Ended T) (ki_Ended_NoName T) ?_
    walk_at "rd"
    refine rd_isP rfl rfl (xc_Ended T) (ki_Ended_NoTime T) ?_
    walk_at "rd"
    refine rd_isP rfl rfl (xc_Ended T) (ki_Ended_Ended T) ?_
    walk_at "rd"
    intro k hk
    have s1 : Same H (upd H k (.lst [.bl false, .bl false, .bl false, .bl true])) := Same.new hk
    have hk1 : (upd H k (.lst [.bl false, .bl false, .bl false, .bl true])) k = some (.lst [.bl false, .bl false, .bl false, .bl true]) := upd_same
    generalize upd H k (.lst [.bl false, .bl false, .bl false, .bl true]) = H1 at s1 hk1
    walk_at "rd"
    refine ty_lst hk1 ?_
    walk_at "rd"
    refine rd_isP rfl rfl (xc_Ended T) (ki_Ended_NoLease T) ?_
    walk_at "rd"
    refine rd_app hk1 (lt_size (by decide)) ?_
    have hk2 : (upd H1 k (.lst ([.bl false, .bl false, .bl false, .bl true] ++ [.bl false]))) k = some (.lst [.bl false, .bl false, .bl false, .bl true, .bl false]) := upd_same
    have s2 : Same H (upd H1 k (.lst ([.bl false, .bl false, .bl false, .bl true] ++ [.bl false]))) := s1.upd' hk
    generalize upd H1 k (.lst ([.bl false, .bl false, .bl false, .bl true] ++ [.bl false])) = H2 at s2 hk2
    walk_at "rd"
    refine ty_lst hk2 ?_
    walk_at "rd"
    refine ⟨k, _, .bl true, rfl, rfl, sq_of hk2, rfl, rfl, ?_⟩
    walk_at "rd"
    intro l hl
    have s3 : Same H2 (upd H2 l (.lst [.str "holder", .str "name", .str "time", .str "ended", .str "lease"])) := Same.new hl
    have hl3 : (upd H2 l (.lst [.str "holder", .str "name", .str "time", .str "ended", .str "lease"])) l = some (.lst [.str "holder", .str "name", .str "time", .str "ended", .str "lease"]) := upd_same
    generalize upd H2 l (.lst [.str "holder", .str "name", .str "time", .str "ended", .str "lease"]) = H3 at s3 hl3
    walk_at "rd"
    refine ty_lst (s3 _ _ hk2) ?_
    walk_at "rd"
    refine ⟨k, _, .bl true, 3, .bl true, rfl, rfl, sq_of (s3 _ _ hk2), rfl, rfl, rfl, rfl, fun j z' hj hz => ?_, ?_⟩
    · match j, hj with
      | 0, _ => cases hz; rfl
      | 1, _ => cases hz; rfl
      | 2, _ => cases hz; rfl
    refine rd_ixL (sq_of hl3) (v := .str "ended") rfl ?_
    walk_at "rd"
    intro t ht
    refine q _ t ((s2.trans s3).trans (Same.new ht)) ?_ upd_same
    cases e : H t with
    | none => rfl
    | some o => rw [(s2.trans s3) _ _ e] at ht; cases ht
  · walk_at "rd"
    refine rd_isP rfl rfl (xc_NoLease T) (ki_NoLease_NoHolder T) ?_
    walk_at "rd"
    refine rd_isP rfl rfl (xc_NoLease T) (ki_NoLease_NoName T) ?_
    walk_at "rd"
    refine rd_isP rfl rfl (xc_NoLease T) (ki_NoLease_NoTime T) ?_
    walk_at "rd"
    refine rd_isP rfl rfl (xc_NoLease T) (ki_NoLease_Ended T) ?_
    walk_at "rd"
    intro k hk
    have s1 : Same H (upd H k (.lst [.bl false, .bl false, .bl false, .bl false])) := Same.new hk
    have hk1 : (upd H k (.lst [.bl false, .bl false, .bl false, .bl false])) k = some (.lst [.bl false, .bl false, .bl false, .bl false]) := upd_same
    generalize upd H k (.lst [.bl false, .bl false, .bl false, .bl false]) = H1 at s1 hk1
    walk_at "rd"
    refine ty_lst hk1 ?_
    walk_at "rd"
    refine rd_isP rfl rfl (xc_NoLease T) (ki_NoLease_NoLease T) ?_
    walk_at "rd"
    refine rd_app hk1 (lt_size (by decide)) ?_
    have hk2 : (upd H1 k (.lst ([.bl false, .bl false, .bl false, .bl false] ++ [.bl true]))) k = some (.lst [.bl false, .bl false, .bl false, .bl false, .bl true]) := upd_same
    have s2 : Same H (upd H1 k (.lst ([.bl false, .bl false, .bl false, .bl false] ++ [.bl true]))) := s1.upd' hk
    generalize upd H1 k (.lst ([.bl false, .bl false, .bl false, .bl false] ++ [.bl true])) = H2 at s2 hk2
    walk_at "rd"
    refine ty_lst hk2 ?_
    walk_at "rd"
    refine ⟨k, _, .bl true, rfl, rfl, sq_of hk2, rfl, rfl, ?_⟩
    walk_at "rd"
    intro l hl
    have s3 : Same H2 (upd H2 l (.lst [.str "holder", .str "name", .str "time", .str "ended", .str "lease"])) := Same.new hl
    have hl3 : (upd H2 l (.lst [.str "holder", .str "name", .str "time", .str "ended", .str "lease"])) l = some (.lst [.str "holder", .str "name", .str "time", .str "ended", .str "lease"]) := upd_same
    generalize upd H2 l (.lst [.str "holder", .str "name", .str "time", .str "ended", .str "lease"]) = H3 at s3 hl3
    walk_at "rd"
    refine ty_lst (s3 _ _ hk2) ?_
    walk_at "rd"
    refine ⟨k, _, .bl true, 4, .bl true, rfl, rfl, sq_of (s3 _ _ hk2), rfl, rfl, rfl, rfl, fun j z' hj hz => ?_, ?_⟩
    · match j, hj with
      | 0, _ => cases hz; rfl
      | 1, _ => cases hz; rfl
      | 2, _ => cases hz; rfl
      | 3, _ => cases hz; rfl
    refine rd_ixL (sq_of hl3) (v := .str "lease") rfl ?_
    walk_at "rd"
    intro t ht
    refine q _ t ((s2.trans s3).trans (Same.new ht)) ?_ upd_same
    cases e : H t with
    | none => rfl
    | some o => rw [(s2.trans s3) _ _ e] at ht; cases ht
theorem ok__law_refused {Z : Zn} (T : Tx Z) : GE Z "_law_refused" 1 ["e"] (sp__law_refused Z) := GE.of (T.df 21) (T.glo 21) b__law_refused sc__law_refused (w__law_refused T)


/-! ## _law_done -/
def N__law_done : List Str := ["common", "deed", "e"]
theorem sc__law_done : FnScope N__law_done ["common", "deed"] (defScope s__law_done) := ⟨rfl, rfl, rfl, by decide +kernel, rfl, by decide +kernel, by decide +kernel⟩
theorem b__law_done : BindsBy "_law_done" "_law_done" s__law_done ["common", "deed"] := fun _ _ _ _ _ _ us hl => match us, hl with | [_, _], _ => rfl
def optV : Option Int → V
  | none => .non
  | some i => .int i
theorem kd_opt {K : PySem.W.Frag} {H : Hp} {o : Option Int} : ∃ k, Kd K H (optV o) k := by
  cases o with
  | none => exact ⟨.non, Kd.non⟩
  | some i => exact ⟨.int, Kd.int⟩
inductive Deed where
  | lt (hol : Str) (hou : Option Int) (mo s : Int)
  | ct (le : Option (Int × Int × Int)) (us : Option Int)
/-- a deed's tuple -/
def DeedAt (H : Hp) (t : Addr) : Deed → Prop
  | .lt hol hou mo s => H t = some (.tup [.str "let", .str hol, optV hou, .int mo, .int s])
  | .ct none us => H t = some (.tup [.str "cut", .non, optV us])
  | .ct (some (a, b, u)) us => ∃ q, H t = some (.tup [.str "cut", .ref q, optV us]) ∧ H q = some (.tup [.int a, .int b, .int u])
theorem DeedAt.tk {H H' : Hp} {t : Addr} {d : Deed} (x : DeedAt H t d) (k : TK H H') : DeedAt H' t d := by
  match d, x with
  | .lt hol hou mo s, x => exact k.tup x
  | .ct none us, x => exact k.tup x
  | .ct (some (a, b, u)) us, ⟨q, x, y⟩ => exact ⟨q, k.tup x, k.tup y⟩
/-- what a deed tells, as data -/
def outK (x : Str) : PyData := .tuple [.str x, .none]
def outT (a b u : Int) : PyData := .tuple [.str "told", .tuple [.int a, .int b, .int u]]
/-- a deed in a book of the lets L: what it tells, and the lets behind it -/
inductive Step (L : List LetS) (m h : Int) : Deed → PyData → List LetS → Prop
  | holder {hol : Str} {hou : Option Int} {mo s : Int} : holdB (.str hol) = false → Step L m h (.lt hol hou mo s) (outK "holder") L
  | name {hol : Str} {hou : Option Int} {mo s x : Int} : holdB (.str hol) = true → hou = some x → ¬ (0 ≤ x ∧ x < h) → Step L m h (.lt hol hou mo s) (outK "name") L
  | time {hol : Str} {hou : Option Int} {mo s : Int} : holdB (.str hol) = true → (∀ x, hou = some x → 0 ≤ x ∧ x < h) → s < 1 → Step L m h (.lt hol hou mo s) (outK "time") L
  | told {hol : Str} {hou : Option Int} {mo s a b : Int} : holdB (.str hol) = true → (∀ x, hou = some x → 0 ≤ x ∧ x < h) → 1 ≤ s → Fit L m h (optV hou) (max 0 mo) s a b → Step L m h (.lt hol hou mo s) (outT a b (b + s)) (L ++ [⟨hol, a, b, b + s, b + s, false⟩])
  | ended {hol : Str} {hou : Option Int} {mo s : Int} : holdB (.str hol) = true → (∀ x, hou = some x → 0 ≤ x ∧ x < h) → 1 ≤ s → NoFit L m h (optV hou) (max 0 mo) s → Step L m h (.lt hol hou mo s) (outK "ended") L
  | lease {le : Option (Int × Int × Int)} {us : Option Int} : (∀ l ∈ L, l.cut = false → le ≠ some (l.ho, l.b, l.u)) → Step L m h (.ct le us) (outK "lease") L
  | late {us : Option Int} {l : LetS} {i : Nat} : L[i]? = some l → l.cut = false → badUse (optV us) l.b l.u → Step L m h (.ct (some (l.ho, l.b, l.u)) us) (outK "time") L
  | cut {us : Option Int} {l : LetS} {i : Nat} {e : Int} : L[i]? = some l → l.cut = false → endUse (optV us) l.b l.u e → Step L m h (.ct (some (l.ho, l.b, l.u)) us) (outK "told") (L.set i { l with e := e, cut := true })
/-- the book behind it: grown, perhaps -/
def BookAt (Z : Zn) (H : Hp) (p sp : Addr) (S : Addr → Prop) (L : List LetS) (m h : Int) : Prop := ∃ as, CommonAt Z H p sp S as L ∧ GoodL L m h
def sp__law_done (Z : Zn) : Sp := fun vs H Q _ => ∃ p sp S L m h c t d, vs = [.ref p, .ref t] ∧ BookAt Z H p sp S L m h ∧ ShapeAt Z H sp m h c ∧ L.length < 100000 ∧ DeedAt H t d ∧ (∀ hol hou mo s, d = .lt hol hou mo s → hol.length ≤ sizeLine) ∧
  ∀ out L', Step L m h d out L' → ∀ (H' : Hp) (S' : Addr → Prop) (r : Addr), Ext S S' H H' → BookAt Z H' p sp S' L' m h → Dp Z.K H' (.ref r) out → H r = none → Q (.ref r) H'
theorem w__law_done {Z : Zn} (T : Tx Z) : BodyOk Z N__law_done "_law_done" s__law_done (He.fAd Z.K ("_law_done", none)) 3 (sp__law_done Z) := by
  intro cdv A outer s H vs Q E hr hu tk hx hp h
  have sc := sc__law_done
  refine ⟨_, (pss_one (ps_try_as (i := 2) rfl rfl sc.nd rfl rfl ⟨rfl, by decide, .inl (glo_HouseError T)⟩ tk (fun W pn xe tkW _ => (pss_cons (ps_if (pt_cmpR (op_eqK (K := Z.K) rfl (by exact hr.units)) (pe_ix (ix_K (K := Z.K) rfl (by exact hu)) (pv 1) pe_int (fun _ _ => rfl)) pe_str (nomark _))
    (pss_one (ps_ret (pe_tup (pa_cons pe_str (pa_cons (pe_mS (ok_Common_let T) (pv 0) (by exact hr.mono (by decide)) tkW (pa_cons (pe_ix (ix_K (K := Z.K) rfl (by exact hu)) (pv 1) pe_int (fun _ _ => rfl)) (pa_cons (pe_ix (ix_K (K := Z.K) rfl (by exact hu)) (pv 1) pe_int (fun _ _ => rfl)) (pa_cons (pe_ix (ix_K (K := Z.K) rfl (by exact hu)) (pv 1) pe_int (fun _ _ => rfl)) (pa_cons (pe_ix (ix_K (K := Z.K) rfl (by exact hu)) (pv 1) pe_int (fun _ _ => rfl)) pa_nil))))) pa_nil)))))
    pss_nil)
    (pss_one (ps_ret (pe_tup (pa_cons pe_str (pa_cons (pe_mS (ok_Common_cut T) (pv 0) (by exact hr.mono (by decide)) tkW (pa_cons (pe_ix (ix_K (K := Z.K) rfl (by exact hu)) (pv 1) pe_int (fun _ _ => rfl)) (pa_cons (pe_ix (ix_K (K := Z.K) rfl (by exact hu)) (pv 1) pe_int (fun _ _ => rfl)) pa_nil))) pa_nil)))))))
    (fun a oe cls d pn zc fl => (pss_one (ps_ret (pe_gE (ok__law_refused T) zc fl (by exact L2H.roomH_mark (hr.mono (by decide)) _) (by rfl) (pa_cons (pv 2) pa_nil) rfl (hv := by rintro σ H Q ⟨v, e, q⟩; exact ⟨v, e, rfl, q⟩))))))), ?_⟩
  obtain ⟨p, sp, S, L, m, h, c, t, d, rfl, ⟨as, C, G⟩, Sh, hlen, hd, hz, q⟩ := h
  have none0 : ∀ {H' : Hp} {r : Addr}, Same H H' → H' r = none → H r = none := fun {H' r} s e => by
    cases x : H r with
    | none => rfl
    | some o => rw [s _ _ x] at e; cases e
  obtain ⟨dco, lp, x1, x2, slp⟩ := C.ex
  -- a refusal: what the clause makes of it
  have ref : ∀ (x nm : Str) (H1 : Hp), (x, nm) ∈ five29 → Same H H1 → Step L m h d (outK nm) L → ∀ a, sp__law_refused Z (.ref (He.ga Z.K x)) none a [.ref a] H1 Q := fun x nm H1 hx s1 st a =>
    ⟨rfl, rfl, x, nm, hx, rfl, fun H2 r s2 hr hr2 => q (outK nm) L st H2 S r (Ext.same (s1.trans s2)) ⟨as, C.same (s1.trans s2), G⟩ (.tup (st_of hr2) (.cons (.str _) (.cons .non .nil))) (none0 s1 hr)⟩
  have i1 : (("NoHolder", "holder") : Str × Str) ∈ five29 := by simp [five29]
  have i2 : (("NoName", "name") : Str × Str) ∈ five29 := by simp [five29]
  have i3 : (("NoTime", "time") : Str × Str) ∈ five29 := by simp [five29]
  have i4 : (("Ended", "ended") : Str × Str) ∈ five29 := by simp [five29]
  have i5 : (("NoLease", "lease") : Str × Str) ∈ five29 := by simp [five29]
  match d, hd with
  | .lt hol hou mo s1, hd =>
    have hd : H t = some (.tup [.str "let", .str hol, optV hou, .int mo, .int s1]) := hd
    have sq := st_of (K := Z.K) hd
    walk_at "rd"
    refine rd_ixT sq (v := .str "let") rfl ?_
    walk_at "rd"
    refine on_ins x1 (co_no_let _ _) ?_
    walk_at "rd"
    refine rd_ixT sq (v := .str hol) rfl ?_
    walk_at "rd"
    refine rd_ixT sq (v := optV hou) rfl ?_
    walk_at "rd"
    refine rd_ixT sq (v := .int mo) rfl ?_
    walk_at "rd"
    refine rd_ixT sq (v := .int s1) rfl ?_
    walk_at "rd"
    obtain ⟨kq, dq⟩ := kd_opt (K := Z.K) (H := H) (o := hou)
    have okH : (optV hou = .non ∨ isB (optV hou) h = true) → ∀ x, hou = some x → 0 ≤ x ∧ x < h := by
      rintro z x rfl
      rcases z with z | z
      · cases z
      · have z2 : (decide (0 ≤ x) && decide (x < h)) = true := z
        obtain ⟨g1, g2⟩ := Bool.and_eq_true_iff.mp z2
        exact ⟨of_decide_eq_true g1, of_decide_eq_true g2⟩
    refine ⟨p, sp, S, as, L, m, h, c, .str hol, optV hou, .int mo, .int s1, .str, kq, .int, .int, rfl, C, Sh, G, hlen, Kd.str, dq, Kd.int, Kd.int, fun z e => ?_, fun e H1 sm _ => ?_, fun e en eb H1 sm _ => ?_, fun e eq0 eb H1 sm _ => ?_, fun z mo' s' ez e eq0 em es hs => ⟨fun a b fit H1 r x ex C1 G1 hr hr1 tk1 => ?_, fun nf H1 sm _ => ?_⟩⟩
    · rw [← V.str.inj e]
      exact hz _ _ _ _ rfl
    · refine rd_caught (em_NoHolder_HouseError T) fun a ha => ?_
      walk_at "rd"
      exact ref _ _ _ i1 sm (.holder e) a
    · refine rd_caught (em_NoName_HouseError T) fun a ha => ?_
      walk_at "rd"
      cases hou with
      | none => exact absurd rfl en
      | some x =>
        refine ref _ _ _ i2 sm (.name e rfl fun z => ?_) a
        have eb2 : (decide (0 ≤ x) && decide (x < h)) = false := eb
        rw [decide_eq_true z.1, decide_eq_true z.2] at eb2
        cases eb2
    · refine rd_caught (em_NoTime_HouseError T) fun a ha => ?_
      walk_at "rd"
      refine ref _ _ _ i3 sm (.time e (okH eq0) ?_) a
      rcases eb with eb | eb | ⟨s', e', hs'⟩
      · cases eb
      · cases eb
      · rw [V.int.inj e']; exact hs'
    · cases V.str.inj ez
      cases V.int.inj em
      cases V.int.inj es
      walk_at "rd"
      intro r2 hr2
      have s2 : Same H1 (upd H1 r2 (.tup [.str "told", .ref r])) := Same.new hr2
      have e2 : (upd H1 r2 (.tup [.str "told", .ref r])) r2 = some (.tup [.str "told", .ref r]) := upd_same
      generalize upd H1 r2 (.tup [.str "told", .ref r]) = H2 at s2 e2
      refine q _ _ (.told e (okH eq0) hs fit) H2 _ r2 (ex.trans (Ext.same s2)) ⟨_, C1.same s2, G1⟩ (.tup (st_of e2) (.cons (.str _) (.cons (.tup (st_of (s2 _ _ hr1)) (.cons (.int _) (.cons (.int _) (.cons (.int _) .nil)))) .nil))) ?_
      cases w : H r2 with
      | none => rfl
      | some o =>
        by_cases sr : S r2
        · exact absurd hr2 (C1.lv r2 (.inl sr))
        · rw [ex.fr _ _ w sr] at hr2; cases hr2
    · cases V.int.inj em
      cases V.int.inj es
      refine rd_caught (em_Ended_HouseError T) fun a ha => ?_
      walk_at "rd"
      exact ref _ _ _ i4 sm (.ended e (okH eq0) hs nf) a
  | .ct le us, hd =>
    obtain ⟨ku, du⟩ := kd_opt (K := Z.K) (H := H) (o := us)
    -- the lease: None, or three numbers
    obtain ⟨lv, dl, kl, hd1, dpl, shl, kdl, form, nam⟩ : ∃ (lv : V) (dl : PyData) (kl : Kind), H t = some (.tup [.str "cut", lv, optV us]) ∧ Dp Z.K H lv dl ∧ SeqAt.shaped dl = true ∧ Kd Z.K H lv kl ∧
        ((∃ t a b u, lv = .ref t ∧ H t = some (.tup [.int a, .int b, .int u]) ∧ dl = .tuple [.int a, .int b, .int u]) ∨ ∀ l ∈ L, l.named dl kl = false) ∧
        (∀ l : LetS, (l.named dl kl = true ↔ le = some (l.ho, l.b, l.u) ∧ l.cut = false) ∧ (le = some (l.ho, l.b, l.u) → ∃ t, lv = .ref t ∧ H t = some (.tup [.int l.ho, .int l.b, .int l.u]))) := by
      match le, hd with
      | none, hd =>
        have nn : ∀ l : LetS, l.named .none .non = false := fun l => by
          unfold LetS.named l3D
          simp [PyData.eqv]
        exact ⟨.non, .none, .non, hd, .non, rfl, Kd.non, .inr fun l _ => nn l, fun l => ⟨⟨fun z => (by rw [nn l] at z; cases z), fun z => (by cases z.1)⟩, fun z => (by cases z)⟩⟩
      | some (a, b, u), ⟨q0, hd, hq0⟩ =>
        refine ⟨.ref q0, .tuple [.int a, .int b, .int u], .tup, hd, .tup (st_of hq0) (.cons (.int _) (.cons (.int _) (.cons (.int _) .nil))), rfl, Kd.tup hq0, .inl ⟨q0, a, b, u, rfl, hq0, rfl⟩, fun l => ⟨?_, fun z => ⟨q0, rfl, ?_⟩⟩⟩
        · unfold LetS.named
          rw [l3_eqv]
          constructor
          · intro z
            obtain ⟨z1, z2⟩ := Bool.and_eq_true_iff.mp z
            obtain ⟨m1, m2, m3⟩ := of_decide_eq_true z1
            refine ⟨by rw [m1, m2, m3], by simpa [isSub] using z2⟩
          · rintro ⟨z1, z2⟩
            cases z1
            rw [decide_eq_true ⟨rfl, rfl, rfl⟩, z2]
            rfl
        · cases z
          exact hq0
    have sq := st_of (K := Z.K) hd1
    walk_at "rd"
    refine rd_ixT sq (v := .str "cut") rfl ?_
    walk_at "rd"
    refine on_ins x1 (co_no_cut _ _) ?_
    walk_at "rd"
    refine rd_ixT sq (v := lv) rfl ?_
    walk_at "rd"
    refine rd_ixT sq (v := optV us) rfl ?_
    walk_at "rd"
    refine ⟨p, sp, S, as, L, m, h, lv, optV us, ku, kl, dl, rfl, C, G, dpl, shl, kdl, du, form, fun hno H1 sm _ => ?_, fun i l hl hnm _ => ⟨fun bad H1 sm _ => ?_, fun e he H1 ex C1 G1 tk1 => ?_⟩⟩
    · refine rd_caught (em_NoLease_HouseError T) fun a ha => ?_
      walk_at "rd"
      refine ref _ _ _ i5 sm (.lease fun l hl hc z => ?_) a
      have := ((nam l).1).mpr ⟨z, hc⟩
      rw [hno l hl] at this
      cases this
    · obtain ⟨z1, z2⟩ := ((nam l).1).mp hnm
      subst z1
      refine rd_caught (em_NoTime_HouseError T) fun a ha => ?_
      walk_at "rd"
      exact ref _ _ _ i3 sm (.late hl z2 bad) a
    · obtain ⟨z1, z2⟩ := ((nam l).1).mp hnm
      subst z1
      walk_at "rd"
      intro r2 hr2
      have s2 : Same H1 (upd H1 r2 (.tup [.str "told", .non])) := Same.new hr2
      have e2 : (upd H1 r2 (.tup [.str "told", .non])) r2 = some (.tup [.str "told", .non]) := upd_same
      generalize upd H1 r2 (.tup [.str "told", .non]) = H2 at s2 e2
      refine q _ _ (.cut hl z2 he) H2 _ r2 (ex.trans (Ext.same s2)) ⟨_, C1.same s2, G1⟩ (.tup (st_of e2) (.cons (.str _) (.cons .non .nil))) ?_
      cases w : H r2 with
      | none => rfl
      | some o =>
        by_cases sr : S r2
        · exact absurd hr2 (C1.lv r2 sr)
        · rw [ex.fr _ _ w sr] at hr2; cases hr2
theorem ok__law_done {Z : Zn} (T : Tx Z) : GF Z "_law_done" 4 ["common", "deed"] [] (sp__law_done Z) := GF.of (T.df 22) (T.glo 22) b__law_done sc__law_done (by walk_at "len") (w__law_done T)


/-! ## _law_free -/
def N__law_free : List Str := ["m", "house", "first", "span", "moment"]
theorem sc__law_free : FnScope N__law_free ["m", "house", "first", "span"] (defScope s__law_free) := ⟨rfl, rfl, rfl, by decide +kernel, rfl, by decide +kernel, by decide +kernel⟩
theorem b__law_free : BindsBy "_law_free" "_law_free" s__law_free ["m", "house", "first", "span"] := fun _ _ _ _ _ _ us hl => match us, hl with | [_, _, _, _], _ => rfl
/-- a row of the law's own book -/
abbrev LetS.row (l : LetS) : List V := [.str l.h, .int l.ho, .int l.b, .int l.e, .int l.u, .bl l.cut]
abbrev mdFs (z td rl : Addr) (la : V) : List (Key × V) := [(.inr "shape", .ref z), (.inr "table", .ref td), (.inr "rows", .ref rl), (.inr "last", la)]
theorem md_shape (z td rl : Addr) (la : V) : valV (mdFs z td rl la) (.inr "shape" : Key) = some (.ref z) := by kernel_rfl
theorem md_table (z td rl : Addr) (la : V) : valV (mdFs z td rl la) (.inr "table" : Key) = some (.ref td) := by kernel_rfl
theorem md_rows (z td rl : Addr) (la : V) : valV (mdFs z td rl la) (.inr "rows" : Key) = some (.ref rl) := by kernel_rfl
theorem md_last (z td rl : Addr) (la : V) : valV (mdFs z td rl la) (.inr "last" : Key) = some la := by kernel_rfl
theorem md_put (z td rl : Addr) (la lb : V) : putK (mdFs z td rl la) (.inr "last" : Key) lb = mdFs z td rl lb := by kernel_rfl
/-- the table tells who has each house then -/
def TabOk (kvs : List (List Key × V)) (L : List LetS) : Prop := ∀ ho t : Int, (valV kvs ([.inl ho, .inl t] : List Key)).getD .non = holderL L ho t
/-- the law's own book: z its sizes, G its own addresses, n a bound of the table -/
structure MdlAt (Z : Zn) (H : Hp) (m z : Addr) (sz : Int × Int × Int) (G : Addr → Prop) (la : V) (L : List LetS) (n : Nat) : Prop where
  ex : ∃ td rl ras kvs, H m = some (.dK (mdFs z td rl la)) ∧ H td = some (.dT kvs) ∧ H rl = some (.lst (ras.map V.ref)) ∧ Paired (fun a l => H a = some (.lst (LetS.row l))) ras L ∧ TabOk kvs L ∧ kvs.length ≤ n ∧ ras.Nodup ∧ G td ∧ G rl ∧ (∀ a ∈ ras, G a) ∧ rl ∉ ras
  sz : H z = some (.tup [.int sz.1, .int sz.2.1, .int sz.2.2])
  own : G m
  lv : Live G H
section
variable {Z : Zn} {H H' : Hp} {m z : Addr} {sz : Int × Int × Int} {G : Addr → Prop} {la : V} {L : List LetS} {n : Nat} {Q : VK}
theorem MdlAt.keep (M : MdlAt Z H m z sz G la L n) (k : ∀ b o, G b → H b = some o → H' b = some o) (tk : TK H H') : MdlAt Z H' m z sz G la L n := by
  obtain ⟨⟨td, rl, ras, kvs, e1, e2, e3, e4, e5, e6, e7, g1, g2, g3, e8⟩, es, g0, lv⟩ := M
  refine ⟨⟨td, rl, ras, kvs, k _ _ g0 e1, k _ _ g1 e2, k _ _ g2 e3, paired_memP e4 fun a l ma x => k _ _ (g3 a ma) x, e5, e6, e7, g1, g2, g3, e8⟩, tk.tup es, g0, fun b s => ?_⟩
  cases e : H b with
  | none => exact absurd e (lv b s)
  | some o => rw [k b o s e]; exact fun z => nomatch z
theorem MdlAt.same (M : MdlAt Z H m z sz G la L n) (s : Same H H') : MdlAt Z H' m z sz G la L n := M.keep (fun b o _ e => s b o e) (TK.of_same s)
theorem rd_ixK {K : PySem.W.Frag} {a : Addr} {kvs : List (Key × V)} {k : Key} {v : V} (h : H a = some (.dK kvs)) (e : valV kvs k = some v) (q : Q v H) : rIxU K (.ref a) (kV k) H Q := .inr (.inr (.inr ⟨a, v, rfl, by rw [← e]; exact DGet.k h, q⟩))
theorem rm_shape (M : MdlAt Z H m z sz G la L n) (q : Q (.ref z) H) : rIxU Z.K (.ref m) (.str "shape") H Q := let ⟨_, _, _, _, e, _⟩ := M.ex; rd_ixK (k := .inr "shape") e (md_shape _ _ _ _) q
end
theorem holderL_some {L : List LetS} {ho t : Int} : holderL L ho t ≠ .non ↔ ∃ l ∈ L, l.has ho t = true := by
  unfold holderL
  cases e : L.find? fun l => l.has ho t with
  | none =>
    have h1 := List.find?_eq_none.mp e
    constructor
    · intro h; exact absurd rfl h
    · rintro ⟨l, hl, z⟩; exact absurd z (h1 l hl)
  | some l => exact ⟨fun _ => ⟨l, List.mem_of_find?_eq_some e, List.find?_some (p := fun l : LetS => l.has ho t) e⟩, fun _ z => nomatch z⟩
theorem has_iff {l : LetS} {ho t : Int} : l.has ho t = true ↔ l.ho = ho ∧ l.b ≤ t ∧ t < l.e := by
  unfold LetS.has
  simp
theorem clash_holder {L : List LetS} {x f s : Int} : clash L x f (f + s) = true ↔ ∃ t, f ≤ t ∧ t < f + s ∧ holderL L x t ≠ .non := by
  rw [clash_iff]
  constructor
  · rintro ⟨l, hl, e, z⟩
    exact ⟨max f l.b, by omega, by omega, holderL_some.mpr ⟨l, hl, has_iff.mpr ⟨e, by omega, by omega⟩⟩⟩
  · rintro ⟨t, h1, h2, z⟩
    obtain ⟨l, hl, w⟩ := holderL_some.mp z
    obtain ⟨w1, w2, w3⟩ := has_iff.mp w
    exact ⟨l, hl, w1, by omega⟩
/-- a stretch of a house that fits, and is free -/
def freeB (L : List LetS) (M x f s : Int) : Bool := decide (f + s ≤ M) && !clash L x f (f + s)
def sp__law_free (Z : Zn) : Sp := fun vs H Q _ => ∃ m z sz G la L n x f s, vs = [.ref m, .int x, .int f, .int s] ∧ MdlAt Z H m z sz G la L n ∧ 0 ≤ f ∧ 1 ≤ s ∧ sz.1 ≤ 1000 ∧ ∀ H', Same H H' → Q (.bl (freeB L sz.1 x f s)) H'
theorem ints_dp {K : PySem.W.Frag} {H : Hp} : ∀ ns : List Int, DpAll K H (ns.map V.int) (ns.map PyData.int)
  | [] => .nil
  | _ :: ns => .cons (.int _) (ints_dp ns)
theorem ints_can : ∀ ns : List Int, PyData.canLayAll0 (ns.map PyData.int) = true ∧ PyData.depthAll (ns.map PyData.int) ≤ 1
  | [] => ⟨rfl, by simp [PyData.depthAll]⟩
  | n :: ns => by
    obtain ⟨h1, h2⟩ := ints_can ns
    constructor
    · simp [PyData.canLayAll0, PyData.canLay0, h1]
    · rw [List.map_cons, PyData.depthAll]
      have : PyData.depth (.int n) ≤ 1 := by simp [PyData.depth]
      omega
theorem ints_shaped (ns : List Int) : SeqAt.shaped (.list (ns.map PyData.int)) = true := by
  unfold SeqAt.shaped
  rw [show PyData.canLay0 (.list (ns.map PyData.int)) = PyData.canLayAll0 (ns.map PyData.int) from rfl, (ints_can ns).1, decide_eq_true (show PyData.depth (.list (ns.map PyData.int)) ≤ 64 by rw [PyData.depth]; have := (ints_can ns).2; omega)]
  rfl
theorem w__law_free {Z : Zn} (T : Tx Z) : BodyOk Z N__law_free "_law_free" s__law_free (He.fAd Z.K ("_law_free", none)) 0 (sp__law_free Z) := by
  intro cdv A outer s H vs Q E hr hu tk hx hp h
  have sc := sc__law_free
  refine ⟨_, (pss_cons (ps_if (pt_cmpR op_gtU (pe_op op_addU (pv 2) (pv 3)) (pe_ix (ix_U hu) (pe_ix (ix_U hu) (pv 0) pe_str (fun _ _ => rfl)) pe_int (fun _ _ => rfl)) (nomark _))
    (pss_one (ps_ret pe_bl))
    pss_nil)
    (pss_one (ps_ret (pe_cmpR (op_eqU hr.units) (pe_lc (own := [("moment", 4)]) (g := (gName 4)) (tt := _) rfl sc.nd (pi_range2 (by rfl) (n_range T) (pa_cons (pv 2) (pa_cons (pe_op op_addU (pv 2) (pv 3)) pa_nil))) (blkOk_by (N := N__law_free) (sc := defScope s__law_free) (by decide +kernel)) (fun _ _ _ _ _ => (pg_name (i := 4) sc.nd rfl (by first | exact Or.inl rfl | exact Or.inr rfl))) (fun _ _ _ _ _ => (pts_one (pt_cmpR op_notN2 (pe_dget1 (by exact hu) (pe_ix (ix_K (K := Z.K) rfl (by exact hu)) (pv 0) pe_str (fun _ _ => rfl)) (pe_tup (pa_cons (pv 1) (pa_cons (pv 4) pa_nil))) ⟨rfl, rfl, rfl, rfl⟩) pe_non (nomark _)))) (fun _ _ _ _ _ => (pv 4))) (pe_lst pa_nil) (nomark _))))), ?_⟩
  obtain ⟨m, z, sz, G, la, L, n, x, f, s1, rfl, M, hf, hs, hM, q⟩ := h
  have q' : ∀ b, b = freeB L sz.1 x f s1 → ∀ H', Same H H' → Q (.bl b) H' := fun b e => by rw [e]; exact q
  walk_at "rd"
  refine rm_shape M ?_
  walk_at "rd"
  refine rd_ixT (st_of M.sz) (v := .int sz.1) rfl ?_
  walk_at "rd"
  by_cases h1 : sz.1 < f + s1
  · rw [decide_eq_true h1]
    walk_at "rd"
    refine q' _ ?_ _ (Same.refl _)
    unfold freeB
    rw [decide_eq_false (by omega), Bool.false_and]
  rw [decide_eq_false h1]
  walk_at "rd"
  obtain ⟨td, rl, ras, kvs, e1, e2, e3, e4, e5, e6, e7, g1, g2, g3, e8⟩ := M.ex
  refine ⟨f, f + s1, rfl, by omega, fun D hD => lc_it (walk_range (lo := f) (n := (f + s1 - f).toNat)) (fun i H5 => ∃ ns : List Int, Same H H5 ∧ H5 D = some (.lst (ns.map V.int)) ∧ ns.length ≤ i ∧ (ns.isEmpty = true ↔ ∀ j : Nat, j < i → holderL L x (f + j) = .non)) ?_ (fun _ _ _ _ => trivial) ?_ ?_⟩
  · exact ⟨[], Same.new hD, upd_same, Nat.le_refl _, ⟨fun _ j hj => absurd hj (Nat.not_lt_zero _), fun _ => rfl⟩⟩
  · rintro i y H5 H6 hi ⟨ns, s5, hD5, hl, hns⟩ ⟨rfl, rfl⟩
    walk_at "rd"
    refine ⟨rfl, ?_⟩
    walk_at "rd"
    refine rd_ixK (k := .inr "table") (s5 _ _ e1) (md_table _ _ _ _) ?_
    refine rd_isdT (s5 _ _ e2) ?_
    walk_at "rd"
    intro t ht
    have s6 : Same H6 (upd H6 t (.tup [.int x, .int (f + i)])) := Same.new ht
    have ht6 : (upd H6 t (.tup [.int x, .int (f + i)])) t = some (.tup (([.inl x, .inl (f + i)] : List Key).map kV)) := upd_same
    generalize upd H6 t (.tup [.int x, .int (f + i)]) = H7 at s6 ht6
    refine ⟨_, DGet.t ((s5.trans s6) _ _ e2) ht6, ?_⟩
    rw [e5]
    walk_at "rd"
    by_cases hh : holderL L x (f + i) = .non
    · rw [decide_eq_true hh]
      walk_at "rd"
      refine ⟨ns, s5.trans s6, s6 _ _ hD5, Nat.le_succ_of_le hl, hns.trans ⟨fun w j hj => ?_, fun w j hj => w j (Nat.lt_succ_of_lt hj)⟩⟩
      rcases Nat.lt_succ_iff_lt_or_eq.mp hj with hj | hj
      · exact w j hj
      · rw [hj]; exact hh
    · rw [decide_eq_false hh]
      walk_at "rd"
      refine ⟨_, s6 _ _ hD5, lt_size (by rw [List.length_map]; omega), ns ++ [f + i], (s5.trans s6).upd' hD, by rw [upd_same, List.map_append]; rfl, by rw [List.length_append]; simp; omega, ?_⟩
      constructor
      · intro w; cases ns <;> cases w
      · intro w; exact absurd (w i (Nat.lt_succ_self _)) hh
  · rintro H5 ⟨ns, s5, hD5, hl, hns⟩
    walk_at "rd"
    intro e he
    have s6 : Same H5 (upd H5 e (.lst [])) := Same.new he
    refine rd_eqD (.lst (sq_of (s6 _ _ hD5)) (ints_dp ns)) (.lst (sq_of upd_same) .nil) (ints_shaped ns) rfl ?_
    rw [eqv_nil]
    refine q' _ ?_ _ (s5.trans s6)
    unfold freeB
    rw [decide_eq_true (by omega), Bool.true_and]
    have e9 : (ns.map PyData.int).isEmpty = ns.isEmpty := by cases ns <;> rfl
    rw [e9, Bool.eq_iff_iff, hns]
    cases hc : clash L x f (f + s1) with
    | false =>
      refine ⟨fun _ => rfl, fun _ j hj => ?_⟩
      by_cases hh : holderL L x (f + j) = .non
      · exact hh
      · have := (clash_holder (L := L) (x := x) (f := f) (s := s1)).mpr ⟨f + j, by omega, by omega, hh⟩
        rw [hc] at this
        cases this
    | true =>
      refine ⟨fun w => ?_, fun w => by cases w⟩
      obtain ⟨t, h3, h4, h5⟩ := clash_holder.mp hc
      have := w (t - f).toNat (by omega)
      rw [show f + (((t - f).toNat : Nat) : Int) = t by omega] at this
      exact absurd this h5
theorem ok__law_free {Z : Zn} (T : Tx Z) : GF Z "_law_free" 1 ["m", "house", "first", "span"] [] (sp__law_free Z) := GF.of (T.df 23) (T.glo 23) b__law_free sc__law_free (by walk_at "len") (w__law_free T)


/-! ## _law_let -/
def N__law_let : List Str := ["m", "holder", "house", "moment", "span", "begin", "some", "one", "first", "here"]
theorem sc__law_let : FnScope N__law_let ["m", "holder", "house", "moment", "span"] (defScope s__law_let) := ⟨rfl, rfl, rfl, by decide +kernel, rfl, by decide +kernel, by decide +kernel⟩
theorem b__law_let : BindsBy "_law_let" "_law_let" s__law_let ["m", "holder", "house", "moment", "span"] := fun _ _ _ _ _ _ us hl => match us, hl with | [_, _, _, _, _], _ => rfl
theorem filter_head {α : Type} {p : α → Bool} : ∀ {xs : List α} {i : Nat} {x : α}, xs[i]? = some x → p x = true → (∀ j y, j < i → xs[j]? = some y → p y = false) → ∃ t, xs.filter p = x :: t
  | [], _, _, h, _, _ => by simp at h
  | y :: ys, 0, x, h, hp, _ => by
    have e : y = x := Option.some.inj h
    subst e
    exact ⟨ys.filter p, List.filter_cons_of_pos hp⟩
  | y :: ys, i + 1, x, h, hp, hno => by
    have h0 : p y = false := hno 0 y (Nat.succ_pos _) rfl
    rw [List.filter_cons_of_neg (by rw [h0]; exact Bool.false_ne_true)]
    exact filter_head (i := i) (by simpa using h) hp fun j z hj hz => hno (j + 1) z (Nat.succ_lt_succ hj) (by simpa using hz)
/-- where the stretch may go, in the law's order -/
def cands (hou : Option Int) (M h f : Int) : List (Int × Int) := match hou with
  | some x => (List.range (M - f).toNat).map fun i : Nat => (x, f + (i : Int))
  | none => (List.range h.toNat).map fun i : Nat => ((i : Int), f)
theorem fit_head {L : List LetS} {M h f s a b : Int} {hou : Option Int} (hs : 1 ≤ s) (fit : Fit L M h (optV hou) f s a b) : ∃ t, (cands hou M h f).filter (fun q => freeB L M q.1 q.2 s) = (a, b) :: t := by
  rcases fit with ⟨e, rfl, h1, h2, h3, h4, h5⟩ | ⟨x, e, rfl, h1, h2, h3, h4⟩
  · cases hou with
    | some x => cases e
    | none =>
      refine filter_head (i := a.toNat) ?_ ?_ fun j y hj hy => ?_
      · unfold cands
        rw [List.getElem?_map, List.getElem?_range (by omega)]
        show some ((((a.toNat : Nat) : Int)), b) = some (a, b)
        rw [show ((a.toNat : Nat) : Int) = a by omega]
      · show freeB L M a b s = true
        unfold freeB
        rw [decide_eq_true h5, h3]
        rfl
      · unfold cands at hy
        rw [List.getElem?_map, List.getElem?_range (by omega)] at hy
        cases Option.some.inj hy
        show freeB L M ((j : Nat) : Int) b s = false
        unfold freeB
        rw [h4 j (by omega) (by omega)]
        simp
  · cases hou with
    | none => cases e
    | some y =>
      cases V.int.inj e
      refine filter_head (i := (b - f).toNat) ?_ ?_ fun j y hj hy => ?_
      · unfold cands
        rw [List.getElem?_map, List.getElem?_range (by omega)]
        show some (a, f + (((b - f).toNat : Nat) : Int)) = some (a, b)
        rw [show f + (((b - f).toNat : Nat) : Int) = b by omega]
      · show freeB L M a b s = true
        unfold freeB
        rw [decide_eq_true h4, h2]
        rfl
      · unfold cands at hy
        rw [List.getElem?_map, List.getElem?_range (by omega)] at hy
        cases Option.some.inj hy
        show freeB L M a (f + ((j : Nat) : Int)) s = false
        unfold freeB
        rw [h3 (f + j) (by omega) (by omega)]
        simp
theorem nofit_nil {L : List LetS} {M h f s : Int} {hou : Option Int} (nf : NoFit L M h (optV hou) f s) : (cands hou M h f).filter (fun q => freeB L M q.1 q.2 s) = [] := by
  rw [List.filter_eq_nil_iff]
  intro q hq z
  unfold freeB at z
  obtain ⟨z1, z2⟩ := Bool.and_eq_true_iff.mp z
  have z1 := of_decide_eq_true z1
  rcases nf with ⟨e, nf⟩ | ⟨x, e, nf⟩
  · cases hou with
    | some x => cases e
    | none =>
      obtain ⟨i, hi, rfl⟩ := List.mem_map.mp hq
      have hi := List.mem_range.mp hi
      rcases nf with nf | nf
      · have : f + s ≤ M := z1
        omega
      · have := nf i (by omega) (by omega)
        have z3 : (!clash L (i : Int) f (f + s)) = true := z2
        rw [this] at z3
        cases z3
  · cases hou with
    | none => cases e
    | some y =>
      cases V.int.inj e
      obtain ⟨i, hi, rfl⟩ := List.mem_map.mp hq
      have z3 : (!clash L x (f + (i : Int)) (f + (i : Int) + s)) = true := z2
      rw [nf (f + i) (by omega) z1] at z3
      cases z3
theorem holderL_snoc {L : List LetS} {n : LetS} {ho t : Int} : holderL (L ++ [n]) ho t = if holderL L ho t = .non then (if n.has ho t = true then .str n.h else .non) else holderL L ho t := by
  unfold holderL
  rw [List.find?_append]
  cases e : L.find? fun l => l.has ho t with
  | none =>
    rw [if_pos rfl, List.find?_cons]
    cases w : n.has ho t <;> rfl
  | some l =>
    rw [if_neg (fun z => nomatch z)]
    rfl
theorem tab_snoc {L : List LetS} {kvs : List (List Key × V)} {hol : Str} {a b s : Int} (hc : clash L a b (b + s) = false) (tb : ∀ ho t : Int, (valV kvs ([.inl ho, .inl t] : List Key)).getD .non = if ho = a ∧ b ≤ t ∧ t < b + s then .str hol else holderL L ho t) :
    TabOk kvs (L ++ [⟨hol, a, b, b + s, b + s, false⟩]) := by
  intro ho t
  rw [tb, holderL_snoc]
  by_cases e : ho = a ∧ b ≤ t ∧ t < b + s
  · rw [if_pos e]
    have h0 : holderL L ho t = .non := by
      by_cases w : holderL L ho t = .non
      · exact w
      · have := (clash_holder (L := L) (x := a) (f := b) (s := s)).mpr ⟨t, e.2.1, e.2.2, by rw [← e.1]; exact w⟩
        rw [hc] at this
        cases this
    rw [if_pos h0, if_pos (has_iff.mpr ⟨e.1.symm, e.2⟩)]
  · rw [if_neg e]
    by_cases w : holderL L ho t = .non
    · rw [if_pos w, if_neg (fun z => e (by have := has_iff.mp z; exact ⟨this.1.symm, this.2⟩)), w]
    · rw [if_neg w]
theorem step_let {L L' : List LetS} {M h mo s : Int} {hol : Str} {hou : Option Int} {out : PyData} (st : Step L M h (.lt hol hou mo s) out L') :
    (holdB (.str hol) = false → out = outK "holder" ∧ L' = L) ∧ (holdB (.str hol) = true → ∀ x, hou = some x → ¬ (0 ≤ x ∧ x < h) → out = outK "name" ∧ L' = L) ∧ (holdB (.str hol) = true → (∀ x, hou = some x → 0 ≤ x ∧ x < h) → s < 1 → out = outK "time" ∧ L' = L) ∧
    (holdB (.str hol) = true → (∀ x, hou = some x → 0 ≤ x ∧ x < h) → 1 ≤ s → (NoFit L M h (optV hou) (max 0 mo) s ∧ out = outK "ended" ∧ L' = L) ∨ ∃ a b, Fit L M h (optV hou) (max 0 mo) s a b ∧ out = outT a b (b + s) ∧ L' = L ++ [⟨hol, a, b, b + s, b + s, false⟩]) := by
  cases st with
  | holder h1 => exact ⟨fun _ => ⟨rfl, rfl⟩, fun z => (by rw [h1] at z; cases z), fun z => (by rw [h1] at z; cases z), fun z => (by rw [h1] at z; cases z)⟩
  | name h1 h2 h3 => exact ⟨fun z => (by rw [h1] at z; cases z), fun _ _ _ _ => ⟨rfl, rfl⟩, fun _ z => absurd (z _ h2) h3, fun _ z => absurd (z _ h2) h3⟩
  | time h1 h2 h3 => exact ⟨fun z => (by rw [h1] at z; cases z), fun _ x e z => absurd (h2 x e) z, fun _ _ _ => ⟨rfl, rfl⟩, fun _ _ z => by omega⟩
  | told h1 h2 h3 h4 => exact ⟨fun z => (by rw [h1] at z; cases z), fun _ x e z => absurd (h2 x e) z, fun _ _ z => by omega, fun _ _ _ => .inr ⟨_, _, h4, rfl, rfl⟩⟩
  | ended h1 h2 h3 h4 => exact ⟨fun z => (by rw [h1] at z; cases z), fun _ x e z => absurd (h2 x e) z, fun _ _ z => by omega, fun _ _ _ => .inl ⟨h4, rfl, rfl⟩⟩
theorem pairs_shaped {K : PySem.W.Frag} {H : Hp} : ∀ {ws : List V} {P : List (Int × Int)}, Tps H ws (P.map pr2) → DpAll K H ws (P.map fun q => .tuple [.int q.1, .int q.2])
  | [], [], _ => .nil
  | [], _ :: _, h => by cases h
  | _ :: _, [], h => by cases h
  | _ :: _, q :: P, h => by
    cases h with
    | cons r t =>
      obtain ⟨a, rfl, e⟩ := r
      exact .cons (.tup (st_of e) (.cons (.int _) (.cons (.int _) .nil))) (pairs_shaped t)
theorem pairs_can : ∀ P : List (Int × Int), PyData.canLayAll0 (P.map fun q => PyData.tuple [.int q.1, .int q.2]) = true ∧ PyData.depthAll (P.map fun q => PyData.tuple [.int q.1, .int q.2]) ≤ 2
  | [] => ⟨rfl, by simp [PyData.depthAll]⟩
  | q :: P => by
    obtain ⟨h1, h2⟩ := pairs_can P
    constructor
    · simp [PyData.canLayAll0, PyData.canLay0, h1]
    · rw [List.map_cons, PyData.depthAll]
      have : PyData.depth (.tuple [.int q.1, .int q.2]) ≤ 2 := by simp [PyData.depth, PyData.depthAll]
      omega
theorem list_shaped {ds : List PyData} (h1 : PyData.canLayAll0 ds = true) (h2 : PyData.depthAll ds ≤ 60) : SeqAt.shaped (.list ds) = true := by
  unfold SeqAt.shaped
  rw [show PyData.canLay0 (.list ds) = PyData.canLayAll0 ds from rfl, h1, decide_eq_true (show PyData.depth (.list ds) ≤ 64 by rw [PyData.depth]; omega)]
  rfl
def sp__law_let (Z : Zn) : Sp := fun vs H Q _ => ∃ m z sz G la L n hol hou mo s out L', vs = [.ref m, .str hol, optV hou, .int mo, .int s] ∧ MdlAt Z H m z sz G la L n ∧ GoodL L sz.1 sz.2.1 ∧ 1 ≤ sz.1 ∧ 1 ≤ sz.2.1 ∧ sz.1 ≤ 1000 ∧ sz.2.1 ≤ 1000 ∧ L.length < 100000 ∧ n ≤ 900000 ∧
  holdB (.str hol) = (!decide (hol = "") && Txt.isalpha hol) ∧ -10000 ≤ mo ∧ mo ≤ 10000 ∧ s ≤ 10000 ∧ Step L sz.1 sz.2.1 (.lt hol hou mo s) out L' ∧
  ∀ (H' : Hp) (G' : Addr → Prop) (r : Addr), Ext G G' H H' → MdlAt Z H' m z sz G' la L' (n + 1000) → Dp Z.K H' (.ref r) out → H r = none → Q (.ref r) H'
theorem w__law_let {Z : Zn} (T : Tx Z) : BodyOk Z N__law_let "_law_let" s__law_let (He.fAd Z.K ("_law_let", none)) 1 (sp__law_let Z) := by
  intro cdv A outer s H vs Q E hr hu tk hx hp h
  have sc := sc__law_let
  refine ⟨_, (pss_cons (ps_if (PW.pt (pw_or (pt_cmpR (op_eqU hr.units) (pv 1) pe_str (nomark _)) (pw_or1 (pt_not (pt_val (L2.pe_m0 PySem.F.slot_str_isalpha PySem.F.type_str_isalpha mt_isalpha (pv 1)))))))
    (pss_one (ps_ret (pe_tup (pa_cons pe_str (pa_cons pe_non pa_nil)))))
    pss_nil)
    (pss_cons (ps_if (PW.pt (pw_and (pt_cmpR op_notN2 (pv 2) pe_non (nomark _)) (pw_and1 (pt_not (pt_chain op_leU op_ltU pe_int (pv 2) (pe_ix (ix_U hu) (pe_ix (ix_U hu) (pv 0) pe_str (fun _ _ => rfl)) pe_int (fun _ _ => rfl)))))))
    (pss_one (ps_ret (pe_tup (pa_cons pe_str (pa_cons pe_non pa_nil)))))
    pss_nil)
    (pss_cons (ps_if (pt_cmpR op_ltU (pv 4) pe_int (nomark _))
    (pss_one (ps_ret (pe_tup (pa_cons pe_str (pa_cons pe_non pa_nil)))))
    pss_nil)
    (pss_cons (ps_set (i := 5) sc.nd rfl (by first | exact Or.inl rfl | exact Or.inr rfl) (pe_callB (cb_max2 rfl) (by rfl) (n_max T) bt_max (pa_cons pe_int (pa_cons (pv 3) pa_nil))))
    (pss_cons (ps_setLc (i := 6) (own := [("first", 8)]) (g := (gName 8)) (tt := tYes) rfl sc.nd rfl rfl (sw_true rfl rfl rfl (by decide +kernel)) (pi_range2 (by rfl) (n_range T) (pa_cons (pv 5) (pa_cons (pe_ix (ix_U hu) (pe_ix (ix_U hu) (pv 0) pe_str (fun _ _ => rfl)) pe_int (fun _ _ => rfl)) pa_nil))) (blkOk_by (N := N__law_let) (sc := defScope s__law_let) (by decide +kernel)) (fun _ _ _ _ _ => (pg_name (i := 8) sc.nd rfl (by first | exact Or.inl rfl | exact Or.inr rfl))) (fun _ _ _ _ _ => pts_nil) (fun _ _ _ _ _ => (pe_tup (pa_cons (pv 2) (pa_cons (pv 8) pa_nil)))))
    (pss_cons (ps_if (pt_cmpR op_isN2 (pv 2) pe_non (nomark _))
    (pss_one (ps_setLc (i := 6) (own := [("one", 7)]) (g := (gName 7)) (tt := tYes) rfl sc.nd rfl rfl (sw_true rfl rfl rfl (by decide +kernel)) (pi_range1 (by rfl) (n_range T) (pa_cons (pe_ix (ix_U hu) (pe_ix (ix_U hu) (pv 0) pe_str (fun _ _ => rfl)) pe_int (fun _ _ => rfl)) pa_nil)) (blkOk_by (N := N__law_let) (sc := defScope s__law_let) (by decide +kernel)) (fun _ _ _ _ _ => (pg_name (i := 7) sc.nd rfl (by first | exact Or.inl rfl | exact Or.inr rfl))) (fun _ _ _ _ _ => pts_nil) (fun _ _ _ _ _ => (pe_tup (pa_cons (pv 7) (pa_cons (pv 5) pa_nil))))))
    pss_nil)
    (pss_cons (ps_setLc (i := 6) (own := [("one", 7)]) (g := (gName 7)) (tt := _) rfl sc.nd rfl rfl (sw_true rfl rfl rfl (by decide +kernel)) (pi_list (pv 6)) (blkOk_by (N := N__law_let) (sc := defScope s__law_let) (by decide +kernel)) (fun _ _ _ _ _ => (pg_name (i := 7) sc.nd rfl (by first | exact Or.inl rfl | exact Or.inr rfl))) (fun _ _ _ _ _ => (pts_one (pt_val (pe_g (ok__law_free T) (by exact hr.mono (by decide)) (by rfl) passL (pa_cons (pv 0) (pa_cons (pe_ix (ix_K (K := Z.K) rfl (by exact hu)) (pv 7) pe_int (fun _ _ => rfl)) (pa_cons (pe_ix (ix_K (K := Z.K) rfl (by exact hu)) (pv 7) pe_int (fun _ _ => rfl)) (pa_cons (pv 4) pa_nil)))))))) (fun _ _ _ _ _ => (pv 7)))
    (pss_cons (ps_if (pt_cmpR (op_eqU hr.units) (pv 6) (pe_lst pa_nil) (nomark _))
    (pss_one (ps_ret (pe_tup (pa_cons pe_str (pa_cons pe_non pa_nil)))))
    pss_nil)
    (pss_cons (ps_asg (pe_ix (ix_U hu) (pv 6) pe_int (fun _ _ => rfl)) (pg_tup (by rfl) (pgs_cons (pg_name (i := 7) sc.nd rfl (by first | exact Or.inl rfl | exact Or.inr rfl)) (pgs_cons (pg_name (i := 8) sc.nd rfl (by first | exact Or.inl rfl | exact Or.inr rfl)) pgs_nil))))
    (pss_cons (ps_for hp rfl (pi_range2 (by rfl) (n_range T) (pa_cons (pv 8) (pa_cons (pe_op op_addU (pv 8) (pv 4)) pa_nil))) (pg_name (i := 9) sc.nd rfl (by first | exact Or.inl rfl | exact Or.inr rfl))
    (pss_one (ps_asg (pv 1) (pg_sub (pe_ix (ix_U hu) (pv 0) pe_str (fun _ _ => rfl)) (pe_tup (pa_cons (pv 7) (pa_cons (pv 9) pa_nil))) (set_U hu)))))
    (pss_cons (ps_expr (pe_bm PySem.F.plainAttrs_list PySem.F.slot_list_append PySem.F.type_list_append mt_append (pe_ix (ix_U hu) (pv 0) pe_str (fun _ _ => rfl)) (pa_cons (pe_lst (pa_cons (pv 1) (pa_cons (pv 7) (pa_cons (pv 8) (pa_cons (pe_op op_addU (pv 8) (pv 4)) (pa_cons (pe_op op_addU (pv 8) (pv 4)) (pa_cons pe_bl pa_nil))))))) pa_nil)))
    (pss_one (ps_ret (pe_tup (pa_cons pe_str (pa_cons (pe_tup (pa_cons (pv 7) (pa_cons (pv 8) (pa_cons (pe_op op_addU (pv 8) (pv 4)) pa_nil)))) pa_nil)))))))))))))))), ?_⟩
  obtain ⟨m, z, sz, G, la, L, n, hol, hou, mo, s1, out, L', rfl, M, GL, b8, b9, b1, b2, b3, b4, hh, b5, b6, b7, st, q⟩ := h
  obtain ⟨st1, st2, st3, st4⟩ := step_let st
  have none0 : ∀ {H' : Hp} {r : Addr}, Same H H' → H' r = none → H r = none := fun {H' r} s e => by
    cases x : H r with
    | none => rfl
    | some o => rw [s _ _ x] at e; cases e
  have leaf : ∀ (nm : Str) (H1 : Hp), Same H H1 → out = outK nm → L' = L → ∀ r, H1 r = none → Q (.ref r) (upd H1 r (.tup [.str nm, .non])) := by
    rintro nm H1 sm e1 e2 r hr
    have s2 : Same H1 (upd H1 r (.tup [.str nm, .non])) := Same.new hr
    refine q _ G r (Ext.same (sm.trans s2)) ?_ ?_ (none0 sm hr)
    · rw [e2]
      have M2 := M.same (sm.trans s2)
      obtain ⟨⟨td, rl, ras, kvs, x1, x2, x3, x4, x5, x6, x7⟩, y1, y2, y3⟩ := M2
      exact ⟨⟨td, rl, ras, kvs, x1, x2, x3, x4, x5, by omega, x7⟩, y1, y2, y3⟩
    · rw [e1]
      exact .tup (st_of upd_same) (.cons (.str _) (.cons .non .nil))
  walk_at "rs"
  refine rd_ifG (fun H2 => H2 = H ∧ holdB (.str hol) = true) ?_ ?_
  case refine_2 =>
    intro R hR
    walk_at "rd"
    by_cases he : hol = ""
    · rw [decide_eq_true (show V.str hol = V.str "" by rw [he])]
      walk_at "rd"
      refine leaf "holder" H (Same.refl _) ?_ ?_
      · exact (st1 (by rw [hh, decide_eq_true he]; rfl)).1
      · exact (st1 (by rw [hh, decide_eq_true he]; rfl)).2
    · rw [decide_eq_false (show ¬ V.str hol = V.str "" from fun w => he (V.str.inj w))]
      walk_at "rd"
      refine ⟨⟨_, rfl⟩, hol, rfl, rfl, trivial, ?_⟩
      walk_at "rd"
      cases ha : Txt.isalpha hol with
      | false =>
        walk_at "rd"
        have e0 : holdB (.str hol) = false := by rw [hh, ha, Bool.and_false]
        exact leaf "holder" H (Same.refl _) (st1 e0).1 (st1 e0).2
      | true =>
        walk_at "rd"
        exact hR _ ⟨rfl, by rw [hh, ha, decide_eq_false he]; rfl⟩
  rintro H ⟨rfl, hok⟩
  walk_at "rs"
  refine rd_ifG (fun H2 => H2 = H ∧ ∀ x, hou = some x → 0 ≤ x ∧ x < sz.2.1) ?_ ?_
  case refine_2 =>
    intro R hR
    walk_at "rd"
    cases hou with
    | none =>
      walk_at "rd"
      exact hR _ ⟨rfl, fun x e => by cases e⟩
    | some x =>
      rw [decide_eq_false (show ¬ optV (some x) = V.non from fun w => nomatch w)]
      have ex : optV (some x) = V.int x := rfl
      walk_at "rd"
      rw [ex]
      walk_at "rd"
      by_cases h1 : 0 ≤ x
      case neg =>
        rw [decide_eq_false h1]
        walk_at "rd"
        exact leaf "name" H (Same.refl _) (st2 hok x rfl fun w => h1 w.1).1 (st2 hok x rfl fun w => h1 w.1).2
      rw [decide_eq_true h1]
      walk_at "rd"
      refine rm_shape M ?_
      walk_at "rd"
      refine rd_ixT (st_of M.sz) (v := .int sz.2.1) rfl ?_
      walk_at "rd"
      by_cases h2 : x < sz.2.1
      case neg =>
        rw [decide_eq_false h2]
        walk_at "rd"
        exact leaf "name" H (Same.refl _) (st2 hok x rfl fun w => h2 w.2).1 (st2 hok x rfl fun w => h2 w.2).2
      rw [decide_eq_true h2]
      walk_at "rd"
      exact hR _ ⟨rfl, fun y e => by cases e; exact ⟨h1, h2⟩⟩
  rintro H ⟨rfl, hq⟩
  walk_at "rd"
  by_cases hs : s1 < 1
  · rw [decide_eq_true hs]
    walk_at "rd"
    exact leaf "time" H (Same.refl _) (st3 hok hq hs).1 (st3 hok hq hs).2
  rw [decide_eq_false hs]
  have hs1 : 1 ≤ s1 := by omega
  have st5 := st4 hok hq hs1
  walk_at "rs"
  have emax : (if mo > 0 then mo else 0) = max 0 mo := by split <;> omega
  rw [emax]
  refine rm_shape M ?_
  walk_at "rs"
  refine rd_ixT (st_of M.sz) (v := .int sz.1) rfl ?_
  walk_at "rs"
  have hf0 : 0 ≤ max 0 mo := by omega
  -- the first list: the given house at every moment
  refine ⟨max 0 mo, sz.1, rfl, by omega, fun D hD => lc_it (walk_range (lo := max 0 mo) (n := (sz.1 - max 0 mo).toNat)) (fun i H5 => ∃ ws, Same H H5 ∧ H5 D = some (.lst ws) ∧ Tps H5 ws ((List.range i).map fun j : Nat => [optV hou, .int (max 0 mo + (j : Int))])) ?_ (fun _ _ _ _ => trivial) ?_ ?_⟩
  · exact ⟨[], Same.new hD, upd_same, .nil⟩
  · rintro i y H5 H6 hi ⟨ws, s5, hD5, tp⟩ ⟨rfl, rfl⟩
    walk_at "rd"
    refine ⟨rfl, ?_⟩
    walk_at "rd"
    intro t ht
    have s6 : Same H6 (upd H6 t (.tup [optV hou, .int (max 0 mo + (i : Int))])) := Same.new ht
    have wl : ws.length = i := by rw [tp.len, List.length_map, List.length_range]
    refine ⟨ws, s6 _ _ hD5, lt_size (by omega), _, (s5.trans s6).upd' hD, upd_same, ?_⟩
    rw [List.range_succ, List.map_append]
    refine (((tp.same s6).tk (TK.lst (TK.refl _) (s6 _ _ hD5)))).snoc ?_
    rw [upd_ne (ne_of_none hD5 ht).symm]
    exact upd_same
  · rintro H5 ⟨ws, s5, hD5, tp⟩
    walk_at "rs"
    refine rd_ifJ (fun σ2 H2 => ∃ D2 ws2 y7 y8, Same H H2 ∧ σ2 = [some (.ref m), some (.str hol), some (optV hou), some (.int mo), some (.int s1), some (.int (max 0 mo)), some (.ref D2), y7, y8, none] ∧ H2 D2 = some (.lst ws2) ∧ Tps H2 ws2 ((cands hou sz.1 sz.2.1 (max 0 mo)).map pr2)) ?_ ?_
    case refine_2 =>
      intro R hR
      walk_at "rd"
      cases hou with
      | some x =>
        rw [decide_eq_false (show ¬ optV (some x) = V.non from fun w => nomatch w)]
        walk_at "rd"
        refine hR _ _ ⟨D, ws, _, _, s5, rfl, hD5, ?_⟩
        unfold cands
        rw [List.map_map]
        exact tp
      | none =>
        walk_at "rd"
        refine rm_shape (M.same s5) ?_
        walk_at "rd"
        refine rd_ixT (st_of (M.same s5).sz) (v := .int sz.2.1) rfl ?_
        walk_at "rd"
        refine ⟨sz.2.1, rfl, by omega, by omega, fun D2 hD2 => lc_it (walk_range (lo := 0) (n := sz.2.1.toNat)) (fun i H6 => ∃ ws, Same H5 H6 ∧ H6 D2 = some (.lst ws) ∧ Tps H6 ws ((List.range i).map fun j : Nat => [V.int (j : Int), .int (max 0 mo)])) ?_ (fun _ _ _ _ => trivial) ?_ ?_⟩
        · exact ⟨[], Same.new hD2, upd_same, .nil⟩
        · rintro i y H6 H7 hi ⟨ws, s6, hD6, tp⟩ ⟨rfl, rfl⟩
          simp only [Int.zero_add]
          walk_at "rd"
          refine ⟨rfl, ?_⟩
          walk_at "rd"
          intro t ht
          have s7 : Same H7 (upd H7 t (.tup [.int (i : Int), .int (max 0 mo)])) := Same.new ht
          have wl : ws.length = i := by rw [tp.len, List.length_map, List.length_range]
          refine ⟨ws, s7 _ _ hD6, lt_size (by omega), _, (s6.trans s7).upd' hD2, upd_same, ?_⟩
          rw [List.range_succ, List.map_append]
          refine (((tp.same s7).tk (TK.lst (TK.refl _) (s7 _ _ hD6)))).snoc ?_
          rw [upd_ne (ne_of_none hD6 ht).symm]
          exact upd_same
        · rintro H6 ⟨ws2, s6, hD6, tp2⟩
          walk_at "rd"
          refine hR _ _ ⟨D2, ws2, _, _, s5.trans s6, rfl, hD6, ?_⟩
          unfold cands
          rw [List.map_map]
          exact tp2
    rintro σ2 H2 ⟨D2, ws2, y7, y8, s2, rfl, hD2, tp2⟩
    have cpos : ∀ q0 ∈ cands hou sz.1 sz.2.1 (max 0 mo), 0 ≤ q0.2 := fun q0 hq0 => by
      unfold cands at hq0
      cases hou with
      | none =>
        obtain ⟨j, _, rfl⟩ := List.mem_map.mp hq0
        exact hf0
      | some x =>
        obtain ⟨j, _, rfl⟩ := List.mem_map.mp hq0
        show 0 ≤ max 0 mo + (j : Int)
        omega
    have clen : (cands hou sz.1 sz.2.1 (max 0 mo)).length ≤ 1000 := by
      unfold cands
      cases hou with
      | none => rw [List.length_map, List.length_range]; omega
      | some x => rw [List.length_map, List.length_range]; omega
    generalize hP : cands hou sz.1 sz.2.1 (max 0 mo) = P at tp2 cpos clen
    have wl2 : ws2.length = P.length := by rw [tp2.len, List.length_map]
    walk_at "rs"
    refine ⟨D2, rfl, ⟨ws2, sq_of hD2⟩, fun D3 hD3 => lc_it (walk_list (K := Z.K) (a := D2) (xs := ws2)) (fun i H6 => ∃ ws, Same H2 H6 ∧ H6 D3 = some (.lst ws) ∧ Tps H6 ws (((P.take i).filter fun q0 => freeB L sz.1 q0.1 q0.2 s1).map pr2)) ?_ ?_ ?_ ?_⟩
    · exact ⟨[], Same.new hD3, upd_same, .nil⟩
    · rintro i H6 _ ⟨_, s6, _⟩
      exact sq_of (s6 _ _ hD2)
    · rintro i y H6 H7 hi ⟨ws, s6, hD6, tp⟩ ⟨rfl, hy⟩
      have hiP : i < P.length := by omega
      have hPi : P[i]? = some P[i] := List.getElem?_eq_getElem hiP
      obtain ⟨t, hyt, ht⟩ := tp2.at_ (i := i) (d := pr2 P[i]) (by rw [List.getElem?_map, hPi]; rfl)
      rw [hyt] at hy
      cases hy
      have ht7 := s6 _ _ ht
      have tk1 : P.take (i + 1) = P.take i ++ [P[i]] := by rw [List.take_add_one, hPi]; rfl
      have wl : ws.length ≤ 1000 := by
        rw [tp.len, List.length_map]
        have h3 := List.length_filter_le (fun q0 : Int × Int => freeB L sz.1 q0.1 q0.2 s1) (P.take i)
        rw [List.length_take] at h3
        omega
      walk_at "rd"
      refine ⟨rfl, ?_⟩
      walk_at "rd"
      refine rd_ixT (st_of ht7) (v := .int P[i].1) rfl ?_
      walk_at "rd"
      refine rd_ixT (st_of ht7) (v := .int P[i].2) rfl ?_
      walk_at "rd"
      refine ⟨m, z, sz, G, la, L, n, P[i].1, P[i].2, s1, rfl, M.same (s2.trans s6), cpos _ (List.getElem_mem _), hs1, b1, fun H8 s8 _ => ?_⟩
      walk_at "rd"
      cases hfb : freeB L sz.1 P[i].1 P[i].2 s1 with
      | false =>
        walk_at "rd"
        refine ⟨ws, s6.trans s8, s8 _ _ hD6, ?_⟩
        rw [tk1, List.filter_append, List.filter_cons_of_neg (by rw [hfb]; exact Bool.false_ne_true), List.filter_nil, List.append_nil]
        exact tp.same s8
      | true =>
        walk_at "rd"
        refine ⟨ws, s8 _ _ hD6, lt_size (by omega), _, (s6.trans s8).upd' hD3, upd_same, ?_⟩
        rw [tk1, List.filter_append, List.filter_cons_of_pos (by rw [hfb]), List.filter_nil, List.map_append]
        refine ((tp.same s8).tk (TK.lst (TK.refl _) (s8 _ _ hD6))).snoc ?_
        rw [upd_ne ?_]
        · exact s8 _ _ ht7
        · rintro rfl
          rw [ht7] at hD6
          cases hD6
    · rintro H6 ⟨ws, s6, hD6, tp⟩
      rw [List.take_of_length_le (by omega)] at tp
      have s06 := s2.trans s6
      walk_at "rd"
      intro e he
      have s7 : Same H6 (upd H6 e (.lst [])) := Same.new he
      have he7 : (upd H6 e (.lst [])) e = some (.lst []) := upd_same
      generalize upd H6 e (.lst []) = H7 at s7 he7
      have s07 := s06.trans s7
      have tp7 := tp.same s7
      have hD7 := s7 _ _ hD6
      have pc := pairs_can (P.filter fun q0 => freeB L sz.1 q0.1 q0.2 s1)
      refine rd_eqD (.lst (sq_of hD7) (pairs_shaped tp7)) (.lst (sq_of he7) .nil) (list_shaped pc.1 (by omega)) rfl ?_
      rw [eqv_nil]
      rcases st5 with ⟨nf, eo, el⟩ | ⟨a, b, fit, eo, el⟩
      · have en := nofit_nil nf
        rw [hP] at en
        rw [en]
        walk_at "rd"
        exact leaf "ended" _ s07 eo el
      · obtain ⟨tl, en⟩ := fit_head hs1 fit
        rw [hP] at en
        rw [en] at tp7 ⊢
        obtain ⟨t0, h0, ht0⟩ := tp7.at_ (i := 0) (d := pr2 (a, b)) rfl
        walk_at "rd"
        refine rd_ixL (sq_of hD7) (v := .ref t0) (atI_int (k := 0) (by decide) h0) ?_
        refine ⟨t0, _, rfl, st_of ht0, rfl, ?_⟩
        walk_at "rd"
        have hf : 0 ≤ b ∧ b + s1 ≤ sz.1 ∧ clash L a b (b + s1) = false := by
          rcases fit with ⟨_, rfl, _, _, f5, _, f6⟩ | ⟨x', _, rfl, f3, f4, _, f6⟩
          · exact ⟨by omega, f6, f5⟩
          · exact ⟨by omega, f6, f4⟩
        obtain ⟨hb0, hbm, hcl⟩ := hf
        obtain ⟨td, rl, ras, kvs, e1, e2, e3, e4, e5, e6, e7, g1, g2, g3, e8⟩ := M.ex
        have n1 : m ≠ td := by
          rintro rfl
          rw [e1] at e2
          cases e2
        have n2 : rl ≠ td := by
          rintro rfl
          rw [e3] at e2
          cases e2
        refine ⟨b, b + s1, rfl, by omega, for_it (walk_range (lo := b) (n := (b + s1 - b).toNat)) (fun i σ H8 => ∃ kvs' y9, σ = [some (.ref m), some (.str hol), some (optV hou), some (.int mo), some (.int s1), some (.int (max 0 mo)), some (.ref D3), some (.int a), some (.int b), y9] ∧
          (∀ c o, H7 c = some o → c ≠ td → H8 c = some o) ∧ H8 td = some (.dT kvs') ∧ kvs'.length ≤ n + i ∧ ∀ ho t : Int, (valV kvs' ([.inl ho, .inl t] : List Key)).getD .non = if ho = a ∧ b ≤ t ∧ t < b + i then .str hol else holderL L ho t) ?_ (fun _ _ _ _ _ => trivial) ?_ ?_⟩
        · refine ⟨kvs, none, rfl, fun _ _ x _ => x, s07 _ _ e2, e6, fun ho t => ?_⟩
          rw [e5, if_neg (by omega)]
        · rintro i y σ H8 H9 hi ⟨kvs', y9, rfl, k8, hd8, hl8, tb8⟩ ⟨rfl, rfl⟩
          walk_at "rd"
          refine rd_ixK (k := .inr "table") (k8 _ _ (s07 _ _ e1) n1) (md_table _ _ _ _) ?_
          walk_at "rd"
          intro t ht
          have s9 : Same H9 (upd H9 t (.tup [.int a, .int (b + (i : Int))])) := Same.new ht
          have ht9 : (upd H9 t (.tup [.int a, .int (b + (i : Int))])) t = some (.tup (([.inl a, .inl (b + (i : Int))] : List Key).map kV)) := upd_same
          generalize upd H9 t (.tup [.int a, .int (b + (i : Int))]) = H10 at s9 ht9
          refine set_dt (k := [.inl a, .inl (b + (i : Int))]) (s9 _ _ hd8) ht9 (lt_size (by omega)) ?_
          walk_at "rd"
          refine ⟨_, _, rfl, fun c o e nc => ?_, upd_same, ?_, fun ho t' => ?_⟩
          · rw [upd_ne nc]
            exact s9 _ _ (k8 _ _ e nc)
          · unfold putK
            split
            · rw [List.length_map]; omega
            · rw [List.length_append]; simp; omega
          · rw [valV_put]
            by_cases ek : ho = a ∧ t' = b + (i : Int)
            · rw [if_pos (by rw [ek.1, ek.2]), if_pos (by omega)]
              rfl
            · rw [if_neg (fun w => ek (by simp only [List.cons.injEq, Sum.inl.injEq, and_true] at w; exact w)), tb8]
              by_cases ec : ho = a ∧ b ≤ t' ∧ t' < b + (i : Int)
              · rw [if_pos ec, if_pos (by omega)]
              · rw [if_neg ec, if_neg (by omega)]
        · rintro σ H8 ⟨kvs', y9, rfl, k8, hd8, hl8, tb8⟩
          rw [show b + (((b + s1 - b).toNat : Nat) : Int) = b + s1 by omega] at tb8
          have hl9 : kvs'.length ≤ n + 1000 := by omega
          have kH : ∀ {c : Addr} {o : HO}, H c = some o → c ≠ td → H8 c = some o := fun {c o} e nc => k8 c o (s07 _ _ e) nc
          have tk8 : TK H H8 := fun c o i e => by
            by_cases nc : c = td
            · subst nc
              rw [e2] at e
              cases e
              exact i.elim
            · exact kH e nc
          walk_at "rd"
          refine rd_ixK (k := .inr "rows") (kH e1 n1) (md_rows _ _ _ _) ?_
          refine ty_lst (kH e3 n2) ?_
          walk_at "rd"
          intro x hx
          have s9 : Same H8 (upd H8 x (.lst [.str hol, .int a, .int b, .int (b + s1), .int (b + s1), .bl false])) := Same.new hx
          have hx9 : (upd H8 x (.lst [.str hol, .int a, .int b, .int (b + s1), .int (b + s1), .bl false])) x = some (.lst [.str hol, .int a, .int b, .int (b + s1), .int (b + s1), .bl false]) := upd_same
          generalize upd H8 x (.lst [.str hol, .int a, .int b, .int (b + s1), .int (b + s1), .bl false]) = H9 at s9 hx9
          have rlen : ras.length = L.length := Paired.length e4
          walk_at "rd"
          refine rd_app (s9 _ _ (kH e3 n2)) (lt_size (by rw [List.length_map]; omega)) ?_
          have hx0 : H x = none := by
            cases w : H x with
            | none => rfl
            | some o =>
              by_cases nc : x = td
              · rw [nc] at hx; rw [hd8] at hx; cases hx
              · rw [kH w nc] at hx; cases hx
          have nxr : x ≠ rl := (ne_of_none (kH e3 n2) hx).symm
          have nxt : x ≠ td := (ne_of_none hd8 hx).symm
          have kR : ∀ {c : Addr} {o : HO}, H c = some o → c ≠ td → c ≠ rl → (upd H9 rl (.lst (ras.map V.ref ++ [V.ref x]))) c = some o := fun {c o} e nc nr => by
            rw [upd_ne nr]
            exact s9 _ _ (kH e nc)
          have tkR : TK H9 (upd H9 rl (.lst (ras.map V.ref ++ [V.ref x]))) := TK.lst (TK.refl _) (s9 _ _ (kH e3 n2))
          have hdR : (upd H9 rl (.lst (ras.map V.ref ++ [V.ref x]))) td = some (.dT kvs') := by
            rw [upd_ne n2.symm]
            exact s9 _ _ hd8
          have hxR : (upd H9 rl (.lst (ras.map V.ref ++ [V.ref x]))) x = some (.lst [.str hol, .int a, .int b, .int (b + s1), .int (b + s1), .bl false]) := by
            rw [upd_ne nxr]
            exact hx9
          have hrR : (upd H9 rl (.lst (ras.map V.ref ++ [V.ref x]))) rl = some (.lst ((ras ++ [x]).map V.ref)) := by
            rw [upd_same, List.map_append]
            rfl
          generalize upd H9 rl (.lst (ras.map V.ref ++ [V.ref x])) = HR at kR tkR hdR hxR hrR
          have tkA : TK H HR := (tk8.trans (TK.of_same s9)).trans tkR
          walk_at "rd"
          intro t1 ht1
          have sA : Same HR (upd HR t1 (.tup [.int a, .int b, .int (b + s1)])) := Same.new ht1
          have htA : (upd HR t1 (.tup [.int a, .int b, .int (b + s1)])) t1 = some (.tup [.int a, .int b, .int (b + s1)]) := upd_same
          generalize upd HR t1 (.tup [.int a, .int b, .int (b + s1)]) = HA at sA htA
          walk_at "rd"
          intro t2 ht2
          have sB : Same HA (upd HA t2 (.tup [.str "told", .ref t1])) := Same.new ht2
          have htB : (upd HA t2 (.tup [.str "told", .ref t1])) t2 = some (.tup [.str "told", .ref t1]) := upd_same
          generalize upd HA t2 (.tup [.str "told", .ref t1]) = HB at sB htB
          have sAB := sA.trans sB
          have rasr : ∀ c ∈ ras, c ≠ td ∧ c ≠ rl := fun c hc => by
            obtain ⟨l, hl⟩ := List.getElem_of_mem hc
            obtain ⟨hl1, hl2⟩ := hl
            obtain ⟨l0, _, q0⟩ := paired_get e4 (List.getElem?_eq_getElem hl1)
            rw [hl2] at q0
            constructor
            · rintro rfl
              rw [q0] at e2
              cases e2
            · rintro rfl
              exact e8 hc
          refine q HB (fun y => G y ∨ y = x) t2 ⟨fun c o e ng => ?_, fun y hy => hy.elim .inl fun w => .inr (by rw [w]; exact hx0)⟩ ?_ ?_ ?_
          · exact sAB _ _ (kR e (fun w => ng (by rw [w]; exact g1)) fun w => ng (by rw [w]; exact g2))
          · rw [el]
            refine ⟨⟨td, rl, ras ++ [x], kvs', sAB _ _ (kR e1 n1 ?_), sAB _ _ hdR, sAB _ _ hrR, ?_, tab_snoc hcl tb8, hl9, ?_, .inl g1, .inl g2, fun y hy => ?_, ?_⟩, (tkA.trans (TK.of_same sAB)).tup M.sz, .inl M.own, ?_⟩
            · rintro rfl
              rw [e1] at e3
              cases e3
            · refine Paired.snoc (paired_memP e4 fun c l hc w => sAB _ _ (kR w (rasr c hc).1 (rasr c hc).2)) (sAB _ _ hxR)
            · rw [List.nodup_append]
              refine ⟨e7, by simp, fun y hy w hw => ?_⟩
              rw [List.mem_singleton.mp hw]
              rintro rfl
              exact M.lv _ (g3 _ hy) hx0
            · rcases List.mem_append.mp hy with hy | hy
              · exact .inl (g3 y hy)
              · exact .inr (List.mem_singleton.mp hy)
            · intro hr2
              rcases List.mem_append.mp hr2 with hr2 | hr2
              · exact e8 hr2
              · exact nxr (List.mem_singleton.mp hr2).symm
            · rintro y (hy | rfl)
              · by_cases w1 : y = td
                · rw [w1, sAB _ _ hdR]; exact fun w => nomatch w
                · by_cases w2 : y = rl
                  · rw [w2, sAB _ _ hrR]; exact fun w => nomatch w
                  · cases w : H y with
                    | none => exact absurd w (M.lv y hy)
                    | some o => rw [sAB _ _ (kR w w1 w2)]; exact fun w => nomatch w
              · rw [sAB _ _ hxR]; exact fun w => nomatch w
          · rw [eo]
            exact .tup (st_of htB) (.cons (.str _) (.cons (.tup (st_of (sB _ _ htA)) (.cons (.int _) (.cons (.int _) (.cons (.int _) .nil)))) .nil))
          · cases w : H t2 with
            | none => rfl
            | some o =>
              exfalso
              by_cases w1 : t2 = td
              · rw [w1, sA _ _ hdR] at ht2; cases ht2
              · by_cases w2 : t2 = rl
                · rw [w2, sA _ _ hrR] at ht2; cases ht2
                · rw [sA _ _ (kR w w1 w2)] at ht2; cases ht2
theorem ok__law_let {Z : Zn} (T : Tx Z) : GF Z "_law_let" 2 ["m", "holder", "house", "moment", "span"] [] (sp__law_let Z) := GF.of (T.df 24) (T.glo 24) b__law_let sc__law_let (by walk_at "len") (w__law_let T)


/-! ## _law_cut -/
def N__law_cut : List Str := ["m", "lease", "used", "found", "holder", "house", "first", "end", "until", "gone", "moment", "row"]
theorem sc__law_cut : FnScope N__law_cut ["m", "lease", "used"] (defScope s__law_cut) := ⟨rfl, rfl, rfl, by decide +kernel, rfl, by decide +kernel, by decide +kernel⟩
theorem b__law_cut : BindsBy "_law_cut" "_law_cut" s__law_cut ["m", "lease", "used"] := fun _ _ _ _ _ _ us hl => match us, hl with | [_, _, _], _ => rfl
def LeaseAt (H : Hp) (v : V) (le : Option (Int × Int × Int)) : Prop := (le = none ∧ v = .non) ∨ ∃ a b u q, le = some (a, b, u) ∧ v = .ref q ∧ H q = some (.tup [.int a, .int b, .int u])
theorem LeaseAt.tk {H H' : Hp} {v : V} {le : Option (Int × Int × Int)} (x : LeaseAt H v le) (k : TK H H') : LeaseAt H' v le := x.elim .inl fun ⟨a, b, u, q, e1, e2, e3⟩ => .inr ⟨a, b, u, q, e1, e2, k.tup e3⟩
/-- the lease as data -/
def leD : Option (Int × Int × Int) → PyData
  | none => .none
  | some (a, b, u) => .tuple [.int a, .int b, .int u]
theorem le_dp {K : PySem.W.Frag} {H : Hp} {v : V} {le : Option (Int × Int × Int)} (x : LeaseAt H v le) : Dp K H v (leD le) ∧ SeqAt.shaped (leD le) = true := by
  rcases x with ⟨rfl, rfl⟩ | ⟨a, b, u, q, rfl, rfl, e⟩
  · exact ⟨.non, rfl⟩
  · exact ⟨.tup (st_of e) (.cons (.int _) (.cons (.int _) (.cons (.int _) .nil))), rfl⟩
theorem le_eqv {l : LetS} {le : Option (Int × Int × Int)} : PyData.eqv (l3D l) (leD le) = true ↔ le = some (l.ho, l.b, l.u) := by
  cases le with
  | none =>
    unfold l3D leD
    simp [PyData.eqv]
  | some q =>
    obtain ⟨a, b, u⟩ := q
    show PyData.eqv (l3D l) (.tuple [.int a, .int b, .int u]) = true ↔ _
    rw [l3_eqv]
    simp only [decide_eq_true_eq, Option.some.injEq, Prod.mk.injEq]
    constructor <;> (rintro ⟨h1, h2, h3⟩; exact ⟨h1.symm, h2.symm, h3.symm⟩)
/-- the row that is meant -/
def LetS.hit (l : LetS) (le : Option (Int × Int × Int)) : Bool := PyData.eqv (l3D l) (leD le) && !l.cut
theorem hit_iff {l : LetS} {le : Option (Int × Int × Int)} : l.hit le = true ↔ le = some (l.ho, l.b, l.u) ∧ l.cut = false := by
  unfold LetS.hit
  rw [Bool.and_eq_true, le_eqv]
  simp
theorem step_cut {L L' : List LetS} {M h : Int} {le : Option (Int × Int × Int)} {us : Option Int} {out : PyData} (G : GoodL L M h) (st : Step L M h (.ct le us) out L') :
    ((∀ l ∈ L, l.hit le = false) → out = outK "lease" ∧ L' = L) ∧ (∀ (i : Nat) l, L[i]? = some l → l.hit le = true → (badUse (optV us) l.b l.u → out = outK "time" ∧ L' = L) ∧ (∀ e, endUse (optV us) l.b l.u e → out = outK "told" ∧ L' = L.set i { l with e := e, cut := true })) := by
  have noUse : ∀ {v : V} {b u e : Int}, badUse v b u → endUse v b u e → False := by
    rintro v b u e ⟨x1, x2⟩ (⟨y1, _⟩ | ⟨x, rfl, y2, y3, _⟩)
    · exact x1 y1
    · rcases x2 with x2 | ⟨z, x2, x3⟩
      · cases x2
      · cases V.int.inj x2; exact x3 ⟨y2, y3⟩
  have oneEnd : ∀ {v : V} {b u e e' : Int}, endUse v b u e → endUse v b u e' → e = e' := by
    rintro v b u e e' (⟨y1, y2⟩ | ⟨x, rfl, y2, y3, y4⟩) (⟨z1, z2⟩ | ⟨w, z1, z2, z3, z4⟩)
    · rw [y2, z2]
    · rw [y1] at z1; cases z1
    · cases z1
    · cases V.int.inj z1; rw [y4, z4]
  cases st with
  | lease h1 =>
    have hn : ∀ l ∈ L, l.hit le = false := fun l hl => by
      cases w : l.hit le with
      | false => rfl
      | true => obtain ⟨w1, w2⟩ := hit_iff.mp w; exact absurd w1 (h1 l hl w2)
    exact ⟨fun _ => ⟨rfl, rfl⟩, fun i l hl w => by rw [hn l (List.mem_of_getElem? hl)] at w; cases w⟩
  | @late us l0 i0 h1 h2 h3 =>
    refine ⟨fun w => ?_, fun i l hl w => ?_⟩
    · have := w l0 (List.mem_of_getElem? h1)
      rw [hit_iff.mpr ⟨rfl, h2⟩] at this
      cases this
    · obtain ⟨w1, w2⟩ := hit_iff.mp w
      simp only [Option.some.injEq, Prod.mk.injEq] at w1
      have e := named_one G h1 hl w1 h2 w2
      subst e
      rw [h1] at hl
      cases hl
      exact ⟨fun _ => ⟨rfl, rfl⟩, fun e he => (noUse h3 he).elim⟩
  | @cut us l0 i0 e0 h1 h2 h3 =>
    refine ⟨fun w => ?_, fun i l hl w => ?_⟩
    · have := w l0 (List.mem_of_getElem? h1)
      rw [hit_iff.mpr ⟨rfl, h2⟩] at this
      cases this
    · obtain ⟨w1, w2⟩ := hit_iff.mp w
      simp only [Option.some.injEq, Prod.mk.injEq] at w1
      have e := named_one G h1 hl w1 h2 w2
      subst e
      rw [h1] at hl
      cases hl
      exact ⟨fun hb => (noUse hb h3).elim, fun e he => by rw [oneEnd he h3]; exact ⟨rfl, rfl⟩⟩
theorem holderL_set {ho t : Int} : ∀ {L : List LetS} {i : Nat} {l l' : LetS}, L[i]? = some l → l'.has ho t = l.has ho t → l'.h = l.h → holderL (L.set i l') ho t = holderL L ho t
  | [], _, _, _, h, _, _ => by simp at h
  | n :: L, 0, l, l', h, h1, h2 => by
    have e : n = l := Option.some.inj h
    subst e
    unfold holderL
    rw [List.set_cons_zero, List.find?_cons, List.find?_cons, h1]
    cases n.has ho t with
    | true => show V.str l'.h = V.str n.h; rw [h2]
    | false => rfl
  | n :: L, i + 1, l, l', h, h1, h2 => by
    have ih := holderL_set (L := L) (i := i) (l := l) (l' := l') (by simpa using h) h1 h2
    unfold holderL at ih ⊢
    rw [List.set_cons_succ, List.find?_cons, List.find?_cons]
    cases n.has ho t with
    | true => rfl
    | false => exact ih
theorem tab_cut {L : List LetS} {M h : Int} {kvs : List (List Key × V)} {i : Nat} {l : LetS} {e : Int} (G : GoodL L M h) (hl : L[i]? = some l) (hc : l.cut = false) (h1 : l.b ≤ e) (h2 : e ≤ l.u)
    (tb : ∀ ho t : Int, (valV kvs ([.inl ho, .inl t] : List Key)).getD .non = if ho = l.ho ∧ e ≤ t ∧ t < l.u then .non else holderL L ho t) : TabOk kvs (L.set i { l with e := e, cut := true }) := by
  have gl := G.iv l (List.mem_of_getElem? hl)
  have eu := gl.2.2.2.2.2 hc
  obtain ⟨a1, b1⟩ := List.getElem?_eq_some_iff.mp hl
  intro ho t
  rw [tb]
  by_cases w : ho = l.ho ∧ e ≤ t ∧ t < l.u
  · rw [if_pos w]
    by_cases z : holderL (L.set i { l with e := e, cut := true }) ho t = .non
    · exact z.symm
    · exfalso
      obtain ⟨n, hn, hh⟩ := holderL_some.mp z
      obtain ⟨x1, x2, x3⟩ := has_iff.mp hh
      obtain ⟨j, hj, rfl⟩ := List.getElem_of_mem hn
      rw [List.length_set] at hj
      rw [List.getElem_set] at x1 x2 x3
      by_cases ej : i = j
      · rw [if_pos ej] at x3
        have : t < e := x3
        omega
      · rw [if_neg ej] at x1 x2 x3
        have key : L[i].ho = L[j].ho → L[i].e ≤ L[j].b ∨ L[j].e ≤ L[i].b ∨ L[i].e ≤ L[i].b ∨ L[j].e ≤ L[j].b := fun e => by
          rcases Nat.lt_or_gt_of_ne ej with h | h
          · exact List.pairwise_iff_getElem.mp G.dj i j a1 hj h e
          · have := List.pairwise_iff_getElem.mp G.dj j i hj a1 h e.symm
            omega
        rw [b1] at key
        have := key (by omega)
        omega
  · rw [if_neg w]
    refine (holderL_set (l' := { l with e := e, cut := true }) hl ?_ rfl).symm
    rw [Bool.eq_iff_iff, has_iff, has_iff]
    show l.ho = ho ∧ l.b ≤ t ∧ t < e ↔ l.ho = ho ∧ l.b ≤ t ∧ t < l.e
    have := gl.2.2.2.2.1
    constructor
    · rintro ⟨y1, y2, y3⟩
      exact ⟨y1, y2, by omega⟩
    · rintro ⟨y1, y2, y3⟩
      refine ⟨y1, y2, ?_⟩
      by_cases y4 : t < e
      · exact y4
      · exact absurd ⟨y1.symm, by omega, by omega⟩ w
def sp__law_cut (Z : Zn) : Sp := fun vs H Q _ => ∃ m z sz G la L n lv le us out L', vs = [.ref m, lv, optV us] ∧ MdlAt Z H m z sz G la L n ∧ GoodL L sz.1 sz.2.1 ∧ sz.1 ≤ 1000 ∧ n ≤ 900000 ∧ LeaseAt H lv le ∧ Step L sz.1 sz.2.1 (.ct le us) out L' ∧
  ∀ (H' : Hp) (G' : Addr → Prop) (r : Addr), Ext G G' H H' → MdlAt Z H' m z sz G' la L' (n + 1000) → Dp Z.K H' (.ref r) out → H r = none → Q (.ref r) H'
theorem row_dp {Z : Zn} {H : Hp} {ras : List Addr} {L : List LetS} (h : Paired (fun a l => H a = some (.lst (LetS.row l))) ras L) (ok : ∀ l ∈ L, PyData.strOk l.h = true) : ∀ {ws : List V}, (∀ v ∈ ws, ∃ a ∈ ras, v = .ref a) → ∃ ds, DpAll Z.K H ws ds ∧ ds.length = ws.length ∧ PyData.canLayAll0 ds = true ∧ PyData.depthAll ds ≤ 2
  | [], _ => ⟨[], .nil, rfl, rfl, by simp [PyData.depthAll]⟩
  | v :: ws, hw => by
    obtain ⟨ds, h1, h2, h3, h4⟩ := row_dp h ok (ws := ws) fun x hx => hw x (List.mem_cons_of_mem _ hx)
    obtain ⟨a, ha, rfl⟩ := hw v List.mem_cons_self
    obtain ⟨j, hj, rfl⟩ := List.getElem_of_mem ha
    obtain ⟨l, hl, q⟩ := paired_get h (List.getElem?_eq_getElem hj)
    have so := ok l (List.mem_of_getElem? hl)
    refine ⟨.list [.str l.h, .int l.ho, .int l.b, .int l.e, .int l.u, .bool l.cut] :: ds, .cons (.lst (sq_of q) (.cons (.str _) (.cons (.int _) (.cons (.int _) (.cons (.int _) (.cons (.int _) (.cons (.bl _) .nil))))))) h1, congrArg Nat.succ h2, ?_, ?_⟩
    · simp [PyData.canLayAll0, PyData.canLay0, so, h3]
    · rw [PyData.depthAll]
      have : PyData.depth (.list [.str l.h, .int l.ho, .int l.b, .int l.e, .int l.u, .bool l.cut]) ≤ 2 := by simp [PyData.depth, PyData.depthAll]
      omega
theorem w__law_cut {Z : Zn} (T : Tx Z) : BodyOk Z N__law_cut "_law_cut" s__law_cut (He.fAd Z.K ("_law_cut", none)) 0 (sp__law_cut Z) := by
  intro cdv A outer s H vs Q E hr hu tk hx hp h
  have sc := sc__law_cut
  refine ⟨_, (pss_cons (ps_setLc (i := 3) (own := [("row", 11)]) (g := (gName 11)) (tt := _) rfl sc.nd rfl rfl (sw_true rfl rfl rfl (by decide +kernel)) (pi_list (pe_ix (ix_U hu) (pv 0) pe_str (fun _ _ => rfl))) (blkOk_by (N := N__law_cut) (sc := defScope s__law_cut) (by decide +kernel)) (fun _ _ _ _ _ => (pg_name (i := 11) sc.nd rfl (by first | exact Or.inl rfl | exact Or.inr rfl))) (fun _ _ _ _ _ => (pts_one (PW.pt (pw_and (pt_cmpR (op_eqK (K := Z.K) rfl (by exact hr.units)) (pe_tup (pa_cons (pe_ix (ix_K (K := Z.K) rfl (by exact hu)) (pv 11) pe_int (fun _ _ => rfl)) (pa_cons (pe_ix (ix_K (K := Z.K) rfl (by exact hu)) (pv 11) pe_int (fun _ _ => rfl)) (pa_cons (pe_ix (ix_K (K := Z.K) rfl (by exact hu)) (pv 11) pe_int (fun _ _ => rfl)) pa_nil)))) (pv 1) (nomark _)) (pw_and1 (pt_not (pt_val (pe_ix (ix_K (K := Z.K) rfl (by exact hu)) (pv 11) pe_int (fun _ _ => rfl))))))))) (fun _ _ _ _ _ => (pv 11)))
    (pss_cons (ps_if (pt_cmpR (op_eqU hr.units) (pv 3) (pe_lst pa_nil) (nomark _))
    (pss_one (ps_ret (pe_tup (pa_cons pe_str (pa_cons pe_non pa_nil)))))
    pss_nil)
    (pss_cons (ps_asg (pe_ix (ix_U hu) (pv 3) pe_int (fun _ _ => rfl)) (pg_lst (by rfl) (pgs_cons (pg_name (i := 4) sc.nd rfl (by first | exact Or.inl rfl | exact Or.inr rfl)) (pgs_cons (pg_name (i := 5) sc.nd rfl (by first | exact Or.inl rfl | exact Or.inr rfl)) (pgs_cons (pg_name (i := 6) sc.nd rfl (by first | exact Or.inl rfl | exact Or.inr rfl)) (pgs_cons (pg_name (i := 7) sc.nd rfl (by first | exact Or.inl rfl | exact Or.inr rfl)) (pgs_cons (pg_name (i := 8) sc.nd rfl (by first | exact Or.inl rfl | exact Or.inr rfl)) (pgs_cons (pg_name (i := 9) sc.nd rfl (by first | exact Or.inl rfl | exact Or.inr rfl)) pgs_nil))))))))
    (pss_cons (ps_if (PW.pt (pw_and (pt_cmpR op_notN2 (pv 2) pe_non (nomark _)) (pw_and1 (pt_not (pt_chain op_leU op_ltU (pv 6) (pv 2) (pv 8))))))
    (pss_one (ps_ret (pe_tup (pa_cons pe_str (pa_cons pe_non pa_nil)))))
    pss_nil)
    (pss_cons (ps_set (i := 7) sc.nd rfl (by first | exact Or.inl rfl | exact Or.inr rfl) (pv 6))
    (pss_cons (ps_if (pt_cmpR op_notN2 (pv 2) pe_non (nomark _))
    (pss_one (ps_set (i := 7) sc.nd rfl (by first | exact Or.inl rfl | exact Or.inr rfl) (pe_op op_addU (pv 2) pe_int)))
    pss_nil)
    (pss_cons (ps_for hp rfl (pi_range2 (by rfl) (n_range T) (pa_cons (pv 7) (pa_cons (pv 8) pa_nil))) (pg_name (i := 10) sc.nd rfl (by first | exact Or.inl rfl | exact Or.inr rfl))
    (pss_one (ps_asg pe_non (pg_sub (pe_ix (ix_U hu) (pv 0) pe_str (fun _ _ => rfl)) (pe_tup (pa_cons (pv 5) (pa_cons (pv 10) pa_nil))) (set_U hu)))))
    (pss_cons (ps_asg (pv 7) (pg_sub (pe_ix (ix_U hu) (pv 3) pe_int (fun _ _ => rfl)) pe_int (set_U hu)))
    (pss_cons (ps_asg pe_bl (pg_sub (pe_ix (ix_U hu) (pv 3) pe_int (fun _ _ => rfl)) pe_int (set_U hu)))
    (pss_one (ps_ret (pe_tup (pa_cons pe_str (pa_cons pe_non pa_nil)))))))))))))), ?_⟩
  obtain ⟨m, z, sz, G, la, L, n, lv, le, us, out, L', rfl, M, GL, b1, b4, hle, st, q⟩ := h
  obtain ⟨st1, st2⟩ := step_cut GL st
  have none0 : ∀ {H' : Hp} {r : Addr}, Same H H' → H' r = none → H r = none := fun {H' r} s e => by
    cases x : H r with
    | none => rfl
    | some o => rw [s _ _ x] at e; cases e
  have leaf : ∀ (nm : Str) (H1 : Hp), Same H H1 → out = outK nm → L' = L → ∀ r, H1 r = none → Q (.ref r) (upd H1 r (.tup [.str nm, .non])) := by
    rintro nm H1 sm e1 e2 r hr
    have s2 : Same H1 (upd H1 r (.tup [.str nm, .non])) := Same.new hr
    refine q _ G r (Ext.same (sm.trans s2)) ?_ ?_ (none0 sm hr)
    · rw [e2]
      have M2 := M.same (sm.trans s2)
      obtain ⟨⟨td, rl, ras, kvs, x1, x2, x3, x4, x5, x6, x7⟩, y1, y2, y3⟩ := M2
      exact ⟨⟨td, rl, ras, kvs, x1, x2, x3, x4, x5, by omega, x7⟩, y1, y2, y3⟩
    · rw [e1]
      exact .tup (st_of upd_same) (.cons (.str _) (.cons .non .nil))
  obtain ⟨td, rl, ras, kvs, e1, e2, e3, e4, e5, e6, e7, g1, g2, g3, e8⟩ := M.ex
  have rlen : ras.length = L.length := Paired.length e4
  have hlen := GL.len
  have n1 : m ≠ td := by
    rintro rfl
    rw [e1] at e2
    cases e2
  have n2 : rl ≠ td := by
    rintro rfl
    rw [e3] at e2
    cases e2
  walk_at "rs"
  refine rd_ixK (k := .inr "rows") e1 (md_rows _ _ _ _) ?_
  refine ⟨rl, rfl, ⟨_, sq_of e3⟩, fun D hD => lc_it (walk_list (K := Z.K) (a := rl) (xs := ras.map V.ref)) (fun i H5 => ∃ ws, Same H H5 ∧ H5 D = some (.lst ws) ∧ ws.length ≤ i ∧ (∀ v ∈ ws, ∃ a ∈ ras, v = .ref a) ∧
      ((ws = [] ∧ ∀ l ∈ L.take i, l.hit le = false) ∨ ∃ (j : Nat) (a : Addr) (l : LetS) (rest : List V), ws = .ref a :: rest ∧ ras[j]? = some a ∧ L[j]? = some l ∧ l.hit le = true)) ?_ ?_ ?_ ?_⟩
  · exact ⟨[], Same.new hD, upd_same, Nat.le_refl _, fun v hv => (nomatch hv), .inl ⟨rfl, fun l hl => nomatch hl⟩⟩
  · rintro i H5 _ ⟨_, s5, _⟩
    exact sq_of (s5 _ _ e3)
  · rintro i y H5 H6 hi ⟨ws, s5, hD5, wl, wm, hw⟩ ⟨rfl, hy⟩
    rw [List.getElem?_map] at hy
    cases ha : ras[i]? with
    | none => rw [ha] at hy; cases hy
    | some a =>
      rw [ha] at hy
      cases Option.some.inj hy
      obtain ⟨l, hl, hrow⟩ := paired_get e4 ha
      have hr6 := s5 _ _ hrow
      have tk1 : (L.take (i + 1)) = L.take i ++ [l] := by rw [List.take_add_one, hl]; rfl
      rw [List.length_map] at hi
      walk_at "rd"
      refine ⟨rfl, ?_⟩
      walk_at "rd"
      refine rd_ixL (sq_of hr6) (v := .int l.ho) rfl ?_
      walk_at "rd"
      refine rd_ixL (sq_of hr6) (v := .int l.b) rfl ?_
      walk_at "rd"
      refine rd_ixL (sq_of hr6) (v := .int l.u) rfl ?_
      walk_at "rd"
      intro t ht
      have s6 : Same H6 (upd H6 t (.tup [.int l.ho, .int l.b, .int l.u])) := Same.new ht
      have ht6 : (upd H6 t (.tup [.int l.ho, .int l.b, .int l.u])) t = some (.tup [.int l.ho, .int l.b, .int l.u]) := upd_same
      generalize upd H6 t (.tup [.int l.ho, .int l.b, .int l.u]) = H7 at s6 ht6
      obtain ⟨dl, shl⟩ := le_dp (K := Z.K) (hle.tk (TK.of_same (s5.trans s6)))
      walk_at "rd"
      refine rd_eqD (d := l3D l) (.tup (st_of ht6) (.cons (.int _) (.cons (.int _) (.cons (.int _) .nil)))) dl rfl shl ?_
      have stay : l.hit le = false → ∃ ws', Same H H7 ∧ H7 D = some (.lst ws') ∧ ws'.length ≤ i + 1 ∧ (∀ v ∈ ws', ∃ a ∈ ras, v = .ref a) ∧
          ((ws' = [] ∧ ∀ l ∈ L.take (i + 1), l.hit le = false) ∨ ∃ (j : Nat) (a : Addr) (l : LetS) (rest : List V), ws' = .ref a :: rest ∧ ras[j]? = some a ∧ L[j]? = some l ∧ l.hit le = true) := fun hn => by
        refine ⟨ws, s5.trans s6, s6 _ _ hD5, Nat.le_succ_of_le wl, wm, hw.elim (fun w => .inl ⟨w.1, fun l' hl' => ?_⟩) .inr⟩
        rw [tk1] at hl'
        rcases List.mem_append.mp hl' with hl' | hl'
        · exact w.2 l' hl'
        · rw [List.mem_singleton.mp hl']; exact hn
      walk_at "rd"
      cases h1 : PyData.eqv (l3D l) (leD le) with
      | false =>
        walk_at "rd"
        exact stay (by unfold LetS.hit; rw [h1]; rfl)
      | true =>
        walk_at "rd"
        refine rd_ixL (sq_of (s6 _ _ hr6)) (v := .bl l.cut) rfl ?_
        walk_at "rd"
        cases h2 : l.cut with
        | true =>
          walk_at "rd"
          exact stay (by unfold LetS.hit; rw [h1, h2]; rfl)
        | false =>
          walk_at "rd"
          refine ⟨ws, s6 _ _ hD5, lt_size (by omega), ws ++ [.ref a], (s5.trans s6).upd' hD, upd_same, by rw [List.length_append]; simp; omega, fun v hv => ?_, .inr ?_⟩
          · rcases List.mem_append.mp hv with hv | hv
            · exact wm v hv
            · exact ⟨a, List.mem_of_getElem? ha, List.mem_singleton.mp hv⟩
          · rcases hw with ⟨rfl, _⟩ | ⟨j, a', l', rest, rfl, w1, w2, w3⟩
            · exact ⟨i, a, l, [], rfl, ha, hl, by unfold LetS.hit; rw [h1, h2]; rfl⟩
            · exact ⟨j, a', l', rest ++ [.ref a], rfl, w1, w2, w3⟩
  · rintro H5 ⟨ws, s5, hD5, wl, wm, hw⟩
    rw [List.length_map] at hw wl
    rw [List.take_of_length_le (by omega)] at hw
    walk_at "rd"
    intro e he
    have s6 : Same H5 (upd H5 e (.lst [])) := Same.new he
    have he6 : (upd H5 e (.lst [])) e = some (.lst []) := upd_same
    generalize upd H5 e (.lst []) = H6 at s6 he6
    have s06 := s5.trans s6
    have e4' : Paired (fun a l => H6 a = some (.lst (LetS.row l))) ras L := paired_memP e4 fun a l _ w => s06 _ _ w
    obtain ⟨ds, d1, d2, d3, d4⟩ := row_dp (Z := Z) e4' GL.ok wm
    refine rd_eqD (.lst (sq_of (s6 _ _ hD5)) d1) (.lst (sq_of he6) .nil) (list_shaped d3 (by omega)) rfl ?_
    rw [eqv_nil]
    rcases hw with ⟨rfl, hno⟩ | ⟨j, a, l, rest, rfl, ha, hl, hhit⟩
    · have : ds = [] := List.eq_nil_of_length_eq_zero d2
      rw [this]
      walk_at "rd"
      exact leaf "lease" _ s06 (st1 hno).1 (st1 hno).2
    · have hne : ds.isEmpty = false := by
        cases ds with
        | nil => cases d2
        | cons _ _ => rfl
      rw [hne]
      obtain ⟨qb, qe⟩ := st2 j l hl hhit
      obtain ⟨h1, h2⟩ := hit_iff.mp hhit
      have gl := GL.iv l (List.mem_of_getElem? hl)
      have eu := gl.2.2.2.2.2 h2
      obtain ⟨l0, hl0, hrow⟩ := paired_get e4 ha
      rw [hl] at hl0
      cases hl0
      have hr6 := s06 _ _ hrow
      walk_at "rd"
      refine rd_ixL (sq_of (s6 _ _ hD5)) (v := .ref a) (atI_int (k := 0) (by decide) rfl) ?_
      refine ⟨a, LetS.row l, rfl, sq_of hr6, rfl, ?_⟩
      walk_at "rs"
      refine rd_ifG (fun H7 => H7 = H6 ∧ ∃ e, endUse (optV us) l.b l.u e ∧ (us = none → e = l.b) ∧ ∀ x, us = some x → e = x + 1) ?_ ?_
      case refine_2 =>
        intro R hR
        walk_at "rd"
        cases us with
        | none =>
          walk_at "rd"
          exact hR _ ⟨rfl, l.b, .inl ⟨rfl, rfl⟩, (fun _ => rfl), fun x e => (by cases e)⟩
        | some x =>
          rw [decide_eq_false (show ¬ optV (some x) = V.non from fun w => nomatch w)]
          have ex : optV (some x) = V.int x := rfl
          walk_at "rd"
          rw [ex]
          walk_at "rd"
          by_cases h3 : l.b ≤ x
          case neg =>
            rw [decide_eq_false h3]
            walk_at "rd"
            have := qb ⟨(fun w => nomatch w), .inr ⟨x, rfl, fun w => h3 w.1⟩⟩
            exact leaf "time" _ s06 this.1 this.2
          rw [decide_eq_true h3]
          walk_at "rd"
          by_cases h4 : x < l.u
          case neg =>
            rw [decide_eq_false h4]
            walk_at "rd"
            have := qb ⟨(fun w => nomatch w), .inr ⟨x, rfl, fun w => h4 w.2⟩⟩
            exact leaf "time" _ s06 this.1 this.2
          rw [decide_eq_true h4]
          walk_at "rd"
          exact hR _ ⟨rfl, x + 1, .inr ⟨x, rfl, h3, h4, rfl⟩, (fun e => (by cases e)), fun y e => (by cases e; rfl)⟩
      rintro H6 ⟨rfl, en, hen, en1, en2⟩
      obtain ⟨eo, el⟩ := qe en hen
      have hen3 : l.b ≤ en ∧ en ≤ l.u := by
        rcases hen with ⟨_, rfl⟩ | ⟨x, _, x1, x2, rfl⟩ <;> omega
      walk_at "rs"
      refine rd_ifJ (fun σ2 H7 => H7 = H6 ∧ σ2 = [some (.ref m), some lv, some (optV us), some (.ref D), some (.str l.h), some (.int l.ho), some (.int l.b), some (.int en), some (.int l.u), some (.bl l.cut), none, none]) ?_ ?_
      case refine_2 =>
        intro R hR
        walk_at "rd"
        cases us with
        | none =>
          walk_at "rd"
          exact hR _ _ ⟨rfl, by rw [en1 rfl]; rfl⟩
        | some x =>
          rw [decide_eq_false (show ¬ optV (some x) = V.non from fun w => nomatch w)]
          walk_at "rd"
          refine rd_addI ?_
          exact hR _ _ ⟨rfl, by rw [en2 x rfl]; rfl⟩
      rintro σ2 H6 ⟨rfl, rfl⟩
      walk_at "rd"
      refine ⟨en, l.u, rfl, by omega, for_it (walk_range (lo := en) (n := (l.u - en).toNat)) (fun i σ H8 => ∃ kvs' y10, σ = [some (.ref m), some lv, some (optV us), some (.ref D), some (.str l.h), some (.int l.ho), some (.int l.b), some (.int en), some (.int l.u), some (.bl l.cut), y10, none] ∧
        (∀ c o, H6 c = some o → c ≠ td → H8 c = some o) ∧ H8 td = some (.dT kvs') ∧ kvs'.length ≤ n + i ∧ ∀ ho t : Int, (valV kvs' ([.inl ho, .inl t] : List Key)).getD .non = if ho = l.ho ∧ en ≤ t ∧ t < en + i then .non else holderL L ho t) ?_ (fun _ _ _ _ _ => trivial) ?_ ?_⟩
      · refine ⟨kvs, none, rfl, fun _ _ x _ => x, s06 _ _ e2, e6, fun ho t => ?_⟩
        rw [e5, if_neg (by omega)]
      · rintro i y σ H8 H9 hi ⟨kvs', y10, rfl, k8, hd8, hl8, tb8⟩ ⟨rfl, rfl⟩
        walk_at "rd"
        refine rd_ixK (k := .inr "table") (k8 _ _ (s06 _ _ e1) n1) (md_table _ _ _ _) ?_
        walk_at "rd"
        intro t ht
        have s9 : Same H9 (upd H9 t (.tup [.int l.ho, .int (en + (i : Int))])) := Same.new ht
        have ht9 : (upd H9 t (.tup [.int l.ho, .int (en + (i : Int))])) t = some (.tup (([.inl l.ho, .inl (en + (i : Int))] : List Key).map kV)) := upd_same
        generalize upd H9 t (.tup [.int l.ho, .int (en + (i : Int))]) = H10 at s9 ht9
        refine set_dt (k := [.inl l.ho, .inl (en + (i : Int))]) (s9 _ _ hd8) ht9 (lt_size (by omega)) ?_
        walk_at "rd"
        refine ⟨_, _, rfl, fun c o e nc => ?_, upd_same, ?_, fun ho t' => ?_⟩
        · rw [upd_ne nc]
          exact s9 _ _ (k8 _ _ e nc)
        · unfold putK
          split
          · rw [List.length_map]; omega
          · rw [List.length_append]; simp; omega
        · rw [valV_put]
          by_cases ek : ho = l.ho ∧ t' = en + (i : Int)
          · rw [if_pos (by rw [ek.1, ek.2]), if_pos (by omega)]
            rfl
          · rw [if_neg (fun w => ek (by simp only [List.cons.injEq, Sum.inl.injEq, and_true] at w; exact w)), tb8]
            by_cases ec : ho = l.ho ∧ en ≤ t' ∧ t' < en + (i : Int)
            · rw [if_pos ec, if_pos (by omega)]
            · rw [if_neg ec, if_neg (by omega)]
      · rintro σ H8 ⟨kvs', y10, rfl, k8, hd8, hl8, tb8⟩
        rw [show en + (((l.u - en).toNat : Nat) : Int) = l.u by omega] at tb8
        have hl9 : kvs'.length ≤ n + 1000 := by omega
        have kH : ∀ {c : Addr} {o : HO}, H c = some o → c ≠ td → H8 c = some o := fun {c o} e nc => k8 c o (s06 _ _ e) nc
        have nat : a ≠ td := by
          rintro rfl
          rw [hrow] at e2
          cases e2
        have nar : a ≠ rl := by
          rintro rfl
          exact e8 (List.mem_of_getElem? ha)
        have nam : m ≠ a := by
          rintro rfl
          rw [e1] at hrow
          cases hrow
        have hD8 : H8 D = some (.lst (V.ref a :: rest)) := k8 _ _ (s6 _ _ hD5) (by
          rintro rfl
          rw [e2] at hD
          cases hD)
        have nDa : D ≠ a := by
          rintro rfl
          rw [hrow] at hD
          cases hD
        walk_at "rd"
        refine rd_ixL (sq_of hD8) (v := .ref a) (atI_int (k := 0) (by decide) rfl) ?_
        walk_at "rd"
        refine set_at (kH hrow nat) (j := 3) rfl ?_
        walk_at "rd"
        refine rd_ixL (sq_of ((upd_ne nDa).trans hD8)) (v := .ref a) (atI_int (k := 0) (by decide) rfl) ?_
        walk_at "rd"
        refine set_at upd_same (j := 5) rfl ?_
        have kR : ∀ {c : Addr} {o : HO}, H c = some o → c ≠ td → c ≠ a → (upd (upd H8 a (.lst ((LetS.row l).set 3 (.int en)))) a (.lst (((LetS.row l).set 3 (.int en)).set 5 (.bl true)))) c = some o := fun {c o} e nc na => by
          rw [upd_ne na, upd_ne na]
          exact kH e nc
        have hdR : (upd (upd H8 a (.lst ((LetS.row l).set 3 (.int en)))) a (.lst (((LetS.row l).set 3 (.int en)).set 5 (.bl true)))) td = some (.dT kvs') := by
          rw [upd_ne nat.symm, upd_ne nat.symm]
          exact hd8
        have haR : (upd (upd H8 a (.lst ((LetS.row l).set 3 (.int en)))) a (.lst (((LetS.row l).set 3 (.int en)).set 5 (.bl true)))) a = some (.lst (LetS.row { l with e := en, cut := true })) := upd_same
        have kF : ∀ {c : Addr}, (upd (upd H8 a (.lst ((LetS.row l).set 3 (.int en)))) a (.lst (((LetS.row l).set 3 (.int en)).set 5 (.bl true)))) c = none → H8 c = none := fun e => none_of_upd (none_of_upd e)
        generalize upd (upd H8 a (.lst ((LetS.row l).set 3 (.int en)))) a (.lst (((LetS.row l).set 3 (.int en)).set 5 (.bl true))) = HR at kR hdR haR kF
        walk_at "rd"
        intro t2 ht2
        have sB : Same HR (upd HR t2 (.tup [.str "told", .non])) := Same.new ht2
        have htB : (upd HR t2 (.tup [.str "told", .non])) t2 = some (.tup [.str "told", .non]) := upd_same
        generalize upd HR t2 (.tup [.str "told", .non]) = HB at sB htB
        have ga : G a := g3 a (List.mem_of_getElem? ha)
        have tkB : TK H HB := fun c o i e => by
          by_cases w1 : c = td
          · rw [w1, e2] at e; cases e; exact i.elim
          · by_cases w2 : c = a
            · rw [w2, hrow] at e; cases e; exact i.elim
            · exact sB _ _ (kR e w1 w2)
        refine q HB G t2 ⟨fun c o e ng => sB _ _ (kR e (fun w => ng (by rw [w]; exact g1)) fun w => ng (by rw [w]; exact ga)), fun y hy => .inl hy⟩ ?_ ?_ ?_
        · rw [el]
          refine ⟨⟨td, rl, ras, kvs', sB _ _ (kR e1 n1 nam), sB _ _ hdR, sB _ _ (kR e3 n2 nar.symm), ?_, tab_cut GL hl h2 hen3.1 hen3.2 tb8, hl9, e7, g1, g2, g3, e8⟩, tkB.tup M.sz, M.own, fun y hy => ?_⟩
          · have e4B : Paired (fun c l' => c ≠ a → HB c = some (.lst (LetS.row l'))) ras L := paired_memP e4 fun c l' hc w na => sB _ _ (kR w (by
              rintro rfl
              rw [w] at e2
              cases e2) na)
            exact paired_set e4B ha e7 (sB _ _ haR) fun x y nx w => w nx
          · by_cases w1 : y = td
            · rw [w1, sB _ _ hdR]; exact fun w => nomatch w
            · by_cases w2 : y = a
              · rw [w2, sB _ _ haR]; exact fun w => nomatch w
              · cases w : H y with
                | none => exact absurd w (M.lv y hy)
                | some o => rw [sB _ _ (kR w w1 w2)]; exact fun w => nomatch w
        · rw [eo]
          exact .tup (st_of htB) (.cons (.str _) (.cons .non .nil))
        · have h8 := kF ht2
          cases w : H t2 with
          | none => rfl
          | some o =>
            exfalso
            by_cases w1 : t2 = td
            · rw [w1, hd8] at h8; cases h8
            · rw [kH w w1] at h8; cases h8
theorem ok__law_cut {Z : Zn} (T : Tx Z) : GF Z "_law_cut" 1 ["m", "lease", "used"] [] (sp__law_cut Z) := GF.of (T.df 25) (T.glo 25) b__law_cut sc__law_cut (by walk_at "len") (w__law_cut T)


/-! ## _law_due -/
def N__law_due : List Str := ["m", "deed"]
theorem sc__law_due : FnScope N__law_due ["m", "deed"] (defScope s__law_due) := ⟨rfl, rfl, rfl, by decide +kernel, rfl, by decide +kernel, by decide +kernel⟩
theorem b__law_due : BindsBy "_law_due" "_law_due" s__law_due ["m", "deed"] := fun _ _ _ _ _ _ us hl => match us, hl with | [_, _], _ => rfl
/-- a deed that the law draws -/
def DeedOk : Deed → Prop
  | .lt hol _ mo s => holdB (.str hol) = (!decide (hol = "") && Txt.isalpha hol) ∧ hol.length ≤ sizeLine ∧ -10000 ≤ mo ∧ mo ≤ 10000 ∧ s ≤ 10000
  | .ct _ _ => True
/-- what was let last: None, or a deed -/
def LastAt (H : Hp) (la : V) : Prop := la = .non ∨ ∃ t hol hou mo s, la = .ref t ∧ DeedAt H t (.lt hol hou mo s) ∧ DeedOk (.lt hol hou mo s)
def sp__law_due (Z : Zn) : Sp := fun vs H Q _ => ∃ m z sz G la L n t d out L', vs = [.ref m, .ref t] ∧ MdlAt Z H m z sz G la L n ∧ GoodL L sz.1 sz.2.1 ∧ 1 ≤ sz.1 ∧ 1 ≤ sz.2.1 ∧ sz.1 ≤ 1000 ∧ sz.2.1 ≤ 1000 ∧ L.length < 100000 ∧ n ≤ 900000 ∧ DeedAt H t d ∧ DeedOk d ∧ Step L sz.1 sz.2.1 d out L' ∧
  ∀ (H' : Hp) (G' : Addr → Prop) (r : Addr) (lb : V), Ext G G' H H' → MdlAt Z H' m z sz G' lb L' (n + 1000) → (lb = la ∨ (lb = .ref t ∧ ∃ hol hou mo s, d = .lt hol hou mo s)) → Dp Z.K H' (.ref r) out → H r = none → Q (.ref r) H'
theorem w__law_due {Z : Zn} (T : Tx Z) : BodyOk Z N__law_due "_law_due" s__law_due (He.fAd Z.K ("_law_due", none)) 2 (sp__law_due Z) := by
  intro cdv A outer s H vs Q E hr hu tk hx hp h
  have sc := sc__law_due
  refine ⟨_, (pss_cons (ps_if (pt_cmpR (op_eqU hr.units) (pe_ix (ix_U hu) (pv 1) pe_int (fun _ _ => rfl)) pe_str (nomark _))
    (pss_cons (ps_asg (pv 1) (pg_sub (pv 0) pe_str (set_U hu)))
    (pss_one (ps_ret (pe_g (ok__law_let T) (hr.mono (by decide)) (by rfl) hx (pa_cons (pv 0) (pa_cons (pe_ix (ix_U hu) (pv 1) pe_int (fun _ _ => rfl)) (pa_cons (pe_ix (ix_U hu) (pv 1) pe_int (fun _ _ => rfl)) (pa_cons (pe_ix (ix_U hu) (pv 1) pe_int (fun _ _ => rfl)) (pa_cons (pe_ix (ix_U hu) (pv 1) pe_int (fun _ _ => rfl)) pa_nil)))))))))
    pss_nil)
    (pss_one (ps_ret (pe_g (ok__law_cut T) (hr.mono (by decide)) (by rfl) hx (pa_cons (pv 0) (pa_cons (pe_ix (ix_U hu) (pv 1) pe_int (fun _ _ => rfl)) (pa_cons (pe_ix (ix_U hu) (pv 1) pe_int (fun _ _ => rfl)) pa_nil))))))), ?_⟩
  obtain ⟨m, z, sz, G, la, L, n, t, d, out, L', rfl, M, GL, b8, b9, b1, b2, b3, b4, hd, ok, st, q⟩ := h
  match d, hd, ok, st with
  | .lt hol hou mo s1, hd, ⟨o1, o2, o3, o4, o5⟩, st =>
    have hd : H t = some (.tup [.str "let", .str hol, optV hou, .int mo, .int s1]) := hd
    walk_at "rd"
    refine rd_ixT (st_of hd) (v := .str "let") rfl ?_
    walk_at "rd"
    obtain ⟨⟨td, rl, ras, kvs, e1, e2, e3, e4, e5, e6, e7, g1, g2, g3, e8⟩, es, g0, lv⟩ := M
    refine set_dk (k := .inr "last") e1 (lt_size (by simp)) ?_
    rw [md_put]
    have nm : ∀ {c : Addr} {o : HO}, H c = some o → (∀ kvs : List (Key × V), o ≠ .dK kvs) → c ≠ m := fun {c o} e w => by
      rintro rfl
      rw [e1] at e
      exact w _ (Option.some.inj e).symm
    have k1 : ∀ {c : Addr} {o : HO}, H c = some o → c ≠ m → (upd H m (.dK (mdFs z td rl (.ref t)))) c = some o := fun {c o} e w => by
      rw [upd_ne w]; exact e
    have hm1 : (upd H m (.dK (mdFs z td rl (.ref t)))) m = some (.dK (mdFs z td rl (.ref t))) := upd_same
    have tk1 : TK H (upd H m (.dK (mdFs z td rl (.ref t)))) := (TK.refl H).upd fun u i w => by rw [e1] at w; cases w; exact i
    have f1 : Fr (· = m) H (upd H m (.dK (mdFs z td rl (.ref t)))) := Fr.one rfl
    generalize upd H m (.dK (mdFs z td rl (.ref t))) = H1 at k1 hm1 tk1 f1
    have M1 : MdlAt Z H1 m z sz G (.ref t) L n := by
      refine ⟨⟨td, rl, ras, kvs, hm1, k1 e2 (nm e2 fun _ w => nomatch w), k1 e3 (nm e3 fun _ w => nomatch w), paired_memP e4 fun c l hc w => k1 w (nm w fun _ w => nomatch w), e5, e6, e7, g1, g2, g3, e8⟩, tk1.tup es, g0, fun y hy => ?_⟩
      by_cases w : y = m
      · rw [w, hm1]; exact fun w => nomatch w
      · cases w2 : H y with
        | none => exact absurd w2 (lv y hy)
        | some o => rw [k1 w2 w]; exact fun w => nomatch w
    have x1 : Ext G G H H1 := ⟨f1.mono fun b w => by rw [w]; exact g0, fun y hy => .inl hy⟩
    have hd1 := tk1.tup hd
    have sq := st_of (K := Z.K) hd1
    walk_at "rd"
    refine rd_ixT sq (v := .str hol) rfl ?_
    walk_at "rd"
    refine rd_ixT sq (v := optV hou) rfl ?_
    walk_at "rd"
    refine rd_ixT sq (v := .int mo) rfl ?_
    walk_at "rd"
    refine rd_ixT sq (v := .int s1) rfl ?_
    walk_at "rd"
    refine ⟨m, z, sz, G, .ref t, L, n, hol, hou, mo, s1, out, L', rfl, M1, GL, b8, b9, b1, b2, b3, b4, o1, o3, o4, o5, st, fun H2 G2 r x2 M2 dp hr tk2 => ?_⟩
    refine q H2 G2 r _ (x1.trans x2) M2 (.inr ⟨rfl, hol, hou, mo, s1, rfl⟩) dp ?_
    cases w : H r with
    | none => rfl
    | some o =>
      by_cases w2 : r = m
      · rw [w2, hm1] at hr; cases hr
      · rw [k1 w w2] at hr; cases hr
  | .ct le us, hd, _, st =>
    obtain ⟨lv, hd1, hle⟩ : ∃ lv, H t = some (.tup [.str "cut", lv, optV us]) ∧ LeaseAt H lv le := by
      match le, hd with
      | none, hd => exact ⟨.non, hd, .inl ⟨rfl, rfl⟩⟩
      | some (a, b, u), ⟨q0, h1, h2⟩ => exact ⟨.ref q0, h1, .inr ⟨a, b, u, q0, rfl, rfl, h2⟩⟩
    walk_at "rd"
    refine rd_ixT (st_of hd1) (v := .str "cut") rfl ?_
    walk_at "rd"
    refine rd_ixT (st_of hd1) (v := lv) rfl ?_
    walk_at "rd"
    refine rd_ixT (st_of hd1) (v := optV us) rfl ?_
    walk_at "rd"
    exact ⟨m, z, sz, G, la, L, n, lv, le, us, out, L', rfl, M, GL, b1, b4, hle, st, fun H2 G2 r x2 M2 dp hr tk2 => q H2 G2 r _ x2 M2 (.inl rfl) dp hr⟩
theorem ok__law_due {Z : Zn} (T : Tx Z) : GF Z "_law_due" 3 ["m", "deed"] [] (sp__law_due Z) := GF.of (T.df 26) (T.glo 26) b__law_due sc__law_due (by walk_at "len") (w__law_due T)


/-! ## _law_lease -/
def N__law_lease : List Str := ["rows", "number", "row"]
theorem sc__law_lease : FnScope N__law_lease ["rows", "number"] (defScope s__law_lease) := ⟨rfl, rfl, rfl, by decide +kernel, rfl, by decide +kernel, by decide +kernel⟩
theorem b__law_lease : BindsBy "_law_lease" "_law_lease" s__law_lease ["rows", "number"] := fun _ _ _ _ _ _ us hl => match us, hl with | [_, _], _ => rfl
/-- the values are rows, of these lets -/
def RowsAt (H : Hp) (ws : List V) (L : List LetS) : Prop := ∀ v ∈ ws, ∃ (a : Addr) (l : LetS), v = .ref a ∧ H a = some (.lst (LetS.row l)) ∧ l ∈ L
def sp__law_lease (Z : Zn) : Sp := fun vs H Q _ => ∃ p ws L k, vs = [.ref p, .int k] ∧ H p = some (.lst ws) ∧ RowsAt H ws L ∧ ws ≠ [] ∧ ∀ l ∈ L, ∀ t, H t = none → Q (.ref t) (upd H t (.tup [.int l.ho, .int l.b, .int l.u]))
theorem w__law_lease {Z : Zn} (T : Tx Z) : BodyOk Z N__law_lease "_law_lease" s__law_lease (He.fAd Z.K ("_law_lease", none)) 0 (sp__law_lease Z) := by
  intro cdv A outer s H vs Q E hr hu tk hx hp h
  have sc := sc__law_lease
  refine ⟨_, (pss_cons (ps_set (i := 2) sc.nd rfl (by first | exact Or.inl rfl | exact Or.inr rfl) (pe_ix (ix_U hu) (pv 0) (pe_op op_modU (pv 1) (pe_callB (cb_len) (by rfl) (n_len T) bt_len (pa_cons (pv 0) pa_nil))) (fun _ _ => rfl)))
    (pss_one (ps_ret (pe_tup (pa_cons (pe_ix (ix_U hu) (pv 2) pe_int (fun _ _ => rfl)) (pa_cons (pe_ix (ix_U hu) (pv 2) pe_int (fun _ _ => rfl)) (pa_cons (pe_ix (ix_U hu) (pv 2) pe_int (fun _ _ => rfl)) pa_nil))))))), ?_⟩
  obtain ⟨p, ws, L, k, rfl, hp, rows, hne, q⟩ := h
  have hpos : 0 < ws.length := List.length_pos_iff.mpr hne
  walk_at "rd"
  refine rd_lenL (sq_of hp) ?_
  walk_at "rd"
  have h0 := Int.emod_nonneg k (show (ws.length : Int) ≠ 0 by omega)
  have h1 := Int.emod_lt_of_pos k (show (0 : Int) < ws.length by omega)
  obtain ⟨v, hv, at_⟩ := menu_at h0 h1
  refine rd_ixL (sq_of hp) at_ ?_
  obtain ⟨a, l, rfl, hr, hl⟩ := rows v hv
  walk_at "rd"
  refine rd_ixL (sq_of hr) (v := .int l.ho) rfl ?_
  walk_at "rd"
  refine rd_ixL (sq_of hr) (v := .int l.b) rfl ?_
  walk_at "rd"
  refine rd_ixL (sq_of hr) (v := .int l.u) rfl ?_
  walk_at "rd"
  exact q l hl
theorem ok__law_lease {Z : Zn} (T : Tx Z) : GF Z "_law_lease" 1 ["rows", "number"] [] (sp__law_lease Z) := GF.of (T.df 27) (T.glo 27) b__law_lease sc__law_lease (by walk_at "len") (w__law_lease T)


/-! ## _law_used -/
def N__law_used : List Str := ["source", "lease", "way"]
theorem sc__law_used : FnScope N__law_used ["source", "lease"] (defScope s__law_used) := ⟨rfl, rfl, rfl, by decide +kernel, rfl, by decide +kernel, by decide +kernel⟩
theorem b__law_used : BindsBy "_law_used" "_law_used" s__law_used ["source", "lease"] := fun _ _ _ _ _ _ us hl => match us, hl with | [_, _], _ => rfl
def sp__law_used (Z : Zn) : Sp := fun vs H Q _ => ∃ s src t a b u, vs = [.ref s, .ref t] ∧ H s = some (.lst (Src.l src)) ∧ H t = some (.tup [.int a, .int b, .int u]) ∧ 0 ≤ b ∧ b < u ∧ u ≤ 1000 ∧ ∀ us H', Drawn s H H' → Q (optV us) H'
theorem w__law_used {Z : Zn} (T : Tx Z) : BodyOk Z N__law_used "_law_used" s__law_used (He.fAd Z.K ("_law_used", none)) 2 (sp__law_used Z) := by
  intro cdv A outer s H vs Q E hr hu tk hx hp h
  have sc := sc__law_used
  refine ⟨_, (pss_cons (ps_set (i := 2) sc.nd rfl (by first | exact Or.inl rfl | exact Or.inr rfl) (pe_g (ok__law_next T) (hr.mono (by decide)) (by rfl) hx (pa_cons (pv 0) (pa_cons pe_int pa_nil))))
    (pss_cons (ps_if (pt_cmpR op_ltU (pv 2) pe_int (nomark _))
    (pss_one (ps_ret pe_non))
    pss_nil)
    (pss_cons (ps_if (pt_cmpR (op_eqU hr.units) (pv 2) pe_int (nomark _))
    (pss_one (ps_ret (pe_ix (ix_U hu) (pe_lst (pa_cons (pe_op op_subU (pe_ix (ix_U hu) (pv 1) pe_int (fun _ _ => rfl)) pe_int) (pa_cons (pe_ix (ix_U hu) (pv 1) pe_int (fun _ _ => rfl)) pa_nil))) (pe_g (ok__law_next T) (hr.mono (by decide)) (by rfl) hx (pa_cons (pv 0) (pa_cons pe_int pa_nil))) (fun _ _ => rfl))))
    pss_nil)
    (pss_one (ps_ret (pe_op op_addU (pe_ix (ix_U hu) (pv 1) pe_int (fun _ _ => rfl)) (pe_ix (ix_U hu) (pe_lst (pa_cons pe_int (pa_cons (pe_op op_subU (pe_op op_subU (pe_ix (ix_U hu) (pv 1) pe_int (fun _ _ => rfl)) (pe_ix (ix_U hu) (pv 1) pe_int (fun _ _ => rfl))) pe_int) (pa_cons (pe_g (ok__law_next T) (hr.mono (by decide)) (by rfl) hx (pa_cons (pv 0) (pa_cons (pe_op op_subU (pe_ix (ix_U hu) (pv 1) pe_int (fun _ _ => rfl)) (pe_ix (ix_U hu) (pv 1) pe_int (fun _ _ => rfl))) pa_nil))) pa_nil)))) (pe_op op_modU (pv 2) pe_int) (fun _ _ => rfl)))))))), ?_⟩
  obtain ⟨s, src, t, a, b, u, rfl, hs, ht, hb, hbu, hu1, q⟩ := h
  walk_at "rd"
  refine nx_step (Drawn.start hs) (by decide) (by decide) fun way H1 w0 w1 D1 tk1 _ => ?_
  have ht1 := tk1.tup ht
  walk_at "rd"
  by_cases h3 : way < 3
  · rw [decide_eq_true h3]
    walk_at "rd"
    exact q none _ D1
  rw [decide_eq_false h3]
  walk_at "rd"
  by_cases h8 : way = 8
  · rw [decide_eq_true (show V.int way = V.int 8 by rw [h8])]
    walk_at "rd"
    refine rd_ixT (st_of ht1) (v := .int b) rfl ?_
    walk_at "rd"
    refine rd_ixT (st_of ht1) (v := .int u) rfl ?_
    walk_at "rd"
    intro k hk
    have D2 := D1.new (o := .lst [.int (b - 1), .int u]) hk
    have hk2 : (upd H1 k (.lst [.int (b - 1), .int u])) k = some (.lst [.int (b - 1), .int u]) := upd_same
    have nk : k ≠ s := by
      obtain ⟨s', e⟩ := D1.at_
      exact (ne_of_none e hk).symm
    generalize upd H1 k (.lst [.int (b - 1), .int u]) = H2 at D2 hk2
    walk_at "rd"
    refine nx_step D2 (by decide) (by decide) fun r H3 r0 r1 D3 tk3 k3 => ?_
    obtain ⟨v, hv, at_⟩ := menu_at (xs := [.int (b - 1), .int u]) r0 r1
    refine rd_ixL (sq_of (k3 _ _ hk2 nk)) at_ ?_
    walk_at "rd"
    simp only [List.mem_cons, List.not_mem_nil, or_false] at hv
    rcases hv with rfl | rfl
    · exact q (some (b - 1)) _ D3
    · exact q (some u) _ D3
  · rw [decide_eq_false (show ¬ V.int way = V.int 8 from fun z => h8 (V.int.inj z))]
    walk_at "rd"
    refine rd_ixT (st_of ht1) (v := .int b) rfl ?_
    walk_at "rd"
    refine rd_ixT (st_of ht1) (v := .int u) rfl ?_
    walk_at "rd"
    refine rd_ixT (st_of ht1) (v := .int b) rfl ?_
    walk_at "rd"
    refine rd_ixT (st_of ht1) (v := .int u) rfl ?_
    walk_at "rd"
    refine rd_ixT (st_of ht1) (v := .int b) rfl ?_
    walk_at "rd"
    have lg : (u - b).natAbs.log2 < 9000 := Nat.lt_of_le_of_lt (log2_le (by omega) (show u - b ≤ 1000 by omega)) (by decide)
    refine nx_step D1 (by omega) lg fun r H2 r0 r1 D2 tk2 _ => ?_
    walk_at "rd"
    intro k hk
    have D3 := D2.new (o := .lst [.int 0, .int (u - b - 1), .int r]) hk
    have hk2 : (upd H2 k (.lst [.int 0, .int (u - b - 1), .int r])) k = some (.lst [.int 0, .int (u - b - 1), .int r]) := upd_same
    generalize upd H2 k (.lst [.int 0, .int (u - b - 1), .int r]) = H3 at D3 hk2
    walk_at "rd"
    have m0 := Int.emod_nonneg way (show (3 : Int) ≠ 0 by decide)
    have m1 := Int.emod_lt_of_pos way (show (0 : Int) < 3 by decide)
    obtain ⟨v, hv, at_⟩ := menu_at (xs := [.int 0, .int (u - b - 1), .int r]) m0 m1
    refine rd_ixL (sq_of hk2) at_ ?_
    obtain ⟨i, rfl⟩ : ∃ i, v = V.int i := by
      simp only [List.mem_cons, List.not_mem_nil, or_false] at hv
      rcases hv with rfl | rfl | rfl <;> exact ⟨_, rfl⟩
    walk_at "rd"
    exact q (some (b + i)) _ D3
theorem ok__law_used {Z : Zn} (T : Tx Z) : GF Z "_law_used" 3 ["source", "lease"] [] (sp__law_used Z) := GF.of (T.df 28) (T.glo 28) b__law_used sc__law_used (by walk_at "len") (w__law_used T)


/-! ## _law_drawn_let -/
def N__law_drawn_let : List Str := ["source", "m", "holders", "holder", "house", "moment"]
theorem sc__law_drawn_let : FnScope N__law_drawn_let ["source", "m", "holders"] (defScope s__law_drawn_let) := ⟨rfl, rfl, rfl, by decide +kernel, rfl, by decide +kernel, by decide +kernel⟩
theorem b__law_drawn_let : BindsBy "_law_drawn_let" "_law_drawn_let" s__law_drawn_let ["source", "m", "holders"] := fun _ _ _ _ _ _ us hl => match us, hl with | [_, _, _], _ => rfl
/-- a name that the law draws -/
def HolOk (x : Str) : Prop := holdB (.str x) = (!decide (x = "") && Txt.isalpha x) ∧ x.length ≤ sizeLine
def sp__law_drawn_let (Z : Zn) : Sp := fun vs H Q _ => ∃ s src m z sz G la L n hs x1 x2 x3, vs = [.ref s, .ref m, .ref hs] ∧ H s = some (.lst (Src.l src)) ∧ MdlAt Z H m z sz G la L n ∧ ¬ G s ∧ H hs = some (.lst [.str x1, .str x2, .str x3]) ∧ HolOk x1 ∧ HolOk x2 ∧ HolOk x3 ∧ 1 ≤ sz.1 ∧ 1 ≤ sz.2.1 ∧ sz.1 ≤ 1000 ∧ sz.2.1 ≤ 1000 ∧
  ∀ H' t d, Drawn s H H' → DeedAt H' t d → DeedOk d → Q (.ref t) H'
theorem w__law_drawn_let {Z : Zn} (T : Tx Z) : BodyOk Z N__law_drawn_let "_law_drawn_let" s__law_drawn_let (He.fAd Z.K ("_law_drawn_let", none)) 2 (sp__law_drawn_let Z) := by
  intro cdv A outer s H vs Q E hr hu tk hx hp h
  have sc := sc__law_drawn_let
  refine ⟨_, (pss_cons (ps_set (i := 3) sc.nd rfl (by first | exact Or.inl rfl | exact Or.inr rfl) (pe_ix (ix_U hu) (pv 2) (pe_g (ok__law_next T) (hr.mono (by decide)) (by rfl) hx (pa_cons (pv 0) (pa_cons pe_int pa_nil))) (fun _ _ => rfl)))
    (pss_cons (ps_set (i := 4) sc.nd rfl (by first | exact Or.inl rfl | exact Or.inr rfl) (pe_ix (ix_U hu) (pe_lst (pa_cons pe_non (pa_cons (pe_g (ok__law_next T) (hr.mono (by decide)) (by rfl) hx (pa_cons (pv 0) (pa_cons (pe_ix (ix_U hu) (pe_ix (ix_U hu) (pv 1) pe_str (fun _ _ => rfl)) pe_int (fun _ _ => rfl)) pa_nil))) pa_nil))) (pe_g (ok__law_next T) (hr.mono (by decide)) (by rfl) hx (pa_cons (pv 0) (pa_cons pe_int pa_nil))) (fun _ _ => rfl)))
    (pss_cons (ps_set (i := 5) sc.nd rfl (by first | exact Or.inl rfl | exact Or.inr rfl) (pe_op op_subU (pe_g (ok__law_next T) (hr.mono (by decide)) (by rfl) hx (pa_cons (pv 0) (pa_cons (pe_op op_addU (pe_ix (ix_U hu) (pe_ix (ix_U hu) (pv 1) pe_str (fun _ _ => rfl)) pe_int (fun _ _ => rfl)) pe_int) pa_nil))) pe_int))
    (pss_one (ps_ret (pe_tup (pa_cons pe_str (pa_cons (pv 3) (pa_cons (pv 4) (pa_cons (pv 5) (pa_cons (pe_op op_addU pe_int (pe_g (ok__law_next T) (hr.mono (by decide)) (by rfl) hx (pa_cons (pv 0) (pa_cons (pe_ix (ix_U hu) (pe_lst (pa_cons pe_int (pa_cons pe_int pa_nil))) (pe_g (ok__law_next T) (hr.mono (by decide)) (by rfl) hx (pa_cons (pv 0) (pa_cons pe_int pa_nil))) (fun _ _ => rfl)) pa_nil)))) pa_nil))))))))))), ?_⟩
  obtain ⟨s, src, m, z, sz, G, la, L, n, hs, x1, x2, x3, rfl, hs0, M, ng, hh, o1, o2, o3, b8, b9, b1, b2, q⟩ := h
  have nhs : hs ≠ s := by
    rintro rfl
    rw [hs0] at hh
    have e := Option.some.inj hh
    have e2 := (List.cons.inj (HO.lst.inj e)).1
    cases e2
  have MK : ∀ {H' : Hp}, Drawn s H H' → MdlAt Z H' m z sz G la L n := fun D => M.keep (fun b o g e => D.get e (by rintro rfl; exact ng g)) (D.tk hs0)
  walk_at "rd"
  refine nx_step (Drawn.start hs0) (by decide) (by decide) fun r1 H1 a0 a1 D1 tk1 k1 => ?_
  obtain ⟨v, hv, at_⟩ := menu_at (xs := [.str x1, .str x2, .str x3]) a0 a1
  obtain ⟨hol, rfl, oh⟩ : ∃ hol, v = V.str hol ∧ HolOk hol := by
    simp only [List.mem_cons, List.not_mem_nil, or_false] at hv
    rcases hv with rfl | rfl | rfl
    · exact ⟨_, rfl, o1⟩
    · exact ⟨_, rfl, o2⟩
    · exact ⟨_, rfl, o3⟩
  refine rd_ixL (sq_of (D1.get hh nhs)) at_ ?_
  walk_at "rd"
  refine rm_shape (MK D1) ?_
  walk_at "rd"
  refine rd_ixT (st_of (MK D1).sz) (v := .int sz.2.1) rfl ?_
  walk_at "rd"
  have lg : sz.2.1.natAbs.log2 < 9000 := Nat.lt_of_le_of_lt (log2_le (by omega) b2) (by decide)
  refine nx_step D1 (by omega) lg fun r2 H2 c0 c1 D2 _ _ => ?_
  walk_at "rd"
  intro k hk
  have D3 := D2.new (o := .lst [.non, .int r2]) hk
  have hk3 : (upd H2 k (.lst [.non, .int r2])) k = some (.lst [.non, .int r2]) := upd_same
  have nk : k ≠ s := by
    obtain ⟨s', e⟩ := D2.at_
    exact (ne_of_none e hk).symm
  generalize upd H2 k (.lst [.non, .int r2]) = H3 at D3 hk3
  walk_at "rd"
  refine nx_step D3 (by decide) (by decide) fun r3 H4 d0 d1 D4 _ k4 => ?_
  obtain ⟨v2, hv2, at2⟩ := menu_at (xs := [.non, .int r2]) d0 d1
  obtain ⟨hou, rfl⟩ : ∃ hou, v2 = optV hou := by
    simp only [List.mem_cons, List.not_mem_nil, or_false] at hv2
    rcases hv2 with rfl | rfl
    · exact ⟨none, rfl⟩
    · exact ⟨some r2, rfl⟩
  refine rd_ixL (sq_of (k4 _ _ hk3 nk)) at2 ?_
  walk_at "rd"
  refine rm_shape (MK D4) ?_
  walk_at "rd"
  refine rd_ixT (st_of (MK D4).sz) (v := .int sz.1) rfl ?_
  walk_at "rd"
  have lg2 : (sz.1 + 3).natAbs.log2 < 9000 := Nat.lt_of_le_of_lt (log2_le (by omega) (show sz.1 + 3 ≤ 1003 by omega)) (by decide)
  refine nx_step D4 (by omega) lg2 fun r4 H5 f0 f1 D5 _ _ => ?_
  walk_at "rd"
  intro k2 hk2
  have D6 := D5.new (o := .lst [.int 3, .int 9]) hk2
  have hk6 : (upd H5 k2 (.lst [.int 3, .int 9])) k2 = some (.lst [.int 3, .int 9]) := upd_same
  have nk2 : k2 ≠ s := by
    obtain ⟨s', e⟩ := D5.at_
    exact (ne_of_none e hk2).symm
  generalize upd H5 k2 (.lst [.int 3, .int 9]) = H6 at D6 hk6
  walk_at "rd"
  refine nx_step D6 (by decide) (by decide) fun r5 H7 g0 g1 D7 _ k7 => ?_
  obtain ⟨v3, hv3, at3⟩ := menu_at (xs := [.int 3, .int 9]) g0 g1
  obtain ⟨w, rfl, w0, w1⟩ : ∃ w, v3 = V.int w ∧ 1 ≤ w ∧ w ≤ 9 := by
    simp only [List.mem_cons, List.not_mem_nil, or_false] at hv3
    rcases hv3 with rfl | rfl
    · exact ⟨3, rfl, by decide, by decide⟩
    · exact ⟨9, rfl, by decide, by decide⟩
  refine rd_ixL (sq_of (k7 _ _ hk6 nk2)) at3 ?_
  walk_at "rd"
  have lg3 : w.natAbs.log2 < 9000 := Nat.lt_of_le_of_lt (log2_le (by omega) w1) (by decide)
  refine nx_step D7 (by omega) lg3 fun r6 H8 i0 i1 D8 _ _ => ?_
  walk_at "rd"
  intro t ht
  exact q _ t (.lt hol hou (r4 - 2) (1 + r6)) (D8.new ht) upd_same ⟨oh.1, oh.2, by omega, by omega, by omega⟩
theorem ok__law_drawn_let {Z : Zn} (T : Tx Z) : GF Z "_law_drawn_let" 3 ["source", "m", "holders"] [] (sp__law_drawn_let Z) := GF.of (T.df 29) (T.glo 29) b__law_drawn_let sc__law_drawn_let (by walk_at "len") (w__law_drawn_let T)


/-! ## _law_deeds -/
def N__law_deeds : List Str := ["source", "m", "other", "holders", "kind", "some", "odd", "lease", "used", "alike", "row"]
theorem sc__law_deeds : FnScope N__law_deeds ["source", "m", "other", "holders"] (defScope s__law_deeds) := ⟨rfl, rfl, rfl, by decide +kernel, rfl, by decide +kernel, by decide +kernel⟩
theorem b__law_deeds : BindsBy "_law_deeds" "_law_deeds" s__law_deeds ["source", "m", "other", "holders"] := fun _ _ _ _ _ _ us hl => match us, hl with | [_, _, _, _], _ => rfl
/-- what is wanted of the lets whose rows are drawn from -/
def RowsOk (LL : List LetS) : Prop := ∀ l ∈ LL, 0 ≤ l.b ∧ l.b < l.u ∧ l.u ≤ 1000 ∧ PyData.strOk l.h = true
theorem row_ne_src {H : Hp} {a s : Addr} {l : LetS} {src : Src} (h : H a = some (.lst (LetS.row l))) (hs : H s = some (.lst (Src.l src))) : a ≠ s := by
  rintro rfl
  rw [hs] at h
  have e := Option.some.inj h
  have e2 := (List.cons.inj (HO.lst.inj e)).1
  cases e2
theorem RowsAt.drawn {s : Addr} {H H' : Hp} {ws : List V} {LL : List LetS} {src : Src} (r : RowsAt H ws LL) (hs : H s = some (.lst (Src.l src))) (D : Drawn s H H') : RowsAt H' ws LL := fun v hv => let ⟨a, l, e1, e2, e3⟩ := r v hv; ⟨a, l, e1, D.get e2 (row_ne_src e2 hs), e3⟩
theorem RowsAt.same {H H' : Hp} {ws : List V} {LL : List LetS} (r : RowsAt H ws LL) (sm : Same H H') : RowsAt H' ws LL := fun v hv => let ⟨a, l, e1, e2, e3⟩ := r v hv; ⟨a, l, e1, sm _ _ e2, e3⟩
theorem rows_dp2 {K : PySem.W.Frag} {H : Hp} {LL : List LetS} (ok : RowsOk LL) : ∀ {ws : List V}, RowsAt H ws LL → ∃ ds, DpAll K H ws ds ∧ ds.length = ws.length ∧ PyData.canLayAll0 ds = true ∧ PyData.depthAll ds ≤ 2
  | [], _ => ⟨[], .nil, rfl, rfl, by simp [PyData.depthAll]⟩
  | v :: ws, hw => by
    obtain ⟨ds, h1, h2, h3, h4⟩ := rows_dp2 (K := K) ok (ws := ws) fun x hx => hw x (List.mem_cons_of_mem _ hx)
    obtain ⟨a, l, rfl, q, hl⟩ := hw v List.mem_cons_self
    have so := (ok l hl).2.2.2
    refine ⟨.list [.str l.h, .int l.ho, .int l.b, .int l.e, .int l.u, .bool l.cut] :: ds, .cons (.lst (sq_of q) (.cons (.str _) (.cons (.int _) (.cons (.int _) (.cons (.int _) (.cons (.int _) (.cons (.bl _) .nil))))))) h1, congrArg Nat.succ h2, ?_, ?_⟩
    · simp [PyData.canLayAll0, PyData.canLay0, so, h3]
    · rw [PyData.depthAll]
      have : PyData.depth (.list [.str l.h, .int l.ho, .int l.b, .int l.e, .int l.u, .bool l.cut]) ≤ 2 := by simp [PyData.depth, PyData.depthAll]
      omega
theorem MdlAt.rows {Z : Zn} {H : Hp} {m z : Addr} {sz : Int × Int × Int} {G : Addr → Prop} {la : V} {L LL : List LetS} {n : Nat} (M : MdlAt Z H m z sz G la L n) (sub : ∀ l ∈ L, l ∈ LL) {Q : VK} (q : ∀ (rl : Addr) (ras : List Addr), H rl = some (.lst (ras.map V.ref)) → RowsAt H (ras.map V.ref) LL → ras.length = L.length → G rl → Q (.ref rl) H) : rIxU Z.K (.ref m) (.str "rows") H Q := by
  obtain ⟨td, rl, ras, kvs, e1, e2, e3, e4, e5, e6, e7, g1, g2, g3, e8⟩ := M.ex
  refine rd_ixK (k := .inr "rows") e1 (md_rows _ _ _ _) (q rl ras e3 (fun v hv => ?_) (Paired.length e4) g2)
  obtain ⟨a, ha, rfl⟩ := List.mem_map.mp hv
  obtain ⟨j, hj, rfl⟩ := List.getElem_of_mem ha
  obtain ⟨l, hl, w⟩ := paired_get e4 (List.getElem?_eq_getElem hj)
  exact ⟨_, l, rfl, w, sub l (List.mem_of_getElem? hl)⟩
theorem rm_last {Z : Zn} {H : Hp} {m z : Addr} {sz : Int × Int × Int} {G : Addr → Prop} {la : V} {L : List LetS} {n : Nat} {Q : VK} (M : MdlAt Z H m z sz G la L n) (q : Q la H) : rIxU Z.K (.ref m) (.str "last") H Q := let ⟨_, _, _, _, e, _⟩ := M.ex; rd_ixK (k := .inr "last") e (md_last _ _ _ _) q
/-- the values are deeds -/
def DeedsAt (H : Hp) (vs : List V) : Prop := ∀ v ∈ vs, ∃ (t : Addr) (d : Deed), v = .ref t ∧ DeedAt H t d ∧ DeedOk d
theorem DeedsAt.tk {H H' : Hp} {vs : List V} (x : DeedsAt H vs) (k : TK H H') : DeedsAt H' vs := fun v hv => let ⟨t, d, e1, e2, e3⟩ := x v hv; ⟨t, d, e1, e2.tk k, e3⟩
theorem rows_ne {H : Hp} {ws : List V} {LL : List LetS} {D a : Addr} {l : LetS} (r : RowsAt H ws LL) (hD : H D = some (.lst ws)) (ha : H a = some (.lst (LetS.row l))) : a ≠ D := by
  rintro rfl
  rw [hD] at ha
  have e := HO.lst.inj (Option.some.inj ha)
  obtain ⟨a', _, e2, _⟩ := r (.str l.h) (by rw [e]; exact List.mem_cons_self)
  cases e2
def sp__law_deeds (Z : Zn) : Sp := fun vs H Q _ => ∃ s src m o z sz G G2 la lo L LB n n2 hs x1 x2 x3, vs = [.ref s, .ref m, .ref o, .ref hs] ∧ H s = some (.lst (Src.l src)) ∧ MdlAt Z H m z sz G la L n ∧ MdlAt Z H o z sz G2 lo LB n2 ∧ ¬ G s ∧ ¬ G2 s ∧ LastAt H lo ∧ RowsOk (L ++ LB) ∧ L.length ≤ 100000 ∧
  H hs = some (.lst [.str x1, .str x2, .str x3]) ∧ HolOk x1 ∧ HolOk x2 ∧ HolOk x3 ∧ 1 ≤ sz.1 ∧ 1 ≤ sz.2.1 ∧ sz.1 ≤ 1000 ∧ sz.2.1 ≤ 1000 ∧
  ∀ (H' : Hp) (D : Addr) (vs' : List V), Drawn s H H' → H' D = some (.lst vs') → DeedsAt H' vs' → vs'.length ≤ 4 → H D = none → Q (.ref D) H'
theorem w__law_deeds {Z : Zn} (T : Tx Z) : BodyOk Z N__law_deeds "_law_deeds" s__law_deeds (He.fAd Z.K ("_law_deeds", none)) 3 (sp__law_deeds Z) := by
  intro cdv A outer s H vs Q E hr hu tk hx hp h
  have sc := sc__law_deeds
  refine ⟨_, (pss_cons (ps_set (i := 4) sc.nd rfl (by first | exact Or.inl rfl | exact Or.inr rfl) (pe_g (ok__law_next T) (hr.mono (by decide)) (by rfl) hx (pa_cons (pv 0) (pa_cons pe_int pa_nil))))
    (pss_cons (ps_set (i := 5) sc.nd rfl (by first | exact Or.inl rfl | exact Or.inr rfl) (pe_ix (ix_U hu) (pv 1) pe_str (fun _ _ => rfl)))
    (pss_cons (ps_if (PW.pt (pw_or (pt_cmpR (op_eqU hr.units) (pv 4) pe_int (nomark _)) (pw_or1 (pt_cmpR (op_eqU hr.units) (pv 4) pe_int (nomark _)))))
    (pss_one (ps_setLc (i := 5) (own := [("row", 10)]) (g := (gName 10)) (tt := _) rfl sc.nd rfl rfl (sw_true rfl rfl rfl (by decide +kernel)) (pi_list (pe_ix (ix_U hu) (pv 1) pe_str (fun _ _ => rfl))) (blkOk_by (N := N__law_deeds) (sc := defScope s__law_deeds) (by decide +kernel)) (fun _ _ _ _ _ => (pg_name (i := 10) sc.nd rfl (by first | exact Or.inl rfl | exact Or.inr rfl))) (fun _ _ _ _ _ => (pts_one (pt_val (pe_ix (ix_K (K := Z.K) rfl (by exact hu)) (pv 10) pe_int (fun _ _ => rfl))))) (fun _ _ _ _ _ => (pv 10))))
    pss_nil)
    (pss_cons (ps_if (pt_cmpR (op_eqU hr.units) (pv 4) pe_int (nomark _))
    (pss_one (ps_set (i := 5) sc.nd rfl (by first | exact Or.inl rfl | exact Or.inr rfl) (pe_ix (ix_U hu) (pv 2) pe_str (fun _ _ => rfl))))
    pss_nil)
    (pss_cons (ps_if (PW.pt (pw_and (pt_cmpR (op_eqU hr.units) (pv 4) pe_int (nomark _)) (pw_and1 (pt_cmpR op_notN2 (pe_ix (ix_U hu) (pv 2) pe_str (fun _ _ => rfl)) pe_non (nomark _)))))
    (pss_one (ps_ret (pe_lst (pa_cons (pe_ix (ix_U hu) (pv 2) pe_str (fun _ _ => rfl)) (pa_cons (pe_op op_addU (pe_tup (pa_cons pe_str (pa_cons (pe_ix (ix_U hu) (pv 3) pe_int (fun _ _ => rfl)) pa_nil))) (pe_slice sl_U (pe_ix (ix_U hu) (pv 2) pe_str (fun _ _ => rfl)) (po_some pe_int) po_none)) pa_nil)))))
    pss_nil)
    (pss_cons (ps_if (pt_cmpR (op_eqU hr.units) (pv 4) pe_int (nomark _))
    (pss_cons (ps_set (i := 6) sc.nd rfl (by first | exact Or.inl rfl | exact Or.inr rfl) (pe_lst (pa_cons (pe_tup (pa_cons pe_str (pa_cons pe_str (pa_cons pe_non (pa_cons pe_int (pa_cons pe_int pa_nil)))))) (pa_cons (pe_tup (pa_cons pe_str (pa_cons pe_str (pa_cons pe_int (pa_cons pe_int (pa_cons pe_int pa_nil)))))) (pa_cons (pe_tup (pa_cons pe_str (pa_cons (pe_ix (ix_U hu) (pv 3) pe_int (fun _ _ => rfl)) (pa_cons (pe_ix (ix_U hu) (pe_ix (ix_U hu) (pv 1) pe_str (fun _ _ => rfl)) pe_int (fun _ _ => rfl)) (pa_cons pe_int (pa_cons pe_int pa_nil)))))) pa_nil)))))
    (pss_cons (ps_set (i := 6) sc.nd rfl (by first | exact Or.inl rfl | exact Or.inr rfl) (pe_op op_addU (pv 6) (pe_lst (pa_cons (pe_tup (pa_cons pe_str (pa_cons (pe_ix (ix_U hu) (pv 3) pe_int (fun _ _ => rfl)) (pa_cons pe_non (pa_cons pe_int (pa_cons pe_int pa_nil)))))) (pa_cons (pe_tup (pa_cons pe_str (pa_cons (pe_tup (pa_cons pe_int (pa_cons pe_int (pa_cons pe_int pa_nil)))) (pa_cons pe_non pa_nil)))) (pa_cons (pe_tup (pa_cons pe_str (pa_cons pe_non (pa_cons pe_int pa_nil)))) pa_nil))))))
    (pss_one (ps_ret (pe_lst (pa_cons (pe_ix (ix_U hu) (pv 6) (pe_g (ok__law_next T) (hr.mono (by decide)) (by rfl) hx (pa_cons (pv 0) (pa_cons pe_int pa_nil))) (fun _ _ => rfl)) pa_nil))))))
    pss_nil)
    (pss_cons (ps_if (PW.pt (pw_or (pt_cmpR op_ltU (pv 4) pe_int (nomark _)) (pw_or1 (pt_cmpR (op_eqU hr.units) (pv 5) (pe_lst pa_nil) (nomark _)))))
    (pss_one (ps_ret (pe_lst (pa_cons (pe_g (ok__law_drawn_let T) (hr.mono (by decide)) (by rfl) hx (pa_cons (pv 0) (pa_cons (pv 1) (pa_cons (pv 3) pa_nil)))) pa_nil))))
    pss_nil)
    (pss_cons (ps_set (i := 7) sc.nd rfl (by first | exact Or.inl rfl | exact Or.inr rfl) (pe_g (ok__law_lease T) (hr.mono (by decide)) (by rfl) hx (pa_cons (pv 5) (pa_cons (pe_g (ok__law_next T) (hr.mono (by decide)) (by rfl) hx (pa_cons (pv 0) (pa_cons pe_int pa_nil))) pa_nil))))
    (pss_cons (ps_set (i := 8) sc.nd rfl (by first | exact Or.inl rfl | exact Or.inr rfl) (pe_g (ok__law_used T) (hr.mono (by decide)) (by rfl) hx (pa_cons (pv 0) (pa_cons (pv 7) pa_nil))))
    (pss_cons (ps_if (pt_cmpR op_ltU (pv 4) pe_int (nomark _))
    (pss_one (ps_ret (pe_lst (pa_cons (pe_tup (pa_cons pe_str (pa_cons (pv 7) (pa_cons (pv 8) pa_nil)))) pa_nil))))
    pss_nil)
    (pss_cons (ps_set (i := 9) sc.nd rfl (by first | exact Or.inl rfl | exact Or.inr rfl) (pe_tup (pa_cons pe_str (pa_cons (pe_ix (ix_U hu) (pv 3) (pe_g (ok__law_next T) (hr.mono (by decide)) (by rfl) hx (pa_cons (pv 0) (pa_cons pe_int pa_nil))) (fun _ _ => rfl)) (pa_cons (pe_ix (ix_U hu) (pv 7) pe_int (fun _ _ => rfl)) (pa_cons (pe_ix (ix_U hu) (pv 7) pe_int (fun _ _ => rfl)) (pa_cons (pe_op op_subU (pe_ix (ix_U hu) (pv 7) pe_int (fun _ _ => rfl)) (pe_ix (ix_U hu) (pv 7) pe_int (fun _ _ => rfl))) pa_nil)))))))
    (pss_one (ps_ret (pe_lst (pa_cons (pe_tup (pa_cons pe_str (pa_cons (pv 7) (pa_cons pe_non pa_nil)))) (pa_cons (pv 9) (pa_cons (pe_tup (pa_cons pe_str (pa_cons (pv 7) (pa_cons (pv 8) pa_nil)))) (pa_cons (pe_tup (pa_cons pe_str (pa_cons (pv 7) (pa_cons (pv 8) pa_nil)))) pa_nil)))))))))))))))))), ?_⟩
  obtain ⟨s, src, m, o, z, sz, G, G2, la, lo, L, LB, n, n2, hs, x1, x2, x3, rfl, hs0, M, M2, ng, ng2, hla, rok, hlen, hh, o1, o2, o3, b8, b9, b1, b2, q⟩ := h
  have nhs : hs ≠ s := by
    rintro rfl
    rw [hs0] at hh
    have e := Option.some.inj hh
    have e2 := (List.cons.inj (HO.lst.inj e)).1
    cases e2
  have MK : ∀ {H' : Hp}, Drawn s H H' → MdlAt Z H' m z sz G la L n := fun D => M.keep (fun b o g e => D.get e (by rintro rfl; exact ng g)) (D.tk hs0)
  have MK2 : ∀ {H' : Hp}, Drawn s H H' → MdlAt Z H' o z sz G2 lo LB n2 := fun D => M2.keep (fun b o g e => D.get e (by rintro rfl; exact ng2 g)) (D.tk hs0)
  have none0 : ∀ {H' : Hp} {r : Addr}, Drawn s H H' → H' r = none → H r = none := fun {H' r} D e => by
    cases x : H r with
    | none => rfl
    | some ob =>
      by_cases w : r = s
      · obtain ⟨s', e'⟩ := D.at_
        rw [w, e'] at e; cases e
      · rw [D.get x w] at e; cases e
  -- a list of these deeds is made and told
  have fin : ∀ (H1 : Hp) (vs' : List V), Drawn s H H1 → DeedsAt H1 vs' → vs'.length ≤ 4 → ∀ D, H1 D = none → Q (.ref D) (upd H1 D (.lst vs')) := fun H1 vs' D1 hd hl D hD => q _ D vs' (D1.new hD) upd_same (hd.tk (TK.new (TK.refl _) hD)) hl (none0 D1 hD)
  walk_at "rd"
  refine nx_step (Drawn.start hs0) (by decide) (by decide) fun kd H1 a0 a1 D1 tk1 _ => ?_
  walk_at "rs"
  refine (MK D1).rows (LL := L ++ LB) (fun l hl => List.mem_append_left _ hl) fun rl ras hrl hrows hrn grl => ?_
  walk_at "rs"
  refine rd_ifJ (fun σ2 H2 => Drawn s H H2 ∧ ∃ p ws y10, σ2 = [some (.ref s), some (.ref m), some (.ref o), some (.ref hs), some (.int kd), some (.ref p), none, none, none, none, y10] ∧ H2 p = some (.lst ws) ∧ RowsAt H2 ws (L ++ LB) ∧ p ≠ s) ?_ ?_
  case refine_2 =>
    intro R hR
    have stay : R [some (.ref s), some (.ref m), some (.ref o), some (.ref hs), some (.int kd), some (.ref rl), none, none, none, none, none] H1 := hR _ _ ⟨D1, rl, _, none, rfl, hrl, hrows, by rintro rfl; exact ng grl⟩
    obtain ⟨s1, hs1⟩ := D1.at_
    walk_at "rd"
    by_cases h78 : kd = 7 ∨ kd = 8
    case neg =>
      rw [decide_eq_false (show ¬ V.int kd = V.int 7 from fun w => h78 (.inl (V.int.inj w)))]
      walk_at "rd"
      rw [decide_eq_false (show ¬ V.int kd = V.int 8 from fun w => h78 (.inr (V.int.inj w)))]
      walk_at "rd"
      exact stay
    rcases h78 with rfl | rfl
    all_goals
      walk_at "rd"
      refine (MK D1).rows (LL := L ++ LB) (fun l hl => List.mem_append_left _ hl) fun rl ras hrl hrows hrn grl => ?_
      refine ⟨rl, rfl, ⟨_, sq_of hrl⟩, fun D hD => lc_it (walk_list (K := Z.K) (a := rl) (xs := ras.map V.ref)) (fun i H5 => ∃ ws, Same H1 H5 ∧ H5 D = some (.lst ws) ∧ ws.length ≤ i ∧ RowsAt H5 ws (L ++ LB)) ?_ ?_ ?_ ?_⟩
      · exact ⟨[], Same.new hD, upd_same, Nat.le_refl _, fun v hv => nomatch hv⟩
      · rintro i H5 _ ⟨_, s5, _⟩
        exact sq_of (s5 _ _ hrl)
      · rintro i y H5 H6 hi ⟨ws, s5, hD5, wl, wr⟩ ⟨rfl, hy⟩
        obtain ⟨a, l, rfl, hra, hll⟩ := hrows.same s5 y (List.mem_of_getElem? hy)
        rw [List.length_map] at hi
        walk_at "rd"
        refine ⟨rfl, ?_⟩
        walk_at "rd"
        refine rd_ixL (sq_of hra) (v := .bl l.cut) rfl ?_
        walk_at "rd"
        cases hc : l.cut with
        | false =>
          walk_at "rd"
          exact ⟨ws, s5, hD5, Nat.le_succ_of_le wl, wr⟩
        | true =>
          walk_at "rd"
          refine ⟨ws, hD5, lt_size (by omega), ws ++ [.ref a], s5.upd' hD, upd_same, by rw [List.length_append]; simp; omega, fun v hv => ?_⟩
          rcases List.mem_append.mp hv with hv | hv
          · obtain ⟨a', l', e1, e2, e3⟩ := wr v hv
            exact ⟨a', l', e1, by rw [upd_ne (rows_ne wr hD5 e2)]; exact e2, e3⟩
          · exact ⟨a, l, List.mem_singleton.mp hv, by rw [upd_ne (rows_ne wr hD5 hra)]; exact hra, hll⟩
      · rintro H5 ⟨ws, s5, hD5, wl, wr⟩
        walk_at "rd"
        refine hR _ _ ⟨D1.same s5, D, ws, _, rfl, hD5, wr, ?_⟩
        rintro rfl
        rw [hs1] at hD
        cases hD
  rintro σ2 H2 ⟨D2, p, ws, y10, rfl, hp2, hr2, nps⟩
  walk_at "rs"
  refine rd_ifJ (fun σ2 H3 => Drawn s H H3 ∧ ∃ p ws y10, σ2 = [some (.ref s), some (.ref m), some (.ref o), some (.ref hs), some (.int kd), some (.ref p), none, none, none, none, y10] ∧ H3 p = some (.lst ws) ∧ RowsAt H3 ws (L ++ LB) ∧ p ≠ s) ?_ ?_
  case refine_2 =>
    intro R hR
    walk_at "rd"
    by_cases h9 : kd = 9
    case neg =>
      rw [decide_eq_false (show ¬ V.int kd = V.int 9 from fun w => h9 (V.int.inj w))]
      walk_at "rd"
      exact hR _ _ ⟨D2, p, ws, y10, rfl, hp2, hr2, nps⟩
    rw [decide_eq_true (show V.int kd = V.int 9 by rw [h9])]
    walk_at "rd"
    refine (MK2 D2).rows (LL := L ++ LB) (fun l hl => List.mem_append_right _ hl) fun rl ras hrl hrows hrn grl => ?_
    exact hR _ _ ⟨D2, rl, _, y10, rfl, hrl, hrows, by rintro rfl; exact ng2 grl⟩
  clear hp2 hr2 nps ws p D2
  rintro σ2 H2 ⟨D2, p, ws, y10, rfl, hp2, hr2, nps⟩
  obtain ⟨s2, hs2⟩ := D2.at_
  walk_at "rs"
  refine rd_ifG (fun H3 => H3 = H2) ?_ ?_
  case refine_2 =>
    intro R hR
    walk_at "rd"
    by_cases h10 : kd = 10
    case neg =>
      rw [decide_eq_false (show ¬ V.int kd = V.int 10 from fun w => h10 (V.int.inj w))]
      walk_at "rd"
      exact hR _ rfl
    rw [decide_eq_true (show V.int kd = V.int 10 by rw [h10])]
    walk_at "rd"
    refine rm_last (MK2 D2) ?_
    walk_at "rd"
    rcases hla with rfl | ⟨t0, hol, hou, mo, sp, rfl, hd0, ok0⟩
    · walk_at "rd"
      exact hR _ rfl
    · rw [decide_eq_false (show ¬ V.ref t0 = V.non from fun w => nomatch w)]
      have hd2 := hd0.tk (D2.tk hs0)
      have ht2 : H2 t0 = some (.tup [.str "let", .str hol, optV hou, .int mo, .int sp]) := hd2
      walk_at "rd"
      refine rm_last (MK2 D2) ?_
      walk_at "rd"
      refine rd_ixL (sq_of (D2.get hh nhs)) (v := .str x1) rfl ?_
      walk_at "rd"
      intro ta hta
      have s3 : Same H2 (upd H2 ta (.tup [.str "let", .str x1])) := Same.new hta
      have hta3 : (upd H2 ta (.tup [.str "let", .str x1])) ta = some (.tup [.str "let", .str x1]) := upd_same
      generalize upd H2 ta (.tup [.str "let", .str x1]) = H3 at s3 hta3
      walk_at "rd"
      refine rm_last ((MK2 D2).same s3) ?_
      walk_at "rd"
      refine rd_slT (st_of (s3 _ _ ht2)) (fun w => absurd (show (2 : Nat) = 0 from w.1) (by decide)) fun _ tb htb => ?_
      have s4 : Same H3 (upd H3 tb (.tup [optV hou, .int mo, .int sp])) := Same.new htb
      have htb4 : (upd H3 tb (.tup (cutV [.str "let", .str hol, optV hou, .int mo, .int sp] (some 2) none))) tb = some (.tup [optV hou, .int mo, .int sp]) := upd_same
      have s4' : Same H3 (upd H3 tb (.tup (cutV [.str "let", .str hol, optV hou, .int mo, .int sp] (some 2) none))) := Same.new htb
      generalize upd H3 tb (.tup (cutV [.str "let", .str hol, optV hou, .int mo, .int sp] (some 2) none)) = H4 at s4' htb4
      walk_at "rd"
      refine .inr (.inr (.inr ⟨ta, tb, _, _, rfl, rfl, st_of (s4' _ _ hta3), st_of htb4, le_size (by simp), fun w => (nomatch w), fun _ w => (nomatch w), fun _ _ tc htc => ?_⟩))
      walk_at "rd"
      refine fin _ [.ref t0, .ref tc] (((D2.same s3).same s4').new htc) ?_ (by simp)
      intro v hv
      have s5 : Same H4 (upd H4 tc (.tup ([.str "let", .str x1] ++ [optV hou, .int mo, .int sp]))) := Same.new htc
      simp only [List.mem_cons, List.not_mem_nil, or_false] at hv
      rcases hv with rfl | rfl
      · exact ⟨t0, .lt hol hou mo sp, rfl, s5 _ _ (s4' _ _ (s3 _ _ ht2)), ok0⟩
      · exact ⟨tc, .lt x1 hou mo sp, rfl, upd_same, o1.1, o1.2, ok0.2.2⟩
  rintro H2 rfl
  walk_at "rs"
  refine rd_ifG (fun H3 => H3 = H2) ?_ ?_
  case refine_2 =>
    intro R hR
    walk_at "rd"
    by_cases h11 : kd = 11
    case neg =>
      rw [decide_eq_false (show ¬ V.int kd = V.int 11 from fun w => h11 (V.int.inj w))]
      walk_at "rd"
      exact hR _ rfl
    rw [decide_eq_true (show V.int kd = V.int 11 by rw [h11])]
    have sqh := sq_of (K := Z.K) (D2.get hh nhs)
    have no0 : HolOk "" := ⟨by decide +kernel, by decide⟩
    have noA : HolOk "a1" := ⟨by decide +kernel, by decide⟩
    walk_at "rd"
    intro t1 ht1
    have D3 := D2.new (o := .tup [.str "let", .str "", .non, .int 0, .int 1]) ht1
    have q1 : DeedAt (upd H2 t1 (.tup [.str "let", .str "", .non, .int 0, .int 1])) t1 (.lt "" none 0 1) := upd_same
    generalize upd H2 t1 (.tup [.str "let", .str "", .non, .int 0, .int 1]) = H3 at D3 q1
    walk_at "rd"
    intro t2 ht2
    have D4 := D3.new (o := .tup [.str "let", .str "a1", .int 0, .int 0, .int 1]) ht2
    have q2 : DeedAt (upd H3 t2 (.tup [.str "let", .str "a1", .int 0, .int 0, .int 1])) t2 (.lt "a1" (some 0) 0 1) := upd_same
    have q1 := q1.tk (TK.new (o := .tup [.str "let", .str "a1", .int 0, .int 0, .int 1]) (TK.refl _) ht2)
    generalize upd H3 t2 (.tup [.str "let", .str "a1", .int 0, .int 0, .int 1]) = H4 at D4 q1 q2
    walk_at "rd"
    refine rd_ixL (sq_of (D4.get hh nhs)) (v := .str x1) rfl ?_
    walk_at "rd"
    refine rm_shape (MK D4) ?_
    walk_at "rd"
    refine rd_ixT (st_of (MK D4).sz) (v := .int sz.2.1) rfl ?_
    walk_at "rd"
    intro t3 ht3
    have D5 := D4.new (o := .tup [.str "let", .str x1, .int sz.2.1, .int 0, .int 0]) ht3
    have q1 := q1.tk (TK.new (o := .tup [.str "let", .str x1, .int sz.2.1, .int 0, .int 0]) (TK.refl _) ht3)
    have q2 := q2.tk (TK.new (o := .tup [.str "let", .str x1, .int sz.2.1, .int 0, .int 0]) (TK.refl _) ht3)
    have kt3 : DeedAt (upd H4 t3 (.tup [.str "let", .str x1, .int sz.2.1, .int 0, .int 0])) t3 (.lt x1 (some sz.2.1) 0 0) := upd_same
    generalize upd H4 t3 (.tup [.str "let", .str x1, .int sz.2.1, .int 0, .int 0]) = H5 at D5 q1 q2 kt3
    walk_at "rd"
    intro ls hls
    have D6 := D5.new (o := .lst [.ref t1, .ref t2, .ref t3]) hls
    have q1 := q1.tk (TK.new (o := .lst [.ref t1, .ref t2, .ref t3]) (TK.refl _) hls)
    have q2 := q2.tk (TK.new (o := .lst [.ref t1, .ref t2, .ref t3]) (TK.refl _) hls)
    have kt3 := kt3.tk (TK.new (o := .lst [.ref t1, .ref t2, .ref t3]) (TK.refl _) hls)
    have kls : (upd H5 ls (.lst [.ref t1, .ref t2, .ref t3])) ls = some (.lst [.ref t1, .ref t2, .ref t3]) := upd_same
    generalize upd H5 ls (.lst [.ref t1, .ref t2, .ref t3]) = H6 at D6 q1 q2 kt3 kls
    walk_at "rd"
    refine rd_ixL (sq_of (D6.get hh nhs)) (v := .str x2) rfl ?_
    walk_at "rd"
    intro t4 ht4
    have D7 := D6.new (o := .tup [.str "let", .str x2, .non, .int 0, .int 0]) ht4
    have q1 := q1.tk (TK.new (o := .tup [.str "let", .str x2, .non, .int 0, .int 0]) (TK.refl _) ht4)
    have q2 := q2.tk (TK.new (o := .tup [.str "let", .str x2, .non, .int 0, .int 0]) (TK.refl _) ht4)
    have kt3 := kt3.tk (TK.new (o := .tup [.str "let", .str x2, .non, .int 0, .int 0]) (TK.refl _) ht4)
    have kls := (Same.new (o := .tup [.str "let", .str x2, .non, .int 0, .int 0]) ht4) _ _ kls
    have kt4 : DeedAt (upd H6 t4 (.tup [.str "let", .str x2, .non, .int 0, .int 0])) t4 (.lt x2 none 0 0) := upd_same
    generalize upd H6 t4 (.tup [.str "let", .str x2, .non, .int 0, .int 0]) = H7 at D7 q1 q2 kt3 kls kt4
    walk_at "rd"
    intro t5 ht5
    have D8 := D7.new (o := .tup [.int 0, .int 0, .int 0]) ht5
    have q1 := q1.tk (TK.new (o := .tup [.int 0, .int 0, .int 0]) (TK.refl _) ht5)
    have q2 := q2.tk (TK.new (o := .tup [.int 0, .int 0, .int 0]) (TK.refl _) ht5)
    have kt3 := kt3.tk (TK.new (o := .tup [.int 0, .int 0, .int 0]) (TK.refl _) ht5)
    have kt4 := kt4.tk (TK.new (o := .tup [.int 0, .int 0, .int 0]) (TK.refl _) ht5)
    have kls := (Same.new (o := .tup [.int 0, .int 0, .int 0]) ht5) _ _ kls
    have kt5 : (upd H7 t5 (.tup [.int 0, .int 0, .int 0])) t5 = some (.tup [.int 0, .int 0, .int 0]) := upd_same
    generalize upd H7 t5 (.tup [.int 0, .int 0, .int 0]) = H8 at D8 q1 q2 kt3 kt4 kls kt5
    walk_at "rd"
    intro t6 ht6
    have D9 := D8.new (o := .tup [.str "cut", .ref t5, .non]) ht6
    have q1 := q1.tk (TK.new (o := .tup [.str "cut", .ref t5, .non]) (TK.refl _) ht6)
    have q2 := q2.tk (TK.new (o := .tup [.str "cut", .ref t5, .non]) (TK.refl _) ht6)
    have kt3 := kt3.tk (TK.new (o := .tup [.str "cut", .ref t5, .non]) (TK.refl _) ht6)
    have kt4 := kt4.tk (TK.new (o := .tup [.str "cut", .ref t5, .non]) (TK.refl _) ht6)
    have kls := (Same.new (o := .tup [.str "cut", .ref t5, .non]) ht6) _ _ kls
    have kt5 := (Same.new (o := .tup [.str "cut", .ref t5, .non]) ht6) _ _ kt5
    have kt6 : (upd H8 t6 (.tup [.str "cut", .ref t5, .non])) t6 = some (.tup [.str "cut", .ref t5, .non]) := upd_same
    generalize upd H8 t6 (.tup [.str "cut", .ref t5, .non]) = H9 at D9 q1 q2 kt3 kt4 kls kt5 kt6
    walk_at "rd"
    have kt6 : DeedAt H9 t6 (.ct (some (0, 0, 0)) none) := ⟨t5, kt6, kt5⟩
    intro t7 ht7
    have D10 := D9.new (o := .tup [.str "cut", .non, .int 0]) ht7
    have q1 := q1.tk (TK.new (o := .tup [.str "cut", .non, .int 0]) (TK.refl _) ht7)
    have q2 := q2.tk (TK.new (o := .tup [.str "cut", .non, .int 0]) (TK.refl _) ht7)
    have kt3 := kt3.tk (TK.new (o := .tup [.str "cut", .non, .int 0]) (TK.refl _) ht7)
    have kt4 := kt4.tk (TK.new (o := .tup [.str "cut", .non, .int 0]) (TK.refl _) ht7)
    have kt6 := kt6.tk (TK.new (o := .tup [.str "cut", .non, .int 0]) (TK.refl _) ht7)
    have kls := (Same.new (o := .tup [.str "cut", .non, .int 0]) ht7) _ _ kls
    have kt7 : DeedAt (upd H9 t7 (.tup [.str "cut", .non, .int 0])) t7 (.ct none (some 0)) := upd_same
    generalize upd H9 t7 (.tup [.str "cut", .non, .int 0]) = H10 at D10 q1 q2 kt3 kt4 kt6 kls kt7
    walk_at "rd"
    intro lr hlr
    have D11 := D10.new (o := .lst [.ref t4, .ref t6, .ref t7]) hlr
    have q1 := q1.tk (TK.new (o := .lst [.ref t4, .ref t6, .ref t7]) (TK.refl _) hlr)
    have q2 := q2.tk (TK.new (o := .lst [.ref t4, .ref t6, .ref t7]) (TK.refl _) hlr)
    have kt3 := kt3.tk (TK.new (o := .lst [.ref t4, .ref t6, .ref t7]) (TK.refl _) hlr)
    have kt4 := kt4.tk (TK.new (o := .lst [.ref t4, .ref t6, .ref t7]) (TK.refl _) hlr)
    have kt6 := kt6.tk (TK.new (o := .lst [.ref t4, .ref t6, .ref t7]) (TK.refl _) hlr)
    have kt7 := kt7.tk (TK.new (o := .lst [.ref t4, .ref t6, .ref t7]) (TK.refl _) hlr)
    have kls := (Same.new (o := .lst [.ref t4, .ref t6, .ref t7]) hlr) _ _ kls
    have klr : (upd H10 lr (.lst [.ref t4, .ref t6, .ref t7])) lr = some (.lst [.ref t4, .ref t6, .ref t7]) := upd_same
    generalize upd H10 lr (.lst [.ref t4, .ref t6, .ref t7]) = H11 at D11 q1 q2 kt3 kt4 kt6 kt7 kls klr
    walk_at "rd"
    refine rd_catL kls klr (le_size (by simp)) fun la2 hla2 => ?_
    have D12 := D11.new (o := .lst ([.ref t1, .ref t2, .ref t3] ++ [.ref t4, .ref t6, .ref t7])) hla2
    have q1 := q1.tk (TK.new (o := .lst ([.ref t1, .ref t2, .ref t3] ++ [.ref t4, .ref t6, .ref t7])) (TK.refl _) hla2)
    have q2 := q2.tk (TK.new (o := .lst ([.ref t1, .ref t2, .ref t3] ++ [.ref t4, .ref t6, .ref t7])) (TK.refl _) hla2)
    have kt3 := kt3.tk (TK.new (o := .lst ([.ref t1, .ref t2, .ref t3] ++ [.ref t4, .ref t6, .ref t7])) (TK.refl _) hla2)
    have kt4 := kt4.tk (TK.new (o := .lst ([.ref t1, .ref t2, .ref t3] ++ [.ref t4, .ref t6, .ref t7])) (TK.refl _) hla2)
    have kt6 := kt6.tk (TK.new (o := .lst ([.ref t1, .ref t2, .ref t3] ++ [.ref t4, .ref t6, .ref t7])) (TK.refl _) hla2)
    have kt7 := kt7.tk (TK.new (o := .lst ([.ref t1, .ref t2, .ref t3] ++ [.ref t4, .ref t6, .ref t7])) (TK.refl _) hla2)
    have kla2 : (upd H11 la2 (.lst ([.ref t1, .ref t2, .ref t3] ++ [.ref t4, .ref t6, .ref t7]))) la2 = some (.lst [.ref t1, .ref t2, .ref t3, .ref t4, .ref t6, .ref t7]) := upd_same
    have nla : la2 ≠ s := by
      obtain ⟨s', e⟩ := D11.at_
      exact (ne_of_none e hla2).symm
    generalize upd H11 la2 (.lst ([.ref t1, .ref t2, .ref t3] ++ [.ref t4, .ref t6, .ref t7])) = H12 at D12 q1 q2 kt3 kt4 kt6 kt7 kla2
    walk_at "rd"
    refine nx_step D12 (by decide) (by decide) fun r H13 r0 r1 D13 tk13 k13 => ?_
    obtain ⟨v, hv, at_⟩ := menu_at (xs := [.ref t1, .ref t2, .ref t3, .ref t4, .ref t6, .ref t7]) r0 r1
    refine rd_ixL (sq_of (k13 _ _ kla2 nla)) at_ ?_
    walk_at "rd"
    refine fin _ [v] D13 (fun w hw => ?_) (by simp)
    rw [List.mem_singleton.mp hw]
    simp only [List.mem_cons, List.not_mem_nil, or_false] at hv
    rcases hv with rfl | rfl | rfl | rfl | rfl | rfl
    · exact ⟨t1, _, rfl, q1.tk tk13, no0.1, no0.2, by decide, by decide, by decide⟩
    · exact ⟨t2, _, rfl, q2.tk tk13, noA.1, noA.2, by decide, by decide, by decide⟩
    · exact ⟨t3, _, rfl, kt3.tk tk13, o1.1, o1.2, by decide, by decide, by decide⟩
    · exact ⟨t4, _, rfl, kt4.tk tk13, o2.1, o2.2, by decide, by decide, by decide⟩
    · exact ⟨t6, _, rfl, kt6.tk tk13, trivial⟩
    · exact ⟨t7, _, rfl, kt7.tk tk13, trivial⟩
  rintro H2 rfl
  walk_at "rs"
  refine rd_ifG (fun H3 => ws ≠ [] ∧ Same H2 H3) ?_ ?_
  case refine_2 =>
    intro R hR
    walk_at "rd"
    by_cases h5 : kd < 5
    · rw [decide_eq_true h5]
      walk_at "rd"
      obtain ⟨s3', e3'⟩ := (D2.same (Same.refl _)).at_
      refine ⟨s, s3', m, z, sz, G, la, L, n, hs, x1, x2, x3, rfl, e3', MK (D2.same (Same.refl _)), ng, (D2.same (Same.refl _)).get hh nhs, o1, o2, o3, b8, b9, b1, b2, fun H4 t d D4 hd ok tk4 => ?_⟩
      walk_at "rd"
      exact fin H4 [.ref t] ⟨(D2.same (Same.refl _)).fr.trans D4.fr, D4.at_⟩ (fun w hw => by rw [List.mem_singleton.mp hw]; exact ⟨t, d, rfl, hd, ok⟩) (by simp)
    rw [decide_eq_false h5]
    walk_at "rd"
    intro e he
    have s3 : Same H2 (upd H2 e (.lst [])) := Same.new he
    have he3 : (upd H2 e (.lst [])) e = some (.lst []) := upd_same
    generalize upd H2 e (.lst []) = H3 at s3 he3
    obtain ⟨ds, d1, d2, d3, d4⟩ := rows_dp2 (K := Z.K) rok (hr2.same s3)
    refine rd_eqD (.lst (sq_of (s3 _ _ hp2)) d1) (.lst (sq_of he3) .nil) (list_shaped d3 (by omega)) rfl ?_
    rw [eqv_nil]
    cases hw : ws with
    | nil =>
      have : ds = [] := List.eq_nil_of_length_eq_zero (by rw [d2, hw]; rfl)
      rw [this]
      walk_at "rd"
      obtain ⟨s3', e3'⟩ := (D2.same s3).at_
      refine ⟨s, s3', m, z, sz, G, la, L, n, hs, x1, x2, x3, rfl, e3', MK (D2.same s3), ng, (D2.same s3).get hh nhs, o1, o2, o3, b8, b9, b1, b2, fun H4 t d D4 hd ok tk4 => ?_⟩
      walk_at "rd"
      exact fin H4 [.ref t] ⟨(D2.same s3).fr.trans D4.fr, D4.at_⟩ (fun w hw => by rw [List.mem_singleton.mp hw]; exact ⟨t, d, rfl, hd, ok⟩) (by simp)
    | cons v vs' =>
      have hne : ds.isEmpty = false := by
        cases ds with
        | nil => rw [hw] at d2; cases d2
        | cons _ _ => rfl
      rw [hne]
      walk_at "rd"
      exact hR _ ⟨(by rw [hw]; exact fun z => nomatch z), s3⟩
  rintro H3 ⟨hne, s3⟩
  have D3 := D2.same s3
  have hp3 := s3 _ _ hp2
  have hr3 := hr2.same s3
  obtain ⟨s3', e3'⟩ := D3.at_
  walk_at "rd"
  refine nx_step D3 (by decide) (by decide) fun r H4 r0 r1 D4 tk4 k4 => ?_
  walk_at "rd"
  have hr4 : RowsAt H4 ws (L ++ LB) := fun v hv => let ⟨a, l, y1, y2, y3⟩ := hr3 v hv; ⟨a, l, y1, k4 _ _ y2 (row_ne_src y2 e3'), y3⟩
  refine ⟨p, ws, L ++ LB, r, rfl, k4 _ _ hp3 nps, hr4, hne, fun l hl t ht _ => ?_⟩
  obtain ⟨c1, c2, c3, _⟩ := rok l hl
  have D5 := D4.new (o := .tup [.int l.ho, .int l.b, .int l.u]) ht
  have kt : (upd H4 t (.tup [.int l.ho, .int l.b, .int l.u])) t = some (.tup [.int l.ho, .int l.b, .int l.u]) := upd_same
  generalize upd H4 t (.tup [.int l.ho, .int l.b, .int l.u]) = H5 at D5 kt
  obtain ⟨s5', e5'⟩ := D5.at_
  walk_at "rd"
  refine ⟨s, s5', t, l.ho, l.b, l.u, rfl, e5', kt, c1, c2, c3, fun us H6 D6' tk6 => ?_⟩
  have D6 : Drawn s H H6 := ⟨D5.fr.trans D6'.fr, D6'.at_⟩
  have kt6 := tk6.tup kt
  walk_at "rd"
  by_cases h10 : kd < 10
  · rw [decide_eq_true h10]
    walk_at "rd"
    intro t2 ht2
    have D7 := D6.new (o := .tup [.str "cut", .ref t, optV us]) ht2
    have kt7 := (Same.new (o := .tup [.str "cut", .ref t, optV us]) ht2) _ _ kt6
    have kq : (upd H6 t2 (.tup [.str "cut", .ref t, optV us])) t2 = some (.tup [.str "cut", .ref t, optV us]) := upd_same
    generalize upd H6 t2 (.tup [.str "cut", .ref t, optV us]) = H7 at D7 kt7 kq
    walk_at "rd"
    exact fin H7 [.ref t2] D7 (fun w hw => by rw [List.mem_singleton.mp hw]; exact ⟨t2, .ct (some (l.ho, l.b, l.u)) us, rfl, ⟨t, kq, kt7⟩, trivial⟩) (by simp)
  rw [decide_eq_false h10]
  walk_at "rd"
  refine nx_step D6 (by decide) (by decide) fun r2 H7 f0 f1 D7 tk7 _ => ?_
  obtain ⟨v, hv, at_⟩ := menu_at (xs := [.str x1, .str x2, .str x3]) f0 f1
  obtain ⟨hol, rfl, oh⟩ : ∃ hol, v = V.str hol ∧ HolOk hol := by
    simp only [List.mem_cons, List.not_mem_nil, or_false] at hv
    rcases hv with rfl | rfl | rfl
    · exact ⟨_, rfl, o1⟩
    · exact ⟨_, rfl, o2⟩
    · exact ⟨_, rfl, o3⟩
  have kt7 := tk7.tup kt6
  refine rd_ixL (sq_of (D7.get hh nhs)) at_ ?_
  walk_at "rd"
  refine rd_ixT (st_of kt7) (v := .int l.ho) rfl ?_
  walk_at "rd"
  refine rd_ixT (st_of kt7) (v := .int l.b) rfl ?_
  walk_at "rd"
  refine rd_ixT (st_of kt7) (v := .int l.u) rfl ?_
  walk_at "rd"
  refine rd_ixT (st_of kt7) (v := .int l.b) rfl ?_
  walk_at "rd"
  intro ta hta
  have D8 := D7.new (o := .tup [.str "let", .str hol, .int l.ho, .int l.b, .int (l.u - l.b)]) hta
  have kt7 := (Same.new (o := .tup [.str "let", .str hol, .int l.ho, .int l.b, .int (l.u - l.b)]) hta) _ _ kt7
  have kta : DeedAt (upd H7 ta (.tup [.str "let", .str hol, .int l.ho, .int l.b, .int (l.u - l.b)])) ta (.lt hol (some l.ho) l.b (l.u - l.b)) := upd_same
  generalize upd H7 ta (.tup [.str "let", .str hol, .int l.ho, .int l.b, .int (l.u - l.b)]) = H8 at D8 kt7 kta
  walk_at "rd"
  intro tb htb
  have D9 := D8.new (o := .tup [.str "cut", .ref t, .non]) htb
  have kta := kta.tk (TK.new (o := .tup [.str "cut", .ref t, .non]) (TK.refl _) htb)
  have kt7 := (Same.new (o := .tup [.str "cut", .ref t, .non]) htb) _ _ kt7
  have ktb : (upd H8 tb (.tup [.str "cut", .ref t, .non])) tb = some (.tup [.str "cut", .ref t, .non]) := upd_same
  generalize upd H8 tb (.tup [.str "cut", .ref t, .non]) = H9 at D9 kta kt7 ktb
  walk_at "rd"
  have ktb : DeedAt H9 tb (.ct (some (l.ho, l.b, l.u)) none) := ⟨t, ktb, kt7⟩
  intro tc htc
  have D10 := D9.new (o := .tup [.str "cut", .ref t, optV us]) htc
  have kta := kta.tk (TK.new (o := .tup [.str "cut", .ref t, optV us]) (TK.refl _) htc)
  have ktb := ktb.tk (TK.new (o := .tup [.str "cut", .ref t, optV us]) (TK.refl _) htc)
  have kt7 := (Same.new (o := .tup [.str "cut", .ref t, optV us]) htc) _ _ kt7
  have ktc : (upd H9 tc (.tup [.str "cut", .ref t, optV us])) tc = some (.tup [.str "cut", .ref t, optV us]) := upd_same
  generalize upd H9 tc (.tup [.str "cut", .ref t, optV us]) = H10 at D10 kta ktb kt7 ktc
  walk_at "rd"
  have ktc : DeedAt H10 tc (.ct (some (l.ho, l.b, l.u)) us) := ⟨t, ktc, kt7⟩
  intro td htd
  have D11 := D10.new (o := .tup [.str "cut", .ref t, optV us]) htd
  have kta := kta.tk (TK.new (o := .tup [.str "cut", .ref t, optV us]) (TK.refl _) htd)
  have ktb := ktb.tk (TK.new (o := .tup [.str "cut", .ref t, optV us]) (TK.refl _) htd)
  have ktc := ktc.tk (TK.new (o := .tup [.str "cut", .ref t, optV us]) (TK.refl _) htd)
  have kt7 := (Same.new (o := .tup [.str "cut", .ref t, optV us]) htd) _ _ kt7
  have ktd : (upd H10 td (.tup [.str "cut", .ref t, optV us])) td = some (.tup [.str "cut", .ref t, optV us]) := upd_same
  generalize upd H10 td (.tup [.str "cut", .ref t, optV us]) = H11 at D11 kta ktb ktc kt7 ktd
  walk_at "rd"
  have ktd : DeedAt H11 td (.ct (some (l.ho, l.b, l.u)) us) := ⟨t, ktd, kt7⟩
  refine fin H11 [.ref tb, .ref ta, .ref tc, .ref td] D11 (fun w hw => ?_) (by simp)
  simp only [List.mem_cons, List.not_mem_nil, or_false] at hw
  rcases hw with rfl | rfl | rfl | rfl
  · exact ⟨tb, _, rfl, ktb, trivial⟩
  · exact ⟨ta, _, rfl, kta, oh.1, oh.2, by omega, by omega, by omega⟩
  · exact ⟨tc, _, rfl, ktc, trivial⟩
  · exact ⟨td, _, rfl, ktd, trivial⟩
theorem ok__law_deeds {Z : Zn} (T : Tx Z) : GF Z "_law_deeds" 4 ["source", "m", "other", "holders"] [] (sp__law_deeds Z) := GF.of (T.df 30) (T.glo 30) b__law_deeds sc__law_deeds (by walk_at "len") (w__law_deeds T)


/-! ## _law_whole -/
def N__law_whole : List Str := ["common", "m", "count", "moments", "houses", "counts", "leases", "moment", "house", "name", "row"]
theorem sc__law_whole : FnScope N__law_whole ["common", "m", "count"] (defScope s__law_whole) := ⟨rfl, rfl, rfl, by decide +kernel, rfl, by decide +kernel, by decide +kernel⟩
theorem b__law_whole : BindsBy "_law_whole" "_law_whole" s__law_whole ["common", "m", "count"] := fun _ _ _ _ _ _ us hl => match us, hl with | [_, _, _], _ => rfl
theorem whole_name {mo ho h c x : Int} (hh : 0 < h) (hc : 0 < c) (h0 : 0 ≤ ho) (h1 : ho < h) (x0 : 0 ≤ x) (x1 : x < c) : ptsM h c ((mo * h + ho) * c + x) = mo ∧ ptsH h c ((mo * h + ho) * c + x) = ho := by
  have e : ((mo * h + ho) * c + x) / c = mo * h + ho := by
    rw [Int.add_comm, Int.add_mul_ediv_right _ _ (by omega), Int.ediv_eq_zero_of_lt x0 x1, Int.zero_add]
  have e2 : (mo * h + ho) / h = mo := by
    rw [Int.add_comm, Int.add_mul_ediv_right _ _ (by omega), Int.ediv_eq_zero_of_lt h0 h1, Int.zero_add]
  have e3 : (mo * h + ho) % h = ho := by
    rw [Int.add_comm, Int.add_mul_emod_self_right, Int.emod_eq_of_lt h0 h1]
  unfold ptsM ptsH
  rw [e]
  exact ⟨e2, e3⟩
theorem l4_dp {K : PySem.W.Frag} {H : Hp} : ∀ {ws : List V} {L : List LetS}, Tps H ws (L.map LetS.l4) → DpAll K H ws (L.map fun l => .tuple [.str l.h, .int l.ho, .int l.b, .int l.e])
  | [], [], _ => .nil
  | [], _ :: _, h => by cases h
  | _ :: _, [], h => by cases h
  | _ :: _, l :: L, h => by
    cases h with
    | cons r t =>
      obtain ⟨a, rfl, e⟩ := r
      exact .cons (.tup (st_of e) (.cons (.str _) (.cons (.int _) (.cons (.int _) (.cons (.int _) .nil))))) (l4_dp t)
theorem l4_can : ∀ {L : List LetS}, (∀ l ∈ L, PyData.strOk l.h = true) → PyData.canLayAll0 (L.map fun l => PyData.tuple [.str l.h, .int l.ho, .int l.b, .int l.e]) = true ∧ PyData.depthAll (L.map fun l => PyData.tuple [.str l.h, .int l.ho, .int l.b, .int l.e]) ≤ 2
  | [], _ => ⟨rfl, by simp [PyData.depthAll]⟩
  | l :: L, ok => by
    obtain ⟨h1, h2⟩ := l4_can (L := L) fun x hx => ok x (List.mem_cons_of_mem _ hx)
    have so := ok l List.mem_cons_self
    constructor
    · simp [PyData.canLayAll0, PyData.canLay0, so, h1]
    · rw [List.map_cons, PyData.depthAll]
      have : PyData.depth (.tuple [.str l.h, .int l.ho, .int l.b, .int l.e]) ≤ 2 := by simp [PyData.depth, PyData.depthAll]
      omega
def sp__law_whole (Z : Zn) : Sp := fun vs H Q _ => ∃ p sp S as L m z M h c G la n k, vs = [.ref p, .ref m, .int k] ∧ CommonAt Z H p sp S as L ∧ GoodL L M h ∧ ShapeAt Z H sp M h c ∧ MdlAt Z H m z (M, h, c) G la L n ∧ M ≤ 1000 ∧ h ≤ 1000 ∧ c ≤ 1000 ∧ ∀ H', Same H H' → Q (.bl true) H'
theorem w__law_whole {Z : Zn} (T : Tx Z) : BodyOk Z N__law_whole "_law_whole" s__law_whole (He.fAd Z.K ("_law_whole", none)) 4 (sp__law_whole Z) := by
  intro cdv A outer s H vs Q E hr hu tk hx hp h
  have sc := sc__law_whole
  refine ⟨_, (pss_cons (ps_asg (pe_ix (ix_U hu) (pv 1) pe_str (fun _ _ => rfl)) (pg_tup (by rfl) (pgs_cons (pg_name (i := 3) sc.nd rfl (by first | exact Or.inl rfl | exact Or.inr rfl)) (pgs_cons (pg_name (i := 4) sc.nd rfl (by first | exact Or.inl rfl | exact Or.inr rfl)) (pgs_cons (pg_name (i := 5) sc.nd rfl (by first | exact Or.inl rfl | exact Or.inr rfl)) pgs_nil)))))
    (pss_cons (ps_set (i := 6) sc.nd rfl (by first | exact Or.inl rfl | exact Or.inr rfl) (pe_m0 (ok_Common_leases T) (pv 0) (hr.mono (by decide)) hx))
    (pss_cons (ps_if (pt_cmpR (op_neU hr.units) (pv 6) (pe_lc (own := [("row", 10)]) (g := (gName 10)) (tt := tYes) rfl sc.nd (pi_list (pe_ix (ix_U hu) (pv 1) pe_str (fun _ _ => rfl))) (blkOk_by (N := N__law_whole) (sc := defScope s__law_whole) (by decide +kernel)) (fun _ _ _ _ _ => (pg_name (i := 10) sc.nd rfl (by first | exact Or.inl rfl | exact Or.inr rfl))) (fun _ _ _ _ _ => pts_nil) (fun _ _ _ _ _ => (pe_callTy (cty_tupleK (K := Z.K) rfl) (by rfl) (n_tuple T) bt_tuple (pa_cons (pe_slice (sl_K (K := Z.K) rfl) (pv 10) po_none (po_some pe_int)) pa_nil)))) (nomark _))
    (pss_one (ps_ret pe_bl))
    pss_nil)
    (pss_cons (ps_expr (pe_bm PySem.F.plainAttrs_list PySem.F.slot_list_append PySem.F.type_list_append mt_append (pv 6) (pa_cons (pe_tup (pa_cons pe_str (pa_cons pe_int (pa_cons pe_int (pa_cons pe_int pa_nil))))) pa_nil)))
    (pss_cons (ps_for hp rfl (pi_range1 (by rfl) (n_range T) (pa_cons (pv 3) pa_nil)) (pg_name (i := 7) sc.nd rfl (by first | exact Or.inl rfl | exact Or.inr rfl))
    (pss_one (ps_for hp rfl (pi_range1 (by rfl) (n_range T) (pa_cons (pv 4) pa_nil)) (pg_name (i := 8) sc.nd rfl (by first | exact Or.inl rfl | exact Or.inr rfl))
    (pss_cons (ps_set (i := 9) sc.nd rfl (by first | exact Or.inl rfl | exact Or.inr rfl) (pe_op op_addU (pe_op op_mulU (pe_op op_addU (pe_op op_mulU (pv 7) (pv 4)) (pv 8)) (pv 5)) (pe_op op_modU (pe_op op_addU (pv 2) (pv 8)) (pv 5))))
    (pss_one (ps_if (pt_cmpR (op_neU hr.units) (pe_m (ok_Common_holder_of T) (pv 0) (hr.mono (by decide)) hx (pa_cons (pv 9) pa_nil)) (pe_dget1 hu (pe_ix (ix_U hu) (pv 1) pe_str (fun _ _ => rfl)) (pe_tup (pa_cons (pv 8) (pa_cons (pv 7) pa_nil))) ⟨rfl, rfl, rfl, rfl⟩) (nomark _))
    (pss_one (ps_ret pe_bl))
    pss_nil))))))
    (pss_one (ps_ret pe_bl))))))), ?_⟩
  obtain ⟨p, sp, S, as, L, m, z, M0, h, c, G, la, n, k, rfl, C, GL, Sh, M, b1, b2, b3, q⟩ := h
  have ph := Sh.ph
  have pc := Sh.pc
  have pm := Sh.pm
  walk_at "rd"
  refine rm_shape M ?_
  refine ⟨z, _, rfl, st_of M.sz, rfl, ?_⟩
  walk_at "rd"
  obtain ⟨dx, lp, x1, x2, _⟩ := C.ex
  refine on_ins x1 (co_no_leases _ _) ?_
  walk_at "rd"
  refine ⟨p, sp, S, as, L, rfl, C, GL.len, fun H1 r ws s1 hr hr1 tp _ => ?_⟩
  walk_at "rd"
  have M1 := M.same s1
  obtain ⟨td, rl, ras, kvs, e1, e2, e3, e4, e5, e6, e7, g1, g2, g3, e8⟩ := M1.ex
  have rlen : ras.length = L.length := Paired.length e4
  have hlen := GL.len
  refine rd_ixK (k := .inr "rows") e1 (md_rows _ _ _ _) ?_
  refine ⟨rl, rfl, ⟨_, sq_of e3⟩, fun D hD => lc_it (walk_list (K := Z.K) (a := rl) (xs := ras.map V.ref)) (fun i H5 => ∃ ws2, Same H1 H5 ∧ H5 D = some (.lst ws2) ∧ Tps H5 ws2 ((L.take i).map LetS.l4)) ?_ ?_ ?_ ?_⟩
  · exact ⟨[], Same.new hD, upd_same, .nil⟩
  · rintro i H5 _ ⟨_, s5, _⟩
    exact sq_of (s5 _ _ e3)
  · rintro i y H5 H6 hi ⟨ws2, s5, hD5, tp2⟩ ⟨rfl, hy⟩
    rw [List.getElem?_map] at hy
    cases ha : ras[i]? with
    | none => rw [ha] at hy; cases hy
    | some a =>
      rw [ha] at hy
      cases Option.some.inj hy
      obtain ⟨l, hl, hrow⟩ := paired_get e4 ha
      have tk1 : (L.take (i + 1)) = L.take i ++ [l] := by rw [List.take_add_one, hl]; rfl
      walk_at "rd"
      refine ⟨rfl, ?_⟩
      walk_at "rd"
      refine rd_slL (sq_of (s5 _ _ hrow)) fun b hb => ?_
      have s6 : Same H6 (upd H6 b (.lst (cutV (LetS.row l) none (some 4)))) := Same.new hb
      have hb6 : (upd H6 b (.lst (cutV (LetS.row l) none (some 4)))) b = some (.lst (LetS.l4 l)) := upd_same
      generalize upd H6 b (.lst (cutV (LetS.row l) none (some 4))) = H7 at s6 hb6
      walk_at "rd"
      refine ⟨b, LetS.l4 l, rfl, .inl ⟨sq_of hb6, fun t ht => ?_⟩⟩
      have s7 : Same H7 (upd H7 t (.tup (LetS.l4 l))) := Same.new ht
      have wl : ws2.length ≤ 100000 := by rw [tp2.len, List.length_map, List.length_take]; omega
      have hD7 := s6 _ _ hD5
      refine ⟨ws2, s7 _ _ hD7, lt_size (by omega), _, ((s5.trans s6).trans s7).upd' hD, upd_same, ?_⟩
      rw [tk1, List.map_append]
      refine (((tp2.same s6).same s7).tk (TK.lst (TK.refl _) (s7 _ _ hD7))).snoc ?_
      rw [upd_ne (ne_of_none hD7 ht).symm]
      exact upd_same
  · rintro H5 ⟨ws2, s5, hD5, tp2⟩
    rw [List.take_of_length_le (by rw [List.length_map]; omega)] at tp2
    have lc4 := l4_can GL.ok
    refine rd_neSame (.lst (sq_of (s5 _ _ hr1)) (l4_dp (tp.same s5))) (.lst (sq_of hD5) (l4_dp tp2)) (list_shaped lc4.1 (by omega)) ?_
    walk_at "rd"
    refine ty_lst (s5 _ _ hr1) ?_
    walk_at "rd"
    intro t ht
    have s6 : Same H5 (upd H5 t (.tup [.str "z", .int 0, .int 0, .int 1])) := Same.new ht
    generalize upd H5 t (.tup [.str "z", .int 0, .int 0, .int 1]) = H6 at s6
    have wsl : ws.length ≤ 100000 := by rw [tp.len, List.length_map]; omega
    walk_at "rd"
    refine rd_app (s6 _ _ (s5 _ _ hr1)) (lt_size (by omega)) ?_
    have s7 : Same H (upd H6 r (.lst (ws ++ [V.ref t]))) := ((s1.trans s5).trans s6).upd' hr
    generalize upd H6 r (.lst (ws ++ [V.ref t])) = H7 at s7
    walk_at "rd"
    refine ⟨M0, rfl, by omega, by omega, for_it (walk_range (lo := 0) (n := M0.toNat)) (fun i σ H8 => Same H H8 ∧ ∃ y7 y8 y9, σ = [some (.ref p), some (.ref m), some (.int k), some (.int M0), some (.int h), some (.int c), some (.ref r), y7, y8, y9, none]) ?_ (fun _ _ _ _ _ => trivial) ?_ ?_⟩
    · exact ⟨s7, _, _, _, rfl⟩
    · rintro i y σ H8 H9 hi ⟨s8, y7, y8, y9, rfl⟩ ⟨rfl, rfl⟩
      simp only [Int.zero_add]
      walk_at "rd"
      refine ⟨h, rfl, by omega, by omega, for_it (walk_range (lo := 0) (n := h.toNat)) (fun j σ H10 => Same H H10 ∧ ∃ y8 y9, σ = [some (.ref p), some (.ref m), some (.int k), some (.int M0), some (.int h), some (.int c), some (.ref r), some (.int (i : Int)), y8, y9, none]) ?_ (fun _ _ _ _ _ => trivial) ?_ ?_⟩
      · exact ⟨s8, _, _, rfl⟩
      · rintro j y σ H10 H11 hj ⟨s10, y8, y9, rfl⟩ ⟨rfl, rfl⟩
        simp only [Int.zero_add]
        walk_at "rd"
        have li : ((i : Int)).natAbs.log2 < 9000 := Nat.lt_of_le_of_lt (log2_le (by omega) (show (i : Int) ≤ 1000 by omega)) (by decide)
        have lh : h.natAbs.log2 < 9000 := Nat.lt_of_le_of_lt (log2_le (by omega) b2) (by decide)
        have lc : c.natAbs.log2 < 9000 := Nat.lt_of_le_of_lt (log2_le (by omega) b3) (by decide)
        refine rd_mulW (mulW_of (by omega) (by omega)) ?_
        walk_at "rd"
        have hm : (i : Int) * h ≤ 1000 * 1000 := Int.mul_le_mul (by omega) b2 (by omega) (by decide)
        have hm0 : 0 ≤ (i : Int) * h := Int.mul_nonneg (by omega) (by omega)
        have ln : ((i : Int) * h + (j : Int)).natAbs.log2 < 9000 := Nat.lt_of_le_of_lt (log2_le (by omega) (show (i : Int) * h + (j : Int) ≤ 1001000 by omega)) (by decide +kernel)
        refine rd_mulW (mulW_of (by omega) (by omega)) ?_
        walk_at "rd"
        have c0 := Int.emod_nonneg (k + (j : Int)) (show c ≠ 0 by omega)
        have c1 := Int.emod_lt_of_pos (k + (j : Int)) (show 0 < c by omega)
        obtain ⟨w1, w2⟩ := whole_name (mo := (i : Int)) (ho := (j : Int)) (x := (k + (j : Int)) % c) (show 0 < h by omega) (show 0 < c by omega) (by omega) (by omega) c0 c1
        have n0 : 0 ≤ ((i : Int) * h + (j : Int)) * c + (k + (j : Int)) % c := by
          have := Int.mul_nonneg (show 0 ≤ (i : Int) * h + (j : Int) by omega) (show 0 ≤ c by omega)
          omega
        have n1 : ((i : Int) * h + (j : Int)) * c + (k + (j : Int)) % c < M0 * h * c := by
          have a1 : (i : Int) * h + (j : Int) + 1 ≤ M0 * h := by
            have : ((i : Int) + 1) * h ≤ M0 * h := Int.mul_le_mul_of_nonneg_right (by omega) (by omega)
            rw [Int.add_mul] at this
            omega
          have a2 : ((i : Int) * h + (j : Int) + 1) * c ≤ M0 * h * c := Int.mul_le_mul_of_nonneg_right a1 (by omega)
          rw [Int.add_mul] at a2
          omega
        generalize ((i : Int) * h + (j : Int)) * c + (k + (j : Int)) % c = N at w1 w2 n0 n1
        obtain ⟨dx', lp', z1, z2, _⟩ := (C.same s10).ex
        refine on_ins z1 (co_no_holder_of _ _) ?_
        walk_at "rd"
        refine ⟨p, sp, S, as, L, .int N, .int, M0, h, c, rfl, C.same s10, Sh.same s10, Kd.int, fun n' en h0 h1 H12 s12 _ => ?_, fun hb => ?_⟩
        case refine_2 =>
          have hb2 : (decide (0 ≤ N) && decide (N < M0 * h * c)) = false := hb
          rw [decide_eq_true n0, decide_eq_true n1] at hb2
          cases hb2
        cases V.int.inj en
        rw [w1, w2]
        have s012 := s10.trans s12
        obtain ⟨td', rl', ras', kvs', y1, y2, _, _, y5, _⟩ := (M.same s012).ex
        walk_at "rd"
        refine rd_ixK (k := .inr "table") y1 (md_table _ _ _ _) ?_
        refine rd_isdT y2 ?_
        walk_at "rd"
        intro t2 ht2
        have s13 : Same H12 (upd H12 t2 (.tup [.int (j : Int), .int (i : Int)])) := Same.new ht2
        have ht13 : (upd H12 t2 (.tup [.int (j : Int), .int (i : Int)])) t2 = some (.tup (([.inl (j : Int), .inl (i : Int)] : List Key).map kV)) := upd_same
        generalize upd H12 t2 (.tup [.int (j : Int), .int (i : Int)]) = H13 at s13 ht13
        refine ⟨_, DGet.t (s13 _ _ y2) ht13, ?_⟩
        rw [y5]
        have sc0 : scal (holderL L (j : Int) (i : Int)) (holderL L (j : Int) (i : Int)) = true := by
          unfold holderL
          split <;> rfl
        refine rd_neS sc0 ?_
        rw [decide_eq_true rfl]
        walk_at "rd"
        exact ⟨s012.trans s13, _, _, rfl⟩
      · rintro σ H10 ⟨s10, y8, y9, rfl⟩
        exact ⟨s10, _, _, _, rfl⟩
    · rintro σ H8 ⟨s8, y7, y8, y9, rfl⟩
      walk_at "rd"
      exact q _ s8
theorem ok__law_whole {Z : Zn} (T : Tx Z) : GF Z "_law_whole" 5 ["common", "m", "count"] [] (sp__law_whole Z) := GF.of (T.df 31) (T.glo 31) b__law_whole sc__law_whole (by walk_at "len") (w__law_whole T)


/-! ## law -/
def N_law : List Str := ["script", "source", "sizes", "shape", "tail", "holders", "books", "tables", "cell", "at", "deed", "k"]
theorem sc_law : FnScope N_law ["script"] (defScope s_law) := ⟨rfl, rfl, rfl, by decide +kernel, rfl, by decide +kernel, by decide +kernel⟩
theorem b_law : BindsBy "law" "law" s_law ["script"] := fun _ _ _ _ _ _ us hl => match us, hl with | [_], _ => rfl
/-- one of the two worlds: the book and the table tell the same lets -/
structure Duo (Z : Zn) (H : Hp) (sp z p m : Addr) (S G : Addr → Prop) (M h c : Int) (L : List LetS) (la : V) (n : Nat) : Prop where
  bk : BookAt Z H p sp S L M h
  md : MdlAt Z H m z (M, h, c) G la L n
  ls : LastAt H la
  ln : L.length ≤ n
theorem ShapeAt.keep {Z : Zn} {H H' : Hp} {p : Addr} {m h c : Int} (x : ShapeAt Z H p m h c) (k : ∀ o, H p = some o → H' p = some o) : ShapeAt Z H' p m h c := ⟨let ⟨dx, e⟩ := x.at_; ⟨dx, k _ e⟩, x.pm, x.ph, x.pc, x.bm, x.bh, x.bc⟩
theorem LastAt.tk {H H' : Hp} {la : V} (x : LastAt H la) (k : TK H H') : LastAt H' la := x.elim .inl fun ⟨t, a, b, c, d, e1, e2, e3⟩ => .inr ⟨t, a, b, c, d, e1, e2.tk k, e3⟩
theorem Duo.keep {Z : Zn} {H H' : Hp} {sp z p m : Addr} {S G : Addr → Prop} {M h c : Int} {L : List LetS} {la : V} {n : Nat} (D : Duo Z H sp z p m S G M h c L la n) (k1 : ∀ b o, S b → H b = some o → H' b = some o) (k2 : ∀ b o, G b → H b = some o → H' b = some o) (tk : TK H H') : Duo Z H' sp z p m S G M h c L la n :=
  ⟨let ⟨as, C, g⟩ := D.bk; ⟨as, C.keep k1 tk, g⟩, D.md.keep k2 tk, D.ls.tk tk, D.ln⟩
theorem Duo.mono {Z : Zn} {H : Hp} {sp z p m : Addr} {S G : Addr → Prop} {M h c : Int} {L : List LetS} {la : V} {n n' : Nat} (D : Duo Z H sp z p m S G M h c L la n) (w : n ≤ n') : Duo Z H sp z p m S G M h c L la n' :=
  ⟨D.bk, ⟨let ⟨td, rl, ras, kvs, e1, e2, e3, e4, e5, e6, r⟩ := D.md.ex; ⟨td, rl, ras, kvs, e1, e2, e3, e4, e5, Nat.le_trans e6 w, r⟩, D.md.sz, D.md.own, D.md.lv⟩, D.ls, Nat.le_trans D.ln w⟩
theorem Step.form {L L' : List LetS} {m h : Int} {d : Deed} {out : PyData} (s : Step L m h d out L') : L'.length ≤ L.length + 1 ∧ ((∃ x : Str, out = outK x ∧ PyData.strOk x = true) ∨ ∃ a b u, out = outT a b u) := by
  cases s with
  | holder => exact ⟨by omega, .inl ⟨_, rfl, by decide +kernel⟩⟩
  | name => exact ⟨by omega, .inl ⟨_, rfl, by decide +kernel⟩⟩
  | time => exact ⟨by omega, .inl ⟨_, rfl, by decide +kernel⟩⟩
  | told => exact ⟨by simp, .inr ⟨_, _, _, rfl⟩⟩
  | ended => exact ⟨by omega, .inl ⟨_, rfl, by decide +kernel⟩⟩
  | lease => exact ⟨by omega, .inl ⟨_, rfl, by decide +kernel⟩⟩
  | late => exact ⟨by omega, .inl ⟨_, rfl, by decide +kernel⟩⟩
  | cut => exact ⟨by simp, .inl ⟨_, rfl, by decide +kernel⟩⟩
theorem out_sh {out : PyData} (h : (∃ x : Str, out = outK x ∧ PyData.strOk x = true) ∨ ∃ a b u, out = outT a b u) : SeqAt.shaped out = true := by
  rcases h with ⟨x, rfl, e⟩ | ⟨a, b, u, rfl⟩
  · have e2 : SeqAt.shaped (outK x) = (PyData.strOk x && true && true && decide (PyData.depth (outK x) ≤ 64)) := by
      unfold SeqAt.shaped outK
      simp [PyData.canLay0, PyData.canLayAll0, PyData.depth, PyData.depthAll]
    rw [e2, e]
    simp [outK, PyData.depth, PyData.depthAll]
  · unfold SeqAt.shaped outT
    simp [PyData.canLay0, PyData.canLayAll0, PyData.depth, PyData.depthAll]
    decide +kernel
theorem out_tk {K : PySem.W.Frag} {H H' : Hp} {v : V} {out : PyData} (h : (∃ x : Str, out = outK x ∧ PyData.strOk x = true) ∨ ∃ a b u, out = outT a b u) (D : Dp K H v out) (k : TK H H') : Dp K H' v out := by
  rcases h with ⟨x, rfl, e⟩ | ⟨a, b, u, rfl⟩
  · cases D with
    | tup sq all =>
      cases all with
      | cons a1 r => cases a1; cases r with
        | cons a2 r => cases a2; cases r; exact .tup (SqT.tk sq k) (.cons (.str _) (.cons .non .nil))
  · cases D with
    | tup sq all =>
      cases all with
      | cons a1 r => cases a1; cases r with
        | cons a2 r =>
          cases r
          cases a2 with
          | tup sq2 all2 =>
            cases all2 with
            | cons b1 r => cases b1; cases r with
              | cons b2 r => cases b2; cases r with
                | cons b3 r => cases b3; cases r; exact .tup (SqT.tk sq k) (.cons (.str _) (.cons (.tup (SqT.tk sq2 k) (.cons (.int _) (.cons (.int _) (.cons (.int _) .nil)))) .nil))
/-- all of the law: two worlds of lets, and what stays -/
structure Town (Z : Zn) (H : Hp) (sp z hs bl tl : Addr) (M h c : Int) (x1 x2 x3 : Str) (O : Nat → Addr → Prop) (p m : Nat → Addr) (L : Nat → List LetS) (la : Nat → V) (n : Nat) : Prop where
  fam : Fam O H
  duo : ∀ k, k < 2 → Duo Z H sp z (p k) (m k) (O (2 * k)) (O (2 * k + 1)) M h c (L k) (la k) n
  own : O 4 sp ∧ O 4 hs ∧ O 4 bl ∧ O 4 tl
  sh : ShapeAt Z H sp M h c
  hh : H hs = some (.lst [.str x1, .str x2, .str x3])
  hb : H bl = some (.lst [.ref (p 0), .ref (p 1)])
  ht : H tl = some (.lst [.ref (m 0), .ref (m 1)])
section
variable {Z : Zn} {H H' H1 H2 : Hp} {sp z hs bl tl : Addr} {M h c : Int} {x1 x2 x3 : Str} {O : Nat → Addr → Prop} {p m : Nat → Addr} {L : Nat → List LetS} {la : Nat → V} {n : Nat}
theorem Town.keep (T : Town Z H sp z hs bl tl M h c x1 x2 x3 O p m L la n) {O' : Nat → Addr → Prop} (f : Fam O' H') (k : ∀ i, i < 5 → ∀ b o, O i b → H b = some o → H' b = some o) (e : ∀ i, i < 5 → O' i = O i) (tk : TK H H') : Town Z H' sp z hs bl tl M h c x1 x2 x3 O' p m L la n := by
  obtain ⟨o1, o2, o3, o4⟩ := T.own
  refine ⟨f, fun j hj => ?_, ?_, ?_, k 4 (by omega) _ _ o2 T.hh, k 4 (by omega) _ _ o3 T.hb, k 4 (by omega) _ _ o4 T.ht⟩
  · rw [e _ (by omega), e _ (by omega)]
    exact (T.duo j hj).keep (k _ (by omega)) (k _ (by omega)) tk
  · rw [e 4 (by omega)]; exact T.own
  · exact T.sh.keep fun o e => k 4 (by omega) _ _ o1 e
theorem Town.same (T : Town Z H sp z hs bl tl M h c x1 x2 x3 O p m L la n) (s : Same H H') : Town Z H' sp z hs bl tl M h c x1 x2 x3 O p m L la n := T.keep (T.fam.same s) (fun _ _ b o _ e => s b o e) (fun _ _ => rfl) (TK.of_same s)
theorem Town.mono (T : Town Z H sp z hs bl tl M h c x1 x2 x3 O p m L la n) {n' : Nat} (w : n ≤ n') : Town Z H sp z hs bl tl M h c x1 x2 x3 O p m L la n' := ⟨T.fam, fun k hk => (T.duo k hk).mono w, T.own, T.sh, T.hh, T.hb, T.ht⟩
/-- the source's own set is another one -/
theorem Town.src (T : Town Z H sp z hs bl tl M h c x1 x2 x3 O p m L la n) {S : Addr → Prop} (x : Ext (O 5) S H H') (l : Live S H') (tk : TK H H') : Town Z H' sp z hs bl tl M h c x1 x2 x3 (Fam.put O 5 S) p m L la n :=
  T.keep (T.fam.step x l) (fun i hi => T.fam.keep x (by omega)) (fun i hi => Fam.put_ne (by omega)) tk
/-- a deed in one of both -/
theorem Town.deed (T : Town Z H sp z hs bl tl M h c x1 x2 x3 O p m L la n) {k : Nat} (hk : k < 2) {S G : Addr → Prop} {d : Deed} {out : PyData} {L' : List LetS} {lb : V} (st : Step (L k) M h d out L') (ea : Ext (O (2 * k)) S H H1) (b : BookAt Z H1 (p k) sp S L' M h) (eb : Ext (O (2 * k + 1)) G H1 H2) (md : MdlAt Z H2 (m k) z (M, h, c) G lb L' (n + 1000)) (hl : LastAt H2 lb) (t1 : TK H H1) (t2 : TK H1 H2) :
    Town Z H2 sp z hs bl tl M h c x1 x2 x3 (Fam.put (Fam.put O (2 * k) S) (2 * k + 1) G) p m (fun j => if j = k then L' else L j) (fun j => if j = k then lb else la j) (n + 1000) := by
  obtain ⟨as, C, g⟩ := b
  have f1 : Fam (Fam.put O (2 * k) S) H1 := T.fam.step ea C.lv
  have eb' : Ext (Fam.put O (2 * k) S (2 * k + 1)) G H1 H2 := by rw [Fam.put_ne (by omega)]; exact eb
  have f2 := f1.step eb' md.lv
  have k1 : ∀ i, i ≠ 2 * k → ∀ b o, O i b → H b = some o → H1 b = some o := fun i hi => T.fam.keep ea hi
  have k2 : ∀ i, i ≠ 2 * k + 1 → ∀ b o, Fam.put O (2 * k) S i b → H1 b = some o → H2 b = some o := fun i hi => f1.keep eb' hi
  have k3 : ∀ i, i ≠ 2 * k → i ≠ 2 * k + 1 → ∀ b o, O i b → H b = some o → H2 b = some o := fun i h1 h2 b o hb e => k2 i h2 b o (by rw [Fam.put_ne h1]; exact hb) (k1 i h1 b o hb e)
  obtain ⟨o1, o2, o3, o4⟩ := T.own
  refine ⟨f2, fun j hj => ?_, ?_, ?_, k3 4 (by omega) (by omega) _ _ o2 T.hh, k3 4 (by omega) (by omega) _ _ o3 T.hb, k3 4 (by omega) (by omega) _ _ o4 T.ht⟩
  · by_cases e : j = k
    · subst e
      rw [if_pos rfl, if_pos rfl, Fam.put_same, Fam.put_ne (by omega), Fam.put_same]
      refine ⟨⟨as, C.keep (fun b o hb e => k2 (2 * j) (by omega) b o (by rw [Fam.put_same]; exact hb) e) t2, g⟩, md, hl, ?_⟩
      have := st.form.1
      have := (T.duo j hj).ln
      omega
    · have p1 : ∀ i, i ≠ 2 * k → i ≠ 2 * k + 1 → Fam.put (Fam.put O (2 * k) S) (2 * k + 1) G i = O i := fun i h1 h2 => by rw [Fam.put_ne h2, Fam.put_ne h1]
      rw [if_neg e, if_neg e, p1 (2 * j) (by omega) (by omega), p1 (2 * j + 1) (by omega) (by omega)]
      exact ((T.duo j hj).keep (k3 _ (by omega) (by omega)) (k3 _ (by omega) (by omega)) (t1.trans t2)).mono (by omega)
  · rw [Fam.put_ne (by omega), Fam.put_ne (by omega)]; exact T.own
  · exact T.sh.keep fun o e => k3 4 (by omega) (by omega) _ _ o1 e
end
theorem at_two {a b : V} {f : Nat → V} (h0 : f 0 = a) (h1 : f 1 = b) {k : Nat} (hk : k < 2) : atI [a, b] (k : Int) = some (f k) := by
  match k, hk with
  | 0, _ => rw [h0]; rfl
  | 1, _ => rw [h1]; rfl
theorem Town.srcE {Z : Zn} {H H' : Hp} {sp z hs bl tl : Addr} {M h c : Int} {x1 x2 x3 : Str} {O : Nat → Addr → Prop} {p m : Nat → Addr} {L : Nat → List LetS} {la : Nat → V} {n : Nat} (T : Town Z H sp z hs bl tl M h c x1 x2 x3 O p m L la n) {S : Addr → Prop} (x : Ext (O 5) S H H') (l : Live S H') (tk : TK H H') :
    ∃ O', Town Z H' sp z hs bl tl M h c x1 x2 x3 O' p m L la n ∧ O' 5 = S ∧ O' 4 = O 4 := ⟨_, T.src x l tk, Fam.put_same, Fam.put_ne (by omega)⟩
theorem md_merge (z td rl : Addr) (la : V) : mergeK [] (mdFs z td rl la) = mdFs z td rl la := by kernel_rfl
theorem good_nil {m h : Int} : GoodL [] m h := ⟨fun _ z => (nomatch z), fun _ z => (nomatch z), .nil, by decide, fun _ z => (nomatch z)⟩
theorem cut_len {xs : List V} : (cutV xs (some 2) (some 17)).length ≤ 15 := by
  have e1 : HT.sIx xs.length 0 (some 2) = min 2 xs.length := HT.sIx_nat xs.length 0 2
  have e2 : HT.sIx xs.length xs.length (some 17) = min 17 xs.length := HT.sIx_nat xs.length xs.length 17
  unfold cutV
  rw [e1, e2, List.length_take, List.length_drop]
  omega
theorem DeedAt.tup {H : Hp} {t : Addr} {d : Deed} (x : DeedAt H t d) : ∃ xs, H t = some (.tup xs) := by
  match d, x with
  | .lt hol hou mo s, x => exact ⟨_, x⟩
  | .ct none us, x => exact ⟨_, x⟩
  | .ct (some (a, b, u)) us, ⟨q, x, y⟩ => exact ⟨_, x⟩
/-- what the tables are, turn by turn -/
def TabsAt (H0 H : Hp) (z D : Addr) (ps0 : List (Addr × Nat)) (i : Nat) : Prop := ∃ (m td rl : Nat → Addr) (ps : List (Addr × Nat)), FamL ps H ∧ (∀ q ∈ ps0, q ∈ ps) ∧ (D, 4) ∈ ps ∧ H D = some (.lst ((List.range i).map fun k => .ref (m k))) ∧ Same H0 H ∧
  ∀ k, k < i → (m k, 2 * k + 1) ∈ ps ∧ (td k, 2 * k + 1) ∈ ps ∧ (rl k, 2 * k + 1) ∈ ps ∧ H (m k) = some (.dK (mdFs z (td k) (rl k) .non)) ∧ H (td k) = some (.dT []) ∧ H (rl k) = some (.lst [])
theorem tabs_step {H0 H : Hp} {z D m' td' rl' : Addr} {ps0 : List (Addr × Nat)} {i : Nat} (T : TabsAt H0 H z D ps0 i) (hi : i < 2) (hD0 : H0 D = none) (hm : H m' = none) (ht : (upd H m' (.dK [])) td' = none) (hr : (upd (upd H m' (.dK [])) td' (.dT [])) rl' = none) :
    (upd (upd (upd H m' (.dK [])) td' (.dT [])) rl' (.lst [])) m' = some (.dK []) ∧ ∃ acc, (upd (upd (upd (upd H m' (.dK [])) td' (.dT [])) rl' (.lst [])) m' (.dK (mdFs z td' rl' .non))) D = some (.lst acc) ∧ acc.length < sizeLine ∧ TabsAt H0 (upd (upd (upd (upd (upd H m' (.dK [])) td' (.dT [])) rl' (.lst [])) m' (.dK (mdFs z td' rl' .non))) D (.lst (acc ++ [.ref m']))) z D ps0 (i + 1) := by
  obtain ⟨m, td, rl, ps, F, sub, dm, eD, s0, w⟩ := T
  have nmt : m' ≠ td' := ne_of_none upd_same ht
  have nmr : m' ≠ rl' := ne_of_none (show (upd (upd H m' (.dK [])) td' (.dT [])) m' = some (.dK []) by rw [upd_ne nmt]; exact upd_same) hr
  have ntr : td' ≠ rl' := ne_of_none upd_same hr
  have s6 : Same H (upd (upd (upd (upd H m' (.dK [])) td' (.dT [])) rl' (.lst [])) m' (.dK (mdFs z td' rl' .non))) := (((Same.new hm).upd' (none_of_upd ht)).upd' (none_of_upd (none_of_upd hr))).upd' hm
  have f6 : FamL ((rl', 2 * i + 1) :: (td', 2 * i + 1) :: (m', 2 * i + 1) :: ps) (upd (upd (upd (upd H m' (.dK [])) td' (.dT [])) rl' (.lst [])) m' (.dK (mdFs z td' rl' .non))) := (((F.at hm (2 * i + 1)).at ht (2 * i + 1)).at hr (2 * i + 1)).set
  have em : (upd (upd (upd (upd H m' (.dK [])) td' (.dT [])) rl' (.lst [])) m' (.dK (mdFs z td' rl' .non))) m' = some (.dK (mdFs z td' rl' .non)) := upd_same
  have et : (upd (upd (upd (upd H m' (.dK [])) td' (.dT [])) rl' (.lst [])) m' (.dK (mdFs z td' rl' .non))) td' = some (.dT []) := by rw [upd_ne nmt.symm, upd_ne ntr]; exact upd_same
  have er : (upd (upd (upd (upd H m' (.dK [])) td' (.dT [])) rl' (.lst [])) m' (.dK (mdFs z td' rl' .non))) rl' = some (.lst []) := by rw [upd_ne nmr.symm]; exact upd_same
  refine ⟨by rw [upd_ne nmr, upd_ne nmt]; exact upd_same, _, s6 _ _ eD, by rw [List.length_map, List.length_range]; exact lt_size (by omega), ?_⟩
  generalize (upd (upd (upd (upd H m' (.dK [])) td' (.dT [])) rl' (.lst [])) m' (.dK (mdFs z td' rl' .non))) = H6 at *
  have dm6 : (D, 4) ∈ (rl', 2 * i + 1) :: (td', 2 * i + 1) :: (m', 2 * i + 1) :: ps := by simp [dm]
  refine ⟨fun k => if k = i then m' else m k, fun k => if k = i then td' else td k, fun k => if k = i then rl' else rl k, _, f6.set, fun q hq => by simp [sub q hq], dm6, ?_, (s0.trans s6).upd' hD0, fun k hk => ?_⟩
  · rw [upd_same, List.range_succ, List.map_append]
    congr 2
    congr 1
    · refine List.map_congr_left fun k hk => ?_
      have := List.mem_range.mp hk
      show V.ref (m k) = V.ref (if k = i then m' else m k)
      rw [if_neg (by omega)]
    · show _ = [V.ref (if i = i then m' else m i)]
      rw [if_pos rfl]
  · show ((if k = i then m' else m k), 2 * k + 1) ∈ _ ∧ ((if k = i then td' else td k), 2 * k + 1) ∈ _ ∧ ((if k = i then rl' else rl k), 2 * k + 1) ∈ _ ∧ (upd H6 D _) (if k = i then m' else m k) = some (.dK (mdFs z (if k = i then td' else td k) (if k = i then rl' else rl k) .non)) ∧ (upd H6 D _) (if k = i then td' else td k) = _ ∧ (upd H6 D _) (if k = i then rl' else rl k) = _
    by_cases e : k = i
    · subst e
      rw [if_pos rfl, if_pos rfl, if_pos rfl]
      have g1 : (m', 2 * k + 1) ∈ (rl', 2 * k + 1) :: (td', 2 * k + 1) :: (m', 2 * k + 1) :: ps := by simp
      have g2 : (td', 2 * k + 1) ∈ (rl', 2 * k + 1) :: (td', 2 * k + 1) :: (m', 2 * k + 1) :: ps := by simp
      have g3 : (rl', 2 * k + 1) ∈ (rl', 2 * k + 1) :: (td', 2 * k + 1) :: (m', 2 * k + 1) :: ps := by simp
      refine ⟨g1, g2, g3, ?_, ?_, ?_⟩
      · rw [upd_ne (f6.ne g1 dm6 (by omega))]; exact em
      · rw [upd_ne (f6.ne g2 dm6 (by omega))]; exact et
      · rw [upd_ne (f6.ne g3 dm6 (by omega))]; exact er
    · rw [if_neg e, if_neg e, if_neg e]
      obtain ⟨a1, a2, a3, a4, a5, a6⟩ := w k (by omega)
      have up : ∀ q ∈ ps, q ∈ (rl', 2 * i + 1) :: (td', 2 * i + 1) :: (m', 2 * i + 1) :: ps := fun q hq => by simp [hq]
      refine ⟨up _ a1, up _ a2, up _ a3, ?_, ?_, ?_⟩
      · rw [upd_ne (f6.ne (up _ a1) dm6 (by omega))]; exact s6 _ _ a4
      · rw [upd_ne (f6.ne (up _ a2) dm6 (by omega))]; exact s6 _ _ a5
      · rw [upd_ne (f6.ne (up _ a3) dm6 (by omega))]; exact s6 _ _ a6
theorem town_start {Z : Zn} {H : Hp} {sp z hl bl tl p0 p1 lp0 lp1 dx0 dx1 : Addr} {M h c : Int} {x1 x2 x3 : Str} {ps : List (Addr × Nat)} {m td rl : Nat → Addr} (F : FamL ps H) (i1 : (sp, 4) ∈ ps) (i2 : (hl, 4) ∈ ps) (i3 : (bl, 4) ∈ ps) (i4 : (tl, 4) ∈ ps) (i5 : (p0, 0) ∈ ps) (i6 : (lp0, 0) ∈ ps) (i7 : (p1, 2) ∈ ps) (i8 : (lp1, 2) ∈ ps)
    (sh : ShapeAt Z H sp M h c) (hz : H z = some (.tup [.int M, .int h, .int c])) (hh : H hl = some (.lst [.str x1, .str x2, .str x3])) (hb : H bl = some (.lst [.ref p0, .ref p1])) (ht : H tl = some (.lst [.ref (m 0), .ref (m 1)]))
    (e0 : H p0 = some (.ins (He.ga Z.K "Common") dx0 (coFs sp lp0))) (e1 : H p1 = some (.ins (He.ga Z.K "Common") dx1 (coFs sp lp1))) (e2 : H lp0 = some (.lst [])) (e3 : H lp1 = some (.lst []))
    (w : ∀ k, k < 2 → (m k, 2 * k + 1) ∈ ps ∧ (td k, 2 * k + 1) ∈ ps ∧ (rl k, 2 * k + 1) ∈ ps ∧ H (m k) = some (.dK (mdFs z (td k) (rl k) .non)) ∧ H (td k) = some (.dT []) ∧ H (rl k) = some (.lst [])) :
    Town Z H sp z hl bl tl M h c x1 x2 x3 (fun i a => (a, i) ∈ ps) (fun k => if k = 0 then p0 else p1) m (fun _ => []) (fun _ => .non) 0 := by
  have fm := F.fam
  refine ⟨fm, fun k hk => ⟨?_, ⟨?_, hz, (w k hk).1, fm.lv _⟩, .inl rfl, Nat.le_refl _⟩, ⟨i1, i2, i3, i4⟩, sh, hh, hb, ht⟩
  · match k, hk with
    | 0, _ => exact ⟨[], ⟨⟨dx0, lp0, e0, e2, i6⟩, .nil, ⟨i5, fun _ z => (nomatch z)⟩, List.nodup_nil, fm.lv _⟩, good_nil⟩
    | 1, _ => exact ⟨[], ⟨⟨dx1, lp1, e1, e3, i8⟩, .nil, ⟨i7, fun _ z => (nomatch z)⟩, List.nodup_nil, fm.lv _⟩, good_nil⟩
  · obtain ⟨a1, a2, a3, a4, a5, a6⟩ := w k hk
    exact ⟨td k, rl k, [], [], a4, a5, a6, .nil, fun _ _ => rfl, Nat.le_refl _, List.nodup_nil, a2, a3, fun _ z => (nomatch z), fun z => nomatch z⟩
instance (x : Str) : Decidable (HolOk x) := inferInstanceAs (Decidable (_ ∧ _))
theorem hol_all : ∀ c ∈ (Str.ofString "abcdefghijklmnopqrstuvwxyz").cps.toList, HolOk (Str.ofString "a" ++ ⟨#[c]⟩) ∧ HolOk (Str.ofString "aa" ++ ⟨#[c]⟩) ∧ HolOk (Str.ofString "b" ++ ⟨#[c]⟩) := by decide +kernel
def sp_law (Z : Zn) : Sp := fun vs H Q _ => ∃ a ns, vs = [.ref a] ∧ Scr Z.K H a ns ∧ ns.length ≤ 63 ∧ ∀ H', Q (.bl true) H'
theorem w_law {Z : Zn} (T : Tx Z) : BodyOk Z N_law "law" s_law (He.fAd Z.K ("law", none)) 5 (sp_law Z) := by
  intro cdv A outer s H vs Q E hr hu tk hx hp h
  have sc := sc_law
  refine ⟨_, (pss_cons (ps_set (i := 1) sc.nd rfl (by first | exact Or.inl rfl | exact Or.inr rfl) (pe_g (ok__law_digits T) (hr.mono (by decide)) (by rfl) hx (pa_cons (pe_g (ok__law_cell_at T) (hr.mono (by decide)) (by rfl) hx (pa_cons (pv 0) (pa_cons pe_int pa_nil))) pa_nil)))
    (pss_cons (ps_set (i := 2) sc.nd rfl (by first | exact Or.inl rfl | exact Or.inr rfl) (pe_tup (pa_cons (pe_op op_addU pe_int (pe_g (ok__law_next T) (hr.mono (by decide)) (by rfl) hx (pa_cons (pv 1) (pa_cons pe_int pa_nil)))) (pa_cons (pe_op op_addU pe_int (pe_g (ok__law_next T) (hr.mono (by decide)) (by rfl) hx (pa_cons (pv 1) (pa_cons pe_int pa_nil)))) (pa_cons (pe_op op_addU pe_int (pe_g (ok__law_next T) (hr.mono (by decide)) (by rfl) hx (pa_cons (pv 1) (pa_cons pe_int pa_nil)))) pa_nil)))))
    (pss_cons (ps_set (i := 3) sc.nd rfl (by first | exact Or.inl rfl | exact Or.inr rfl) (pe_c (ok_Shape T) (hr.mono (by decide)) (by rfl) hx (pa_cons (pe_ix (ix_U hu) (pv 2) pe_int (fun _ _ => rfl)) (pa_cons (pe_ix (ix_U hu) (pv 2) pe_int (fun _ _ => rfl)) (pa_cons (pe_ix (ix_U hu) (pv 2) pe_int (fun _ _ => rfl)) pa_nil)))))
    (pss_cons (ps_set (i := 4) sc.nd rfl (by first | exact Or.inl rfl | exact Or.inr rfl) (pe_ix (ix_U hu) pe_str (pe_g (ok__law_next T) (hr.mono (by decide)) (by rfl) hx (pa_cons (pv 1) (pa_cons pe_int pa_nil))) (fun _ _ => rfl)))
    (pss_cons (ps_set (i := 5) sc.nd rfl (by first | exact Or.inl rfl | exact Or.inr rfl) (pe_lst (pa_cons (pe_op op_addU pe_str (pv 4)) (pa_cons (pe_op op_addU pe_str (pv 4)) (pa_cons (pe_op op_addU pe_str (pv 4)) pa_nil)))))
    (pss_cons (ps_set (i := 6) sc.nd rfl (by first | exact Or.inl rfl | exact Or.inr rfl) (pe_lst (pa_cons (pe_c (ok_Common T) (hr.mono (by decide)) (by rfl) hx (pa_cons (pv 3) pa_nil)) (pa_cons (pe_c (ok_Common T) (hr.mono (by decide)) (by rfl) hx (pa_cons (pv 3) pa_nil)) pa_nil))))
    (pss_cons (ps_setLc (i := 7) (own := [("k", 11)]) (g := (gName 11)) (tt := tYes) rfl sc.nd rfl rfl (sw_true rfl rfl rfl (by decide +kernel)) (pi_range1 (by rfl) (n_range T) (pa_cons pe_int pa_nil)) (blkOk_by (N := N_law) (sc := defScope s_law) (by decide +kernel)) (fun _ _ _ _ _ => (pg_name (i := 11) sc.nd rfl (by first | exact Or.inl rfl | exact Or.inr rfl))) (fun _ _ _ _ _ => pts_nil) (fun _ _ _ _ _ => (pe_disp (pps_cons pe_str (pv 2) (pps_cons pe_str pe_dnewU (pps_cons pe_str (pe_lst pa_nil) (pps_cons pe_str pe_non pps_nil)))) (by rfl) (by rfl) (fun z => by cases z) (by decide))))
    (pss_cons (ps_for hp rfl (pi_list (pe_op op_addU (pe_lst (pa_cons (pe_g (ok__law_cell_at T) (hr.mono (by decide)) (by rfl) hx (pa_cons (pv 0) (pa_cons pe_int pa_nil))) pa_nil)) (pe_slice sl_U (pv 0) (po_some pe_int) (po_some pe_int)))) (pg_name (i := 8) sc.nd rfl (by first | exact Or.inl rfl | exact Or.inr rfl))
    (pss_cons (ps_set (i := 1) sc.nd rfl (by first | exact Or.inl rfl | exact Or.inr rfl) (pe_g (ok__law_digits T) (hr.mono (by decide)) (by rfl) hx (pa_cons (pv 8) pa_nil)))
    (pss_cons (ps_set (i := 9) sc.nd rfl (by first | exact Or.inl rfl | exact Or.inr rfl) (pe_g (ok__law_next T) (hr.mono (by decide)) (by rfl) hx (pa_cons (pv 1) (pa_cons pe_int pa_nil))))
    (pss_one (ps_for hp rfl (pi_list (pe_g (ok__law_deeds T) (hr.mono (by decide)) (by rfl) hx (pa_cons (pv 1) (pa_cons (pe_ix (ix_U hu) (pv 7) (pv 9) (fun _ _ => rfl)) (pa_cons (pe_ix (ix_U hu) (pv 7) (pe_op op_subU pe_int (pv 9)) (fun _ _ => rfl)) (pa_cons (pv 5) pa_nil)))))) (pg_name (i := 10) sc.nd rfl (by first | exact Or.inl rfl | exact Or.inr rfl))
    (pss_cons (ps_if (pt_cmpR (op_neU hr.units) (pe_g (ok__law_done T) (hr.mono (by decide)) (by rfl) hx (pa_cons (pe_ix (ix_U hu) (pv 6) (pv 9) (fun _ _ => rfl)) (pa_cons (pv 10) pa_nil))) (pe_g (ok__law_due T) (hr.mono (by decide)) (by rfl) hx (pa_cons (pe_ix (ix_U hu) (pv 7) (pv 9) (fun _ _ => rfl)) (pa_cons (pv 10) pa_nil))) (nomark _))
    (pss_one (ps_ret pe_bl))
    pss_nil)
    (pss_one (ps_for hp rfl (pi_range1 (by rfl) (n_range T) (pa_cons pe_int pa_nil)) (pg_name (i := 11) sc.nd rfl (by first | exact Or.inl rfl | exact Or.inr rfl))
    (pss_one (ps_if (pt_not (pt_val (pe_g (ok__law_whole T) (hr.mono (by decide)) (by rfl) hx (pa_cons (pe_ix (ix_U hu) (pv 6) (pv 11) (fun _ _ => rfl)) (pa_cons (pe_ix (ix_U hu) (pv 7) (pv 11) (fun _ _ => rfl)) (pa_cons (pe_op op_addU (pe_callB (cb_len) (by rfl) (n_len T) bt_len (pa_cons (pv 10) pa_nil)) (pv 11)) pa_nil))))))
    (pss_one (ps_ret pe_bl))
    pss_nil))))))))))
    (pss_one (ps_ret pe_bl)))))))))), ?_⟩
  obtain ⟨a, ns, rfl, hscr, hns, q⟩ := h
  walk_at "rd"
  refine ⟨a, ns, 0, rfl, hscr.1, by decide, fun _ => ?_⟩
  walk_at "rd"
  refine ⟨_, rfl, fun s src hs _ => ?_⟩
  have s0 : Same H (upd H s (.lst (Src.l src))) := Same.new hs
  have hs0 : (upd H s (.lst (Src.l src))) s = some (.lst (Src.l src)) := upd_same
  generalize upd H s (.lst (Src.l src)) = H0 at s0 hs0
  have D0 : Drawn s H0 H0 := Drawn.start hs0
  walk_at "rd"
  refine nx_step D0 (by decide) (by decide) fun r1 H1 r10 r11 D1 _ _ => ?_
  walk_at "rd"
  refine nx_step D1 (by decide) (by decide) fun r2 H2 r20 r21 D2 _ _ => ?_
  walk_at "rd"
  refine nx_step D2 (by decide) (by decide) fun r3 H3 r30 r31 D3 _ _ => ?_
  obtain ⟨M, eM, pM, bM⟩ : ∃ M, 6 + r1 = M ∧ 6 ≤ M ∧ M ≤ 24 := ⟨_, rfl, by omega, by omega⟩
  obtain ⟨h, eh, ph, bh⟩ : ∃ h, 1 + r2 = h ∧ 1 ≤ h ∧ h ≤ 3 := ⟨_, rfl, by omega, by omega⟩
  obtain ⟨c, ec, pc, bc⟩ : ∃ c, 1 + r3 = c ∧ 1 ≤ c ∧ c ≤ 4 := ⟨_, rfl, by omega, by omega⟩
  walk_at "rd"
  rw [eM, eh, ec]
  intro z hz
  have hz4 : (upd H3 z (.tup [.int M, .int h, .int c])) z = some (.tup [.int M, .int h, .int c]) := upd_same
  have D4 := D3.new (o := .tup [.int M, .int h, .int c]) hz
  generalize upd H3 z (.tup [.int M, .int h, .int c]) = H4 at D4 hz4
  have lM : M.natAbs.log2 < 100 := Nat.lt_of_le_of_lt (log2_le (by omega) bM) (by decide)
  have lh : h.natAbs.log2 < 100 := Nat.lt_of_le_of_lt (log2_le (by omega) bh) (by decide)
  have lc : c.natAbs.log2 < 100 := Nat.lt_of_le_of_lt (log2_le (by omega) bc) (by decide)
  walk_at "rd"
  refine rd_ixT (st_of hz4) (v := .int M) rfl ?_
  walk_at "rd"
  refine rd_ixT (st_of hz4) (v := .int h) rfl ?_
  walk_at "rd"
  refine rd_ixT (st_of hz4) (v := .int c) rfl ?_
  walk_at "rd"
  intro sp dx hp hdx ndp
  refine ⟨sp, dx, .int M, .int h, .int c, _, _, _, rfl, upd_same, Kd.int, Kd.int, Kd.int, fun _ _ _ H7 f7 hp7 tk7 => ⟨rfl, ?_⟩, fun z => ?_⟩
  case refine_2 =>
    rw [isN1_int, isN1_int, isN1_int, decide_eq_true (show 1 ≤ M by omega), decide_eq_true ph, decide_eq_true pc] at z
    cases z
  have s47 : Same H4 H7 := fun b o e => f7 b o (by rw [upd_ne (ne_of_none e hp), upd_ne (ne_of_none e hdx)]; exact e) (ne_of_none e hp)
  have sh7 : ShapeAt Z H7 sp M h c := ⟨⟨dx, hp7⟩, by omega, ph, pc, by omega, by omega, by omega⟩
  have D7 := D4.same s47
  obtain ⟨s4', hs4⟩ := D4.at_
  have nsp : sp ≠ s := (ne_of_none hs4 hp).symm
  walk_at "rd"
  refine nx_step D7 (by decide) (by decide) fun r4 H8 r40 r41 D8 tk8 k8 => ?_
  have sh8 : ShapeAt Z H8 sp M h c := sh7.keep fun o e => k8 _ _ e nsp
  have hz8 : H8 z = some (.tup [.int M, .int h, .int c]) := tk8.tup (s47 _ _ hz4)
  obtain ⟨cc, hcc, atc⟩ : ∃ cc, cc ∈ (Str.ofString "abcdefghijklmnopqrstuvwxyz").cps.toList ∧ atI (Str.ofString "abcdefghijklmnopqrstuvwxyz").cps.toList r4 = some cc := by
    have hl : (Str.ofString "abcdefghijklmnopqrstuvwxyz").cps.toList.length = 26 := by decide +kernel
    have hj : r4.toNat < (Str.ofString "abcdefghijklmnopqrstuvwxyz").cps.toList.length := by omega
    exact ⟨_, List.getElem_mem hj, atI_int r40 (List.getElem?_eq_getElem hj)⟩
  obtain ⟨ok1, ok2, ok3⟩ := hol_all cc hcc
  refine .inr (.inr (.inl ⟨_, r4, cc, rfl, rfl, by decide +kernel, atc, ?_⟩))
  walk_at "rd"
  refine .inr (.inl ⟨_, _, rfl, rfl, ok1.2, ?_⟩)
  walk_at "rd"
  refine .inr (.inl ⟨_, _, rfl, rfl, ok2.2, ?_⟩)
  walk_at "rd"
  refine .inr (.inl ⟨_, _, rfl, rfl, ok3.2, ?_⟩)
  walk_at "rd"
  intro hl hhl
  have g9 : (upd H8 hl (.lst [.str (Str.ofString "a" ++ ⟨#[cc]⟩), .str (Str.ofString "aa" ++ ⟨#[cc]⟩), .str (Str.ofString "b" ++ ⟨#[cc]⟩)])) hl = some (.lst [.str (Str.ofString "a" ++ ⟨#[cc]⟩), .str (Str.ofString "aa" ++ ⟨#[cc]⟩), .str (Str.ofString "b" ++ ⟨#[cc]⟩)]) := upd_same
  have s89 : Same H8 (upd H8 hl (.lst [.str (Str.ofString "a" ++ ⟨#[cc]⟩), .str (Str.ofString "aa" ++ ⟨#[cc]⟩), .str (Str.ofString "b" ++ ⟨#[cc]⟩)])) := Same.new hhl
  generalize upd H8 hl (.lst [.str (Str.ofString "a" ++ ⟨#[cc]⟩), .str (Str.ofString "aa" ++ ⟨#[cc]⟩), .str (Str.ofString "b" ++ ⟨#[cc]⟩)]) = H9 at g9 s89
  generalize Str.ofString "a" ++ ⟨#[cc]⟩ = x1 at *
  generalize Str.ofString "aa" ++ ⟨#[cc]⟩ = x2 at *
  generalize Str.ofString "b" ++ ⟨#[cc]⟩ = x3 at *
  have F9 : FamL [(hl, 4), (sp, 4), (s, 5)] H9 := by
    obtain ⟨s8, hs8⟩ := D8.at_
    obtain ⟨⟨dx8, e8⟩, _⟩ := sh8
    have f1 : FamL [(sp, 4), (s, 5)] H8 := ⟨by simp [nsp], fun q hq => by
      simp only [List.mem_cons, List.not_mem_nil, or_false] at hq
      rcases hq with rfl | rfl
      · show H8 sp ≠ none; rw [e8]; exact fun z => nomatch z
      · show H8 s ≠ none; rw [hs8]; exact fun z => nomatch z⟩
    exact f1.new hhl 4 s89 (by rw [g9]; exact fun z => nomatch z)
  have k09 : TK H0 H9 := (D8.tk hs0).trans (TK.of_same s89)
  have sh9 := sh8.same s89
  have hz9 := s89 _ _ hz8
  clear D0 D1 D2 D3 D4 D7 D8 tk8 k8 tk7 hz4 hz hp hdx f7 hp7 sh7 sh8 hz8 hs4 s47 hhl
  walk_at "rd"
  intro p0 dx0 hp0 hdx0 nd0
  refine ⟨p0, dx0, sp, rfl, upd_same, fun H10 lp0 f10 e10 hlp0 el0 _ => ⟨rfl, ?_⟩⟩
  obtain ⟨F10, s10⟩ := F9.make hp0 hdx0 f10 e10 hlp0 el0 0
  walk_at "rd"
  intro p1 dx1 hp1 hdx1 nd1
  refine ⟨p1, dx1, sp, rfl, upd_same, fun H11 lp1 f11 e11 hlp1 el1 _ => ⟨rfl, ?_⟩⟩
  obtain ⟨F11, s11⟩ := F10.make hp1 hdx1 f11 e11 hlp1 el1 2
  walk_at "rd"
  intro bl hbl
  have F12 := F11.at (o := .lst [.ref p0, .ref p1]) hbl 4
  have e12 : (upd H11 bl (.lst [.ref p0, .ref p1])) bl = some (.lst [.ref p0, .ref p1]) := upd_same
  have s12 : Same H11 (upd H11 bl (.lst [.ref p0, .ref p1])) := Same.new hbl
  generalize upd H11 bl (.lst [.ref p0, .ref p1]) = H12 at F12 e12 s12
  have s912 : Same H9 H12 := (s10.trans s11).trans s12
  walk_at "rd"
  refine ⟨2, rfl, by decide, by decide, fun D hD => lc_it (walk_range (lo := 0) (n := 2)) (fun i H5 => TabsAt H12 H5 z D [(bl, 4), (lp1, 2), (p1, 2), (lp0, 0), (p0, 0), (hl, 4), (sp, 4), (s, 5)] i) ?_ (fun _ _ _ _ => trivial) ?_ ?_⟩
  · exact ⟨fun _ => D, fun _ => D, fun _ => D, _, F12.at hD 4, fun q hq => List.mem_cons_of_mem _ hq, List.mem_cons_self, upd_same, Same.new hD, fun k hk => absurd hk (Nat.not_lt_zero _)⟩
  · rintro i x H5 H6 hi TI ⟨rfl, rfl⟩
    walk_at "rd"
    refine ⟨rfl, ?_⟩
    walk_at "rd"
    refine rd_disp fun m' hm' => ?_
    walk_at "rd"
    refine rd_dT fun td' htd' => ?_
    walk_at "rd"
    intro rl' hrl'
    walk_at "rd"
    obtain ⟨g1, acc, g2, g3, g4⟩ := tabs_step TI hi hD hm' htd' hrl'
    refine ⟨g1, mdFs z td' rl' .non, rfl, by show (4 : Nat) ≤ 15; decide, acc, ?_⟩
    rw [md_merge]
    exact ⟨g2, g3, g4⟩
  · rintro H13 ⟨m, td, rl, ps, F13, sub, dm, eD, s13, w⟩
    have s9 : Same H9 H13 := s912.trans s13
    have T0 : Town Z H13 sp z hl bl D M h c x1 x2 x3 (fun i a => (a, i) ∈ ps) (fun k => if k = 0 then p0 else p1) m (fun _ => []) (fun _ => .non) 0 :=
      town_start F13 (sub _ (by simp)) (sub _ (by simp)) (sub _ (by simp)) dm (sub _ (by simp)) (sub _ (by simp)) (sub _ (by simp)) (sub _ (by simp)) (sh9.same s9) (s9 _ _ hz9) (s9 _ _ g9) (s13 _ _ e12) eD
        (s13 _ _ (s12 _ _ (s11 _ _ e10))) (s13 _ _ (s12 _ _ e11)) (s13 _ _ (s12 _ _ (s11 _ _ el0))) (s13 _ _ (s12 _ _ el1)) w
    have scr13 : Scr Z.K H13 a ns := hscr.tk (((TK.of_same s0).trans k09).trans (TK.of_same s9))
    clear F9 F10 F11 F12 hp0 hdx0 hp1 hdx1 f10 f11 hlp0 hlp1 hbl hD
    walk_at "rd"
    refine ⟨a, ns, 1, rfl, scr13.1, by decide, fun _ => ?_⟩
    walk_at "rd"
    intro l1 hl1
    have s14 : Same H13 (upd H13 l1 (.lst [.int (cellAt ns 1)])) := Same.new hl1
    have e14 : (upd H13 l1 (.lst [.int (cellAt ns 1)])) l1 = some (.lst [.int (cellAt ns 1)]) := upd_same
    generalize upd H13 l1 (.lst [.int (cellAt ns 1)]) = H14 at s14 e14
    walk_at "rd"
    refine rd_slL (scr13.tk (TK.of_same s14)).1 fun l2 hl2 => ?_
    walk_at "rd"
    refine rd_catL (by rw [upd_ne (ne_of_none e14 hl2)]; exact e14) upd_same (le_size (by have := cut_len (xs := ns.map V.int); simp; omega)) fun cl hcl => ?_
    have s15 : Same H14 (upd (upd H14 l2 (.lst (cutV (ns.map V.int) (some 2) (some 17)))) cl (.lst ([V.int (cellAt ns 1)] ++ cutV (ns.map V.int) (some 2) (some 17)))) := (Same.new hl2).upd' (none_of_upd hcl)
    have e15 : (upd (upd H14 l2 (.lst (cutV (ns.map V.int) (some 2) (some 17)))) cl (.lst ([V.int (cellAt ns 1)] ++ cutV (ns.map V.int) (some 2) (some 17)))) cl = some (.lst ([V.int (cellAt ns 1)] ++ cutV (ns.map V.int) (some 2) (some 17))) := upd_same
    have clen : ([V.int (cellAt ns 1)] ++ cutV (ns.map V.int) (some 2) (some 17)).length ≤ 16 := by have := cut_len (xs := ns.map V.int); simp; omega
    have cint : ∀ x ∈ ([V.int (cellAt ns 1)] ++ cutV (ns.map V.int) (some 2) (some 17)), ∃ i, x = V.int i := fun x hx => by
      rcases List.mem_append.mp hx with hx | hx
      · exact ⟨_, List.mem_singleton.mp hx⟩
      · exact cutV_ints hx
    have F15 : FamL ((cl, 4) :: ps) (upd (upd H14 l2 (.lst (cutV (ns.map V.int) (some 2) (some 17)))) cl (.lst ([V.int (cellAt ns 1)] ++ cutV (ns.map V.int) (some 2) (some 17)))) := ((F13.same s14).same (Same.new hl2)).at hcl 4
    generalize upd (upd H14 l2 (.lst (cutV (ns.map V.int) (some 2) (some 17)))) cl (.lst ([V.int (cellAt ns 1)] ++ cutV (ns.map V.int) (some 2) (some 17))) = H15 at s15 e15 F15
    generalize ([V.int (cellAt ns 1)] ++ cutV (ns.map V.int) (some 2) (some 17)) = cs at *
    obtain ⟨O0, T15, cl0⟩ : ∃ O, Town Z H15 sp z hl bl D M h c x1 x2 x3 O (fun k => if k = 0 then p0 else p1) m (fun _ => []) (fun _ => .non) 0 ∧ O 4 cl := by
      have s1315 := s14.trans s15
      have up : ∀ q, q ∈ ps → q ∈ (cl, 4) :: ps := fun q hq => List.mem_cons_of_mem _ hq
      refine ⟨_, town_start (td := td) (rl := rl) F15 (up _ (sub _ (by simp))) (up _ (sub _ (by simp))) (up _ (sub _ (by simp))) (up _ dm) (up _ (sub _ (by simp))) (up _ (sub _ (by simp))) (up _ (sub _ (by simp))) (up _ (sub _ (by simp))) (T0.sh.same s1315) (s1315 _ _ (s9 _ _ hz9)) (s1315 _ _ T0.hh) (s1315 _ _ T0.hb) (s1315 _ _ T0.ht)
        (s1315 _ _ (s13 _ _ (s12 _ _ (s11 _ _ e10)))) (s1315 _ _ (s13 _ _ (s12 _ _ e11))) (s1315 _ _ (s13 _ _ (s12 _ _ (s11 _ _ el0)))) (s1315 _ _ (s13 _ _ (s12 _ _ el1))) (fun k hk => ?_), List.mem_cons_self⟩
      obtain ⟨a1, a2, a3, a4, a5, a6⟩ := w k hk
      exact ⟨up _ a1, up _ a2, up _ a3, s1315 _ _ a4, s1315 _ _ a5, s1315 _ _ a6⟩
    clear F13 sub dm eD s13 w s9 T0 scr13 s14 e14 F15 s15 hcl hl2 hl1 e10 el0 e11 el1 s10 s11 e12 s12 s912 s89 g9 k09 sh9 hz9 hs0 hs hscr
    generalize (fun k => if k = 0 then p0 else p1) = p at T15
    walk_at "rd"
    refine ⟨cl, rfl, ⟨_, sq_of e15⟩, for_it (walk_list (K := Z.K) (a := cl) (xs := cs)) (fun i σ H2 => ∃ y1 y4 y8 y9 y10 y11 O L la, σ = [some (.ref a), y1, some (.ref z), some (.ref sp), y4, some (.ref hl), some (.ref bl), some (.ref D), y8, y9, y10, y11] ∧ Town Z H2 sp z hl bl D M h c x1 x2 x3 O p m L la (4000 * i) ∧ O 4 cl ∧ H2 cl = some (.lst cs)) ?_ ?_ ?_ ?_⟩
    · exact ⟨_, _, _, _, _, _, O0, _, _, rfl, T15, cl0, e15⟩
    · rintro i σ H2 _ ⟨_, _, _, _, _, _, _, _, _, _, _, _, e⟩
      exact sq_of e
    · rintro i x σ HX H2 hi ⟨y1, y4, y8, y9, y10, y11, O, L, la, rfl, TW, oc, ec⟩ ⟨rfl, hx⟩
      obtain ⟨ci, rfl⟩ := cint _ (List.mem_of_getElem? hx)
      walk_at "rd"
      refine ⟨ci, rfl, fun s src hs _ => ?_⟩
      have k23 : Same H2 (upd H2 s (.lst (Src.l src))) := Same.new hs
      have hs3 : (upd H2 s (.lst (Src.l src))) s = some (.lst (Src.l src)) := upd_same
      generalize upd H2 s (.lst (Src.l src)) = H3 at k23 hs3
      obtain ⟨O3, T3, o35, o34⟩ := TW.srcE (S := (· = s)) ⟨Fr.of_same k23, fun b hb => .inr (hb ▸ hs)⟩ (fun b hb => by rw [hb, hs3]; exact fun z => nomatch z) (TK.of_same k23)
      walk_at "rd"
      refine nx_step (Drawn.start hs3) (by decide) (by decide) fun r H4 r0 r1 D4 _ _ => ?_
      obtain ⟨k, rfl⟩ : ∃ k : Nat, (k : Int) = r := ⟨r.toNat, by omega⟩
      have hk : k < 2 := by omega
      have t34 : TK H3 H4 := D4.tk hs3
      obtain ⟨src4, hs4⟩ := D4.at_
      obtain ⟨O4, T4, o45, o44⟩ := T3.srcE (S := (· = s)) (by rw [o35]; exact ⟨D4.fr, fun b hb => .inl hb⟩) (fun b hb => by rw [hb, hs4]; exact fun z => nomatch z) t34
      have oc4 : O4 4 cl := by rw [o44, o34]; exact oc
      have ec4 : H4 cl = some (.lst cs) := D4.get (k23 _ _ ec) (ne_of_none ec hs)
      have os4 : O4 5 s := by rw [o45]
      clear D4 T3 o35 o34 TW oc ec k23 hs3 hs t34
      walk_at "rd"
      refine rd_ixL (sq_of T4.ht) (at_two (f := fun k => .ref (m k)) rfl rfl hk) ?_
      walk_at "rd"
      rw [show (1 : Int) - (k : Int) = ((1 - k : Nat) : Int) by omega]
      refine rd_ixL (sq_of T4.ht) (at_two (f := fun k => .ref (m k)) rfl rfl (show 1 - k < 2 by omega)) ?_
      walk_at "rd"
      have U4 := T4.duo k hk
      have V4 := T4.duo (1 - k) (by omega)
      have gk : GoodL (L k) M h := let ⟨_, _, g⟩ := U4.bk; g
      have gv : GoodL (L (1 - k)) M h := let ⟨_, _, g⟩ := V4.bk; g
      have rok : ∀ {LL : List LetS}, GoodL LL M h → RowsOk LL := fun g l hl => ⟨(g.iv l hl).1, (g.iv l hl).2.1, by have := (g.iv l hl).2.2.1; omega, g.ok l hl⟩
      refine ⟨s, src4, m k, m (1 - k), z, (M, h, c), _, _, _, _, _, _, _, _, hl, x1, x2, x3, rfl, hs4, U4.md, V4.md, (fun z => T4.fam.ap _ 5 (by omega) s z os4), (fun z => T4.fam.ap _ 5 (by omega) s z os4), V4.ls, (fun l hl => (List.mem_append.mp hl).elim (rok gk l) (rok gv l)), gk.len, T4.hh, ok1, ok2, ok3, by show 1 ≤ M; omega, ph, by show M ≤ 1000; omega, by show h ≤ 1000; omega, fun H5 dl vs5 D5 hd5 da5 dlen hdn tk5 => ?_⟩
      have ndl : dl ≠ s := (ne_of_none hs4 hdn).symm
      obtain ⟨O5, T5, o55, o54⟩ := T4.srcE (S := fun b => b = s ∨ b = dl) (by rw [o45]; exact ⟨D5.fr.mono fun b hb => hb, fun b hb => hb.elim .inl fun e => .inr (e ▸ hdn)⟩) (fun b hb => by
        obtain ⟨s5, hs5⟩ := D5.at_
        rcases hb with rfl | rfl
        · rw [hs5]; exact fun z => nomatch z
        · rw [hd5]; exact fun z => nomatch z) tk5
      have oc5 : O5 4 cl := by rw [o54]; exact oc4
      have ec5 : H5 cl = some (.lst cs) := D5.get ec4 (by rintro rfl; exact T4.fam.ap 4 5 (by omega) _ oc4 os4)
      have od5 : O5 5 dl := by rw [o55]; exact .inr rfl
      clear D5 T4 o45 o44 oc4 ec4 os4 hs4 U4 V4 gk gv
      walk_at "rd"
      refine ⟨dl, rfl, ⟨_, sq_of hd5⟩, for_it (walk_list (K := Z.K) (a := dl) (xs := vs5)) (fun j σ H2 => ∃ y10 y11 O L la, σ = [some (.ref a), some (.ref s), some (.ref z), some (.ref sp), y4, some (.ref hl), some (.ref bl), some (.ref D), some (.int ci), some (.int k), y10, y11] ∧ Town Z H2 sp z hl bl D M h c x1 x2 x3 O p m L la (4000 * i + 1000 * j) ∧ O 4 cl ∧ H2 cl = some (.lst cs) ∧ O 5 dl ∧ H2 dl = some (.lst vs5) ∧ DeedsAt H2 vs5) ?_ ?_ ?_ ?_⟩
      · exact ⟨_, _, O5, _, _, rfl, T5, oc5, ec5, od5, hd5, da5⟩
      · rintro j σ H6 _ ⟨_, _, _, _, _, _, _, _, _, _, e, _⟩
        exact sq_of e
      · rintro j x σ HX H6 hj ⟨y10, y11, O, L, la, rfl, TW, oc, ec, od, ed, da⟩ ⟨rfl, hx⟩
        obtain ⟨t, d, rfl, dt, dok⟩ := da _ (List.mem_of_getElem? hx)
        have U6 := TW.duo k hk
        have gk : GoodL (L k) M h := let ⟨_, _, g⟩ := U6.bk; g
        have ln6 := U6.ln
        walk_at "rd"
        refine rd_ixL (sq_of TW.hb) (at_two (f := fun k => .ref (p k)) rfl rfl hk) ?_
        walk_at "rd"
        refine ⟨p k, sp, O (2 * k), L k, M, h, c, t, d, rfl, U6.bk, TW.sh, by omega, dt, (fun hol hou mo s e => by subst e; exact dok.2.1), fun out L' st H7 S' r7 e7 b7 dp7 hr7 tk7 => ?_⟩
        have k7 : ∀ i, i ≠ 2 * k → ∀ b o, O i b → H6 b = some o → H7 b = some o := fun i hi => TW.fam.keep e7 hi
        walk_at "rd"
        refine rd_ixL (sq_of (k7 4 (by omega) _ _ TW.own.2.2.2 TW.ht)) (at_two (f := fun k => .ref (m k)) rfl rfl hk) ?_
        walk_at "rd"
        refine ⟨m k, z, (M, h, c), O (2 * k + 1), la k, L k, _, t, d, out, L', rfl, U6.md.keep (k7 _ (by omega)) tk7, gk, by show 1 ≤ M; omega, ph, by show M ≤ 1000; omega, by show h ≤ 1000; omega, by omega, by omega, dt.tk tk7, dok, st, fun H8 G' r8 lb e8 md8 hlb dp8 hr8 tk8 => ?_⟩
        have lb8 : LastAt H8 lb := by
          rcases hlb with rfl | ⟨rfl, hol, hou, mo, sp2, rfl⟩
          · exact U6.ls.tk (tk7.trans tk8)
          · exact .inr ⟨t, hol, hou, mo, sp2, rfl, dt.tk (tk7.trans tk8), dok⟩
        have T8 := TW.deed hk st e7 b7 e8 md8 lb8 tk7 tk8
        refine rd_neSame (out_tk st.form.2 dp7 tk8) dp8 (out_sh st.form.2) ?_
        have f7 : Fam (Fam.put O (2 * k) S') H7 := by
          obtain ⟨as, C7, _⟩ := b7
          exact TW.fam.step e7 C7.lv
        have k8 : ∀ i, i ≠ 2 * k → i ≠ 2 * k + 1 → ∀ b o, O i b → H6 b = some o → H8 b = some o := fun i h1 h2 b o hb e => f7.keep (i := 2 * k + 1) (S := G') (by rw [Fam.put_ne (by omega)]; exact e8) h2 b o (by rw [Fam.put_ne h1]; exact hb) (k7 i h1 b o hb e)
        have oc8 : Fam.put (Fam.put O (2 * k) S') (2 * k + 1) G' 4 cl := by rw [Fam.put_ne (by omega), Fam.put_ne (by omega)]; exact oc
        have od8 : Fam.put (Fam.put O (2 * k) S') (2 * k + 1) G' 5 dl := by rw [Fam.put_ne (by omega), Fam.put_ne (by omega)]; exact od
        have ec8 := k8 4 (by omega) (by omega) _ _ oc ec
        have ed8 := k8 5 (by omega) (by omega) _ _ od ed
        have da8 : DeedsAt H8 vs5 := da.tk (tk7.trans tk8)
        have dt8 := dt.tk (tk7.trans tk8)
        generalize Fam.put (Fam.put O (2 * k) S') (2 * k + 1) G' = O8 at T8 oc8 od8
        generalize (fun j => if j = k then L' else L j) = L8 at T8
        generalize (fun j => if j = k then lb else la j) = la8 at T8
        clear TW U6 gk k7 k8 e7 b7 dp7 e8 md8 dp8 f7 oc od ec ed da dt lb8 hlb
        walk_at "rd"
        refine ⟨2, rfl, by decide, by decide, for_it (walk_range (lo := 0) (n := 2)) (fun q σ H2 => Same H8 H2 ∧ ∃ y11, σ = [some (.ref a), some (.ref s), some (.ref z), some (.ref sp), y4, some (.ref hl), some (.ref bl), some (.ref D), some (.int ci), some (.int k), some (.ref t), y11]) ?_ (fun _ _ _ _ _ => trivial) ?_ ?_⟩
        · exact ⟨Same.refl _, _, rfl⟩
        · rintro qn x σ HX H9 hq ⟨s9, y11, rfl⟩ ⟨rfl, rfl⟩
          simp only [Int.zero_add]
          have T9 := T8.same s9
          obtain ⟨xs, hxs⟩ := (dt8.tk (TK.of_same s9)).tup
          have U9 := T9.duo qn hq
          obtain ⟨as9, C9, g9⟩ := U9.bk
          walk_at "rd"
          refine rd_ixL (sq_of T9.hb) (at_two (f := fun k => .ref (p k)) rfl rfl hq) ?_
          walk_at "rd"
          refine rd_ixL (sq_of T9.ht) (at_two (f := fun k => .ref (m k)) rfl rfl hq) ?_
          walk_at "rd"
          refine rd_lenT (st_of hxs) ?_
          walk_at "rd"
          refine ⟨p qn, sp, _, as9, L8 qn, m qn, z, M, h, c, _, la8 qn, _, _, rfl, C9, g9, T9.sh, U9.md, by omega, by omega, by omega, fun H10 s10 _ => ?_⟩
          walk_at "rd"
          exact ⟨s9.trans s10, _, rfl⟩
        · rintro σ H9 ⟨s9, y11, rfl⟩
          exact ⟨_, _, O8, L8, la8, rfl, (T8.same s9).mono (by omega), oc8, s9 _ _ ec8, od8, s9 _ _ ed8, da8.tk (TK.of_same s9)⟩
      · rintro σ H6 ⟨y10, y11, O, L, la, rfl, TW, oc, ec, od, ed, da⟩
        exact ⟨_, _, _, _, _, _, O, L, la, rfl, TW.mono (by omega), oc, ec⟩
    · rintro σ H6 ⟨y1, y4, y8, y9, y10, y11, O, L, la, rfl, TW, oc, ec⟩
      walk_at "rd"
      exact q _
theorem ok_law {Z : Zn} (T : Tx Z) : GF Z "law" 6 ["script"] [] (sp_law Z) := GF.of (T.df 32) (T.glo 32) b_law sc_law (by walk_at "len") (w_law T)


/-! ## the end -/
theorem end_call {l : PySem.W.OpenLaw} {m j : Nat} {v : Program} {ls : List Str} {X1 : (Str → Option Value) → Heap → Prop} {Y1 : World → Heap → Prop} {dr : DefRec} {y : Str} (e1 : l.most = some m) (e2 : m ≤ sizeLine) (e3 : dr.params.defaults = []) (rm : Room j callerA)
    (G0 : ∀ (wd : World) (tb : Str → Option Value) (f0 : Addr) (g : Heap), Y1 wd g → g.Ns mainGlobals tb → tb dr.name = some (.ref f0) → ∃ (C : PySem.W.Frag) (dd : FuncData) (pr : Sp), C.In g ∧ (∀ (t : Shared) (z : Value), BindsTo t dd ⟨[z], []⟩ [(y, z)]) ∧
      (∀ (HH : Hp) (b : Addr) (ks : List Int), ks.length ≤ m → Only HH → SqL C HH b (ks.map V.int) → pr [.ref b] HH (fun z _ => z = .bl true) fun _ _ _ => False) ∧ ∀ bs : Heap, C.In bs → bs.Ns mainGlobals tb → FnOk l.prog wd C tb bs (L2.CX l.prog wd) j f0 dd [y] pr) :
    PySem.W.WalkO v ls X1 Y1 l.row.toRowW dr [] (fun f vs => PySem.call f vs) := by
  refine Att.attach_call e1 e3 fun wd t0 t1 tb bt f0 o0 p1 p2 p3 b zs ks gr yy q1 q2 q3 q4 q5 q6 q7 q8 => ?_
  obtain ⟨C, dd, pr, c1, c2, c3, c4⟩ := G0 wd tb f0 _ yy gr.T.g q4
  refine law_call c1 gr.T.g gr.T.b gr.T.builtins gr.T.nolimit q8 q5 q6 (Nat.le_trans q7 e2) rm c4 c2 (fun HH o1 o2 => c3 HH b ks q7 o1 o2) fun HH u t9 z => ?_
  obtain ⟨_, _, _, _, _, _, _, _, _, _, _, _, z9⟩ := z
  exact z9
abbrev Rr : PySem.W.OpenRow := PySem.W.OpenLaw.row PySem.Challenge.rw_namehouses_k29_whole_let_cut_and_let_aga
abbrev hkk : PySem.W.Hook := hookE 6 fa fn exs
def obb (s : PySem.W.SharedT) : Bool × He.AlD := obsE 6 fa fn exs (HandSHeadRun.getT s)
theorem obb_eq (s : PySem.W.SharedT) : obb s = hkk.obs s.abs := obsE_eq (HandSHeadRun.getT_eq s)
def loose0 : List Str := ["HouseError", "NoShape", "NoName", "NoTime", "NoHolder", "NoLease", "Ended", "is_whole", "is_below", "Shape", "parts_of", "LETTERS", "MOST_LETTERS", "is_holder", "Let", "Common", "_law_cell_at", "_law_mixed", "_law_digits", "_law_next", "_law_refused", "_law_done", "_law_free", "_law_let", "_law_cut", "_law_due", "_law_lease", "_law_used", "_law_drawn_let", "_law_deeds"]
def loose1 : List Str := ["_law_whole"]
def loose : List Str := loose0 ++ loose1
theorem run_eq (w : World) : HandSHeadRun.RunEq Rr (PySem.W.view Rr.prog [35]) hkk obb 4000 loose w := by
  intro os
  kernel_rfl
theorem law_at {P : Program} {w : World} {K : PySem.W.Frag} {h : Heap} {mg : Str → Option Value} {f0 : Addr} (X : K.In h) (G : h.Ns mainGlobals mg) (hf : mg ("law" : Str) = some (.ref f0)) (c : He.SaysD fa fn K) (xx : excAll exs K = true) :
    ∃ fd : FuncData, (∀ (s : Shared) (v : Value), BindsTo s fd ⟨[v], []⟩ [("script", v)]) ∧ ∀ base : Heap, K.In base → base.Ns mainGlobals mg → FnOk P w K mg base (L2.CX P w) 6 f0 fd ["script"] (sp_law ⟨P, w, K, mg, base⟩) := by
  have T0 : Tx (⟨P, w, K, mg, h⟩ : Zn) := ⟨⟨h, X, G⟩, c, xx⟩
  obtain ⟨fd, F⟩ := (T0.df (p := ("law", none)) (x := "law") (qual := "law") (st := s_law) 32).fn
  have e := hf.symm.trans (T0.glo (x := "law") 32)
  cases e
  have b := FunD.bindsA (ps := ["script"]) F b_law
  refine ⟨fd, fun s v => b s [v] rfl, fun base _ _ => ?_⟩
  have T1 : Tx (⟨P, w, K, mg, base⟩ : Zn) := ⟨⟨h, X, G⟩, c, xx⟩
  exact fnOk_of (Z := ⟨P, w, K, mg, base⟩) F sc_law (by walk_at "len") (w_law T1)
end NH
open PySem PySem.W PySem.Calls PyProof.Rows
theorem PySem.Challenge.cw_namehouses_k29_whole_let_cut_and_let_aga_holds : PySem.Challenge.rw_namehouses_k29_whole_let_cut_and_let_aga.Holds := by
  w_on; o_law
  refine HandSHeadRun.head_any (r := NH.Rr) (q := view NH.Rr.prog [35]) (H := NH.hkk) (ob := NH.obb) (M := 4000) (loose := NH.loose) (d := HandSHeadRun.topDef NH.Rr.prog 35) (kwd := []) NH.obb_eq
    (by kernel_rfl) (fun s => by kernel_rfl) NH.run_eq (by kernel_rfl) (by kernel_rfl) (by kernel_rfl) (by rfl) (by first | assumption | decide +kernel) (by decide +kernel) ⟨rfl, rfl, rfl, rfl, rfl, by decide +kernel⟩ ?hw ?hc
  case hw => w_witness2
  case hc =>
    refine NH.end_call (l := PySem.Challenge.rw_namehouses_k29_whole_let_cut_and_let_aga) (m := 63) (j := 6) (y := "script") rfl (by decide) (by kernel_rfl) ⟨rfl, by decide, by decide⟩ ?F
    intro w mg f0 h Y G hm0
    obtain ⟨K, KX, c, xx⟩ := Y
    have hm : mg ("law" : PySem.Str) = some (.ref f0) := by
      have e : (HandSHeadRun.topDef NH.Rr.prog 35).name = ("law" : PySem.Str) := by kernel_rfl
      rw [← e]
      exact hm0
    obtain ⟨fd, hb, hF⟩ := NH.law_at (P := (PySem.Challenge.rw_namehouses_k29_whole_let_cut_and_let_aga).prog) (w := w) KX G hm c xx
    exact ⟨K, fd, NH.sp_law ⟨(PySem.Challenge.rw_namehouses_k29_whole_let_cut_and_let_aga).prog, w, K, mg, h⟩, KX, hb, fun H a ns hl ho hS => ⟨a, ns, rfl, NH.Scr.of_only ho hS, hl, fun _ => rfl⟩, hF⟩
