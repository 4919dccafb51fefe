import PyProof.Rows.All
import Wide.All
import OpenK.AllK
import Wide.FinOn
import HandS.ForMost
import HandS.ForExc
import HandS.IsInst
import HandS.Walk
import HandS.ExcInit
import PyProof.WalksMore
import PyProof.SetRoads
import HandS.SetKeys
import HandS.TryMany
import HandS.ExcField
import HandS.DictComp
import HandS.SortInts
import HandS.Conv
import HandS.WordsDict
import HandS.TupAny
import HandS.Codes
import HandS.Style
import HandS.ExcOwn
import PySem.Challenge.RW_heapsight_k10_whole_states_looked_at
set_option Elab.async false
set_option linter.all false
set_option maxRecDepth 100000
set_option maxHeartbeats 4000000
/-! F1: deep data in the abstract heap, isinstance upon it. -/
namespace Hs
open PySem PySem.Spec PyProof.Rows L2

/-! ### heaps -/
theorem same_upd {H : Hp} {p : Addr} {o : HO} (hp : H p = none) : Same H (upd H p o) := fun b u e => by
  rw [upd_ne (ne_of_none e hp)]
  exact e
theorem Same.sqt {K : PySem.W.Frag} {H H' : Hp} {a : Addr} {xs : List V} (e : Same H H') (h : SqT K H a xs) : SqT K H' a xs := by
  rcases h with (h | ⟨o, h⟩) | h
  · exact .inl (.inl (e _ _ h))
  · exact .inl (.inr ⟨o, e _ _ h⟩)
  · exact .inr h

/-! ### deep data -/
section
variable {K : PySem.W.Frag} {H H' : Hp}
mutual
theorem dp_mono (e : Same H H') : ∀ (d : PyData) (v : V), Dp K H v d → Dp K H' v d
  | .none, _, h => by cases h; exact .non
  | .bool b, _, h => by cases h; exact .bl b
  | .int i, _, h => by cases h; exact .int i
  | .str x, _, h => by cases h; exact .str x
  | .list ds, _, h => by
    cases h with
    | lst s t => exact .lst (L2.Same.seq e s) (dpAll_mono e ds _ t)
  | .tuple ds, _, h => by
    cases h with
    | tup s t => exact .tup (Same.sqt e s) (dpAll_mono e ds _ t)
  | .dict _, _, h => by cases h
theorem dpAll_mono (e : Same H H') : ∀ (ds : List PyData) (vs : List V), DpAll K H vs ds → DpAll K H' vs ds
  | [], _, h => by cases h; exact .nil
  | d :: ds, _, h => by
    cases h with
    | cons a b => exact .cons (dp_mono e d _ a) (dpAll_mono e ds _ b)
end
theorem DpAll.len : ∀ {vs : List V} {ds : List PyData}, DpAll K H vs ds → vs.length = ds.length
  | _, _, .nil => rfl
  | _, _, .cons _ t => by rw [List.length_cons, List.length_cons, DpAll.len t]
theorem DpAll.get : ∀ {vs : List V} {ds : List PyData} {i : Nat} {d : PyData}, DpAll K H vs ds → ds[i]? = some d → ∃ v, vs[i]? = some v ∧ Dp K H v d
  | _, _, i, d, .nil, e => by simp at e
  | _, _, 0, d, .cons a _, e => by
    have e' := Option.some.inj e
    subst e'
    exact ⟨_, rfl, a⟩
  | _, _, i + 1, d, .cons _ t, e => DpAll.get (i := i) t e
theorem DpAll.get' : ∀ {vs : List V} {ds : List PyData} {i : Nat} {v : V}, DpAll K H vs ds → vs[i]? = some v → ∃ d, ds[i]? = some d ∧ Dp K H v d
  | _, _, i, d, .nil, e => by simp at e
  | _, _, 0, d, .cons a _, e => by
    have e' := Option.some.inj e
    subst e'
    exact ⟨_, rfl, a⟩
  | _, _, i + 1, d, .cons _ t, e => DpAll.get' (i := i) t e
theorem DpAll.app : ∀ {vs us : List V} {ds es : List PyData}, DpAll K H vs ds → DpAll K H us es → DpAll K H (vs ++ us) (ds ++ es)
  | _, _, _, _, .nil, t => t
  | _, _, _, _, .cons a r, t => .cons a (DpAll.app r t)
theorem Dp.tuple_inv {v : V} {ds : List PyData} (h : Dp K H v (.tuple ds)) : ∃ a xs, v = .ref a ∧ SqT K H a xs ∧ DpAll K H xs ds := by
  cases h with
  | tup s t => exact ⟨_, _, rfl, s, t⟩
theorem Dp.list_inv {v : V} {ds : List PyData} (h : Dp K H v (.list ds)) : ∃ a xs, v = .ref a ∧ SqL K H a xs ∧ DpAll K H xs ds := by
  cases h with
  | lst s t => exact ⟨_, _, rfl, s, t⟩
theorem Dp.int_inv {v : V} {i : Int} (h : Dp K H v (.int i)) : v = .int i := by cases h; rfl
theorem Dp.str_inv {v : V} {i : Str} (h : Dp K H v (.str i)) : v = .str i := by cases h; rfl
theorem Dp.bool_inv {v : V} {i : Bool} (h : Dp K H v (.bool i)) : v = .bl i := by cases h; rfl
theorem Dp.none_inv {v : V} (h : Dp K H v .none) : v = .non := by cases h; rfl
theorem dpAll_map {α : Type} (f : α → V) (g : α → PyData) (h : ∀ a, Dp K H (f a) (g a)) : ∀ l : List α, DpAll K H (l.map f) (l.map g)
  | [] => .nil
  | a :: l => .cons (h a) (dpAll_map f g h l)
theorem dpAll_ints (l : List Int) : DpAll K H (l.map V.int) (l.map PyData.int) := dpAll_map _ _ (fun a => .int a) l
theorem dpAll_strs (l : List Str) : DpAll K H (l.map V.str) (l.map PyData.str) := dpAll_map _ _ (fun a => .str a) l
end

/-- the built-in type of data -/
def tyOf : PyData → String
  | .none => "NoneType"
  | .bool _ => "bool"
  | .int _ => "int"
  | .str _ => "str"
  | .list _ => "list"
  | .tuple _ => "tuple"
  | .dict _ => "dict"
theorem dp_ty {K : PySem.W.Frag} {H : Hp} {v : V} {d : PyData} (h : Dp K H v d) : TyX K H v (.type (tyOf d)) := by
  cases h with
  | non => exact .base .non
  | bl b => exact .base (.bl b)
  | int i => exact .base (.int i)
  | str x => exact .base (.str x)
  | lst s t =>
    rcases s with (s | ⟨o, s⟩) | ⟨o, its, n, k, c, _⟩
    · exact .base (.lst s)
    · exact .base (.frz s)
    · exact .kList k c
  | tup s t =>
    rcases s with (s | ⟨o, s⟩) | ⟨o, its, n, k, c, _⟩
    · exact .base (.tup s)
    · exact .fTuple s
    · exact .kTuple k c
def isN (T n : String) : Bool := n == T || (n == "bool" && T == "int")
def isOf (T : String) (d : PyData) : Bool := isN T (tyOf d)
theorem tyOf_mem : ∀ d : PyData, tyOf d ∈ ["NoneType", "bool", "int", "str", "list", "tuple", "dict"] := fun d => by cases d <;> simp [tyOf]
theorem kit_all : ∀ n ∈ ["NoneType", "bool", "int", "str", "list", "tuple", "dict"], ∀ T ∈ ["int", "bool", "str", "tuple"], kitB n T = some (isN T n) := by decide +kernel
section
variable {X : Cx}
/-- isinstance of data: the built-in type is written -/
theorem call_isD : CallR X (.builtin "isinstance") (fun xs H Q => ∃ x T d, xs = [x, .ty T] ∧ Dp X.K H x d ∧ T ∈ ["int", "bool", "str", "tuple"] ∧ Q (.bl (isOf T d)) H) := by
  intro pins s σ H xs us Q I r h
  obtain ⟨x, T, d, rfl, hd, hk, q⟩ := h
  exact call_isi pins s σ H [x, .ty T] us Q I r ⟨x, .ty T, .type (tyOf d), .type T, isOf T d, rfl, .ty T, dp_ty hd, kit_ty (kit_all _ (tyOf_mem d) T hk), q⟩
end
theorem isN_int : isN "int" "NoneType" = false ∧ isN "int" "bool" = true ∧ isN "int" "int" = true ∧ isN "int" "str" = false ∧ isN "int" "list" = false ∧ isN "int" "tuple" = false ∧ isN "int" "dict" = false := by decide +kernel
theorem isN_bool : isN "bool" "NoneType" = false ∧ isN "bool" "bool" = true ∧ isN "bool" "int" = false ∧ isN "bool" "str" = false ∧ isN "bool" "list" = false ∧ isN "bool" "tuple" = false ∧ isN "bool" "dict" = false := by decide +kernel
theorem isN_str : isN "str" "NoneType" = false ∧ isN "str" "bool" = false ∧ isN "str" "int" = false ∧ isN "str" "str" = true ∧ isN "str" "list" = false ∧ isN "str" "tuple" = false ∧ isN "str" "dict" = false := by decide +kernel
theorem isN_tuple : isN "tuple" "NoneType" = false ∧ isN "tuple" "bool" = false ∧ isN "tuple" "int" = false ∧ isN "tuple" "str" = false ∧ isN "tuple" "list" = false ∧ isN "tuple" "tuple" = true ∧ isN "tuple" "dict" = false := by decide +kernel
theorem isOf_int (d : PyData) : isOf "int" d = match d with | .int _ => true | .bool _ => true | _ => false := by
  obtain ⟨h1, h2, h3, h4, h5, h6, h7⟩ := isN_int
  cases d with
  | none => exact h1
  | bool _ => exact h2
  | int _ => exact h3
  | str _ => exact h4
  | list _ => exact h5
  | tuple _ => exact h6
  | dict _ => exact h7
theorem isOf_bool (d : PyData) : isOf "bool" d = match d with | .bool _ => true | _ => false := by
  obtain ⟨h1, h2, h3, h4, h5, h6, h7⟩ := isN_bool
  cases d with
  | none => exact h1
  | bool _ => exact h2
  | int _ => exact h3
  | str _ => exact h4
  | list _ => exact h5
  | tuple _ => exact h6
  | dict _ => exact h7
theorem isOf_str (d : PyData) : isOf "str" d = match d with | .str _ => true | _ => false := by
  obtain ⟨h1, h2, h3, h4, h5, h6, h7⟩ := isN_str
  cases d with
  | none => exact h1
  | bool _ => exact h2
  | int _ => exact h3
  | str _ => exact h4
  | list _ => exact h5
  | tuple _ => exact h6
  | dict _ => exact h7
theorem isOf_tuple (d : PyData) : isOf "tuple" d = match d with | .tuple _ => true | _ => false := by
  obtain ⟨h1, h2, h3, h4, h5, h6, h7⟩ := isN_tuple
  cases d with
  | none => exact h1
  | bool _ => exact h2
  | int _ => exact h3
  | str _ => exact h4
  | list _ => exact h5
  | tuple _ => exact h6
  | dict _ => exact h7
end Hs
/-! F2: a def of the module by its name: its text, its promise, its call. -/
namespace Hs
open PySem PySem.Spec PyProof.Rows L2
/-- the def of the text st stands behind the module's name x -/
structure Def (K : PySem.W.Frag) (mg : Str → Option Value) (x : Str) (st : Stmt) (ps : List Str) : Prop where
  ex : ∃ f fd, Fun K x x st f fd ∧ mg x = some (.ref f) ∧ Binds K fd ps []
/-- the def behind the module's name x keeps sp -/
structure Fn (P : Program) (w : World) (K : PySem.W.Frag) (mg : Str → Option Value) (base : Heap) (CX : CXT) (k : Nat) (x : Str) (ps : List Str) (sp : Sp) : Prop where
  ex : ∃ f fd, FnOk P w K mg base CX k f fd ps sp ∧ mg x = some (.ref f) ∧ PySem.W.keepIn K (.ref f) = true ∧ Binds K fd ps []
section
variable {P : Program} {w : World} {K : PySem.W.Frag} {mg : Str → Option Value} {base : Heap}
theorem Def.ok {x : Str} {st : Stmt} {N ps : List Str} {k : Nat} {sp : Sp} (D : Def K mg x st ps) (S : FnScope N ps (defScope st)) (len : ∀ vs H Q E, sp vs H Q E → vs.length = ps.length)
    (hbody : ∀ (f : Addr) (cdv : Value) (A : Around) (outer : List Env) (s : Shared) (H : Hp) (vs : List V) (Q : VK) (E : XK), Room k (A.deeper (envOfC x (defScope st) s.heap.objs.size f cdv)) → sp vs H Q E →
      ∃ t, PSs (cxOf CX0 P w K mg base N x (defScope st) f cdv A outer s H E).nox (defBody st) t ∧ t { nx := fun _ H' => Q .non H', rt := Q } (start N vs) H) : Fn P w K mg base CX0 (k + 1) x ps sp := by
  obtain ⟨f, fd, F, hm, hb⟩ := D.ex
  exact ⟨f, fd, F.ok S len (hbody f), hm, F.kp, hb⟩
theorem Def.okX {x : Str} {st : Stmt} {N ps : List Str} {k : Nat} {sp : Sp} (D : Def K mg x st ps) (S : FnScope N ps (defScope st)) (len : ∀ vs H Q E, sp vs H Q E → vs.length = ps.length)
    (hbody : ∀ (f : Addr) (cdv : Value) (A : Around) (outer : List Env) (s : Shared) (H : Hp) (vs : List V) (Q : VK) (E : XK), Room k (A.deeper (envOfC x (defScope st) s.heap.objs.size f cdv)) → sp vs H Q E →
      ∃ t, PSs (cxOf (L2.CX P w) P w K mg base N x (defScope st) f cdv A outer s H E) (defBody st) t ∧ t { nx := fun _ H' => Q .non H', rt := Q } (start N vs) H) : Fn P w K mg base (L2.CX P w) (k + 1) x ps sp := by
  obtain ⟨f, fd, F, hm, hb⟩ := D.ex
  exact ⟨f, fd, F.okX S len (hbody f), hm, F.kp, hb⟩
theorem Fn.mono {CX : CXT} {j k : Nat} {x : Str} {ps : List Str} {sp : Sp} (F : Fn P w K mg base CX j x ps sp) (h : j ≤ k) : Fn P w K mg base CX k x ps sp := by
  obtain ⟨f, fd, G, hm, hk, hb⟩ := F.ex
  exact ⟨f, fd, G.mono h, hm, hk, hb⟩
end
section
variable {X : Cx} {CX : CXT} {k : Nat} {x : Str} {ps : List Str} {sp : Sp} {E : XK} {p pos : Pos} {e : Expr} {es : List Expr} {t : TA}
theorem pe_fn (F : Fn X.prog X.w X.K X.mg X.base CX k x ps sp) (hr : Room k X.A) (hx : Passes CX X E) (ha : PA X (e :: es) t) (hg : Gl X x := by rfl)
    (hdb : (x == ("__debug__" : Str)) = false := by decide) (he : starEach (e :: es) X.env = (false, eval e X.env) :: starEach es X.env := by rfl) (hpl : (backTo pos (starEach es X.env)).any (·.1) = false := by rfl) :
    PE X (.Call (.Name x p) (e :: es) [] pos) (tCall sp [] E t) := by
  obtain ⟨f, fd, G, hm, hk, hb⟩ := F.ex
  exact pe_call G hr hg hm hk hb .nil hx ha hdb he hpl
/-- a module's text, a module's number -/
theorem pe_gstr {z : Str} (hm : ∃ t, X.mg x = some (.str z t)) (hg : Gl X x := by rfl) (hdb : (x == ("__debug__" : Str)) = false := by decide) : PE X (.Name x pos) (tC (.str z)) := by
  obtain ⟨t, h⟩ := hm
  exact pe_glob hg h ⟨t, rfl⟩ hdb
theorem pe_gint {z : Int} (hm : ∃ t, X.mg x = some (.int z t)) (hg : Gl X x := by rfl) (hdb : (x == ("__debug__" : Str)) = false := by decide) : PE X (.Name x pos) (tC (.int z)) := by
  obtain ⟨t, h⟩ := hm
  exact pe_glob hg h ⟨t, rfl⟩ hdb
/-- a built-in type as a value -/
theorem pe_ty {n : String} (hm : X.mg x = none) (hv : bootBuiltins x = some (.type n)) (hg : Gl X x := by rfl) (hn : x ≠ "__name__" := by decide) (hdb : (x == ("__debug__" : Str)) = false := by decide) : PE X (.Name x pos) (tC (.ty n)) :=
  pe_bltn hg hm hv rfl hn hdb
end
/-! ### comprehensions whose elements keep the heap -/
theorem wipe_back (σ : L2.St) (k : Nat) (v : Option V) : wipe ((wipe σ [k]).set k v) [k] = wipe σ [k] := by
  show ((σ.set k none).set k v).set k none = σ.set k none
  rw [List.set_set, List.set_set]
theorem lc_pure {J : It} {n : Nat} {G : Hp → Prop} {Y : Nat → Hp → V → Hp → Prop} (w : Walk J n G Y) {k : Nat} {te : TE} {σ : L2.St} {H1 : Hp} {D : Addr} {Qd : Hp → Prop} (f : Nat → V) (hn : n ≤ sizeLine) (hD : H1 D = none)
    (hG : ∀ H, Same H1 H → G H) (hY : ∀ i H x H', Same H1 H → Y i H x H' → Same H H')
    (hs : ∀ i x H H', i < n → Same H1 H → Y i H x H' → ∀ Q : VK, (∀ H4, Same H' H4 → Q (f i) H4) → te ((wipe σ [k]).set k (some x)) H' Q)
    (hd : ∀ H, Same H1 H → H D = some (.lst ((List.range n).map f)) → Qd H) :
    ∃ W : Nat → Nat → Hp → Prop, (∃ m, W 0 m (upd H1 D (.lst []))) ∧ ∀ i m H, W i m H →
      (J.stop i H ∧ Qd H) ∨ (J.go i H ∧ ∃ Nx : Hp → Prop, (∀ H', Nx H' → ∃ m', m' < m ∧ W (i + 1) m' H') ∧ ∀ x H', J.yld i H x H' → gName k x (wipe σ [k]) H' fun σ2 H2 => wipe σ2 [k] = wipe σ [k] ∧ tYes σ2 H2 fun b H3 =>
        if b = true then te σ2 H3 fun y H4 => ∃ acc, H4 D = some (.lst acc) ∧ acc.length < sizeLine ∧ Nx (upd H4 D (.lst (acc ++ [y]))) else Nx H3) := by
  refine lc_it w (fun i H => Same H1 H ∧ H D = some (.lst ((List.range i).map f))) ⟨same_upd hD, upd_same⟩ (fun i H _ p => hG H p.1) (fun i x H H' hi p y => ?_) (fun H p => hd H p.1 p.2)
  refine ⟨wipe_back σ k _, ?_⟩
  dsimp only [tYes]
  rw [if_pos rfl]
  have s1 := hY i H x H' p.1 y
  refine hs i x H H' hi p.1 y _ fun H4 s4 => ?_
  have s5 : Same H1 H4 := (p.1.trans s1).trans s4
  refine ⟨_, s4 _ _ (s1 _ _ p.2), by rw [List.length_map, List.length_range]; exact Nat.lt_of_lt_of_le hi hn, fun b u e => ?_, ?_⟩
  · rw [upd_ne (ne_of_none e hD)]
    exact s5 b u e
  · rw [upd_same, List.range_succ, List.map_append]
    rfl
theorem range_get {α β : Type} (l : List α) (g : Nat → β) (p : α → β) (h : ∀ i a, l[i]? = some a → g i = p a) : (List.range l.length).map g = l.map p := by
  refine List.ext_getElem? fun i => ?_
  rw [List.getElem?_map, List.getElem?_map]
  by_cases hi : i < l.length
  · rw [List.getElem?_range hi, List.getElem?_eq_getElem hi]
    exact congrArg some (h i _ (List.getElem?_eq_getElem hi))
  · rw [List.getElem?_eq_none (by rw [List.length_range]; omega), List.getElem?_eq_none (by omega)]
    rfl
theorem range_map_bl (b : Nat → Bool) (n : Nat) : (List.range n).map (fun i => V.bl (b i)) = ((List.range n).map b).map V.bl := by rw [List.map_map]; rfl
theorem range_all {α : Type} (p : α → Bool) : ∀ (l : List α) (b : Nat → Bool), (∀ i a, l[i]? = some a → b i = p a) → ((List.range l.length).map b).all id = l.all p := fun l b h => by
  rw [Bool.eq_iff_iff, List.all_eq_true, List.all_eq_true]
  constructor
  · intro q a ha
    obtain ⟨i, hi, e⟩ := List.mem_iff_getElem.mp ha
    have e' : l[i]? = some a := by rw [List.getElem?_eq_getElem hi, e]
    rw [← h i a e']
    exact q _ (List.mem_map.mpr ⟨i, List.mem_range.mpr hi, rfl⟩)
  · intro q x hx
    obtain ⟨i, hi, rfl⟩ := List.mem_map.mp hx
    have hi' := List.mem_range.mp hi
    have e' : l[i]? = some l[i] := List.getElem?_eq_getElem hi'
    show b i = true
    rw [h i _ e']
    exact q _ (List.getElem_mem hi')
end Hs
/-! R1: an own error whose __init__ asks its own base's __init__ (by the class), then keeps one field. -/
namespace Hs
open PySem PySem.Spec PyProof.Rows L2
/-- the class at S, by name x: its __init__ is ValueError's -/
structure SupC (K : PySem.W.Frag) (mg : Str → Option Value) (x : Str) (S : Addr) : Prop where
  gS : mg x = some (.ref S)
  ga : PySem.W.specialIn K (.ref S) "__getattribute__" = some (some (.builtin "type.__getattribute__"))
  rd : PySem.W.readsIn K S (.type "type") = true
  fi : PySem.W.findCls K (.ref S) (.type "type") "__init__" = some (.val (.builtin "ValueError.__init__"))
section
variable {X : Cx} {e : Expr} {es : List Expr} {ta : TA} {p1 p2 pos : Pos} {x : Str} {S : Addr}
/-- x.__init__(self, ..) -/
theorem pe_sup {pl : Sem Bool} (T : SupC X.K X.mg x S) (ha : PA X (e :: es) ta) (hg : Gl X x := by rfl) (hdb : (x == ("__debug__" : Str)) = false := by decide)
    (hc : eval (.Call (.Attribute (.Name x p1) "__init__" p2) (e :: es) [] pos) X.env = (do
      let ov ← eval (.Name x p1) X.env
      standAt p2.atName
      let (f, first) ← holding [ov] (getMethod ov "__init__" pl)
      callWith pos f first (backTo pos (starEach (e :: es) X.env)) (backToKw pos (keywordEach [] X.env))) := by rfl)
    (he : starEach (e :: es) X.env = (false, eval e X.env) :: starEach es X.env := by rfl) (hpl : (backTo pos (starEach es X.env)).any (·.1) = false := by rfl) :
    PE X (.Call (.Attribute (.Name x p1) "__init__" p2) (e :: es) [] pos) (tVeI X.K ta) := by
  refine ⟨fun pins s σ H Q I h => ?_⟩
  refine PySem.W.methodCall_KW (ld_glob I hg T.gS ?_ hdb) hc
  refine PySem.W.method_cls I.kIn T.ga (PySem.W.cls_value I.kIn T.rd T.fi (by decide +kernel) ?_)
  show wpAny _ _ (callWith pos (Value.builtin "ValueError.__init__") [] (backTo pos (starEach (e :: es) X.env)) []) _ _ _
  refine callWith_method1 (thn (ha.run pos pins _ σ H _ (I.tok _) h) fun us s1 ⟨vs, H1, I1, r1, a, C, ws, ev, hl, O, ea, q⟩ => ?_) he hpl
  subst ev
  cases r1 with
  | @cons _ u0 _ ur r0 rr =>
    obtain rfl : u0 = Value.ref a := r0
    have hz : ur.length ≤ sizeLine := by rw [← Paired.length rr, sizeLine_eq]; omega
    exact oinit_ok O I1 ea hz fun s2 J => ⟨.non, H1, J, rfl, q⟩
end
/-- an error's class c at C with the field f, its own __init__ at fI -/
structure Err (K : PySem.W.Frag) (mg : Str → Option Value) (c : Str) (f : Str) (C fI : Addr) : Prop where
  oex : OexC K C
  gC : mg c = some (.ref C)
  iC : PySem.W.findIn K (.ref C) "__init__" = some (some (.ref fI))
  tI : PySem.W.typeIn K (.ref fI) = some (.type "function")
  noF : PySem.W.findIn K (.ref C) f = some none
/-- what __init__ leaves -/
def spInit (C : Addr) (f : Str) : Sp := fun vs H Q _ => ∃ a v, vs = [.ref a, v] ∧ H a = some (exo a C none) ∧ ∀ dx, H dx = none → dx ≠ a → Q .non (upd (upd H dx (exd dx [(f, v)])) a (exo a C (some dx)))
section
variable {P : Program} {w : World} {K : PySem.W.Frag} {mg : Str → Option Value} {base : Heap} {c f : Str} {C fI : Addr}
/-- the error behind the heap H, its field v -/
def Raised (C : Addr) (f : Str) (v : V) (H : Hp) (E : XK) : Prop := ∀ d H', Same H H' → H' d = some (.xd [(f, v)]) → E (.ref C) (some d) H'
/-- the reading of raise c(e): from the argument's value on -/
theorem raise_ok {v : V} {H : Hp} {E : XK} (h : Raised C f v H E) : ([v] : List V).length ≤ 1000 ∧ ∀ a, H a = none → spInit C f (.ref a :: ([v] ++ [])) (upd H a (exo a C none))
    (fun u H2 => u = .non ∧ ∃ (d : Addr) (fs : List (Str × V)), H2 a = some (exo a C (some d)) ∧ H2 d = some (exd d fs) ∧ H d = none ∧ E (.ref C) (some d) (upd (L2.del H2 a) d (.xd fs))) (fun _ _ _ => False) := by
  refine ⟨(by show 1 ≤ 1000; decide), fun a ha => ⟨a, v, rfl, upd_same, fun dx hd ne => ⟨rfl, dx, [(f, v)], upd_same, ?_, ?_, ?_⟩⟩⟩
  · rw [upd_ne ne, upd_same]
  · rw [upd_ne ne] at hd
    exact hd
  · rw [upd_ne ne] at hd
    refine h dx _ (fun b o e => ?_) upd_same
    have nb : b ≠ a := ne_of_none e ha
    have nd : b ≠ dx := ne_of_none e hd
    rw [upd_ne nd, del_ne nb, upd_ne nb, upd_ne nd, upd_ne nb]
    exact e
end
end Hs
/-! R4: set(t) of a tuple of texts, and its length. -/
namespace Hs
open PySem PySem.Spec PyProof.Rows L2
/-- the texts met, each once -/
def metOf (l : List Str) : List Str := l.foldl (fun acc z => if z ∈ acc then acc else acc ++ [z]) []
def addMet (acc : List Str) (z : Str) : List Str := if z ∈ acc then acc else acc ++ [z]
theorem metOf_snoc (l : List Str) (z : Str) : metOf (l ++ [z]) = addMet (metOf l) z := by unfold metOf addMet; rw [List.foldl_append]; rfl
theorem addMet_len (acc : List Str) (z : Str) : (addMet acc z).length = if decide (z ∈ acc) = true then acc.length else acc.length + 1 := by
  unfold addMet
  by_cases h : z ∈ acc <;> simp [h]
theorem addMet_mem (acc : List Str) (z k : Str) : decide (k ∈ addMet acc z) = (decide (k ∈ acc) || decide (k = z)) := by
  unfold addMet
  by_cases h : z ∈ acc
  · rw [if_pos h]
    by_cases e : k = z
    · subst e; simp [h]
    · simp [e]
  · rw [if_neg h]; simp
theorem metOf_len_le (l : List Str) : (metOf l).length ≤ l.length := by
  have key : ∀ (r : List Str) (acc : List Str), (r.foldl addMet acc).length ≤ acc.length + r.length := by
    intro r
    induction r with
    | nil => intro acc; exact Nat.le_refl _
    | cons z r ih =>
      intro acc
      have q := ih (addMet acc z)
      have p := addMet_len acc z
      rw [List.length_cons]
      show (r.foldl addMet (addMet acc z)).length ≤ _
      split at p <;> omega
  have q := key l []
  show (l.foldl addMet []).length ≤ _
  rw [List.length_nil] at q
  omega
theorem metOf_nodup : ∀ l : List Str, ((metOf l).length = l.length ↔ l.Nodup) := by
  have key : ∀ (r acc : List Str), acc.Nodup → ((r.foldl addMet acc).length = acc.length + r.length ↔ (acc ++ r).Nodup) := by
    intro r
    induction r with
    | nil => intro acc h; simp [h]
    | cons z r ih =>
      intro acc h
      show (r.foldl addMet (addMet acc z)).length = _ ↔ _
      by_cases hz : z ∈ acc
      · have e : addMet acc z = acc := if_pos hz
        rw [e]
        constructor
        · intro q
          have bd : ∀ (r acc : List Str), (r.foldl addMet acc).length ≤ acc.length + r.length := by
            intro r
            induction r with
            | nil => intro acc; exact Nat.le_refl _
            | cons z r ih =>
              intro acc
              have q := ih (addMet acc z)
              have p := addMet_len acc z
              rw [List.length_cons]
              show (r.foldl addMet (addMet acc z)).length ≤ _
              split at p <;> omega
          have q2 := bd r acc
          rw [List.length_cons] at q
          omega
        · intro q
          exfalso
          rw [List.nodup_append] at q
          exact q.2.2 z hz z (List.mem_cons_self ..) rfl
      · have e : addMet acc z = acc ++ [z] := if_neg hz
        rw [e]
        have nd : (acc ++ [z]).Nodup := by
          rw [List.nodup_append]
          refine ⟨h, by simp, fun a ha b hb => ?_⟩
          rw [List.mem_singleton] at hb
          subst hb
          intro q; subst q; exact hz ha
        have q := ih (acc ++ [z]) nd
        rw [List.append_assoc] at q
        rw [← show [z] ++ r = z :: r from rfl, ← q, List.length_append, List.length_append]
        constructor <;> intro z <;> simp only [List.length_cons, List.length_nil] at z ⊢ <;> omega
  intro l
  have q := key l [] List.nodup_nil
  rw [List.nil_append, List.length_nil, Nat.zero_add] at q
  exact q
section
variable {prog : Program} {w : World} {A : Around} {R : Result → Shared → Prop} {I : Addr} {fp wr : List Addr} {G : Array GenState → Array GenState → Prop} {n : Nat} {P : Nat → Value → Prop} {St : Nat → Shared → Prop}
theorem fill_texts (W : WalksS prog w A.in1 I fp wr G n P St) (S : Addr) (hSf : S ∉ fp) (zs : List Str) (hz : zs.length = n) (hval : ∀ i v, P i v → ∃ t, v = .str (zs.getD i "") t) (hb : n + 1 < scanBound) :
    ∀ (k i : Nat) (s : Shared), n - i = k → i ≤ n → St i s → s.heap.SetOf (PySem.strKind prog w) S (fun x => decide (x ∈ metOf (zs.take i))) (metOf (zs.take i)).length →
      (∀ s', Moved (S :: wr) G s s' → s'.heap.SetOf (PySem.strKind prog w) S (fun x => decide (x ∈ metOf zs)) (metOf zs).length → R (.ok (.ret .none)) s') →
      codeAny (model prog w) A (.builtin "set.update.loop" ⟨[.ref S, .ref I], []⟩) R s := by
  have nw : S ∉ wr := fun h => hSf (W.sub _ h)
  have up : ∀ b ∈ wr, b ∈ S :: wr := fun b hb => List.mem_cons_of_mem _ hb
  have mv : ∀ {s s' : Shared} {f : Str → Bool} {m : Nat}, Moved wr G s s' → s.heap.SetOf (PySem.strKind prog w) S f m → s'.heap.SetOf (PySem.strKind prog w) S f m := fun {s s' f m} hm hS => by
    obtain ⟨o, es, ep, tb, ho, q⟩ := hS
    exact ⟨o, es, ep, tb, hm.heap S _ nw ho, q⟩
  intro k
  induction k with
  | zero =>
    intro i s hk hi st hS hR
    obtain rfl : i = n := by omega
    refine codeAny_builtin F.entry_set_update_loop ?_
    rw [Around.under_plainId F.plain_set_update_loop _]
    refine wpAny_bind (m := pyNext (.ref I)) (W.done s _ _ st fun s' hm => ?_)
    have q := mv hm hS
    rw [List.take_of_length_le (Nat.le_of_eq hz)] at q
    exact wpAny_pure (hR s' (hm.mono up) q)
  | succ k ih =>
    intro i s hk hi st hS hR
    have lt : i < n := by omega
    refine codeAny_builtin F.entry_set_update_loop ?_
    rw [Around.under_plainId F.plain_set_update_loop _]
    refine wpAny_bind (m := pyNext (.ref I)) (W.item i s _ _ lt st fun v s' hP st' hm => ?_)
    obtain ⟨t, rfl⟩ := hval i v hP
    have hS' := mv hm hS
    show wpAny _ A.in1 (holding [Value.str (zs.getD i "") t] (setAdd S (.str (zs.getD i "") t)) >>= _) _ _ s'
    refine wpAny_bind (wpAny_holding ?_)
    unfold setAdd
    have isk : (PySem.strKind prog w).is (zs.getD i "") (.str (zs.getD i "") t) = true := by simp [PySem.strKind, Value.isStrOf]
    refine wpAny_holding (wpAny_bind ((PySem.strKind prog w).pyHash (k := zs.getD i "") isk ?_))
    have room : (metOf (zs.take i)).length + 1 < scanBound := by
      have q := metOf_len_le (zs.take i)
      rw [List.length_take] at q
      omega
    refine wpAny_setAddHashed_of (knd := PySem.strKind prog w) (s := { s' with toks := s'.toks + 1 }) isk rfl hS' room fun h' sb hS2 => ?_
    have tk : zs.take (i + 1) = zs.take i ++ [zs.getD i ""] := by
      rw [List.take_add_one]
      have e : zs[i]? = some (zs.getD i "") := by rw [List.getD_eq_getElem?_getD, List.getElem?_eq_getElem (by omega)]; rfl
      rw [e]
      rfl
    have hSi : h'.SetOf (PySem.strKind prog w) S (fun x => decide (x ∈ metOf (zs.take (i + 1)))) (metOf (zs.take (i + 1))).length :=
      SetOf_congr hS2 (fun x => by rw [tk, metOf_snoc, addMet_mem]) (by rw [tk, metOf_snoc, addMet_len])
    refine wpAny_pure ⟨plainId_quiet F.plain_set_update_loop _, ih (i + 1) _ (by omega) lt (W.frame _ s' _ _ st' (Nat.le_succ _) fun b hb o e => ?_) hSi fun s2 hm2 hS2 => ?_⟩
    · rw [sb.2 b fun (h : b = S) => hSf (by rw [← h]; exact hb)]
      exact e
    · refine hR s2 (Moved.trans W.gtrans ((hm.mono up).then_heap (Nat.le_succ _) fun b o hb e => ?_) hm2) hS2
      rw [sb.2 b fun h => hb (by rw [h]; exact List.mem_cons_self)]
      exact e
end
section
variable {prog : Program} {w : World} {A : Around} {E : Value → Shared → Prop} {s : Shared}
/-- set(t) -/
theorem set_texts {l : Addr} {items : Array Value} {zs : List Str} {Q : Value → Shared → Prop} (hh : A.handled = none) (hl : s.heap.IsTuple l items) (hz : zs.length = items.size)
    (hi : ∀ (i : Nat) (v : Value), items[i]? = some v → ∃ t, v = .str (zs.getD i "") t) (hb : items.size + 1 < scanBound)
    (h : ∀ (g : Heap) (tk : Nat), g.SetOf (PySem.strKind prog w) s.heap.objs.size (fun x => decide (x ∈ metOf zs)) (metOf zs).length →
      (∀ b o, b < s.heap.objs.size → s.heap.get? b = some o → g.get? b = some o) → Q (.ref s.heap.objs.size) { s with heap := g, toks := tk }) :
    wpAny (model prog w) A (call (.type "set") [.ref l]) Q E s := by
  obtain ⟨cl, rest, mro⟩ := PySem.F.called_set.mro
  have a1 := PySem.F.called_set.made
  have a2 := PySem.F.called_set.sub
  have a3 := PySem.F.called_set.notType
  have a4 := PySem.F.called_set.canCreate
  have a5 := PySem.F.typeCall_set_1 (.ref l)
  refine wpAny_call (codeAny_of_tree ?_)
  show wpAny _ _ (callAny (.type "set") _) _ _ _
  refine wpAny_pure ⟨Code.quiet_builtin _ (by decide +kernel), codeAny_builtin PySem.F.entry_type_call ?_⟩
  rw [Around.under_plain (weight_type_call_type "set" [.ref l] []) rfl]
  repeat (any_goals (first | assumption | wp_step))
  refine codeAny_mono (PySem.code_set_new_1 (.ref l) (E := E) (Q₁ := fun ob s1 => ∃ led : Bool, ob = .ref s.heap.objs.size ∧ s1 = { s with heap := s.heap.push { cls := .type "set", dict := none, data := .set #[] 0 (.fresh 0 0 led) } }) fun led => ⟨led, rfl, rfl⟩) fun r s1 hr => ?_
  cases r with
  | error e => exact hr
  | ok fl =>
    cases fl with
    | ret ob =>
      obtain ⟨led, e1, e2⟩ := hr
      subst e1
      subst e2
      have gS : (s.heap.push { cls := .type "set", dict := none, data := .set #[] 0 (.fresh 0 0 led) }).get? s.heap.objs.size = some { cls := .type "set", dict := none, data := .set #[] 0 (.fresh 0 0 led) } := Heap.get?_push_size _ rfl
      have tS : Shared.TypeIs { s with heap := s.heap.push { cls := .type "set", dict := none, data := .set #[] 0 (.fresh 0 0 led) } } (.ref s.heap.objs.size) "set" := ⟨_, gS, rfl⟩
      have b1 := PySem.F.called_set.init.lookup
      have b2 := PySem.F.called_set.init.bind (.ref s.heap.objs.size)
      repeat (any_goals (first | assumption | wp_step))
      refine codeAny_mono (codeAny_call_builtin (R := wants (fun r s2 => r = .none ∧ ∃ g tk, s2 = { s with heap := g, toks := tk } ∧ g.SetOf (PySem.strKind prog w) s.heap.objs.size (fun x => decide (x ∈ metOf zs)) (metOf zs).length ∧
        (∀ b o, b < s.heap.objs.size → s.heap.get? b = some o → g.get? b = some o)) E) PySem.F.called_set.init.plain PySem.F.entry_set_init (PySem.check_set_init_1 tS ?_)) fun r2 s2 hr2 => ?_
      · obtain ⟨⟨oc, od, odt, osl⟩, ho, hc, nl, hd⟩ := hl
        simp only at hc hd
        subst hc
        subst hd
        have ho1 : (s.heap.push { cls := .type "set", dict := none, data := .set #[] 0 (.fresh 0 0 led) }).get? l = some { cls := .type "tuple", dict := od, data := .seq items nl, slots := osl } := Heap.get?_push_of_some _ ho
        have c1 := PySem.F.sub_tuple_set
        have c2 := PySem.F.sub_tuple_frozenset
        have c3 : (Value.type "tuple" == Value.type "dict") = false := by decide
        have hl1 : (s.heap.push { cls := .type "set", dict := none, data := .set #[] 0 (.fresh 0 0 led) }).IsTuple l items := ⟨_, ho1, rfl, nl, rfl⟩
        unfold Builtin.«set.__init__» noKeywords Builtin.Frozenset.updateFrom
        generalize hPI : pyIter = PI
        wp_walk
        subst hPI
        refine wpAny_pyIter_tuple hl1 (wpAny_bind (wpAny_runValue ?_))
        have lS : l < s.heap.objs.size := Heap.lt_size ho
        have h3 : A.in1.in1.in1.handled = none := by simp [hh]
        have sz : (s.heap.push { cls := .type "set", dict := none, data := .set #[] 0 (.fresh 0 0 led) }).objs.size = s.heap.objs.size + 1 := Heap.size_push _ _
        have neI : l ≠ (s.heap.push { cls := .type "set", dict := none, data := .set #[] 0 (.fresh 0 0 led) }).objs.size := by rw [sz]; exact Nat.ne_of_lt (Nat.lt_succ_of_lt lS)
        have nf : s.heap.objs.size ∉ [(s.heap.push { cls := .type "set", dict := none, data := .set #[] 0 (.fresh 0 0 led) }).objs.size, l] := by
          rw [sz]
          simp only [List.mem_cons, List.not_mem_nil, or_false, not_or]
          exact ⟨Nat.ne_of_lt (Nat.lt_succ_self _), Nat.ne_of_gt lS⟩
        refine fill_texts ((Walks.tuple h3 _ l neI items).toS) s.heap.objs.size nf zs hz hi hb (items.size - 0) 0 _ (by omega) (Nat.zero_le _) ⟨⟨_, Heap.get?_push_size _ rfl, rfl, rfl⟩, hl1.push _⟩ ?_ fun s3 hm hS3 => ?_
        · have g2 : ((s.heap.push { cls := .type "set", dict := none, data := .set #[] 0 (.fresh 0 0 led) }).push { cls := .type "tuple_iterator", data := .fields #[.ref l, .int 0 0] }).get? s.heap.objs.size
              = some { cls := .type "set", dict := none, data := .set #[] 0 (.fresh 0 0 led) } := Heap.get?_push_of_some _ gS
          exact SetOf_congr ((setObjOf_fresh (knd := PySem.strKind prog w) led).setOf g2 (by unfold scanBound; omega)) (fun x => by simp [metOf]) rfl
        · obtain ⟨h', g', d', tk', os'⟩ := s3
          have eg : g' = s.gens := hm.gens
          have ed : d' = s.drawn := hm.drawn
          have eo : os' = s.os := hm.os
          subst eg ed eo
          show wpAny _ _ _ _ _ _
          refine wpAny_pure ?_
          show wpAny _ _ (ret Value.none) _ _ _
          refine wpAny_pure ⟨rfl, h', tk', rfl, hS3, fun b o hb e => ?_⟩
          refine hm.heap b o ?_ (Heap.get?_push_of_some _ (Heap.get?_push_of_some _ e))
          rw [sz]
          simp only [List.mem_cons, List.not_mem_nil, or_false, not_or]
          exact ⟨Nat.ne_of_lt hb, Nat.ne_of_lt (Nat.lt_succ_of_lt hb)⟩
      · cases r2 with
        | error e => exact hr2
        | ok fl2 =>
          cases fl2 with
          | ret r =>
            obtain ⟨e1, g, tk, e2, hS, hk⟩ := hr2
            subst e1
            subst e2
            repeat (any_goals (first | assumption | wp_step))
            exact h _ _ hS hk
          | _ => exact hr2.elim
    | _ => exact hr.elim
end
/-! ### by values -/
/-- a set of n texts -/
def SetN (P : Program) (w : World) (a : Addr) (n : Nat) : HO := .ext fun h => ∃ f, h.SetOf (PySem.strKind P w) a f n
section
variable {X : Cx}
theorem call_setT (hc : X.A.handled = none) : CallR X (.type "set") (fun xs H Q => ∃ a zs, xs = [.ref a] ∧ SqT X.K H a (zs.map V.str) ∧ zs.length ≤ 1000 ∧ ∀ p, H p = none → Q (.ref p) (upd H p (SetN X.prog X.w p (metOf zs).length))) := by
  intro pins s σ H xs us Q I r h
  obtain ⟨a, zs, rfl, hT, hz, k⟩ := h
  obtain ⟨u, rfl, ru⟩ := vals1 r
  obtain rfl : u = Value.ref a := ru
  obtain ⟨its, rv, ht, _⟩ := I.tuple hT
  have hl : zs.length = its.length := by rw [← rv.length, List.length_map]
  refine set_texts (zs := zs) hc ht (by simpa using hl) (fun i v hv => ?_) (by rw [List.size_toArray, ← hl]; unfold scanBound; omega) fun g tk hS hk => ?_
  · rw [List.getElem?_toArray] at hv
    have hi : i < zs.length := by rw [hl]; exact (List.getElem?_eq_some_iff.mp hv).1
    obtain ⟨u, hu, rr⟩ := Vals.get (i := i) (x := V.str (zs.getD i "")) rv (by rw [List.getElem?_map, List.getD_eq_getElem?_getD, List.getElem?_eq_getElem hi]; rfl)
    rw [hv] at hu
    cases hu
    exact rr
  · have ob : ObjOk X.prog X.w (upd H s.heap.objs.size (SetN X.prog X.w s.heap.objs.size (metOf zs).length)) g s.heap.objs.size (SetN X.prog X.w s.heap.objs.size (metOf zs).length) := by
      have hS' := hS
      obtain ⟨o, es, ep, t, ho, q⟩ := hS'
      exact ⟨⟨_, hS⟩, ⟨o, ho⟩, fun h1 h2 ⟨f, o1, es1, ep1, t1, y1, y2⟩ kk => ⟨f, o1, es1, ep1, t1, kk _ y1, y2⟩⟩
    exact ⟨.ref _, _, I.laid (t' := tk) (fun b o e => hk b o (Heap.lt_size e) e) (Nat.le_refl _) ob, rfl, k _ (I.hok.fresh (Nat.le_refl _))⟩
theorem call_lenS : CallR X (.builtin "len") (fun xs H Q => ∃ a n, xs = [.ref a] ∧ H a = some (SetN X.prog X.w a n) ∧ n ≤ 1000 ∧ Q (.int (n : Nat)) H) := by
  intro pins s σ H xs us Q I r h
  obtain ⟨a, n, rfl, hT, hz, k⟩ := h
  obtain ⟨u, rfl, ru⟩ := vals1 r
  obtain rfl : u = Value.ref a := ru
  have hx : ObjOk X.prog X.w H s.heap a (SetN X.prog X.w a n) := I.hok a _ hT
  obtain ⟨⟨f, o, es, ep, t, ho, hex, hd, hel, hmem, hb, hf, hn⟩, _⟩ := hx
  refine PySem.call_len_set ho hex hd hf (by rw [hn]; omega) ?_
  rw [hn]
  exact ⟨.int (n : Nat), H, I.tok _, ⟨_, rfl⟩, k⟩
end
end Hs
/-! R2: several except clauses, some with a name. -/
namespace Hs
open PySem PySem.Spec PyProof.Rows L2
/-- a clause: its class, the slot of its name (if it has one), its suite -/
structure Cl where
  cls : Value
  slot : Option Nat
  ts : Addr → Value → Option Addr → TS
/-- the ends behind a suite: the name is gone -/
def goneD (D : Ends) : Option Nat → Ends
  | none => D
  | some i => { nx := fun σ H => D.nx (σ.set i none) H, rt := D.rt, bk := fun σ H => D.bk (σ.set i none) H, ct := fun σ H => D.ct (σ.set i none) H }
def setD (a : Addr) (σ : L2.St) : Option Nat → L2.St
  | none => σ
  | some i => σ.set i (some (.ref a))
def wCls (K : PySem.W.Frag) (Wout : WX) (D : Ends) : List Cl → WX
  | [] => Wout
  | z :: r => fun cls d σ H => ∃ b, PySem.W.exmOne K cls z.cls = some b ∧ (b = true → ∀ a, H a = none → z.ts a cls d (goneD D z.slot) (setD a σ z.slot) H) ∧ (b = false → wCls K Wout D r cls d σ H)
inductive ClsOk (X : Cx) : List ExceptHandler → List Cl → Prop
  | nil : ClsOk X [] []
  | bare {x : Str} {c : Value} {ts : Addr → Value → Option Addr → TS} {b₀ : Stmt} {su : List Stmt} {np hp : Pos} {hs : List ExceptHandler} {l : List Cl} (hc : Names X x c)
      (hsu : ∀ (a : Addr) (oe : Obj) (cls : Value) (d : Option Addr) (pn : List (Addr × Obj)), Zc cls d oe → (∃ vs, oe.data = .fields vs) → PSs (X.suite a ((a, oe) :: pn)) (b₀ :: su) (ts a cls d)) (r : ClsOk X hs l) :
      ClsOk X (.ExceptHandler (some (.Name x np)) none (b₀ :: su) hp :: hs) (⟨c, none, ts⟩ :: l)
  | named {x n : Str} {i : Nat} {c : Value} {ts : Addr → Value → Option Addr → TS} {b₀ : Stmt} {su : List Stmt} {np hp : Pos} {hs : List ExceptHandler} {l : List Cl} (hi : X.N[i]? = some n) (hln : X.env.kindOf n = some .local) (hc : Names X x c)
      (hsu : ∀ (a : Addr) (oe : Obj) (cls : Value) (d : Option Addr) (pn : List (Addr × Obj)), Zc cls d oe → (∃ vs, oe.data = .fields vs) → PSs (X.suite a ((a, oe) :: pn)) (b₀ :: su) (ts a cls d)) (r : ClsOk X hs l) :
      ClsOk X (.ExceptHandler (some (.Name x np)) (some n) (b₀ :: su) hp :: hs) (⟨c, some i, ts⟩ :: l)
section
variable {X : Cx} {body : List Stmt} {h₀ : ExceptHandler} {hds : List ExceptHandler} {l : List Cl} {pos : Pos} {tb : WX → TS} {Wout : WX}
theorem ps_try_cls (hs : X.stack = X.env :: X.outer) (hf : X.env.frame = some X.env.locals) (hN : X.N.Nodup) (tk : Takes X Wout)
    (hb : ∀ (W : WX) (pn : List (Addr × Obj)) (xe : Value → Shared → Prop), Takes (X.tr pn xe) W → PassesOwn (model X.prog X.w) X.A X.env xe → PSs (X.tr pn xe) body (tb W))
    (hh : ClsOk X (h₀ :: hds) l) : PS X (.Try body (h₀ :: hds) [] [] pos) (fun D σ H => tb (wCls X.K Wout D l) D σ H) := by
  constructor
  intro pins s σ H D I h
  have ok := I.ok
  have hfr : X.A.frames = some (X.env :: X.outer) := by
    rw [ok.frames, hs]
  apply wpAny_Try_except
  have run := (hb (wCls X.K Wout D l) (X.pn ++ pins) (fun e s₁ => wpAny (model X.prog X.w) X.A (noteFrame e X.env) (fun _ s₂ => wpAny (model X.prog X.w) X.A (setFlight e none) (fun _ s₃ =>
    wpAny (model X.prog X.w) X.A (handleBy e X.env (h₀ :: hds)) (SP X pins D) X.xe s₃) X.xe s₂) X.xe s₁) (fun u s' xx => by
      obtain ⟨a, B, sI, pins', σ', H', cls, d, rfl, J', nb, up, sky, na, os, ag, w⟩ := xx
      have J : Inv X pins σ' H' sI := J'.ofTry ok
      have sk : Sky B (X.env :: X.outer) a (Zc cls d) X.env.locals s'.heap := by
        rw [← hs]
        exact sky
      show wpAny (model X.prog X.w) X.A (noteFrame (.ref a) X.env) _ _ _
      refine Sky.land Zc.steady hfr hf sk fun h3 fl3 up3 => ?_
      have J3 : Inv X pins σ' H' { s' with heap := h3 } := J.landed nb fl3.1 (up.trans up3) os ag
      obtain ⟨oe3, vs3, he3, hz3, hd3⟩ := fl3.there
      have nfr : a ∉ frs (X.env :: X.outer) := fun hm => by
        obtain ⟨_, o', e', hnf⟩ := (show h3.FunFrames B (X.env :: X.outer) from fl3.2.2.1).mem hm
        rw [he3] at e'
        cases e'
        exact hnf _ hd3
      have nL : a ≠ X.env.locals := fun z => nfr (List.mem_filterMap.mpr ⟨X.env, List.mem_cons_self, by rw [hf]; exact congrArg some z.symm⟩)
      have nF : a ∉ X.fs := fun hm => by
        obtain ⟨e1, he1, q1⟩ := List.mem_filterMap.mp hm
        exact nfr (List.mem_filterMap.mpr ⟨e1, List.mem_cons_of_mem _ he1, q1⟩)
      have S3 := J3.suite he3 hd3 na nL nF
      have LT : PySem.W.Looks (model X.prog X.w) h3 (typeOf (.ref a)) cls := fun A Q E s k q => wpAny_typeOf_ref (k _ _ he3) (by
        rw [hz3.1]
        exact q)
      have test : ∀ {x : Str} {np : Pos} {c : Value}, Names X x c → ∀ {Q : Value → Shared → Prop} {E : Value → Shared → Prop}, Q c { s' with heap := h3 } →
          wpAny (model X.prog X.w) (X.A.mark (some (.ref a))) (eval (.Name x np) X.env) Q E { s' with heap := h3 } := fun {x np c} hc {Q E} q => by
        obtain ⟨hg, hdbg, h1⟩ := hc
        rcases h1 with hm | ⟨hm, hv, hnn⟩
        · exact ld_glob (X := X.suite a ((a, oe3) :: (X.pn ++ pins))) S3 hg hm q hdbg
        · exact ld_blt (X := X.suite a ((a, oe3) :: (X.pn ++ pins))) S3 hg hm hv q hnn hdbg
      have go : ∀ {hds' : List ExceptHandler} {l' : List Cl}, ClsOk X hds' l' → wCls X.K Wout D l' cls d σ' H' →
          wpAny (model X.prog X.w) X.A (handleBy (.ref a) X.env hds') (SP X pins D) X.xe { s' with heap := h3 } := by
        intro hds' l' hk
        induction hk with
        | nil =>
          intro w
          refine wpAny_handleBy_nil ?_
          have fl3' := fl3
          obtain ⟨k1, k2, k3, oe, vs, T, oT, ts', he, hz, hd, h1, hr⟩ := fl3'
          unfold PySem.passOn
          refine wpAny_bind (wpAny_field he hd h1 ?_)
          have nn : ¬ ((Value.ref T == Value.none) = true) := by simp
          rw [if_neg nn]
          have fin : wpAny (model X.prog X.w) X.A (setFlight (.ref a) X.env.frame) (fun _ s4 => wpAny (model X.prog X.w) X.A (throw (.ref a) : Sem Flow) (SP X pins D) X.xe s4) X.xe { s' with heap := h3 } := by
            rw [hf]
            refine HandSPX.setFlight_upZ fl3 fun h4 hh4 up4 => ?_
            have hh5 := hh4
            rw [← hs] at hh5
            exact wpAny_throw (tk _ _ ⟨a, B, sI, pins, σ', H', cls, d, rfl, J, nb, (up.trans up3).trans up4, .inr (.inr hh5), na, os, ag, w⟩)
          first
            | exact wpAny_bind (wpAny_pure (wpAny_bind fin))
            | exact wpAny_bind fin
        | @bare x c ts b₀ su np hp hds2 l2 hc hsu r ih =>
          intro w
          obtain ⟨b, hb1, hyes, hno⟩ := w
          have LM := PySem.W.exm_one (M := model X.prog X.w) (J3.kIn) LT hb1
          refine wpAny_handleBy_cons (codeAny_handlers_test ?_) (by intro q; cases q)
          refine test hc (LM.here ?_)
          cases b with
          | true =>
            refine codeAny_handlers_suite (HandSPX.lands_againZ fl3 fun h4 fl4 up4 => ?_)
            have J4 : Inv X pins σ' H' { s' with heap := h4 } := J.landed nb fl4.1 ((up.trans up3).trans up4) os ag
            obtain ⟨oe4, vs4, he4, hz4, hd4⟩ := fl4.there
            have S4 := J4.suite he4 hd4 na nL nF
            have su1 := (hsu a oe4 cls d (X.pn ++ pins) hz4 ⟨_, hd4⟩).run [] _ _ H' _ S4 (hyes rfl a na)
            refine wpAny_mono su1 (fun f s6 hsp => ?_) (fun _ _ z => False.elim z)
            cases f with
            | ret u =>
              obtain ⟨v6, σ6, H6, S6, r6, q6⟩ := hsp
              exact ⟨v6, σ6, H6, S6.unsuite ok, r6, q6⟩
            | next => exact hsp.elim fun σ6 z => z.elim fun H6 z => ⟨σ6, H6, z.1.unsuite ok, z.2⟩
            | brk => exact hsp.elim fun σ6 z => z.elim fun H6 z => ⟨σ6, H6, z.1.unsuite ok, z.2⟩
            | cont => exact hsp.elim fun σ6 z => z.elim fun H6 z => ⟨σ6, H6, z.1.unsuite ok, z.2⟩
          | false =>
            show wpAny _ X.A (handleBy (.ref a) X.env hds2) _ _ _
            exact ih (hno rfl)
        | @named x n i c ts b₀ su np hp hds2 l2 hi hln hc hsu r ih =>
          intro w
          obtain ⟨b, hb1, hyes, hno⟩ := w
          have LM := PySem.W.exm_one (M := model X.prog X.w) (J3.kIn) LT hb1
          refine wpAny_handleBy_cons (codeAny_handlers_test ?_) (by intro q; cases q)
          refine test hc (LM.here ?_)
          cases b with
          | true =>
            refine codeAny_handlers_suite_as (HandSPX.lands_againZ fl3 fun h4 fl4 up4 => ?_)
            have J4 : Inv X pins σ' H' { s' with heap := h4 } := J.landed nb fl4.1 ((up.trans up3).trans up4) os ag
            obtain ⟨oe4, vs4, he4, hz4, hd4⟩ := fl4.there
            have S4 := J4.suite he4 hd4 na nL nF
            refine store_ok (X := X.suite a ((a, oe4) :: (X.pn ++ pins))) (v := .ref a) S4 hN hi (.inl hln) rfl (fun s5 S5 => ?_) (.inr hln)
            have su1 := (hsu a oe4 cls d (X.pn ++ pins) hz4 ⟨_, hd4⟩).run [] s5 _ H' _ S5 (hyes rfl a na)
            refine wpAny_mono su1 (fun f s6 hsp => ?_) (fun _ _ z => False.elim z)
            have bye : ∀ {σ6 : L2.St} {H6 : Hp} {Q : Shared → Prop}, Inv (X.suite a ((a, oe4) :: (X.pn ++ pins))) [] σ6 H6 s6 → (∀ s7, Inv X pins (σ6.set i none) H6 s7 → Q s7) →
                wpAny (model X.prog X.w) X.A (do
                  bindName X.env n .none
                  unbindBehindTheSuite X.env n hp) (fun _ s7 => Q s7) X.xe s6 := fun {σ6 H6 Q} S6 hq => gone_ok (S6.unsuite ok) hN hi hln hq
            cases f with
            | ret u =>
              obtain ⟨v6, σ6, H6, S6, r6, q6⟩ := hsp
              exact bye S6 fun s7 J7 => ⟨v6, _, H6, J7, r6, q6⟩
            | next => exact hsp.elim fun σ6 z => z.elim fun H6 z => bye z.1 fun s7 J7 => ⟨_, H6, J7, z.2⟩
            | brk => exact hsp.elim fun σ6 z => z.elim fun H6 z => bye z.1 fun s7 J7 => ⟨_, H6, J7, z.2⟩
            | cont => exact hsp.elim fun σ6 z => z.elim fun H6 z => bye z.1 fun s7 J7 => ⟨_, H6, J7, z.2⟩
          | false =>
            show wpAny _ X.A (handleBy (.ref a) X.env hds2) _ _ _
            exact ih (hno rfl)
      exact go hh w) PassesOwn.looking).run [] s σ H D (I.toTry _) h
  refine wpAny_mono run (fun f s1 hsp => ?_) (fun e s1 he => he)
  cases f with
  | ret u =>
    obtain ⟨v, σ', H', J', r, q⟩ := hsp
    exact ⟨v, σ', H', J'.ofTry ok, r, q⟩
  | next =>
    obtain ⟨σ', H', J', q⟩ := hsp
    exact wpAny_execs_nil ⟨σ', H', J'.ofTry ok, q⟩
  | brk => exact hsp.elim fun σ6 z => z.elim fun H6 z => ⟨σ6, H6, z.1.ofTry ok, z.2⟩
  | cont => exact hsp.elim fun σ6 z => z.elim fun H6 z => ⟨σ6, H6, z.1.ofTry ok, z.2⟩
end
end Hs
/-! R3: repr of deep data where no repr is under way; a def that is entered from the caller. -/
namespace Hs
open PySem PySem.Spec PyProof.Rows L2
section
variable {X : Cx}
def rReprD (K : PySem.W.Frag) : List V → Hp → VK → Prop := fun xs H Q => ∃ a d, xs = [V.ref a] ∧ Dp K H (.ref a) d ∧ d.showable = true ∧ d.hasDict = false ∧ d.depth ≤ 64 ∧ d.shown.length ≤ sizeLine ∧ Q (.str d.shown) H
theorem call_reprD (hg : X.A.guards = some []) (hu : X.A.units + 66 < cLine) : CallR X (.builtin "repr") (rReprD X.K) := by
  intro pins s σ H xs us Q I r h
  obtain ⟨a, d, rfl, hd, h1, h2, h3, h4, q⟩ := h
  obtain ⟨u, rfl, rx⟩ := vals1 r
  obtain ⟨as, rd⟩ := Dp.reads I d _ u hd rx
  obtain rfl : u = Value.ref a := rx
  exact repr_of_reads' rd h1 (PyData.noDict_hsm h2) hg (by omega) (fun _ _ e => e) (fun h' u2 tk hk => ⟨.str d.shown, H, I.kept (t' := tk) hk, ⟨u2, rfl⟩, q⟩) h4
end
/-- a def that is called where no repr is under way -/
structure FnG (P : Program) (w : World) (K : PySem.W.Frag) (mg : Str → Option Value) (base : Heap) (CX : CXT) (k : Nat) (f : Addr) (fd : FuncData) (ps : List Str) (sp : Sp) : Prop where
  run : ∀ (A : Around) (outer : List Env) (s : Shared) (H : Hp) (args : Args) (us : List Value) (vs : List V) (Q : VK) (E : XK), Room k A → A.guards = some [] → Env0 P w K mg base A outer s H → BindsTo s fd args (ps.zip us) → Vals vs us → sp vs H Q E →
    codeAny (model P w) A (.call (.ref f) args) (CR CX outer P w H s Q E) s
theorem guards_deeper {A : Around} {qual : Str} {scope : Scope} {n : Nat} {f : Addr} {cdv : Value} (h : A.guards = some []) : (A.deeper (envOfC qual scope n f cdv)).guards = some [] := by
  first
    | exact h
    | (simp only [Around.deeper, h]; rfl)
theorem fn_g {CX : CXT} {P : Program} {w : World} {K : PySem.W.Frag} {mg : Str → Option Value} {base : Heap} {k : Nat} {f : Addr} {name qual : Str} {params : Arguments} {body : List Stmt} {scope : Scope} {dV kV doc pm cdv ct oc : Value} {an od : Option Addr}
    {osl : Array (Option Value)} {N ps : List Str} {sp : Sp} (lk : K.lookup f = some ⟨oc, od, .func (PySem.W.fnOf name qual params body scope dV kV doc pm an cdv ct), osl⟩) (hcd : PySem.W.codeIn K cdv qual = true) (S : FnScope N ps scope)
    (len : ∀ vs H Q E, sp vs H Q E → vs.length = ps.length)
    (hbody : ∀ (A : Around) (outer : List Env) (s : Shared) (H : Hp) (vs : List V) (Q : VK) (E : XK), Room k (A.deeper (envOfC qual scope s.heap.objs.size f cdv)) → (A.deeper (envOfC qual scope s.heap.objs.size f cdv)).guards = some [] → sp vs H Q E →
      ∃ t, PSs (cxOf CX P w K mg base N qual scope f cdv A outer s H E) body t ∧ t { nx := fun _ H' => Q .non H', rt := Q } (start N vs) H) :
    FnG P w K mg base CX (k + 1) f (PySem.W.fnOf name qual params body scope dV kV doc pm an cdv ct) ps sp := by
  constructor
  intro A outer s H args us vs Q E hr hg e0 hb r hsp
  have hl := len _ _ _ _ hsp
  have KX : K.In s.heap := e0.mod.kin.keeps fun b o e => (e0.bs b o e).1
  have hkind : ∀ y ∈ ps.zip us, scope.names.lookup y.1 = some .local ∨ (scope.names.lookup y.1 = some .cell ∧ ((cellsFrom (s.heap.objs.size + 1) scope.names []).lookup y.1).isSome = true) := fun y hy => by
    obtain ⟨n, v⟩ := y
    cases S.par n (List.of_mem_zip hy).1 with
    | inl q => exact .inl q
    | inr q => exact .inr ⟨q, PySem.W.cellsFrom_some _ _ _ (.inl q)⟩
  have bnd := hb
  refine codeAny_call_function hr.depth (KX _ _ lk) rfl S.co S.gen rfl (PySem.W.codeRec_of KX hcd) (bnd _ _ _ _ (wpAny_newFunctionEnv_cells S.kind hkind fun env he s1 x => ?_))
  subst he
  have lim : s.heap.NoLimit := e0.mod.nolimit.keeps fun b o e => (e0.bs b o e).1
  refine ⟨lim.keeps x.toInCall.keep, codeAny_func ?_⟩
  have hd1 := hr.deeper (envOfC qual scope s.heap.objs.size f cdv)
  obtain ⟨t, ht, hq⟩ := hbody A outer s H vs Q E hd1 (guards_deeper hg) hsp
  have I := inv_start (N := N) (CX := CX) (E := E) S hr.hd e0 hl r x
  refine wpAny_mono (ht.run [] s1 (start N vs) H _ I hq) (fun fl s' hs => ?_) fun e s' hs => hs
  cases fl with
  | ret u => exact hs.elim fun v z => z.elim fun σ' z => z.elim fun H' z => ⟨v, H', z.1.os, z.1.bare, z.1.base, z.1.hok, z.2.1, z.2.2⟩
  | next => exact hs.elim fun σ' z => z.elim fun H' z => ⟨V.non, H', z.1.os, z.1.bare, z.1.base, z.1.hok, rfl, z.2⟩
  | brk =>
    obtain ⟨_, _, _, q⟩ := hs
    exact q.elim
  | cont =>
    obtain ⟨_, _, _, q⟩ := hs
    exact q.elim
end Hs
namespace Hs
open PySem PySem.Spec PyProof.Rows L2
def top (i : Nat) : Stmt := PySem.Challenge.pw_heapsight_k10_whole_states_looked_at.main.body.getD i (.Pass ⟨0, 0, 0, 0⟩)
/-- the built-in names that the top leaves -/
structure Txt (mg : Str → Option Value) : Prop where
  isinstance : mg "isinstance" = none
  int : mg "int" = none
  bool : mg "bool" = none
  str : mg "str" = none
  tuple : mg "tuple" = none
  list : mg "list" = none
  set : mg "set" = none
  len : mg "len" = none
  all : mg "all" = none
  range : mg "range" = none
  sorted : mg "sorted" = none
  repr : mg "repr" = none
  letters : ∃ t, mg "LETTERS" = some (.str "abcdefghijklmnopqrstuvwxyz" t)
  figures : ∃ t, mg "FIGURES" = some (.str "0123456789" t)
  nil : ∃ t, mg "NIL" = some (.str "nil" t)
  cells : ∃ t, mg "MOST_CELLS" = some (.int 300 t)
  place : ∃ t, mg "MOST_PLACE" = some (.int 999 t)
  vars : ∃ t, mg "MOST_VARIABLES" = some (.int 5 t)

/-! ### the mirror -/
def isWhole : PyData → Bool
  | .int _ => true
  | _ => false
def isBetween (d : PyData) (lo hi : Int) : Bool := match d with
  | .int i => decide (lo ≤ i ∧ i ≤ hi)
  | _ => false
def isTupOf (d : PyData) (lo hi : Int) : Bool := match d with
  | .tuple xs => decide (lo ≤ (xs.length : Int) ∧ (xs.length : Int) ≤ hi)
  | _ => false

def spWhole (K : PySem.W.Frag) : Sp := fun vs H Q _ => ∃ v d, vs = [v] ∧ Dp K H v d ∧ Q (.bl (isWhole d)) H
def spBetween (K : PySem.W.Frag) : Sp := fun vs H Q _ => ∃ v d lo hi, vs = [v, .int lo, .int hi] ∧ Dp K H v d ∧ Q (.bl (isBetween d lo hi)) H
def spTupOf (K : PySem.W.Frag) : Sp := fun vs H Q _ => ∃ v d lo hi, vs = [v, .int lo, .int hi] ∧ Dp K H v d ∧ Q (.bl (isTupOf d lo hi)) H

section
variable {P : Program} {w : World} {K : PySem.W.Frag} {mg : Str → Option Value} {base : Heap}
theorem scWhole : FnScope ["thing"] ["thing"] (defScope (top 9)) := ⟨rfl, rfl, rfl, by decide +kernel, rfl, by decide +kernel, by decide +kernel⟩
theorem ok_whole (D : Def K mg "is_whole" (top 9) ["thing"]) (T : Txt mg) : Fn P w K mg base CX0 1 "is_whole" ["thing"] (spWhole K) := by
  refine D.ok scWhole (fun vs H Q E h => ?_) (fun f cdv A outer s H vs Q E hr h => ?_)
  · obtain ⟨v, d, rfl, _⟩ := h
    rfl
  · obtain ⟨v, d, rfl, hd, k⟩ := h
    refine ⟨_, pss_one (ps_ret (pe_and (pe_callB call_isD (by rfl) T.isinstance boot_isinstance (pa_cons (pv 0) (pa_cons (pe_ty T.int boot_int) pa_nil)))
      (pe_one (pe_not (pe_callB call_isD (by rfl) T.isinstance boot_isinstance (pa_cons (pv 0) (pa_cons (pe_ty T.bool boot_bool) pa_nil))))))), ?_⟩
    refine ⟨v, rfl, v, "int", d, rfl, hd, by decide, _, rfl, ?_⟩
    rw [isOf_int]
    cases d <;> first
      | exact iteF k
      | (refine iteT ⟨v, rfl, v, "bool", _, rfl, hd, by decide, _, rfl, ?_⟩
         rw [isOf_bool]
         exact k)
theorem scBetween : FnScope ["thing", "least", "most"] ["thing", "least", "most"] (defScope (top 10)) := ⟨rfl, rfl, rfl, by decide +kernel, rfl, by decide +kernel, by decide +kernel⟩
theorem ok_between (D : Def K mg "is_between" (top 10) ["thing", "least", "most"]) (T : Txt mg) (GW : Fn P w K mg base CX0 1 "is_whole" ["thing"] (spWhole K)) : Fn P w K mg base CX0 2 "is_between" ["thing", "least", "most"] (spBetween K) := by
  refine D.ok scBetween (fun vs H Q E h => ?_) (fun f cdv A outer s H vs Q E hr h => ?_)
  · obtain ⟨v, d, lo, hi, rfl, _⟩ := h
    rfl
  · obtain ⟨v, d, lo, hi, rfl, hd, k⟩ := h
    refine ⟨_, pss_one (ps_ret (pe_and (pe_fn GW hr pass0 (pa_cons (pv 0) pa_nil)) (pe_one (pe_chain op_le op_le (pv 1) (pv 0) (pv 2))))), ?_⟩
    refine ⟨v, rfl, v, d, rfl, hd, _, rfl, ?_⟩
    cases d with
    | int i =>
      obtain rfl := Dp.int_inv hd
      refine iteT ⟨_, rfl, _, rfl, _, _, rfl, rfl, _, rfl, ?_⟩
      by_cases h1 : lo ≤ i
      · rw [decide_eq_true h1]
        refine iteT ⟨_, rfl, _, _, rfl, rfl, ?_⟩
        have e : isBetween (.int i) lo hi = decide (i ≤ hi) := by simp [isBetween, h1]
        show Q (.bl (decide (i ≤ hi))) H
        rw [← e]
        exact k
      · rw [decide_eq_false h1]
        refine iteF ?_
        have e : isBetween (.int i) lo hi = false := by simp [isBetween, h1]
        rw [← e]
        exact k
    | _ => exact iteF k
theorem scTupOf : FnScope ["thing", "least", "most"] ["thing", "least", "most"] (defScope (top 11)) := ⟨rfl, rfl, rfl, by decide +kernel, rfl, by decide +kernel, by decide +kernel⟩
theorem ok_tupOf (D : Def K mg "is_tuple_of" (top 11) ["thing", "least", "most"]) (T : Txt mg) : Fn P w K mg base CX0 1 "is_tuple_of" ["thing", "least", "most"] (spTupOf K) := by
  refine D.ok scTupOf (fun vs H Q E h => ?_) (fun f cdv A outer s H vs Q E hr h => ?_)
  · obtain ⟨v, d, lo, hi, rfl, _⟩ := h
    rfl
  · obtain ⟨v, d, lo, hi, rfl, hd, k⟩ := h
    refine ⟨_, pss_one (ps_ret (pe_and (pe_callB call_isD (by rfl) T.isinstance boot_isinstance (pa_cons (pv 0) (pa_cons (pe_ty T.tuple boot_tuple) pa_nil)))
      (pe_one (pe_chain op_le op_le (pv 1) (pe_callB call_len_seq (by rfl) T.len PySem.boot_len (pa_cons (pv 0) pa_nil)) (pv 2))))), ?_⟩
    refine ⟨v, rfl, v, "tuple", d, rfl, hd, by decide, _, rfl, ?_⟩
    rw [isOf_tuple]
    cases d with
    | tuple ds =>
      obtain ⟨a, xs, rfl, hs, ha⟩ := Dp.tuple_inv hd
      have el := DpAll.len ha
      refine iteT ⟨_, rfl, _, rfl, a, xs, rfl, .inr hs, _, _, rfl, rfl, _, rfl, ?_⟩
      rw [el]
      by_cases h1 : lo ≤ (ds.length : Int)
      · rw [decide_eq_true h1]
        refine iteT ⟨_, rfl, _, _, rfl, rfl, ?_⟩
        have e : isTupOf (.tuple ds) lo hi = decide ((ds.length : Int) ≤ hi) := by simp [isTupOf, h1]
        show Q (.bl (decide ((ds.length : Int) ≤ hi))) H
        rw [← e]
        exact k
      · rw [decide_eq_false h1]
        refine iteF ?_
        have e : isTupOf (.tuple ds) lo hi = false := by simp [isTupOf, h1]
        rw [← e]
        exact k
    | _ => exact iteF k
end
end Hs
namespace Hs
open PySem PySem.Spec PyProof.Rows L2
/-! ### is_name -/
def letters : Str := "abcdefghijklmnopqrstuvwxyz"
def figures : Str := "0123456789"
def okSign (c : Nat) : Bool := decide (c ∈ (letters ++ figures).cps.toList)
def isNameS (s : Str) : Bool := decide (1 ≤ s.length ∧ s.length ≤ 8) && !decide (s = "nil") && (match s.cps.toList with | c :: _ => decide (c ∈ letters.cps.toList) | [] => false) && s.cps.toList.all okSign
def isName : PyData → Bool
  | .str s => isNameS s
  | _ => false
def spName (K : PySem.W.Frag) : Sp := fun vs H Q _ => ∃ v d, vs = [v] ∧ Dp K H v d ∧ (∀ s, d = .str s → s.length ≤ sizeLine) ∧ ∀ H', Same H H' → Q (.bl (isName d)) H'
section
variable {P : Program} {w : World} {K : PySem.W.Frag} {mg : Str → Option Value} {base : Heap}
theorem scName : FnScope ["thing", "sign"] ["thing"] (defScope (top 12)) := ⟨rfl, rfl, rfl, by decide +kernel, rfl, by decide +kernel, by decide +kernel⟩
theorem ok_name (D : Def K mg "is_name" (top 12) ["thing"]) (T : Txt mg) : Fn P w K mg base CX0 1 "is_name" ["thing"] (spName K) := by
  refine D.ok scName (fun vs H Q E h => ?_) (fun f cdv A outer s H vs Q E hr h => ?_)
  · obtain ⟨v, d, rfl, _⟩ := h
    rfl
  · obtain ⟨v, d, rfl, hd, hz, k⟩ := h
    refine ⟨_, pss_cons (ps_if (PW.pt (pw_or (pt_not (pt_val (pe_callB call_isD (by rfl) T.isinstance boot_isinstance (pa_cons (pv 0) (pa_cons (pe_ty T.str boot_str) pa_nil)))))
        (pw_or (pt_not (pt_chain op_le op_le pe_int (pe_callB call_len_str (by rfl) T.len PySem.boot_len (pa_cons (pv 0) pa_nil)) pe_int))
        (pw_or (pt_cmpR op_eq (pv 0) (pe_gstr T.nil) (nomark _))
        (pw_or1 (pt_cmpR op_notIn_sign (pe_ix ix_str (pv 0) pe_int (fun _ _ => rfl)) (pe_gstr T.letters) (by rfl)))))))
        (pss_one (ps_ret pe_bl)) pss_nil)
      (pss_one (ps_ret (pe_callB (cr_all rfl) (by rfl) T.all (by decide +kernel) (pa_cons
        (pe_lc (own := [("sign", 1)]) (g := gName 1) (tt := tYes) rfl scName.nd (pi_str (pv 0)) (blkOk_by (N := ["thing", "sign"]) (sc := defScope (top 12)) (by decide +kernel))
          (fun _ _ _ _ _ => pg_name (i := 1) scName.nd rfl (Or.inl rfl)) (fun _ _ _ _ _ => pts_nil)
          (fun _ _ _ _ _ => pe_cmpR op_in_sign (pv 1) (pe_op op_add_str (pe_gstr T.letters) (pe_gstr T.figures)) (by rfl))) pa_nil)))), ?_⟩
    refine ⟨v, rfl, v, "str", d, rfl, hd, by decide, _, rfl, ?_⟩
    rw [isOf_str]
    have no : isName d = false → Q (.bl false) H := fun e => by
      have q := k H (fun _ _ h => h)
      rw [e] at q
      exact q
    cases d with
    | str z =>
      obtain rfl := Dp.str_inv hd
      have hz' := hz z rfl
      refine iteF ?_
      refine ⟨_, rfl, z, rfl, hz', _, _, rfl, rfl, _, rfl, ?_⟩
      by_cases h1 : (1 : Int) ≤ ((z.length : Nat) : Int)
      case neg =>
        rw [decide_eq_false h1]
        refine iteF ⟨_, rfl, ?_⟩
        refine iteT (no ?_)
        show isNameS z = false
        unfold isNameS
        rw [decide_eq_false (fun q => h1 (by omega))]
        rfl
      rw [decide_eq_true h1]
      refine iteT ⟨_, _, rfl, rfl, _, rfl, ?_⟩
      by_cases h8 : ((z.length : Nat) : Int) ≤ 8
      case neg =>
        show if (!decide (((z.length : Nat) : Int) ≤ 8)) = true then _ else _
        rw [decide_eq_false h8]
        refine iteT (no ?_)
        show isNameS z = false
        unfold isNameS
        rw [decide_eq_false (fun q => h8 (by omega))]
        rfl
      show if (!decide (((z.length : Nat) : Int) ≤ 8)) = true then _ else _
      rw [decide_eq_true h8]
      refine iteF ?_
      have h18 : decide (1 ≤ z.length ∧ z.length ≤ 8) = true := decide_eq_true ⟨by omega, by omega⟩
      refine ⟨_, rfl, rfl, _, rfl, ?_⟩
      by_cases hn : z = "nil"
      case pos =>
        subst hn
        refine iteT (no ?_)
        decide +kernel
      have hnb : decide (z = "nil") = false := decide_eq_false hn
      have hnv : decide (V.str z = V.str "nil") = false := decide_eq_false (fun q => hn (V.str.inj q))
      show if decide (V.str z = V.str "nil") = true then _ else _
      rw [hnv]
      refine iteF ?_
      have hlen : z.cps.toList.length = z.length := by simp [Str.length]
      obtain ⟨c, r, hc⟩ : ∃ c r, z.cps.toList = c :: r := by
        cases e : z.cps.toList with
        | nil =>
          rw [e] at hlen
          exfalso
          have : z.length = 0 := hlen.symm
          omega
        | cons c r => exact ⟨c, r, rfl⟩
      have hat : atI z.cps.toList 0 = some c := by rw [hc]; exact atI_nat (xs := c :: r) (j := 0) rfl
      refine ⟨_, rfl, z, 0, c, rfl, rfl, hz', hat, c, letters, rfl, rfl, _, rfl, ?_⟩
      by_cases hcl : c ∈ letters.cps.toList
      case neg =>
        show if (!decide (c ∈ letters.cps.toList)) = true then _ else _
        rw [decide_eq_false hcl]
        refine iteT (no ?_)
        show isNameS z = false
        unfold isNameS
        rw [h18, hnb, hc]
        dsimp only
        rw [decide_eq_false hcl]
        rfl
      show if (!decide (c ∈ letters.cps.toList)) = true then _ else _
      rw [decide_eq_true hcl]
      refine iteF ?_
      refine ⟨_, rfl, z, rfl, fun D hD => ?_⟩
      have hsz : z.cps.size = z.cps.toList.length := by simp
      refine lc_pure walk_str (fun i => .bl (okSign (z.cps.toList.getD i 0))) (by have := hz'; unfold Str.length at this; exact this) hD (fun _ _ => True.intro) (fun i H1 x H2 _ y => by rw [y.1]; exact Same.refl _) ?_ ?_
      · rintro i x H1 H2 hi s1 ⟨rfl, c', hc', rfl⟩ Q' k'
        refine ⟨_, rfl, _, _, rfl, rfl, by decide +kernel, c', _, rfl, rfl, ?_⟩
        have e : z.cps.toList.getD i 0 = c' := by
          have q : z.cps.toList[i]? = some c' := by rw [Array.getElem?_toList]; exact hc'
          rw [List.getD_eq_getElem?_getD, q]
          rfl
        have k2 := k' _ (Same.refl _)
        rw [e] at k2
        exact k2
      · intro H1 s1 h1
        refine ⟨D, (List.range z.cps.size).map (fun i => okSign (z.cps.toList.getD i 0)), rfl, SqL.of (by rw [h1, range_map_bl]), ?_⟩
        have e : ((List.range z.cps.size).map (fun i => okSign (z.cps.toList.getD i 0))).all id = isNameS z := by
          unfold isNameS
          rw [h18, hnb, hsz, range_all okSign z.cps.toList _ (fun i a ha => by rw [List.getD_eq_getElem?_getD, ha]; rfl)]
          rw [hc]
          show (c :: r).all okSign = (true && !false && decide (c ∈ letters.cps.toList) && (c :: r).all okSign)
          rw [decide_eq_true hcl]
          rfl
        rw [e]
        exact k _ s1
    | _ => exact iteT (no rfl)
end
end Hs
namespace Hs
open PySem PySem.Spec PyProof.Rows L2
/-! ### are_ascending, is_cell, has_state_form -/
def asc (ns : List Int) : Bool := (List.range (ns.length - 1)).all fun i => decide (ns.getD i 0 < ns.getD (i + 1) 0)
def spAsc (K : PySem.W.Frag) : Sp := fun vs H Q _ => ∃ a ns, vs = [.ref a] ∧ SqL K H a (ns.map V.int) ∧ ns.length ≤ 1000 ∧ ∀ H', Same H H' → Q (.bl (asc ns)) H'
def isStr : PyData → Bool
  | .str _ => true
  | _ => false
def isCell : PyData → Bool
  | .tuple [a, b, c] => isStr b && (isBetween a 1 999 && isBetween c 0 999)
  | _ => false
def spCell (K : PySem.W.Frag) : Sp := fun vs H Q _ => ∃ v d, vs = [v] ∧ Dp K H v d ∧ Q (.bl (isCell d)) H
def hasForm : PyData → Bool
  | .tuple [.tuple cs, .tuple vs] => decide (cs.length ≤ 300) && (cs.all isCell && vs.all (fun d => isBetween d 0 999))
  | _ => false
def spForm (K : PySem.W.Frag) : Sp := fun vs H Q _ => ∃ v d, vs = [v] ∧ Dp K H v d ∧ (∀ a ds, d = .tuple [a, .tuple ds] → ds.length ≤ 1000) ∧ ∀ H', Same H H' → Q (.bl (hasForm d)) H'
section
variable {P : Program} {w : World} {K : PySem.W.Frag} {mg : Str → Option Value} {base : Heap}
theorem getD_map_int {ns : List Int} {i : Nat} (h : i < ns.length) : (ns.map V.int)[i]? = some (V.int (ns.getD i 0)) := by
  rw [List.getElem?_map, List.getD_eq_getElem?_getD, List.getElem?_eq_getElem h]
  rfl
theorem scAsc : FnScope ["numbers", "at"] ["numbers"] (defScope (top 16)) := ⟨rfl, rfl, rfl, by decide +kernel, rfl, by decide +kernel, by decide +kernel⟩
theorem ok_asc (D : Def K mg "are_ascending" (top 16) ["numbers"]) (T : Txt mg) : Fn P w K mg base CX0 1 "are_ascending" ["numbers"] (spAsc K) := by
  refine D.ok scAsc (fun vs H Q E h => ?_) (fun f cdv A outer s H vs Q E hr h => ?_)
  · obtain ⟨a, ns, rfl, _⟩ := h
    rfl
  · obtain ⟨a, ns, rfl, hS, hz, k⟩ := h
    refine ⟨_, pss_one (ps_ret (pe_callB (cr_all rfl) (by rfl) T.all (by decide +kernel) (pa_cons
        (pe_lc (own := [("at", 1)]) (g := gName 1) (tt := tYes) rfl scAsc.nd (pi_range1 rfl T.range (pa_cons (pe_op op_sub (pe_callB call_len_seq (by rfl) T.len PySem.boot_len (pa_cons (pv 0) pa_nil)) pe_int) pa_nil)) (blkOk_by (N := ["numbers", "at"]) (sc := defScope (top 16)) (by decide +kernel))
          (fun _ _ _ _ _ => pg_name (i := 1) scAsc.nd rfl (Or.inl rfl)) (fun _ _ _ _ _ => pts_nil)
          (fun _ _ _ _ _ => pe_cmpR op_lt (pe_ix (r := rIxL K) ix_list (pv 0) (pv 1) (fun _ _ => rfl)) (pe_ix (r := rIxL K) ix_list (pv 0) (pe_op op_add (pv 1) pe_int) (fun _ _ => rfl)) (nomark _))) pa_nil))), ?_⟩
    refine ⟨_, rfl, a, _, rfl, .inl hS, _, _, rfl, rfl, _, rfl, (by rw [List.length_map]; omega), (by rw [List.length_map]; omega), fun D hD => ?_⟩
    have en : (((ns.map V.int).length : Nat) : Int) - 1 = ((ns.length : Nat) : Int) - 1 := by rw [List.length_map]
    rw [en]
    have et : ((((ns.length : Nat) : Int) - 1).toNat) = ns.length - 1 := by omega
    rw [et]
    refine lc_pure walk_range (fun i => .bl (decide (ns.getD i 0 < ns.getD (i + 1) 0))) (Nat.le_of_lt (small1000 (by omega))) hD (fun _ _ => True.intro) (fun i H1 x H2 _ y => by rw [y.1]; exact Same.refl _) ?_ ?_
    · rintro i x H1 H2 hi s1 ⟨rfl, rfl⟩ Q' k'
      have hS1 := s1.seq hS
      refine ⟨_, rfl, _, rfl, a, _, _, _, rfl, rfl, hS1, at_of (j := i) (by omega) (getD_map_int (by omega)), _, rfl, _, rfl, _, _, rfl, rfl, a, _, _, _, rfl, rfl, hS1, at_of (j := i + 1) (by omega) (getD_map_int (by omega)), _, _, rfl, rfl, k' _ (Same.refl _)⟩
    · intro H1 s1 h1
      refine ⟨D, (List.range (ns.length - 1)).map (fun i => decide (ns.getD i 0 < ns.getD (i + 1) 0)), rfl, SqL.of (by rw [h1, range_map_bl]), ?_⟩
      have e : ((List.range (ns.length - 1)).map (fun i => decide (ns.getD i 0 < ns.getD (i + 1) 0))).all id = asc ns := by
        unfold asc
        rw [List.all_map]
        rfl
      rw [e]
      exact k _ s1
theorem scCell : FnScope ["thing"] ["thing"] (defScope (top 21)) := ⟨rfl, rfl, rfl, by decide +kernel, rfl, by decide +kernel, by decide +kernel⟩
theorem ok_cell (D : Def K mg "is_cell" (top 21) ["thing"]) (T : Txt mg) (GB : Fn P w K mg base CX0 2 "is_between" ["thing", "least", "most"] (spBetween K)) (GT : Fn P w K mg base CX0 1 "is_tuple_of" ["thing", "least", "most"] (spTupOf K)) :
    Fn P w K mg base CX0 3 "is_cell" ["thing"] (spCell K) := by
  refine D.ok scCell (fun vs H Q E h => ?_) (fun f cdv A outer s H vs Q E hr h => ?_)
  · obtain ⟨v, d, rfl, _⟩ := h
    rfl
  · obtain ⟨v, d, rfl, hd, k⟩ := h
    refine ⟨_, pss_cons (ps_if (PW.pt (pw_or (pt_not (pt_val (pe_fn GT (hr.mono (by decide)) pass0 (pa_cons (pv 0) (pa_cons pe_int (pa_cons pe_int pa_nil))))))
        (pw_or1 (pt_not (pt_val (pe_callB call_isD (by rfl) T.isinstance boot_isinstance (pa_cons (pe_ix ix_tup (pv 0) pe_int (fun _ _ => rfl)) (pa_cons (pe_ty T.str boot_str) pa_nil))))))))
        (pss_one (ps_ret pe_bl)) pss_nil)
      (pss_one (ps_ret (pe_and (pe_fn GB hr pass0 (pa_cons (pe_ix ix_tup (pv 0) pe_int (fun _ _ => rfl)) (pa_cons pe_int (pa_cons (pe_gint T.place) pa_nil))))
        (pe_one (pe_fn GB hr pass0 (pa_cons (pe_ix ix_tup (pv 0) pe_int (fun _ _ => rfl)) (pa_cons pe_int (pa_cons (pe_gint T.place) pa_nil)))))))), ?_⟩
    refine ⟨v, rfl, v, d, 3, 3, rfl, hd, _, rfl, ?_⟩
    by_cases h3 : ∃ a b c, d = .tuple [a, b, c]
    · obtain ⟨a, b, c, rfl⟩ := h3
      obtain ⟨p, xs, rfl, hs, ha⟩ := Dp.tuple_inv hd
      obtain ⟨x0, e0, d0⟩ := DpAll.get (i := 0) ha rfl
      obtain ⟨x1, e1, d1⟩ := DpAll.get (i := 1) ha rfl
      obtain ⟨x2, e2, d2⟩ := DpAll.get (i := 2) ha rfl
      refine iteF ?_
      refine ⟨_, rfl, p, xs, _, x1, rfl, rfl, hs, at_of (j := 1) rfl e1, x1, "str", b, rfl, d1, by decide, _, rfl, ?_⟩
      have eb : isOf "str" b = isStr b := by rw [isOf_str]; cases b <;> rfl
      rw [eb]
      cases hb : isStr b with
      | false =>
        refine iteT ?_
        have e : isCell (.tuple [a, b, c]) = false := by show (isStr b && _) = false; rw [hb]; rfl
        rw [e] at k
        exact k
      | true =>
        refine iteF ?_
        have e : isCell (.tuple [a, b, c]) = (isBetween a 1 999 && isBetween c 0 999) := by show (isStr b && _) = _; rw [hb]; rfl
        rw [e] at k
        refine ⟨_, rfl, p, xs, _, x0, rfl, rfl, hs, at_of (j := 0) rfl e0, x0, a, 1, 999, rfl, d0, _, rfl, ?_⟩
        cases hba : isBetween a 1 999 with
        | false =>
          rw [hba] at k
          exact iteF k
        | true =>
          rw [hba] at k
          exact iteT ⟨_, rfl, p, xs, _, x2, rfl, rfl, hs, at_of (j := 2) rfl e2, x2, c, 0, 999, rfl, d2, k⟩
    · have e : isTupOf d 3 3 = false := by
        cases d with
        | tuple ds =>
          show decide _ = false
          refine decide_eq_false fun q => h3 ?_
          match ds, q with
          | [a, b, c], _ => exact ⟨a, b, c, rfl⟩
          | [], q => exact absurd q (by simp)
          | [_], q => exact absurd q (by simp)
          | [_, _], q => exact absurd q (by simp)
          | _ :: _ :: _ :: _ :: _, q => exact absurd q (by simp only [List.length_cons]; omega)
        | _ => rfl
      have e2 : isCell d = false := by
        unfold isCell
        split
        · exact absurd ⟨_, _, _, rfl⟩ h3
        · rfl
      rw [e]
      rw [e2] at k
      exact iteT k
/-- [f(x) for x in t] of a tuple of data, f a test that keeps the heap -/
theorem lc_tupB {a : Addr} {ds : List PyData} {xs : List V} {k : Nat} {te : TE} {σ : L2.St} {H1 : Hp} {D : Addr} {Qd : Hp → Prop} (p : PyData → Bool) (hD : H1 D = none) (hT : SqT K H1 a xs) (hA : DpAll K H1 xs ds) (hz : ds.length ≤ 1000)
    (hs : ∀ x d H, x ∈ xs → d ∈ ds → Same H1 H → Dp K H x d → ∀ Q' : VK, (∀ H4, Same H H4 → Q' (.bl (p d)) H4) → te ((wipe σ [k]).set k (some x)) H Q') (hd : ∀ H, Same H1 H → H D = some (.lst ((ds.map p).map V.bl)) → Qd H) :
    ∃ W : Nat → Nat → Hp → Prop, (∃ m, W 0 m (upd H1 D (.lst []))) ∧ ∀ i m H, W i m H →
      ((Itt K a).stop i H ∧ Qd H) ∨ ((Itt K a).go i H ∧ ∃ Nx : Hp → Prop, (∀ H', Nx H' → ∃ m', m' < m ∧ W (i + 1) m' H') ∧ ∀ x H', (Itt K a).yld i H x H' → gName k x (wipe σ [k]) H' fun σ2 H2 => wipe σ2 [k] = wipe σ [k] ∧ tYes σ2 H2 fun b H3 =>
        if b = true then te σ2 H3 fun y H4 => ∃ acc, H4 D = some (.lst acc) ∧ acc.length < sizeLine ∧ Nx (upd H4 D (.lst (acc ++ [y]))) else Nx H3) := by
  have el := DpAll.len hA
  refine lc_pure walk_tup (fun i => .bl (match ds[i]? with | some d => p d | none => true)) (Nat.le_of_lt (small1000 (by omega))) hD (fun H s => Same.sqt s hT) (fun i H x H2 _ y => by rw [y.1]; exact Same.refl _) ?_ ?_
  · rintro i x H H2 hi s1 ⟨rfl, hx⟩ Q' k'
    obtain ⟨d, hd1, hd2⟩ := DpAll.get' hA hx
    rw [hd1] at k'
    exact hs x d H2 (List.mem_of_getElem? hx) (List.mem_of_getElem? hd1) s1 (dp_mono s1 _ _ hd2) Q' k'
  · intro H s1 h1
    refine hd H s1 ?_
    rw [h1, range_map_bl, el]
    rw [range_get ds _ p fun i a e => by rw [e]]
theorem all_map {α : Type} (p : α → Bool) (l : List α) : (l.map p).all id = l.all p := by rw [List.all_map]; rfl
theorem scForm : FnScope ["thing", "cell", "value"] ["thing"] (defScope (top 22)) := ⟨rfl, rfl, rfl, by decide +kernel, rfl, by decide +kernel, by decide +kernel⟩
theorem ok_form (D : Def K mg "has_state_form" (top 22) ["thing"]) (T : Txt mg) (GB : Fn P w K mg base CX0 2 "is_between" ["thing", "least", "most"] (spBetween K)) (GT : Fn P w K mg base CX0 1 "is_tuple_of" ["thing", "least", "most"] (spTupOf K))
    (GC : Fn P w K mg base CX0 3 "is_cell" ["thing"] (spCell K)) : Fn P w K mg base CX0 4 "has_state_form" ["thing"] (spForm K) := by
  refine D.ok scForm (fun vs H Q E h => ?_) (fun f cdv A outer s H vs Q E hr h => ?_)
  · obtain ⟨v, d, rfl, _⟩ := h
    rfl
  · obtain ⟨v, d, rfl, hd, hz, k⟩ := h
    have rb : ∀ {env : Env}, Room 3 (A.deeper env) → Room 2 (A.deeper env) := fun r => r.mono (by decide)
    refine ⟨_, pss_cons (ps_if (PW.pt (pw_or (pt_not (pt_val (pe_fn GT (hr.mono (by decide)) pass0 (pa_cons (pv 0) (pa_cons pe_int (pa_cons pe_int pa_nil))))))
        (pw_or (pt_not (pt_val (pe_fn GT (hr.mono (by decide)) pass0 (pa_cons (pe_ix ix_tup (pv 0) pe_int (fun _ _ => rfl)) (pa_cons pe_int (pa_cons (pe_gint T.cells) pa_nil))))))
        (pw_or1 (pt_not (pt_val (pe_callB call_isD (by rfl) T.isinstance boot_isinstance (pa_cons (pe_ix ix_tup (pv 0) pe_int (fun _ _ => rfl)) (pa_cons (pe_ty T.tuple boot_tuple) pa_nil)))))))))
        (pss_one (ps_ret pe_bl)) pss_nil)
      (pss_one (ps_ret (pe_and
        (pe_callB (cr_all rfl) (by rfl) T.all (by decide +kernel) (pa_cons
          (pe_lc (own := [("cell", 1)]) (g := gName 1) (tt := tYes) rfl scForm.nd (pi_tup (pe_ix (r := rIxT K) ix_tup (pv 0) pe_int (fun _ _ => rfl))) (blkOk_by (N := ["thing", "cell", "value"]) (sc := defScope (top 22)) (by decide +kernel))
            (fun _ _ _ _ _ => pg_name (i := 1) scForm.nd rfl (Or.inl rfl)) (fun _ _ _ _ _ => pts_nil)
            (fun _ _ _ _ _ => pe_fn GC hr pass0 (pa_cons (pv 1) pa_nil))) pa_nil))
        (pe_one (pe_callB (cr_all rfl) (by rfl) T.all (by decide +kernel) (pa_cons
          (pe_lc (own := [("value", 2)]) (g := gName 2) (tt := tYes) rfl scForm.nd (pi_tup (pe_ix (r := rIxT K) ix_tup (pv 0) pe_int (fun _ _ => rfl))) (blkOk_by (N := ["thing", "cell", "value"]) (sc := defScope (top 22)) (by decide +kernel))
            (fun _ _ _ _ _ => pg_name (i := 2) scForm.nd rfl (Or.inl rfl)) (fun _ _ _ _ _ => pts_nil)
            (fun _ _ _ _ _ => pe_fn GB (hr.mono (by decide)) pass0 (pa_cons (pv 2) (pa_cons pe_int (pa_cons (pe_gint T.place) pa_nil))))) pa_nil)))))), ?_⟩
    have no : hasForm d = false → Q (.bl false) H := fun e => by
      have q := k H (Same.refl _)
      rw [e] at q
      exact q
    refine ⟨v, rfl, v, d, 2, 2, rfl, hd, _, rfl, ?_⟩
    by_cases h2 : ∃ a b, d = .tuple [a, b]
    case neg =>
      have e : isTupOf d 2 2 = false := by
        cases d with
        | tuple ds =>
          show decide _ = false
          refine decide_eq_false fun q => h2 ?_
          match ds, q with
          | [a, b], _ => exact ⟨a, b, rfl⟩
          | [], q => exact absurd q (by simp)
          | [_], q => exact absurd q (by simp)
          | _ :: _ :: _ :: _, q => exact absurd q (by simp only [List.length_cons]; omega)
        | _ => rfl
      rw [e]
      refine iteT (no ?_)
      unfold hasForm
      split
      · exact absurd ⟨_, _, rfl⟩ h2
      · rfl
    obtain ⟨a, b, rfl⟩ := h2
    obtain ⟨p, xs, rfl, hs, ha⟩ := Dp.tuple_inv hd
    obtain ⟨x0, e0, d0⟩ := DpAll.get (i := 0) ha rfl
    obtain ⟨x1, e1, d1⟩ := DpAll.get (i := 1) ha rfl
    refine iteF ?_
    refine ⟨_, rfl, p, xs, _, x0, rfl, rfl, hs, at_of (j := 0) rfl e0, x0, a, 0, 300, rfl, d0, _, rfl, ?_⟩
    cases h0 : isTupOf a 0 300 with
    | false =>
      refine iteT (no ?_)
      cases a with
      | tuple cs =>
        have q : decide (cs.length ≤ 300) = false := by
          have q0 : decide ((0 : Int) ≤ (cs.length : Int) ∧ (cs.length : Int) ≤ 300) = false := h0
          have q1 := of_decide_eq_false q0
          exact decide_eq_false fun q => q1 ⟨by omega, by omega⟩
        cases b with
        | tuple vs => show (decide (cs.length ≤ 300) && _) = false; rw [q]; rfl
        | _ => rfl
      | _ => rfl
    | true =>
    refine iteF ?_
    obtain ⟨cs, rfl, hcs⟩ : ∃ cs, a = .tuple cs ∧ cs.length ≤ 300 := by
      cases a with
      | tuple cs =>
        have q0 : decide ((0 : Int) ≤ (cs.length : Int) ∧ (cs.length : Int) ≤ 300) = true := h0
        have q1 := of_decide_eq_true q0
        exact ⟨cs, rfl, by omega⟩
      | _ => cases h0
    refine ⟨_, rfl, p, xs, _, x1, rfl, rfl, hs, at_of (j := 1) rfl e1, x1, "tuple", b, rfl, d1, by decide, _, rfl, ?_⟩
    rw [isOf_tuple]
    cases b with
    | tuple vs =>
      have hvs := hz _ _ rfl
      refine iteF ?_
      have ef : hasForm (.tuple [.tuple cs, .tuple vs]) = (cs.all isCell && vs.all (fun d => isBetween d 0 999)) := by
        show (decide (cs.length ≤ 300) && _) = _
        rw [decide_eq_true hcs]
        rfl
      rw [ef] at k
      obtain ⟨p0, ys, rfl, hs0, ha0⟩ := Dp.tuple_inv d0
      obtain ⟨p1, zs, rfl, hs1, ha1⟩ := Dp.tuple_inv d1
      refine ⟨_, rfl, p, xs, _, _, rfl, rfl, hs, at_of (j := 0) rfl e0, p0, rfl, ⟨_, hs0⟩, fun D hD => ?_⟩
      refine lc_tupB isCell hD hs0 ha0 (by omega) ?_ ?_
      · intro x d H2 _ _ s1 hd2 Q' k'
        exact ⟨x, rfl, x, d, rfl, hd2, k' H2 (Same.refl _)⟩
      · intro H2 s2 h2
        refine ⟨D, cs.map isCell, rfl, SqL.of h2, _, rfl, ?_⟩
        rw [all_map]
        cases hc : cs.all isCell with
        | false =>
          rw [hc] at k
          exact iteF (k _ s2)
        | true =>
          rw [hc] at k
          refine iteT ?_
          refine ⟨_, rfl, p, xs, _, _, rfl, rfl, Same.sqt s2 hs, at_of (j := 1) rfl e1, p1, rfl, ⟨_, Same.sqt s2 hs1⟩, fun D2 hD2 => ?_⟩
          refine lc_tupB (fun d => isBetween d 0 999) hD2 (Same.sqt s2 hs1) (dpAll_mono s2 _ _ ha1) hvs ?_ ?_
          · intro x d H3 _ _ s3 hd2 Q' k'
            exact ⟨x, rfl, x, d, 0, 999, rfl, hd2, k' H3 (Same.refl _)⟩
          · intro H3 s3 h3
            refine ⟨D2, vs.map (fun d => isBetween d 0 999), rfl, SqL.of h3, ?_⟩
            rw [all_map]
            exact k _ (s2.trans s3)
    | _ =>
      refine iteT (no ?_)
      rfl
end
end Hs
namespace Hs
open PySem PySem.Spec PyProof.Rows L2
abbrev iName : Stmt := inClass (top 2) 0
abbrev iNumber : Stmt := inClass (top 3) 0
abbrev iState : Stmt := inClass (top 4) 0
/-- the three errors as the top has written them -/
structure ErrD (K : PySem.W.Frag) (mg : Str → Option Value) (c q f : Str) (st : Stmt) (C fI : Addr) (fd : FuncData) : Prop where
  err : Err K mg c f C fI
  fn : Fun K "__init__" q st fI fd
  bi : Binds K fd ["self", f] []
structure Errs (K : PySem.W.Frag) (mg : Str → Option Value) (S CN CM CS : Addr) : Prop where
  sup : SupC K mg "SightError" S
  name : ∃ fI fd, ErrD K mg "BadName" "BadName.__init__" "value" iName CN fI fd
  number : ∃ fI fd, ErrD K mg "BadNumber" "BadNumber.__init__" "value" iNumber CM fI fd
  state : ∃ fI fd, ErrD K mg "BadState" "BadState.__init__" "place" iState CS fI fd
section
variable {P : Program} {w : World} {K : PySem.W.Frag} {mg : Str → Option Value} {base : Heap} {S CN CM CS : Addr}
theorem scIN : FnScope ["self", "value"] ["self", "value"] (defScope iName) := ⟨rfl, rfl, rfl, by decide +kernel, rfl, by decide +kernel, by decide +kernel⟩
theorem scIM : FnScope ["self", "value"] ["self", "value"] (defScope iNumber) := ⟨rfl, rfl, rfl, by decide +kernel, rfl, by decide +kernel, by decide +kernel⟩
theorem scIS : FnScope ["self", "place"] ["self", "place"] (defScope iState) := ⟨rfl, rfl, rfl, by decide +kernel, rfl, by decide +kernel, by decide +kernel⟩
theorem ok_iN {fI : Addr} {fd : FuncData} (T : SupC K mg "SightError" S) (D : ErrD K mg "BadName" "BadName.__init__" "value" iName CN fI fd) : FnOk P w K mg base CX0 1 fI fd ["self", "value"] (spInit CN "value") := by
  refine D.fn.ok scIN (fun vs H Q E h => ?_) (fun cdv A outer s H vs Q E hr h => ?_)
  · obtain ⟨a, v, rfl, _⟩ := h
    rfl
  · obtain ⟨a, v, rfl, ha, k⟩ := h
    refine ⟨_, pss_cons (ps_expr (pe_sup (pl := _) T (pa_cons (pv 0) pa_nil))) (pss_one (ps_ost (pv 0) (pv 1))), ?_⟩
    exact ⟨_, rfl, a, CN, [], rfl, Nat.zero_le _, D.err.oex, ha, _, rfl, _, rfl, a, CN, rfl, D.err.oex, D.err.noF, .inl ⟨ha, fun dx h1 h2 => k dx h1 h2⟩⟩
theorem ok_iM {fI : Addr} {fd : FuncData} (T : SupC K mg "SightError" S) (D : ErrD K mg "BadNumber" "BadNumber.__init__" "value" iNumber CM fI fd) : FnOk P w K mg base CX0 1 fI fd ["self", "value"] (spInit CM "value") := by
  refine D.fn.ok scIM (fun vs H Q E h => ?_) (fun cdv A outer s H vs Q E hr h => ?_)
  · obtain ⟨a, v, rfl, _⟩ := h
    rfl
  · obtain ⟨a, v, rfl, ha, k⟩ := h
    refine ⟨_, pss_cons (ps_expr (pe_sup (pl := _) T (pa_cons (pv 0) pa_nil))) (pss_one (ps_ost (pv 0) (pv 1))), ?_⟩
    exact ⟨_, rfl, a, CM, [], rfl, Nat.zero_le _, D.err.oex, ha, _, rfl, _, rfl, a, CM, rfl, D.err.oex, D.err.noF, .inl ⟨ha, fun dx h1 h2 => k dx h1 h2⟩⟩
theorem ok_iS {fI : Addr} {fd : FuncData} (T : SupC K mg "SightError" S) (D : ErrD K mg "BadState" "BadState.__init__" "place" iState CS fI fd) : FnOk P w K mg base CX0 1 fI fd ["self", "place"] (spInit CS "place") := by
  refine D.fn.ok scIS (fun vs H Q E h => ?_) (fun cdv A outer s H vs Q E hr h => ?_)
  · obtain ⟨a, v, rfl, _⟩ := h
    rfl
  · obtain ⟨a, v, rfl, ha, k⟩ := h
    refine ⟨_, pss_cons (ps_expr (pe_sup (pl := _) T (pa_cons (pv 0) pa_nil))) (pss_one (ps_ost (pv 0) (pv 1))), ?_⟩
    exact ⟨_, rfl, a, CS, [], rfl, Nat.zero_le _, D.err.oex, ha, _, rfl, _, rfl, a, CS, rfl, D.err.oex, D.err.noF, .inl ⟨ha, fun dx h1 h2 => k dx h1 h2⟩⟩
end
end Hs
namespace Hs
open PySem PySem.Spec PyProof.Rows L2
/-! ### are_names, need_marks, need_number -/
def strOf : PyData → Str
  | .str s => s
  | _ => ""
def areNames (d : PyData) (lo hi : Int) : Bool := match d with
  | .tuple xs => decide (lo ≤ (xs.length : Int) ∧ (xs.length : Int) ≤ hi) && (xs.all isName && decide ((xs.map strOf).Nodup))
  | _ => false
/-- a tuple's length, its texts' lengths -/
def Fits (d : PyData) : Prop := ∀ xs, d = .tuple xs → xs.length ≤ 1000 ∧ ∀ s, .str s ∈ xs → s.length ≤ sizeLine
def spNames (K : PySem.W.Frag) : Sp := fun vs H Q _ => ∃ v d lo hi, vs = [v, .int lo, .int hi] ∧ Dp K H v d ∧ Fits d ∧ ∀ H', Same H H' → Q (.bl (areNames d lo hi)) H'
def spMarks (K : PySem.W.Frag) (CN : Addr) : Sp := fun vs H Q E => ∃ v d, vs = [v] ∧ Dp K H v d ∧ Fits d ∧ (areNames d 1 4 = true → ∀ H', Same H H' → Q .non H') ∧ (areNames d 1 4 = false → ∀ H1, Same H H1 → Raised CN "value" v H1 E)
def spNumber (K : PySem.W.Frag) (CM : Addr) : Sp := fun vs H Q E => ∃ v d lo hi, vs = [v, .int lo, .int hi] ∧ Dp K H v d ∧ (isBetween d lo hi = true → Q .non H) ∧ (isBetween d lo hi = false → Raised CM "value" v H E)
theorem names_strs {xs : List PyData} (h : xs.all isName = true) : xs = (xs.map strOf).map PyData.str := by
  induction xs with
  | nil => rfl
  | cons x xs ih =>
    rw [List.all_cons, Bool.and_eq_true] at h
    rw [List.map_cons, List.map_cons, ← ih h.2]
    cases x with
    | str s => rfl
    | _ => cases h.1
section
variable {P : Program} {w : World} {K : PySem.W.Frag} {mg : Str → Option Value} {base : Heap} {S CN CM CS : Addr}
theorem dpAll_strs_inv {H : Hp} : ∀ {zs : List Str} {vs : List V}, DpAll K H vs (zs.map PyData.str) → vs = zs.map V.str
  | [], _, .nil => rfl
  | z :: zs, _, .cons a b => by rw [List.map_cons, dpAll_strs_inv b, Dp.str_inv a]
theorem scNames : FnScope ["thing", "least", "most", "name"] ["thing", "least", "most"] (defScope (top 13)) := ⟨rfl, rfl, rfl, by decide +kernel, rfl, by decide +kernel, by decide +kernel⟩
theorem ok_names (D : Def K mg "are_names" (top 13) ["thing", "least", "most"]) (T : Txt mg) (GT : Fn P w K mg base CX0 1 "is_tuple_of" ["thing", "least", "most"] (spTupOf K)) (GN : Fn P w K mg base CX0 1 "is_name" ["thing"] (spName K)) :
    Fn P w K mg base CX0 2 "are_names" ["thing", "least", "most"] (spNames K) := by
  refine D.ok scNames (fun vs H Q E h => ?_) (fun f cdv A outer s H vs Q E hr h => ?_)
  · obtain ⟨v, d, lo, hi, rfl, _⟩ := h
    rfl
  · obtain ⟨v, d, lo, hi, rfl, hd, hf, k⟩ := h
    refine ⟨_, pss_cons (ps_if (PW.pt (pw_or (pt_not (pt_val (pe_fn GT hr pass0 (pa_cons (pv 0) (pa_cons (pv 1) (pa_cons (pv 2) pa_nil))))))
        (pw_or1 (pt_not (pt_val (pe_callB (cr_all rfl) (by rfl) T.all (by decide +kernel) (pa_cons
          (pe_lc (own := [("name", 3)]) (g := gName 3) (tt := tYes) rfl scNames.nd (pi_tup (pv 0)) (blkOk_by (N := ["thing", "least", "most", "name"]) (sc := defScope (top 13)) (by decide +kernel))
            (fun _ _ _ _ _ => pg_name (i := 3) scNames.nd rfl (Or.inl rfl)) (fun _ _ _ _ _ => pts_nil)
            (fun _ _ _ _ _ => pe_fn GN hr pass0 (pa_cons (pv 3) pa_nil))) pa_nil)))))))
        (pss_one (ps_ret pe_bl)) pss_nil)
      (pss_one (ps_ret (pe_cmpR op_eq (pe_callB call_lenS (by rfl) T.len PySem.boot_len (pa_cons (pe_callTy (call_setT hr.hd) (by rfl) T.set boot_set (pa_cons (pv 0) pa_nil)) pa_nil))
        (pe_callB call_len_seq (by rfl) T.len PySem.boot_len (pa_cons (pv 0) pa_nil)) (nomark _)))), ?_⟩
    have no : ∀ H', Same H H' → areNames d lo hi = false → Q (.bl false) H' := fun H' s1 e => by
      have q := k H' s1
      rw [e] at q
      exact q
    refine ⟨v, rfl, _, rfl, _, rfl, v, d, lo, hi, rfl, hd, _, rfl, ?_⟩
    cases ht : isTupOf d lo hi with
    | false =>
      refine iteT (no H (Same.refl _) ?_)
      cases d with
      | tuple xs =>
        have q : decide (lo ≤ (xs.length : Int) ∧ (xs.length : Int) ≤ hi) = false := ht
        show (decide (lo ≤ (xs.length : Int) ∧ (xs.length : Int) ≤ hi) && _) = false
        rw [q]
        rfl
      | _ => rfl
    | true =>
    refine iteF ?_
    obtain ⟨ds, rfl⟩ : ∃ ds, d = .tuple ds := by
      cases d with
      | tuple ds => exact ⟨ds, rfl⟩
      | _ => cases ht
    have hlen : decide (lo ≤ (ds.length : Int) ∧ (ds.length : Int) ≤ hi) = true := ht
    obtain ⟨hz, hst⟩ := hf _ rfl
    obtain ⟨p, xs, rfl, hs, ha⟩ := Dp.tuple_inv hd
    have el := DpAll.len ha
    have ea : areNames (.tuple ds) lo hi = (ds.all isName && decide ((ds.map strOf).Nodup)) := by
      show (decide (lo ≤ (ds.length : Int) ∧ (ds.length : Int) ≤ hi) && _) = _
      rw [hlen]
      rfl
    refine ⟨_, rfl, p, rfl, ⟨_, hs⟩, fun D hD => ?_⟩
    refine lc_tupB isName hD hs ha hz ?_ ?_
    · intro x d H2 hx hdm s1 hd2 Q' k'
      refine ⟨x, rfl, x, d, rfl, hd2, fun z e => hst z (by rw [← e]; exact hdm), fun H3 s3 => k' H3 s3⟩
    · intro H2 s2 h2
      refine ⟨D, ds.map isName, rfl, SqL.of h2, _, rfl, ?_⟩
      rw [all_map]
      cases hn : ds.all isName with
      | false =>
        refine iteT (no H2 s2 ?_)
        rw [ea, hn]
        rfl
      | true =>
        refine iteF ?_
        have e1 := names_strs hn
        have exs : xs = (ds.map strOf).map V.str := dpAll_strs_inv (by rw [← e1]; exact ha)
        have hs2 : SqT K H2 p ((ds.map strOf).map V.str) := by rw [← exs]; exact Same.sqt s2 hs
        refine ⟨_, rfl, p, ds.map strOf, rfl, hs2, by rw [List.length_map]; exact hz, fun q hq => ?_⟩
        have ml := metOf_len_le (ds.map strOf)
        rw [List.length_map] at ml
        refine ⟨q, _, rfl, upd_same, by omega, ?_⟩
        have hs3 : SqT K (upd H2 q (SetN P w q (metOf (ds.map strOf)).length)) p ((ds.map strOf).map V.str) := Same.sqt (same_upd hq) hs2
        refine ⟨_, rfl, p, _, rfl, .inr hs3, rfl, ?_⟩
        have q2 := k (upd H2 q (SetN P w q (metOf (ds.map strOf)).length)) (s2.trans (same_upd hq))
        rw [ea, hn] at q2
        have e3 : decide (V.int (((metOf (ds.map strOf)).length : Nat) : Int) = V.int ((((ds.map strOf).map V.str).length : Nat) : Int)) = (true && decide ((ds.map strOf).Nodup)) := by
          rw [Bool.true_and]
          refine decide_eq_decide.mpr ?_
          rw [← metOf_nodup, List.length_map]
          constructor
          · intro z
            have z' := V.int.inj z
            exact Int.ofNat.inj z'
          · intro z
            rw [z]
        show Q (.bl (decide (V.int _ = V.int _))) _
        rw [e3]
        exact q2
end
end Hs
namespace Hs
open PySem PySem.Spec PyProof.Rows L2
section
variable {P : Program} {w : World} {K : PySem.W.Frag} {mg : Str → Option Value} {base : Heap} {S CN CM CS : Addr}
theorem scMarks : FnScope ["thing"] ["thing"] (defScope (top 14)) := ⟨rfl, rfl, rfl, by decide +kernel, rfl, by decide +kernel, by decide +kernel⟩
theorem ok_marks (D : Def K mg "need_marks" (top 14) ["thing"]) (Z : Errs K mg S CN CM CS) (GA : Fn P w K mg base CX0 2 "are_names" ["thing", "least", "most"] (spNames K)) :
    Fn P w K mg base (L2.CX P w) 3 "need_marks" ["thing"] (spMarks K CN) := by
  obtain ⟨fI, fd, G⟩ := Z.name
  have GI : FnOk P w K mg base CX0 1 fI fd ["self", "value"] (spInit CN "value") := ok_iN Z.sup G
  refine D.okX scMarks (fun vs H Q E h => ?_) (fun f cdv A outer s H vs Q E hr h => ?_)
  · obtain ⟨v, d, rfl, _⟩ := h
    rfl
  · obtain ⟨v, d, rfl, hd, hf, k1, k2⟩ := h
    refine ⟨_, pss_one (ps_if (pt_not (pt_val (pe_fn GA hr pass0 (pa_cons (pv 0) (pa_cons pe_int (pa_cons pe_int pa_nil))))))
      (pss_one (ps_raise rfl (takes_of rfl rfl rfl rfl) (pmk_oex G.err.oex G.err.iC G.err.tI GI hr G.bi .nil pass0 rfl G.err.gC (pa_cons (pv 0) pa_nil)))) pss_nil), ?_⟩
    refine ⟨v, rfl, v, d, 1, 4, rfl, hd, hf, fun H1 s1 => ⟨_, rfl, ?_⟩⟩
    cases e : areNames d 1 4 with
    | true => exact iteF (k1 e H1 s1)
    | false => exact iteT ⟨v, rfl, raise_ok (k2 e H1 s1)⟩
theorem scNumber : FnScope ["thing", "least", "most"] ["thing", "least", "most"] (defScope (top 15)) := ⟨rfl, rfl, rfl, by decide +kernel, rfl, by decide +kernel, by decide +kernel⟩
theorem ok_number (D : Def K mg "need_number" (top 15) ["thing", "least", "most"]) (Z : Errs K mg S CN CM CS) (GB : Fn P w K mg base CX0 2 "is_between" ["thing", "least", "most"] (spBetween K)) :
    Fn P w K mg base (L2.CX P w) 3 "need_number" ["thing", "least", "most"] (spNumber K CM) := by
  obtain ⟨fI, fd, G⟩ := Z.number
  have GI : FnOk P w K mg base CX0 1 fI fd ["self", "value"] (spInit CM "value") := ok_iM Z.sup G
  refine D.okX scNumber (fun vs H Q E h => ?_) (fun f cdv A outer s H vs Q E hr h => ?_)
  · obtain ⟨v, d, lo, hi, rfl, _⟩ := h
    rfl
  · obtain ⟨v, d, lo, hi, rfl, hd, k1, k2⟩ := h
    refine ⟨_, pss_one (ps_if (pt_not (pt_val (pe_fn GB hr pass0 (pa_cons (pv 0) (pa_cons (pv 1) (pa_cons (pv 2) pa_nil))))))
      (pss_one (ps_raise rfl (takes_of rfl rfl rfl rfl) (pmk_oex G.err.oex G.err.iC G.err.tI GI hr G.bi .nil pass0 rfl G.err.gC (pa_cons (pv 0) pa_nil)))) pss_nil), ?_⟩
    refine ⟨v, rfl, _, rfl, _, rfl, v, d, lo, hi, rfl, hd, _, rfl, ?_⟩
    cases e : isBetween d lo hi with
    | true => exact iteF (k1 e)
    | false => exact iteT ⟨v, rfl, raise_ok (k2 e)⟩
end
/-! ### look_at_state -/
def markIn (ms : List Str) : PyData → Bool
  | .tuple [_, .str s, _] => decide (s ∈ ms)
  | _ => false
def addrOf : PyData → Int
  | .tuple [.int a, _, _] => a
  | _ => 0
def lookAt (ms : List Str) (n : Int) (d : PyData) : Option Str := if hasForm d = true then (match d with
    | .tuple [.tuple cs, .tuple vs] => if (cs.all (markIn ms) && asc (cs.map addrOf)) = true then (if (vs.length : Int) = n then none else some "values") else some "heap"
    | _ => none) else some "form"
def spLook (K : PySem.W.Frag) (CS : Addr) : Sp := fun vs H Q E => ∃ vm n v ms d, vs = [vm, .int n, v] ∧ Dp K H vm (.tuple (ms.map PyData.str)) ∧ Dp K H v d ∧ (∀ a ds, d = .tuple [a, .tuple ds] → ds.length ≤ 1000) ∧
  (lookAt ms n d = none → ∀ H', Same H H' → Q .non H') ∧ (∀ z, lookAt ms n d = some z → ∀ H1, Same H H1 → Raised CS "place" (.str z) H1 E)
theorem between_inv {d : PyData} {lo hi : Int} (h : isBetween d lo hi = true) : ∃ i, d = .int i ∧ lo ≤ i ∧ i ≤ hi := by
  cases d with
  | int i => exact ⟨i, rfl, of_decide_eq_true (show decide (lo ≤ i ∧ i ≤ hi) = true from h)⟩
  | _ => cases h
theorem isCell_inv {d : PyData} (h : isCell d = true) : ∃ a s c, d = .tuple [.int a, .str s, .int c] ∧ 1 ≤ a ∧ a ≤ 999 ∧ 0 ≤ c ∧ c ≤ 999 := by
  unfold isCell at h
  split at h
  · rename_i a b c
    rw [Bool.and_eq_true, Bool.and_eq_true] at h
    obtain ⟨h1, h2, h3⟩ := h
    obtain ⟨i, rfl, p1, p2⟩ := between_inv h2
    obtain ⟨j, rfl, q1, q2⟩ := between_inv h3
    cases b with
    | str s => exact ⟨i, s, j, rfl, p1, p2, q1, q2⟩
    | _ => cases h1
  · cases h
theorem hasForm_inv {d : PyData} (h : hasForm d = true) : ∃ cs vs, d = .tuple [.tuple cs, .tuple vs] ∧ cs.length ≤ 300 ∧ (∀ c ∈ cs, isCell c = true) ∧ ∀ v ∈ vs, isBetween v 0 999 = true := by
  unfold hasForm at h
  split at h
  · rename_i cs vs
    rw [Bool.and_eq_true, Bool.and_eq_true] at h
    obtain ⟨h1, h2, h3⟩ := h
    exact ⟨cs, vs, rfl, of_decide_eq_true h1, List.all_eq_true.mp h2, List.all_eq_true.mp h3⟩
  · cases h
theorem inV_strs (z : Str) (ms : List Str) : inV (.str z) (ms.map V.str) = decide (z ∈ ms) := by
  unfold inV
  rw [List.any_map]
  induction ms with
  | nil => simp
  | cons m ms ih =>
    rw [List.any_cons, ih]
    show ((m == z) || _) = _
    by_cases e : z = m
    · subst e; simp
    · have e' : (m == z) = false := by simpa using fun q : m = z => e q.symm
      simp [e, e']
section
variable {P : Program} {w : World} {K : PySem.W.Frag} {mg : Str → Option Value} {base : Heap} {S CN CM CS : Addr}
/-- [f(x) for x in t] of a tuple of data, f a value that keeps the heap -/
theorem lc_tupV {a : Addr} {ds : List PyData} {xs : List V} {k : Nat} {te : TE} {σ : L2.St} {H1 : Hp} {D : Addr} {Qd : Hp → Prop} (p : PyData → V) (hD : H1 D = none) (hT : SqT K H1 a xs) (hA : DpAll K H1 xs ds) (hz : ds.length ≤ 1000)
    (hs : ∀ x d H, x ∈ xs → d ∈ ds → Same H1 H → Dp K H x d → ∀ Q' : VK, (∀ H4, Same H H4 → Q' (p d) H4) → te ((wipe σ [k]).set k (some x)) H Q') (hd : ∀ H, Same H1 H → H D = some (.lst (ds.map p)) → Qd H) :
    ∃ W : Nat → Nat → Hp → Prop, (∃ m, W 0 m (upd H1 D (.lst []))) ∧ ∀ i m H, W i m H →
      ((Itt K a).stop i H ∧ Qd H) ∨ ((Itt K a).go i H ∧ ∃ Nx : Hp → Prop, (∀ H', Nx H' → ∃ m', m' < m ∧ W (i + 1) m' H') ∧ ∀ x H', (Itt K a).yld i H x H' → gName k x (wipe σ [k]) H' fun σ2 H2 => wipe σ2 [k] = wipe σ [k] ∧ tYes σ2 H2 fun b H3 =>
        if b = true then te σ2 H3 fun y H4 => ∃ acc, H4 D = some (.lst acc) ∧ acc.length < sizeLine ∧ Nx (upd H4 D (.lst (acc ++ [y]))) else Nx H3) := by
  have el := DpAll.len hA
  refine lc_pure walk_tup (fun i => match ds[i]? with | some d => p d | none => .non) (Nat.le_of_lt (small1000 (by omega))) hD (fun H s => Same.sqt s hT) (fun i H x H2 _ y => by rw [y.1]; exact Same.refl _) ?_ ?_
  · rintro i x H H2 hi s1 ⟨rfl, hx⟩ Q' k'
    obtain ⟨d, hd1, hd2⟩ := DpAll.get' hA hx
    rw [hd1] at k'
    exact hs x d H2 (List.mem_of_getElem? hx) (List.mem_of_getElem? hd1) s1 (dp_mono s1 _ _ hd2) Q' k'
  · intro H s1 h1
    refine hd H s1 ?_
    rw [h1, el]
    rw [range_get ds _ p fun i a e => by rw [e]]
theorem scLook : FnScope ["marks", "many", "state", "cell"] ["marks", "many", "state"] (defScope (top 23)) := ⟨rfl, rfl, rfl, by decide +kernel, rfl, by decide +kernel, by decide +kernel⟩
theorem ok_look (D : Def K mg "look_at_state" (top 23) ["marks", "many", "state"]) (T : Txt mg) (Z : Errs K mg S CN CM CS) (GF : Fn P w K mg base CX0 4 "has_state_form" ["thing"] (spForm K)) (GA : Fn P w K mg base CX0 1 "are_ascending" ["numbers"] (spAsc K)) :
    Fn P w K mg base (L2.CX P w) 5 "look_at_state" ["marks", "many", "state"] (spLook K CS) := by
  obtain ⟨fI, fd, G⟩ := Z.state
  have GI : FnOk P w K mg base CX0 1 fI fd ["self", "place"] (spInit CS "place") := ok_iS Z.sup G
  refine D.okX scLook (fun vs H Q E h => ?_) (fun f cdv A outer s H vs Q E hr h => ?_)
  · obtain ⟨vm, n, v, ms, d, rfl, _⟩ := h
    rfl
  · obtain ⟨vm, n, v, ms, d, rfl, hm, hd, hz, k1, k2⟩ := h
    have hr2 : Room 2 (cxOf (L2.CX P w) P w K mg base ["marks", "many", "state", "cell"] "look_at_state" (defScope (top 23)) f cdv A outer s H E).A := hr.mono (by decide)
    have hr1 : Room 1 (cxOf (L2.CX P w) P w K mg base ["marks", "many", "state", "cell"] "look_at_state" (defScope (top 23)) f cdv A outer s H E).A := hr.mono (by decide)
    refine ⟨_, pss_cons (ps_if (pt_not (pt_val (pe_fn GF hr pass0 (pa_cons (pv 2) pa_nil))))
        (pss_one (ps_raise rfl (takes_of rfl rfl rfl rfl) (pmk_oex G.err.oex G.err.iC G.err.tI GI hr2 G.bi .nil pass0 rfl G.err.gC (pa_cons pe_str pa_nil)))) pss_nil)
      (pss_cons (ps_if (PW.pt (pw_or (pt_not (pt_val (pe_callB (cr_all rfl) (by rfl) T.all (by decide +kernel) (pa_cons
          (pe_lc (own := [("cell", 3)]) (g := gName 3) (tt := tYes) rfl scLook.nd (pi_tup (pe_ix (r := rIxT K) ix_tup (pv 2) pe_int (fun _ _ => rfl))) (blkOk_by (N := ["marks", "many", "state", "cell"]) (sc := defScope (top 23)) (by decide +kernel))
            (fun _ _ _ _ _ => pg_name (i := 3) scLook.nd rfl (Or.inl rfl)) (fun _ _ _ _ _ => pts_nil)
            (fun _ _ _ _ _ => pe_cmpR (r := rIn K false) op_in_seq (pe_ix (r := rIxT K) ix_tup (pv 3) pe_int (fun _ _ => rfl)) (pv 0) (by rfl))) pa_nil))))
          (pw_or1 (pt_not (pt_val (pe_fn GA hr1 pass0 (pa_cons
            (pe_lc (own := [("cell", 3)]) (g := gName 3) (tt := tYes) rfl scLook.nd (pi_tup (pe_ix (r := rIxT K) ix_tup (pv 2) pe_int (fun _ _ => rfl))) (blkOk_by (N := ["marks", "many", "state", "cell"]) (sc := defScope (top 23)) (by decide +kernel))
              (fun _ _ _ _ _ => pg_name (i := 3) scLook.nd rfl (Or.inl rfl)) (fun _ _ _ _ _ => pts_nil)
              (fun _ _ _ _ _ => pe_ix (r := rIxT K) ix_tup (pv 3) pe_int (fun _ _ => rfl))) pa_nil)))))))
        (pss_one (ps_raise rfl (takes_of rfl rfl rfl rfl) (pmk_oex G.err.oex G.err.iC G.err.tI GI hr2 G.bi .nil pass0 rfl G.err.gC (pa_cons pe_str pa_nil)))) pss_nil)
      (pss_one (ps_if (pt_cmpR op_ne (pe_callB call_len_seq (by rfl) T.len PySem.boot_len (pa_cons (pe_ix (r := rIxT K) ix_tup (pv 2) pe_int (fun _ _ => rfl)) pa_nil)) (pv 1) (nomark _))
        (pss_one (ps_raise rfl (takes_of rfl rfl rfl rfl) (pmk_oex G.err.oex G.err.iC G.err.tI GI hr2 G.bi .nil pass0 rfl G.err.gC (pa_cons pe_str pa_nil)))) pss_nil))), ?_⟩
    refine ⟨v, rfl, v, d, rfl, hd, hz, fun H1 s1 => ⟨_, rfl, ?_⟩⟩
    cases hfm : hasForm d with
    | false =>
      refine iteT (raise_ok (k2 "form" ?_ H1 s1))
      unfold lookAt
      rw [hfm]
      rfl
    | true =>
    refine iteF ?_
    obtain ⟨cs, vs, rfl, hc3, hcs, hvs⟩ := hasForm_inv hfm
    have el : lookAt ms n (.tuple [.tuple cs, .tuple vs]) = if (cs.all (markIn ms) && asc (cs.map addrOf)) = true then (if (vs.length : Int) = n then none else some ("values" : Str)) else some ("heap" : Str) := by
      unfold lookAt
      rw [hfm]
      rfl
    obtain ⟨p, xs, rfl, hs, ha⟩ := Dp.tuple_inv (dp_mono s1 _ _ hd)
    obtain ⟨x0, e0, d0⟩ := DpAll.get (i := 0) ha rfl
    obtain ⟨x1, e1, d1⟩ := DpAll.get (i := 1) ha rfl
    obtain ⟨p0, ys, rfl, hs0, ha0⟩ := Dp.tuple_inv d0
    obtain ⟨p1, zs, rfl, hs1, ha1⟩ := Dp.tuple_inv d1
    obtain ⟨pm, ws, rfl, hsm, ham⟩ := Dp.tuple_inv (dp_mono s1 _ _ hm)
    obtain rfl := dpAll_strs_inv ham
    refine ⟨_, rfl, p, xs, _, _, rfl, rfl, hs, at_of (j := 0) rfl e0, p0, rfl, ⟨_, hs0⟩, fun D hD => ?_⟩
    refine lc_tupB (markIn ms) hD hs0 ha0 (by omega) ?_ ?_
    · intro x d H2 _ hdm s2 hd2 Q' k'
      obtain ⟨a, z, c, rfl, _⟩ := isCell_inv (hcs d hdm)
      obtain ⟨q, us, rfl, hq, hqa⟩ := Dp.tuple_inv hd2
      obtain ⟨u1, f1, g1⟩ := DpAll.get (i := 1) hqa rfl
      obtain rfl := Dp.str_inv g1
      refine ⟨_, rfl, q, us, _, _, rfl, rfl, hq, at_of (j := 1) rfl f1, _, rfl, pm, _, rfl, .inr (Same.sqt s2 hsm), rfl, ?_, ?_⟩
      · rw [List.all_map]
        exact List.all_eq_true.mpr fun _ _ => rfl
      · show Q' (.bl (inV (.str z) (ms.map V.str))) H2
        rw [inV_strs]
        exact k' H2 (Same.refl _)
    · intro H2 s2 h2
      refine ⟨D, cs.map (markIn ms), rfl, SqL.of h2, _, rfl, ?_⟩
      rw [all_map]
      cases hmk : cs.all (markIn ms) with
      | false =>
        refine iteT (raise_ok (k2 "heap" ?_ H2 (s1.trans s2)))
        rw [el, hmk]
        rfl
      | true =>
      refine iteF ?_
      refine ⟨_, rfl, p, xs, _, _, rfl, rfl, Same.sqt s2 hs, at_of (j := 0) rfl e0, p0, rfl, ⟨_, Same.sqt s2 hs0⟩, fun D2 hD2 => ?_⟩
      refine lc_tupV (fun d => .int (addrOf d)) hD2 (Same.sqt s2 hs0) (dpAll_mono s2 _ _ ha0) (by omega) ?_ ?_
      · intro x d H3 _ hdm s3 hd2 Q' k'
        obtain ⟨a, z, c, rfl, _⟩ := isCell_inv (hcs d hdm)
        obtain ⟨q, us, rfl, hq, hqa⟩ := Dp.tuple_inv hd2
        obtain ⟨u1, f1, g1⟩ := DpAll.get (i := 0) hqa rfl
        obtain rfl := Dp.int_inv g1
        exact ⟨_, rfl, q, us, _, _, rfl, rfl, hq, at_of (j := 0) rfl f1, k' H3 (Same.refl _)⟩
      · intro H3 s3 h3
        have s13 := (s1.trans s2).trans s3
        refine ⟨D2, cs.map addrOf, rfl, SqL.of (by rw [h3, List.map_map]; rfl), by rw [List.length_map]; omega, fun H4 s4 => ⟨_, rfl, ?_⟩⟩
        cases hasc : asc (cs.map addrOf) with
        | false =>
          refine iteT (raise_ok (k2 "heap" ?_ H4 (s13.trans s4)))
          rw [el, hmk, hasc]
          rfl
        | true =>
        refine iteF ?_
        have s24 := (s2.trans s3).trans s4
        refine ⟨_, rfl, p, xs, _, _, rfl, rfl, Same.sqt s24 hs, at_of (j := 1) rfl e1, p1, _, rfl, .inr (Same.sqt s24 hs1), _, rfl, rfl, _, rfl, ?_⟩
        have ez : zs.length = vs.length := DpAll.len ha1
        rw [hmk, hasc] at el
        by_cases hn : (vs.length : Int) = n
        · have q : decide (V.int ((zs.length : Nat) : Int) = V.int n) = true := decide_eq_true (by rw [ez, hn])
          show if (!decide (V.int ((zs.length : Nat) : Int) = V.int n)) = true then _ else _
          rw [q]
          refine iteF (k1 ?_ H4 (s13.trans s4))
          rw [el]
          show (if (vs.length : Int) = n then none else some ("values" : Str)) = _
          rw [if_pos hn]
        · have q : decide (V.int ((zs.length : Nat) : Int) = V.int n) = false := decide_eq_false fun z => hn (by rw [← ez]; exact V.int.inj z)
          show if (!decide (V.int ((zs.length : Nat) : Int) = V.int n)) = true then _ else _
          rw [q]
          refine iteT (raise_ok (k2 "values" ?_ H4 (s13.trans s4)))
          rw [el]
          show (if (vs.length : Int) = n then none else some ("values" : Str)) = _
          rw [if_neg hn]
end
end Hs
namespace Hs
open PySem PySem.Spec PyProof.Rows L2
/-! ### need_state -/
inductive Ref where
  | name | number | state (z : Str)
def numOf : PyData → Int
  | .int i => i
  | _ => 0
def strsOf : PyData → List Str
  | .tuple xs => xs.map strOf
  | _ => []
def refusal (dm dn ds : PyData) : Option Ref :=
  if areNames dm 1 4 = true then (if isBetween dn 1 5 = true then (lookAt (strsOf dm) (numOf dn) ds).map Ref.state else some .number) else some .name
/-- the end of a call that looks at a state: v, or the error that is due -/
def EndR (CN CM CS : Addr) (vm vn : V) (r : Option Ref) (H : Hp) (go : Prop) (E : XK) : Prop := match r with
  | none => go
  | some .name => Raised CN "value" vm H E
  | some .number => Raised CM "value" vn H E
  | some (.state z) => Raised CS "place" (.str z) H E
def SizeOk (d : PyData) : Prop := ∀ a ds, d = .tuple [a, .tuple ds] → ds.length ≤ 1000
def spNeed (K : PySem.W.Frag) (CN CM CS : Addr) : Sp := fun vs H Q E => ∃ vm vn v dm dn d, vs = [vm, vn, v] ∧ Dp K H vm dm ∧ Dp K H vn dn ∧ Dp K H v d ∧ Fits dm ∧ SizeOk d ∧
  ∀ H', Same H H' → EndR CN CM CS vm vn (refusal dm dn d) H' (Q .non H') E
theorem Raised.mono {C : Addr} {f : Str} {v : V} {H H' : Hp} {E : XK} (h : Raised C f v H E) (s : Same H H') : Raised C f v H' E := fun d H2 s2 e => h d H2 (s.trans s2) e
theorem areNames_inv {d : PyData} {lo hi : Int} (h : areNames d lo hi = true) : ∃ zs : List Str, d = .tuple (zs.map PyData.str) ∧ lo ≤ (zs.length : Int) ∧ (zs.length : Int) ≤ hi ∧ (∀ z ∈ zs, isNameS z = true) ∧ zs.Nodup := by
  cases d with
  | tuple xs =>
    have h' : (decide (lo ≤ (xs.length : Int) ∧ (xs.length : Int) ≤ hi) && (xs.all isName && decide ((xs.map strOf).Nodup))) = true := h
    rw [Bool.and_eq_true, Bool.and_eq_true] at h'
    obtain ⟨h1, h2, h3⟩ := h'
    have e := names_strs h2
    have q := of_decide_eq_true h1
    refine ⟨xs.map strOf, by rw [← e], by rw [List.length_map]; exact q.1, by rw [List.length_map]; exact q.2, fun z hz => ?_, of_decide_eq_true h3⟩
    rw [e] at h2
    rw [List.all_map] at h2
    exact List.all_eq_true.mp h2 z hz
  | _ => cases h
theorem strsOf_strs (zs : List Str) : strsOf (.tuple (zs.map PyData.str)) = zs := by
  show (zs.map PyData.str).map strOf = zs
  rw [List.map_map]
  exact List.map_id' zs
section
variable {P : Program} {w : World} {K : PySem.W.Frag} {mg : Str → Option Value} {base : Heap} {S CN CM CS : Addr}
theorem scNeed : FnScope ["marks", "many", "state"] ["marks", "many", "state"] (defScope (top 24)) := ⟨rfl, rfl, rfl, by decide +kernel, rfl, by decide +kernel, by decide +kernel⟩
theorem ok_need (D : Def K mg "need_state" (top 24) ["marks", "many", "state"]) (T : Txt mg) (GM : Fn P w K mg base (L2.CX P w) 3 "need_marks" ["thing"] (spMarks K CN)) (GN : Fn P w K mg base (L2.CX P w) 3 "need_number" ["thing", "least", "most"] (spNumber K CM))
    (GL : Fn P w K mg base (L2.CX P w) 5 "look_at_state" ["marks", "many", "state"] (spLook K CS)) : Fn P w K mg base (L2.CX P w) 6 "need_state" ["marks", "many", "state"] (spNeed K CN CM CS) := by
  refine D.okX scNeed (fun vs H Q E h => ?_) (fun f cdv A outer s H vs Q E hr h => ?_)
  · obtain ⟨vm, vn, v, dm, dn, d, rfl, _⟩ := h
    rfl
  · obtain ⟨vm, vn, v, dm, dn, d, rfl, hm, hn, hd, hf, hz, k⟩ := h
    refine ⟨_, pss_cons (ps_expr (pe_fn GM (hr.mono (by decide)) (E := E) (passes_call (takes_of rfl rfl rfl rfl) (fun _ _ _ _ h => h)) (pa_cons (pv 0) pa_nil)))
      (pss_cons (ps_expr (pe_fn GN (hr.mono (by decide)) (E := E) (passes_call (takes_of rfl rfl rfl rfl) (fun _ _ _ _ h => h)) (pa_cons (pv 1) (pa_cons pe_int (pa_cons (pe_gint T.vars) pa_nil)))))
      (pss_one (ps_expr (pe_fn GL hr (E := E) (passes_call (takes_of rfl rfl rfl rfl) (fun _ _ _ _ h => h)) (pa_cons (pv 0) (pa_cons (pv 1) (pa_cons (pv 2) pa_nil))))))), ?_⟩
    refine ⟨vm, rfl, vm, dm, rfl, hm, hf, fun e H1 s1 => ?_, fun e H1 s1 => ?_⟩
    case refine_2 =>
      have q := k H1 s1
      unfold refusal at q
      rw [e] at q
      exact q
    have er : refusal dm dn d = if isBetween dn 1 5 = true then (lookAt (strsOf dm) (numOf dn) d).map Ref.state else some .number := by
      unfold refusal
      rw [if_pos e]
    refine ⟨vn, rfl, vn, dn, 1, 5, rfl, dp_mono s1 _ _ hn, fun e2 => ?_, fun e2 => ?_⟩
    case refine_2 =>
      have q := k H1 s1
      rw [er, e2] at q
      exact q
    rw [if_pos e2] at er
    obtain ⟨zs, rfl, _, hz4, _⟩ := areNames_inv e
    obtain ⟨i, rfl, _⟩ := between_inv e2
    obtain rfl := Dp.int_inv hn
    refine ⟨vm, rfl, _, rfl, v, rfl, vm, i, v, zs, d, rfl, dp_mono s1 _ _ hm, dp_mono s1 _ _ hd, hz, fun e3 H2 s2 => ?_, fun z e3 H2 s2 => ?_⟩
    · have q := k H2 (s1.trans s2)
      rw [er, strsOf_strs] at q
      have q' : EndR CN CM CS vm (.int i) ((lookAt zs i d).map Ref.state) H2 (Q .non H2) E := q
      rw [e3] at q'
      exact q'
    · have q := k H2 (s1.trans s2)
      rw [er, strsOf_strs] at q
      have q' : EndR CN CM CS vm (.int i) ((lookAt zs i d).map Ref.state) H2 (Q .non H2) E := q
      rw [e3] at q'
      exact q'
end
end Hs
/-! H1: cells in a dict, the places on paths: the mathematics, and a dict comprehension. -/
namespace Hs
open PySem PySem.Spec PyProof.Rows L2
abbrev Cell := Int × Str × Int
def cellD (c : Cell) : PyData := .tuple [.int c.1, .str c.2.1, .int c.2.2]
def stD (cs : List Cell) (vs : List Int) : PyData := .tuple [.tuple (cs.map cellD), .tuple (vs.map PyData.int)]
def findC (cs : List Cell) (a : Int) : Option (Str × Int) := (cs.find? fun c => decide (c.1 = a)).map (·.2)
theorem findC_nil (a : Int) : findC [] a = none := rfl
theorem findC_cons (c : Cell) (cs : List Cell) (a : Int) : findC (c :: cs) a = if c.1 = a then some c.2 else findC cs a := by
  unfold findC
  rw [List.find?_cons]
  by_cases h : c.1 = a <;> simp [h]
theorem findC_some {cs : List Cell} {a : Int} {r : Str × Int} (h : findC cs a = some r) : (a, r.1, r.2) ∈ cs := by
  induction cs with
  | nil => cases h
  | cons c cs ih =>
    rw [findC_cons] at h
    by_cases e : c.1 = a
    · rw [if_pos e] at h
      cases h
      obtain ⟨x, y, z⟩ := c
      cases e
      exact List.mem_cons_self
    · rw [if_neg e] at h
      exact List.mem_cons_of_mem _ (ih h)
theorem findC_mem {cs : List Cell} {a : Int} (h : a ∈ cs.map (·.1)) : ∃ r, findC cs a = some r := by
  induction cs with
  | nil => cases h
  | cons c cs ih =>
    rw [findC_cons]
    by_cases e : c.1 = a
    · exact ⟨_, if_pos e⟩
    · rw [if_neg e]
      rw [List.map_cons, List.mem_cons] at h
      exact ih (h.resolve_left fun q => e q.symm)
/-- the dict at a holds the cells -/
def KvOf (H : Hp) (kv : Key × V) (c : Cell) : Prop := kv.1 = .inl c.1 ∧ ∃ t, kv.2 = .ref t ∧ H t = some (.tup [.str c.2.1, .int c.2.2])
def CellsAt (H : Hp) (a : Addr) (cs : List Cell) : Prop := ∃ kvs, H a = some (.dK kvs) ∧ Paired (KvOf H) kvs cs
theorem KvOf.mono {H H' : Hp} (s : Same H H') {kv : Key × V} {c : Cell} (h : KvOf H kv c) : KvOf H' kv c := by
  obtain ⟨e, t, e2, ht⟩ := h
  exact ⟨e, t, e2, s _ _ ht⟩
theorem CellsAt.mono {H H' : Hp} (s : Same H H') {a : Addr} {cs : List Cell} (h : CellsAt H a cs) : CellsAt H' a cs := by
  obtain ⟨kvs, e, p⟩ := h
  exact ⟨kvs, s _ _ e, Paired.mapP p fun _ _ q => q.mono s⟩
theorem kv_get {H : Hp} : ∀ {kvs : List (Key × V)} {cs : List Cell}, Paired (KvOf H) kvs cs → ∀ a : Int, (findC cs a = none → valV kvs (.inl a) = none) ∧ (∀ m n, findC cs a = some (m, n) → ∃ t, valV kvs (.inl a) = some (.ref t) ∧ H t = some (.tup [.str m, .int n]))
  | [], [], .nil, a => ⟨fun _ => rfl, fun _ _ h => by cases h⟩
  | kv :: kvs, c :: cs, .cons h r, a => by
    obtain ⟨e, t, e2, ht⟩ := h
    have ih := kv_get r a
    rw [findC_cons]
    by_cases q : c.1 = a
    · rw [if_pos q, valV_pos (by rw [e, q])]
      refine ⟨fun z => (nomatch z), fun m n z => ?_⟩
      have z' : c.2 = (m, n) := Option.some.inj z
      rw [z'] at ht
      exact ⟨t, by rw [e2], ht⟩
    · rw [if_neg q, valV_neg (by rw [e]; intro z; exact q (Sum.inl.inj z))]
      exact ih
theorem CellsAt.get {H : Hp} {p : Addr} {cs : List Cell} (h : CellsAt H p cs) (a : Int) : (findC cs a = none → DGet H p (.int a) none) ∧ (∀ m n, findC cs a = some (m, n) → ∃ t, DGet H p (.int a) (some (.ref t)) ∧ H t = some (.tup [.str m, .int n])) := by
  obtain ⟨kvs, e, r⟩ := h
  obtain ⟨h1, h2⟩ := kv_get r a
  refine ⟨fun z => ?_, fun m n z => ?_⟩
  · rw [← h1 z]
    exact DGet.k (k := .inl a) e
  · obtain ⟨t, q, ht⟩ := h2 m n z
    refine ⟨t, ?_, ht⟩
    rw [← q]
    exact DGet.k (k := .inl a) e
/-- a new key goes to the end -/
theorem putK_new {kvs : List (Key × V)} {k : Key} {v : V} (h : k ∉ kvs.map (·.1)) : putK kvs k v = kvs ++ [(k, v)] := by
  unfold putK
  rw [if_neg]
  intro z
  obtain ⟨kv, hm, e⟩ := List.any_eq_true.mp z
  exact h (List.mem_map.mpr ⟨kv, hm, of_decide_eq_true e⟩)
theorem kv_keys {H : Hp} : ∀ {kvs : List (Key × V)} {cs : List Cell}, Paired (KvOf H) kvs cs → kvs.map (·.1) = cs.map fun c => Sum.inl c.1
  | [], [], .nil => rfl
  | _ :: _, _ :: _, .cons h r => by rw [List.map_cons, List.map_cons, kv_keys r, h.1]
theorem Paired.snoc {α β : Type} {R : α → β → Prop} : ∀ {l : List α} {m : List β} {a : α} {b : β}, Paired R l m → R a b → Paired R (l ++ [a]) (m ++ [b])
  | [], [], _, _, .nil, h => .cons h .nil
  | _ :: _, _ :: _, _, _, .cons h r, q => .cons h (Paired.snoc r q)
/-! ### a dict comprehension by turns -/
theorem dc_it {J : It} {n : Nat} {G : Hp → Prop} {Y : Nat → Hp → V → Hp → Prop} (w : Walk J n G Y) {g : TG} {tt : TT} {tk tv : TE} {vs : List Nat} {σ : L2.St} {H1 : Hp} {D : Addr} {Qd : Hp → Prop} (Pv : Nat → Hp → Prop) (h0 : Pv 0 (upd H1 D (.dK []))) (hG : ∀ i H, i ≤ n → Pv i H → G H)
    (hs : ∀ i x H H', i < n → Pv i H → Y i H x H' → g x (wipe σ vs) H' fun σ2 H2 => wipe σ2 vs = wipe σ vs ∧ tt σ2 H2 fun b H3 =>
      if b = true then tk σ2 H3 fun y H4 => tv σ2 H4 fun z H5 => ∃ kvs k, y = kV k ∧ H5 D = some (.dK kvs) ∧ kvs.length < sizeLine ∧ Pv (i + 1) (upd H5 D (.dK (putK kvs k z))) else Pv (i + 1) H3) (hd : ∀ H, Pv n H → Qd H) :
    ∃ W : Nat → Nat → Hp → Prop, (∃ m, W 0 m (upd H1 D (.dK []))) ∧ ∀ i m H, W i m H →
      (J.stop i H ∧ Qd H) ∨ (J.go i H ∧ ∃ Nx : Hp → Prop, (∀ H', Nx H' → ∃ m', m' < m ∧ W (i + 1) m' H') ∧ ∀ x H', J.yld i H x H' → g x (wipe σ vs) H' fun σ2 H2 => wipe σ2 vs = wipe σ vs ∧ tt σ2 H2 fun b H3 =>
        if b = true then tk σ2 H3 fun y H4 => tv σ2 H4 fun z H5 => ∃ kvs k, y = kV k ∧ H5 D = some (.dK kvs) ∧ kvs.length < sizeLine ∧ Nx (upd H5 D (.dK (putK kvs k z))) else Nx H3) := by
  refine ⟨fun i m H => m + i = n ∧ Pv i H, ⟨n, by omega, h0⟩, ?_⟩
  intro i m H ⟨hm, p⟩
  have q := hG i H (by omega) p
  rcases Nat.lt_or_ge i n with lt | ge
  · exact .inr ⟨w.goes i H lt q, Pv (i + 1), fun H' p' => ⟨m - 1, by omega, by omega, p'⟩, fun x H' y => hs i x H H' lt p (w.yields i H x H' lt q y)⟩
  · obtain rfl : i = n := by omega
    exact .inl ⟨w.stops H q, hd H p⟩
/-! ### the places on the paths -/
def nextOf (cs : List Cell) (a : Int) : Int := match findC cs a with
  | some (_, n) => n
  | none => 0
def follow (cs : List Cell) : Nat → Int → List Int → List Int
  | 0, _, seen => seen
  | n + 1, here, seen => if here = 0 ∨ here ∈ seen then seen else follow cs n (nextOf cs here) (seen ++ [here])
/-- the places that come, value by value -/
def comingL (cs : List Cell) (vs : List Int) : List Int := vs.foldl (fun seen v => follow cs (1000 - seen.length) v seen) []
/-- a list of places: within bounds, each once -/
def Places (l : List Int) : Prop := l.Nodup ∧ ∀ x ∈ l, 1 ≤ x ∧ x ≤ 999
theorem nodup_sub {α : Type} [DecidableEq α] : ∀ (l D : List α), l.Nodup → (∀ x ∈ l, x ∈ D) → l.length ≤ D.length
  | [], _, _, _ => Nat.zero_le _
  | a :: l, D, h, hs => by
    have hd := hs a List.mem_cons_self
    have h2 := List.nodup_cons.mp h
    have ih := nodup_sub l (D.erase a) h2.2 fun x hx => (List.mem_erase_of_ne fun e => h2.1 (by rw [← e]; exact hx)).mpr (hs x (List.mem_cons_of_mem _ hx))
    rw [List.length_erase_of_mem hd] at ih
    have : 0 < D.length := List.length_pos_of_mem hd
    rw [List.length_cons]
    omega
theorem Places.len {l : List Int} (h : Places l) : l.length ≤ 999 := by
  have q := nodup_sub l ((List.range 999).map fun i => ((i : Nat) : Int) + 1) h.1 fun x hx => by
    obtain ⟨h1, h2⟩ := h.2 x hx
    exact List.mem_map.mpr ⟨(x - 1).toNat, List.mem_range.mpr (by omega), by omega⟩
  rw [List.length_map, List.length_range] at q
  exact q
theorem Places.snoc {l : List Int} {x : Int} (h : Places l) (hx : x ∉ l) (h1 : 1 ≤ x) (h2 : x ≤ 999) : Places (l ++ [x]) := by
  refine ⟨?_, fun y hy => ?_⟩
  · rw [List.nodup_append]
    refine ⟨h.1, by simp, fun a ha b hb => ?_⟩
    rw [List.mem_singleton] at hb
    subst hb
    intro e
    exact hx (by rw [← e]; exact ha)
  · rcases List.mem_append.mp hy with q | q
    · exact h.2 y q
    · rw [List.mem_singleton] at q
      subst q
      exact ⟨h1, h2⟩
/-- the cells lead to places within bounds -/
def Leads (cs : List Cell) : Prop := ∀ c ∈ cs, 0 ≤ c.2.2 ∧ c.2.2 ≤ 999
theorem Leads.next {cs : List Cell} (h : Leads cs) (a : Int) : 0 ≤ nextOf cs a ∧ nextOf cs a ≤ 999 := by
  unfold nextOf
  cases e : findC cs a with
  | none => exact ⟨by decide, by decide⟩
  | some r =>
    obtain ⟨m, n⟩ := r
    exact h _ (findC_some e)
/-- what a walk leaves: all within bounds; what came stays; the start is in (or nil); closed but for what came before -/
theorem follow_ok {cs : List Cell} (h : Leads cs) : ∀ (n : Nat) (here : Int) (seen : List Int), seen.length + n = 1000 → Places seen → 0 ≤ here → here ≤ 999 →
    Places (follow cs n here seen) ∧ (∀ x ∈ seen, x ∈ follow cs n here seen) ∧ (here = 0 ∨ here ∈ follow cs n here seen) ∧
      ((∀ x ∈ seen, nextOf cs x = 0 ∨ nextOf cs x ∈ seen ∨ nextOf cs x = here) → ∀ x ∈ follow cs n here seen, nextOf cs x = 0 ∨ nextOf cs x ∈ follow cs n here seen)
  | 0, here, seen, hl, hp, _, _ => by
    have := hp.len
    omega
  | n + 1, here, seen, hl, hp, h0, h9 => by
    unfold follow
    by_cases c : here = 0 ∨ here ∈ seen
    · rw [if_pos c]
      refine ⟨hp, fun _ x => x, c, fun q x hx => ?_⟩
      rcases q x hx with z | z | z
      · exact .inl z
      · exact .inr z
      · rw [z]
        exact c
    · rw [if_neg c]
      have c1 : here ≠ 0 := fun z => c (.inl z)
      have c2 : here ∉ seen := fun z => c (.inr z)
      obtain ⟨b0, b9⟩ := h.next here
      obtain ⟨i1, i2, i3, i4⟩ := follow_ok h n (nextOf cs here) (seen ++ [here]) (by rw [List.length_append, List.length_singleton]; omega) (hp.snoc c2 (by omega) h9) b0 b9
      refine ⟨i1, fun x hx => i2 x (List.mem_append_left _ hx), .inr (i2 here (List.mem_append_right _ (List.mem_singleton.mpr rfl))), fun q => i4 fun x hx => ?_⟩
      rcases List.mem_append.mp hx with z | z
      · rcases q x z with y | y | y
        · exact .inl y
        · exact .inr (.inl (List.mem_append_left _ y))
        · exact .inr (.inl (by rw [y]; exact List.mem_append_right _ (List.mem_singleton.mpr rfl)))
      · rw [List.mem_singleton] at z
        subst z
        exact .inr (.inr rfl)
/-- what the walks from some values leave -/
def Closed (cs : List Cell) (l : List Int) : Prop := ∀ x ∈ l, nextOf cs x = 0 ∨ nextOf cs x ∈ l
theorem foldl_follow {cs : List Cell} (h : Leads cs) : ∀ (vs seen : List Int), (∀ v ∈ vs, 0 ≤ v ∧ v ≤ 999) → Places seen → Closed cs seen →
    Places (vs.foldl (fun seen v => follow cs (1000 - seen.length) v seen) seen) ∧ Closed cs (vs.foldl (fun seen v => follow cs (1000 - seen.length) v seen) seen) ∧
      (∀ x ∈ seen, x ∈ vs.foldl (fun seen v => follow cs (1000 - seen.length) v seen) seen) ∧ ∀ v ∈ vs, v = 0 ∨ v ∈ vs.foldl (fun seen v => follow cs (1000 - seen.length) v seen) seen
  | [], seen, _, hp, hc => ⟨hp, hc, fun _ x => x, fun _ x => nomatch x⟩
  | v :: vs, seen, hv, hp, hc => by
    have hl := hp.len
    obtain ⟨a1, a2, a3, a4⟩ := follow_ok h (1000 - seen.length) v seen (by omega) hp (hv v List.mem_cons_self).1 (hv v List.mem_cons_self).2
    have hc' : Closed cs (follow cs (1000 - seen.length) v seen) := a4 fun x hx => by
      rcases hc x hx with z | z
      · exact .inl z
      · exact .inr (.inl z)
    obtain ⟨b1, b2, b3, b4⟩ := foldl_follow h vs (follow cs (1000 - seen.length) v seen) (fun u hu => hv u (List.mem_cons_of_mem _ hu)) a1 hc'
    refine ⟨b1, b2, fun x hx => b3 x (a2 x hx), fun u hu => ?_⟩
    rcases List.mem_cons.mp hu with e | e
    · subst e
      rcases a3 with z | z
      · exact .inl z
      · exact .inr (b3 _ z)
    · exact b4 u e
theorem coming_ok {cs : List Cell} {vs : List Int} (h : Leads cs) (hv : ∀ v ∈ vs, 0 ≤ v ∧ v ≤ 999) : Places (comingL cs vs) ∧ Closed cs (comingL cs vs) ∧ ∀ v ∈ vs, v = 0 ∨ v ∈ comingL cs vs := by
  obtain ⟨a, b, _, d⟩ := foldl_follow h vs [] hv ⟨List.nodup_nil, fun _ x => nomatch x⟩ (fun _ x => nomatch x)
  exact ⟨a, b, d⟩
end Hs
namespace Hs
open PySem PySem.Spec PyProof.Rows L2
def spCells (K : PySem.W.Frag) : Sp := fun vs H Q _ => ∃ v cs ws, vs = [v] ∧ Dp K H v (stD cs ws) ∧ (cs.map (·.1)).Nodup ∧ cs.length ≤ 1000 ∧ ∀ p H', H p = none → Same H H' → CellsAt H' p cs → Q (.ref p) H'
def spComing (K : PySem.W.Frag) : Sp := fun vs H Q _ => ∃ p q cs ws, vs = [.ref p, .ref q] ∧ CellsAt H p cs ∧ SqT K H q (ws.map V.int) ∧ Leads cs ∧ (∀ v ∈ ws, 0 ≤ v ∧ v ≤ 999) ∧ ws.length ≤ 1000 ∧
  ∀ l H', H l = none → Same H H' → H' l = some (.lst ((comingL cs ws).map V.int)) → Q (.ref l) H'
def seenKvs (l : List Int) : List (Key × V) := l.map fun x => (Sum.inl x, V.bl true)
theorem seen_get (l : List Int) (x : Int) : (valV (seenKvs l) (.inl x)).isSome = decide (x ∈ l) := by
  induction l with
  | nil => rfl
  | cons y l ih =>
    show (valV ((Sum.inl y, V.bl true) :: seenKvs l) (.inl x)).isSome = _
    by_cases e : y = x
    · rw [valV_pos (by rw [e])]
      simp [e]
    · rw [valV_neg (fun z => e (Sum.inl.inj z)), ih]
      simp [show ¬ x = y from fun z => e z.symm]
theorem seen_put (l : List Int) (x : Int) (h : x ∉ l) : putK (seenKvs l) (.inl x) (.bl true) = seenKvs (l ++ [x]) := by
  rw [putK_new]
  · unfold seenKvs
    rw [List.map_append]
    rfl
  · unfold seenKvs
    rw [List.map_map]
    intro z
    obtain ⟨y, hy, e⟩ := List.mem_map.mp z
    exact h (by rw [← Sum.inl.inj e]; exact hy)
section
variable {P : Program} {w : World} {K : PySem.W.Frag} {mg : Str → Option Value} {base : Heap}
theorem Dp.cell_inv {H : Hp} {v : V} {c : Cell} (h : Dp K H v (cellD c)) : ∃ a, v = .ref a ∧ SqT K H a [.int c.1, .str c.2.1, .int c.2.2] := by
  obtain ⟨a, xs, rfl, hs, ha⟩ := Dp.tuple_inv h
  cases ha with
  | cons h0 r =>
    cases r with
    | cons h1 r =>
      cases r with
      | cons h2 r =>
        cases r
        obtain rfl := Dp.int_inv h0
        obtain rfl := Dp.str_inv h1
        obtain rfl := Dp.int_inv h2
        exact ⟨a, rfl, hs⟩
theorem Dp.st_inv {H : Hp} {v : V} {cs : List Cell} {ws : List Int} (h : Dp K H v (stD cs ws)) : ∃ a p q xs, v = .ref a ∧ SqT K H a [.ref p, .ref q] ∧ SqT K H p xs ∧ DpAll K H xs (cs.map cellD) ∧ SqT K H q (ws.map V.int) := by
  obtain ⟨a, xs, rfl, hs, ha⟩ := Dp.tuple_inv h
  cases ha with
  | cons h0 r =>
    cases r with
    | cons h1 r =>
      cases r
      obtain ⟨p, ys, rfl, hp, hpa⟩ := Dp.tuple_inv h0
      obtain ⟨q, zs, rfl, hq, hqa⟩ := Dp.tuple_inv h1
      have e : zs = ws.map V.int := by
        clear hs h0 h1 hq hp hpa h
        induction ws generalizing zs with
        | nil => cases hqa; rfl
        | cons w ws ih =>
          cases hqa with
          | cons a b => rw [List.map_cons, ← ih _ b, Dp.int_inv a]
      subst e
      exact ⟨a, p, q, ys, rfl, hs, hp, hpa, hq⟩
theorem scCells : FnScope ["state", "cell"] ["state"] (defScope (top 25)) := ⟨rfl, rfl, rfl, by decide +kernel, rfl, by decide +kernel, by decide +kernel⟩
theorem ok_cells (D : Def K mg "cells_of" (top 25) ["state"]) : Fn P w K mg base CX0 1 "cells_of" ["state"] (spCells K) := by
  refine D.ok scCells (fun vs H Q E h => ?_) (fun f cdv A outer s H vs Q E hr h => ?_)
  · obtain ⟨v, cs, ws, rfl, _⟩ := h
    rfl
  · obtain ⟨v, cs, ws, rfl, hd, hn, hz, k⟩ := h
    refine ⟨_, pss_one (ps_ret (pe_dc (own := [("cell", 1)]) (g := gName 1) (tt := tYes) rfl scCells.nd (pi_tup (pe_ix (r := rIxT K) ix_tup (pv 0) pe_int (fun _ _ => rfl))) (blkOk_by (N := ["state", "cell"]) (sc := defScope (top 25)) (by decide +kernel))
      (fun _ _ _ _ _ => pg_name (i := 1) scCells.nd rfl (Or.inl rfl)) (fun _ _ _ _ _ => pts_nil)
      (fun _ _ _ _ _ => pe_ix (r := rIxT K) ix_tup (pv 1) pe_int (fun _ _ => rfl))
      (fun _ _ _ _ _ => pe_tup (pa_cons (pe_ix (r := rIxT K) ix_tup (pv 1) pe_int (fun _ _ => rfl)) (pa_cons (pe_ix (r := rIxT K) ix_tup (pv 1) pe_int (fun _ _ => rfl)) pa_nil))))), ?_⟩
    obtain ⟨a, p, q, xs, rfl, hs, hp, ha, hq⟩ := Dp.st_inv hd
    refine ⟨_, rfl, a, _, _, _, rfl, rfl, hs, at_of (j := 0) rfl rfl, p, rfl, ⟨_, hp⟩, fun D hD => ?_⟩
    have el := DpAll.len ha
    rw [List.length_map] at el
    refine dc_it walk_tup (fun i H1 => Same H H1 ∧ CellsAt H1 D (cs.take i)) ⟨same_upd hD, [], upd_same, .nil⟩ (fun i H1 _ p1 => Same.sqt p1.1 hp) ?_ (fun H1 p1 => ?_)
    · rintro i x H1 H2 hi ⟨s1, kvs, hk, hr1⟩ ⟨rfl, hx⟩
      refine ⟨wipe_back _ 1 _, ?_⟩
      dsimp only [tYes]
      rw [if_pos rfl]
      obtain ⟨d, hd1, hd2⟩ := DpAll.get' ha hx
      rw [List.getElem?_map] at hd1
      have hic : i < cs.length := by omega
      rw [List.getElem?_eq_getElem hic] at hd1
      have ed : cellD cs[i] = d := Option.some.inj hd1
      rw [← ed] at hd2
      obtain ⟨t, rfl, ht⟩ := Dp.cell_inv hd2
      have ht1 := Same.sqt s1 ht
      refine ⟨_, rfl, t, _, _, _, rfl, rfl, ht1, at_of (j := 0) rfl rfl, ?_⟩
      refine ⟨_, rfl, t, _, _, _, rfl, rfl, ht1, at_of (j := 1) rfl rfl, _, rfl, t, _, _, _, rfl, rfl, ht1, at_of (j := 2) rfl rfl, (by show 2 ≤ sizeLine; decide), fun r hr2 => ?_⟩
      have nDr : D ≠ r := ne_of_none hk hr2
      have lk : kvs.length = i := by
        have q := Paired.length hr1
        rw [List.length_take] at q
        omega
      refine ⟨kvs, .inl cs[i].1, rfl, by rw [upd_ne nDr]; exact hk, by rw [lk]; exact Nat.lt_of_lt_of_le hi (Nat.le_of_lt (small1000 (by omega))), ?_⟩
      have tk : cs.take (i + 1) = cs.take i ++ [cs[i]] := by rw [List.take_add_one, List.getElem?_eq_getElem hic]; rfl
      have fresh : (Sum.inl cs[i].1 : Key) ∉ kvs.map (·.1) := by
        rw [kv_keys hr1]
        intro z
        obtain ⟨c, hc, e⟩ := List.mem_map.mp z
        have e' : c.1 = cs[i].1 := Sum.inl.inj e
        have nd2 : ((cs.take (i + 1)).map (·.1)).Nodup := by
          rw [List.map_take]
          exact hn.sublist (List.take_sublist _ _)
        rw [tk, List.map_append, List.nodup_append] at nd2
        exact nd2.2.2 c.1 (List.mem_map.mpr ⟨c, hc, rfl⟩) cs[i].1 (List.mem_map.mpr ⟨cs[i], List.mem_singleton.mpr rfl, rfl⟩) e'
      have s2 : Same H2 (upd H2 r (.tup [.str cs[i].2.1, .int cs[i].2.2])) := same_upd hr2
      refine ⟨fun b o e => ?_, kvs ++ [(.inl cs[i].1, .ref r)], by rw [upd_same, putK_new fresh], ?_⟩
      · rw [upd_ne (ne_of_none e hD)]
        exact s2 _ _ (s1 b o e)
      · rw [tk]
        refine Paired.snoc (Paired.mapP hr1 fun kv c hc => ?_) ⟨rfl, r, rfl, by rw [upd_ne nDr.symm, upd_same]⟩
        obtain ⟨e1, t1, e2, h2⟩ := hc
        refine ⟨e1, t1, e2, ?_⟩
        rw [upd_ne (ne_of h2 hk (by intro z; cases z)), upd_ne (ne_of_none h2 hr2)]
        exact h2
    · refine k D H1 hD p1.1 ?_
      have q := p1.2
      rw [List.take_of_length_le (by omega)] at q
      exact q
theorem scComing : FnScope ["cells", "values", "seen", "value", "here"] ["cells", "values"] (defScope (top 27)) := ⟨rfl, rfl, rfl, by decide +kernel, rfl, by decide +kernel, by decide +kernel⟩
theorem ok_coming (D : Def K mg "coming" (top 27) ["cells", "values"]) (T : Txt mg) : Fn P w K mg base CX0 1 "coming" ["cells", "values"] (spComing K) := by
  refine D.ok scComing (fun vs H Q E h => ?_) (fun f cdv A outer s H vs Q E hr h => ?_)
  · obtain ⟨p, q, cs, ws, rfl, _⟩ := h
    rfl
  · obtain ⟨p, q, cs, ws, rfl, hp, hq, hL, hv, hz, k⟩ := h
    have hu := hu_of hr
    refine ⟨_, pss_cons (ps_set (i := 2) scComing.nd rfl (Or.inl rfl) pe_dnewK)
      (pss_cons (ps_for PassesOwn.never rfl (pi_tup (pv 1)) (pg_name (i := 3) scComing.nd rfl (Or.inl rfl))
        (pss_cons (ps_set (i := 4) scComing.nd rfl (Or.inl rfl) (pv 3))
        (pss_one (ps_while PassesOwn.never (PW.pt (pw_and (pt_cmpR op_ne (pv 4) pe_int (nomark _)) (pw_and1 (pt_cmp (pc_dnotin hu (pv 4) (pv 2))))))
          (pss_cons (ps_dput hu (pv 2) (pv 4) pe_bl rfl)
          (pss_one (ps_set (i := 4) scComing.nd rfl (Or.inl rfl) (pe_ifExp (pt_cmp (pc_din hu (pv 4) (pv 0))) (pe_ix (r := rIxT K) ix_tup (pe_dget hu (pv 0) (pv 4) (fun _ _ => rfl)) pe_int (fun _ _ => rfl)) pe_int))))))))
      (pss_one (ps_ret (pe_callTy (call_list_dK rfl) (by rfl) T.list boot_list (pa_cons (pv 2) pa_nil))))), ?_⟩
    intro S hS
    have sS : Same H (upd H S (.dK [])) := same_upd hS
    refine ⟨_, rfl, q, rfl, ⟨_, Same.sqt sS hq⟩, for_tup (K := K) (a := q) (xs := ws.map V.int) (fun i σ H1 => ∃ v1 v2 seen, σ = [some (.ref p), some (.ref q), some (.ref S), v1, v2] ∧ Same H H1 ∧ H1 S = some (.dK (seenKvs seen)) ∧ Places seen ∧
      (ws.drop i).foldl (fun seen v => follow cs (1000 - seen.length) v seen) seen = comingL cs ws) ⟨none, none, [], rfl, sS, upd_same, ⟨List.nodup_nil, fun _ x => (nomatch x)⟩, rfl⟩ (fun i σ H1 _ p1 => ?_) ?_ ?_⟩
    · obtain ⟨_, _, _, _, s1, _⟩ := p1
      exact Same.sqt s1 hq
    · rintro i x σ H1 hx ⟨v1, v2, seen, rfl, s1, hs1, hpl, hf⟩
      have hi : i < ws.length := by
        have q := (List.getElem?_eq_some_iff.mp hx).1
        rw [List.length_map] at q
        exact q
      rw [List.getElem?_map, List.getElem?_eq_getElem hi] at hx
      obtain rfl : V.int ws[i] = x := Option.some.inj hx
      have hvi := hv ws[i] (List.getElem_mem hi)
      refine ⟨_, rfl, (fun m σ' H' => ∃ here sn, σ' = [some (.ref p), some (.ref q), some (.ref S), some (.int ws[i]), some (.int here)] ∧ Same H H' ∧ H' S = some (.dK (seenKvs sn)) ∧ Places sn ∧ 0 ≤ here ∧ here ≤ 999 ∧ m = 1000 - sn.length ∧
        follow cs (1000 - sn.length) here sn = follow cs (1000 - seen.length) ws[i] seen), ⟨_, ws[i], seen, rfl, s1, hs1, hpl, hvi.1, hvi.2, rfl, rfl⟩, ?_⟩
      rintro m σ' H' ⟨here, sn, rfl, s2, hs2, hp2, h0, h9, rfl, hfo⟩
      have hln := hp2.len
      have hfu : 1000 - sn.length = (999 - sn.length) + 1 := by omega
      -- the end of the loop
      have fin : (here = 0 ∨ here ∈ sn) → (∃ v1 v2 seen, ([some (.ref p), some (.ref q), some (.ref S), some (.int ws[i]), some (.int here)] : L2.St) = [some (.ref p), some (.ref q), some (.ref S), v1, v2] ∧ Same H H' ∧ H' S = some (.dK (seenKvs seen)) ∧ Places seen ∧
          (ws.drop (i + 1)).foldl (fun seen v => follow cs (1000 - seen.length) v seen) seen = comingL cs ws) := fun c => by
        have e0 : follow cs ((999 - sn.length) + 1) here sn = sn := by
          unfold follow
          rw [if_pos c]
        rw [hfu, e0] at hfo
        refine ⟨_, _, sn, rfl, s2, hs2, hp2, ?_⟩
        rw [List.drop_eq_getElem_cons hi, List.foldl_cons] at hf
        rw [hfo]
        exact hf
      refine ⟨_, rfl, rfl, _, rfl, ?_⟩
      by_cases c0 : here = 0
      · have e : decide (V.int here = V.int 0) = true := decide_eq_true (by rw [c0])
        show if (!decide (V.int here = V.int 0)) = true then _ else _
        rw [e]
        exact iteF (iteF (fin (.inl c0)))
      have e : decide (V.int here = V.int 0) = false := decide_eq_false fun z => c0 (V.int.inj z)
      show if (!decide (V.int here = V.int 0)) = true then _ else _
      rw [e]
      refine iteT ⟨_, rfl, _, rfl, S, _, rfl, DGet.k (k := .inl here) hs2, _, rfl, ?_⟩
      rw [seen_get]
      by_cases c1 : here ∈ sn
      · rw [decide_eq_true c1]
        exact iteF (fin (.inr c1))
      rw [decide_eq_false c1]
      refine iteT ⟨fun σ' H' => ∃ m', m' < 1000 - sn.length ∧ ∃ here sn, σ' = [some (.ref p), some (.ref q), some (.ref S), some (.int ws[i]), some (.int here)] ∧ Same H H' ∧ H' S = some (.dK (seenKvs sn)) ∧ Places sn ∧ 0 ≤ here ∧ here ≤ 999 ∧ m' = 1000 - sn.length ∧
        follow cs (1000 - sn.length) here sn = follow cs (1000 - seen.length) ws[i] seen, fun _ _ z => z, ?_⟩
      refine ⟨_, rfl, _, rfl, S, _, rfl, DPut.k (k := .inl here) hs2 (small1000 (by unfold seenKvs; rw [List.length_map]; omega)), ?_⟩
      rw [seen_put _ _ c1]
      have s3 : Same H (upd H' S (.dK (seenKvs (sn ++ [here])))) := fun b o e => by
        rw [upd_ne (ne_of_none e hS)]
        exact s2 b o e
      have hp3 : Places (sn ++ [here]) := hp2.snoc c1 (by omega) h9
      have hl3 : (sn ++ [here]).length = sn.length + 1 := by rw [List.length_append, List.length_singleton]
      have nx := hL.next here
      have hfo3 : follow cs (1000 - (sn ++ [here]).length) (nextOf cs here) (sn ++ [here]) = follow cs (1000 - seen.length) ws[i] seen := by
        rw [← hfo, hfu]
        conv => rhs; unfold follow
        rw [if_neg (by intro z; rcases z with z | z; exact c0 z; exact c1 z), hl3]
        congr 1
        omega
      have hcp := CellsAt.mono s3 hp
      obtain ⟨g1, g2⟩ := CellsAt.get hcp here
      cases hfc : findC cs here with
      | none =>
        refine ⟨_, rfl, _, rfl, p, _, rfl, g1 hfc, _, rfl, iteF ?_⟩
        have en : nextOf cs here = 0 := by unfold nextOf; rw [hfc]
        rw [en] at hfo3
        exact ⟨_, (by rw [hl3]; omega), 0, _, rfl, s3, upd_same, hp3, by decide, by decide, rfl, hfo3⟩
      | some r =>
        obtain ⟨mk, n⟩ := r
        obtain ⟨t, gt, ht⟩ := g2 mk n hfc
        have en : nextOf cs here = n := by unfold nextOf; rw [hfc]
        rw [en] at hfo3 nx
        refine ⟨_, rfl, _, rfl, p, _, rfl, gt, _, rfl, iteT ?_⟩
        refine ⟨_, rfl, _, rfl, p, _, rfl, gt, t, _, _, _, rfl, rfl, SqT.of ht, at_of (j := 1) rfl rfl, ?_⟩
        exact ⟨_, (by rw [hl3]; omega), n, _, rfl, s3, upd_same, hp3, nx.1, nx.2, rfl, hfo3⟩
    · rintro σ H1 ⟨v1, v2, seen, rfl, s1, hs1, hpl, hf⟩
      rw [List.length_map, List.drop_length] at hf
      refine ⟨_, rfl, S, _, rfl, hs1, fun l hl => ?_⟩
      have hlS : S ≠ l := ne_of_none hs1 hl
      refine k l _ (s1.free hl) (s1.trans (same_upd hl)) ?_
      rw [upd_same]
      have e : seen = comingL cs ws := hf
      rw [← e]
      unfold seenKvs
      rw [List.map_map]
      rfl
end
end Hs
namespace Hs
open PySem PySem.Spec PyProof.Rows L2
/-! H3: a list of leaf tuples by a comprehension; state_of, shown_part -/
def TupsAt (H : Hp) (acc : List V) (ls : List (List V)) : Prop := Paired (fun y l => ∃ t, y = V.ref t ∧ H t = some (.tup l)) acc ls
theorem TupsAt.mono {H H' : Hp} (s : ∀ t l, H t = some (.tup l) → H' t = some (.tup l)) {acc : List V} {ls : List (List V)} (h : TupsAt H acc ls) : TupsAt H' acc ls := Paired.mapP h fun _ _ q => by
  obtain ⟨t, e, ht⟩ := q
  exact ⟨t, e, s _ _ ht⟩
theorem lc_tups {J : It} {n : Nat} {G : Hp → Prop} {Y : Nat → Hp → V → Hp → Prop} (w : Walk J n G Y) {k : Nat} {te : TE} {σ : L2.St} {H1 : Hp} {D : Addr} {Qd : Hp → Prop} (f : Nat → List V) (hn : n ≤ sizeLine) (hD : H1 D = none)
    (hG : ∀ H, Same H1 H → G H) (hY : ∀ i H x H', Same H1 H → Y i H x H' → Same H H')
    (hs : ∀ i x H H', i < n → Same H1 H → Y i H x H' → ∀ Q : VK, (∀ t H4, Same H' H4 → H4 t = some (.tup (f i)) → Q (.ref t) H4) → te ((wipe σ [k]).set k (some x)) H' Q)
    (hd : ∀ H acc, Same H1 H → H D = some (.lst acc) → TupsAt H acc ((List.range n).map f) → Qd H) :
    ∃ W : Nat → Nat → Hp → Prop, (∃ m, W 0 m (upd H1 D (.lst []))) ∧ ∀ i m H, W i m H →
      (J.stop i H ∧ Qd H) ∨ (J.go i H ∧ ∃ Nx : Hp → Prop, (∀ H', Nx H' → ∃ m', m' < m ∧ W (i + 1) m' H') ∧ ∀ x H', J.yld i H x H' → gName k x (wipe σ [k]) H' fun σ2 H2 => wipe σ2 [k] = wipe σ [k] ∧ tYes σ2 H2 fun b H3 =>
        if b = true then te σ2 H3 fun y H4 => ∃ acc, H4 D = some (.lst acc) ∧ acc.length < sizeLine ∧ Nx (upd H4 D (.lst (acc ++ [y]))) else Nx H3) := by
  refine lc_it w (fun i H => Same H1 H ∧ ∃ acc, H D = some (.lst acc) ∧ TupsAt H acc ((List.range i).map f)) ⟨same_upd hD, [], upd_same, .nil⟩ (fun i H _ p => hG H p.1) (fun i x H H' hi p y => ?_) (fun H p => ?_)
  · refine ⟨wipe_back σ k _, ?_⟩
    dsimp only [tYes]
    rw [if_pos rfl]
    obtain ⟨p1, acc, p2, p3⟩ := p
    have s1 := hY i H x H' p1 y
    refine hs i x H H' hi p1 y _ fun t H4 s4 ht => ?_
    have s5 : Same H1 H4 := (p1.trans s1).trans s4
    have hl : acc.length = i := by
      have q := Paired.length p3
      rw [List.length_map, List.length_range] at q
      exact q
    have h4 := s4 _ _ (s1 _ _ p2)
    refine ⟨acc, h4, by rw [hl]; exact Nat.lt_of_lt_of_le hi hn, fun b u e => ?_, acc ++ [.ref t], upd_same, ?_⟩
    · rw [upd_ne (ne_of_none e hD)]
      exact s5 b u e
    · have up : ∀ b l, H4 b = some (.tup l) → upd H4 D (.lst (acc ++ [.ref t])) b = some (.tup l) := fun b l e => by
        rw [upd_ne (ne_of e h4 (by intro z; cases z))]
        exact e
      rw [List.range_succ, List.map_append]
      exact Paired.snoc (TupsAt.mono (fun b l e => up b l (s4 _ _ (s1 _ _ e))) p3) ⟨t, rfl, up _ _ ht⟩
  · obtain ⟨p1, acc, p2, p3⟩ := p
    exact hd H acc p1 p2 p3
theorem TupsAt.dp {K : PySem.W.Frag} {H : Hp} {α : Type} (f : α → List V) (g : α → PyData) (h : ∀ a t, H t = some (.tup (f a)) → Dp K H (.ref t) (g a)) : ∀ {acc : List V} {l : List α}, TupsAt H acc (l.map f) → DpAll K H acc (l.map g)
  | [], [], .nil => .nil
  | _ :: _, a :: l, .cons q r => by
    obtain ⟨t, rfl, ht⟩ := q
    exact .cons (h a t ht) (TupsAt.dp f g h r)
def cellV (c : Cell) : List V := [.int c.1, .str c.2.1, .int c.2.2]
theorem dp_cell {K : PySem.W.Frag} {H : Hp} (c : Cell) (t : Addr) (h : H t = some (.tup (cellV c))) : Dp K H (.ref t) (cellD c) := .tup (SqT.of h) (.cons (.int _) (.cons (.str _) (.cons (.int _) .nil)))
def cellAt (cs : List Cell) (a : Int) : Cell := match findC cs a with
  | some r => (a, r)
  | none => (a, "", 0)
def spStateOf (K : PySem.W.Frag) : Sp := fun vs H Q _ => ∃ p y cs ws, vs = [.ref p, .ref y] ∧ CellsAt H p cs ∧ cs.length ≤ 1000 ∧ (SqL K H y (ws.map V.int) ∨ SqT K H y (ws.map V.int)) ∧
  ∀ (v : V) (H' : Hp) (ks : List Int), ks.Perm (cs.map (·.1)) → ks.Pairwise (· ≤ ·) → Same H H' → Dp K H' v (stD (ks.map (cellAt cs)) ws) → Q v H'
section
variable {P : Program} {w : World} {K : PySem.W.Frag} {mg : Str → Option Value} {base : Heap}
theorem CellsAt.dk {H : Hp} {p : Addr} {cs : List Cell} (h : CellsAt H p cs) : ∃ kvs, H p = some (.dK kvs) ∧ kvs.map (fun kv => kV kv.1) = (cs.map (·.1)).map V.int := by
  obtain ⟨kvs, e, r⟩ := h
  refine ⟨kvs, e, ?_⟩
  have q := congrArg (List.map kV) (kv_keys r)
  rw [List.map_map, List.map_map] at q
  rw [List.map_map]
  exact q
theorem CellsAt.at {H : Hp} {p : Addr} {cs : List Cell} (h : CellsAt H p cs) {a : Int} (ha : a ∈ cs.map (·.1)) : ∃ t, DGet H p (.int a) (some (.ref t)) ∧ H t = some (.tup [.str (cellAt cs a).2.1, .int (cellAt cs a).2.2]) ∧ (cellAt cs a).1 = a := by
  obtain ⟨r, e⟩ := findC_mem ha
  obtain ⟨m, n⟩ := r
  obtain ⟨t, g, ht⟩ := (CellsAt.get h a).2 m n e
  refine ⟨t, g, ?_, ?_⟩ <;> unfold cellAt <;> rw [e]
  exact ht
theorem scStateOf : FnScope ["cells", "values", "address"] ["cells", "values"] (defScope (top 26)) := ⟨rfl, rfl, rfl, by decide +kernel, rfl, by decide +kernel, by decide +kernel⟩
theorem ok_stateOf (D : Def K mg "state_of" (top 26) ["cells", "values"]) (T : Txt mg) : Fn P w K mg base CX0 1 "state_of" ["cells", "values"] (spStateOf K) := by
  refine D.ok scStateOf (fun vs H Q E h => ?_) (fun f cdv A outer s H vs Q E hr h => ?_)
  · obtain ⟨p, y, cs, ws, rfl, _⟩ := h
    rfl
  · obtain ⟨p, y, cs, ws, rfl, hp, hz, hy, k⟩ := h
    have hu := hu_of hr
    refine ⟨_, pss_one (ps_ret (pe_tup (pa_cons (pe_callTy call_tuple_of (by rfl) T.tuple boot_tuple (pa_cons
        (pe_lc (own := [("address", 2)]) (g := gName 2) (tt := tYes) rfl scStateOf.nd (pi_list (pe_callB cr_sortedI (by rfl) T.sorted (by decide +kernel) (pa_cons (pe_callTy (call_list_dK rfl) (by rfl) T.list boot_list (pa_cons (pv 0) pa_nil)) pa_nil))) (blkOk_by (N := ["cells", "values", "address"]) (sc := defScope (top 26)) (by decide +kernel))
          (fun _ _ _ _ _ => pg_name (i := 2) scStateOf.nd rfl (Or.inl rfl)) (fun _ _ _ _ _ => pts_nil)
          (fun _ _ _ _ _ => pe_tup (pa_cons (pv 2) (pa_cons (pe_ix (r := rIxT K) ix_tup (pe_dget hu (pv 0) (pv 2) (fun _ _ => rfl)) pe_int (fun _ _ => rfl)) (pa_cons (pe_ix (r := rIxT K) ix_tup (pe_dget hu (pv 0) (pv 2) (fun _ _ => rfl)) pe_int (fun _ _ => rfl)) pa_nil))))) pa_nil))
        (pa_cons (pe_callTy call_tuple_of (by rfl) T.tuple boot_tuple (pa_cons (pv 1) pa_nil)) pa_nil)))), ?_⟩
    obtain ⟨kvs, hk, ek⟩ := CellsAt.dk hp
    refine ⟨_, rfl, p, kvs, rfl, hk, fun q hq => ?_⟩
    rw [ek]
    refine ⟨q, _, rfl, SqL.of upd_same, fun ks r hpm hsd hr0 => ?_⟩
    have s1 : Same H (upd (upd H q (.lst ((cs.map (·.1)).map V.int))) r (.lst (ks.map V.int))) := (same_upd hq).trans (same_upd hr0)
    refine ⟨r, rfl, ⟨_, SqL.of upd_same⟩, fun D hD => ?_⟩
    have hlk : ks.length = cs.length := by rw [hpm.length_eq, List.length_map]
    have hks : (ks.map V.int).length ≤ sizeLine := Nat.le_of_lt (small1000 (by rw [List.length_map]; omega))
    refine lc_tups walk_list (fun i => cellV (cellAt cs (ks.getD i 0))) hks hD (fun H' s' => SqL.of (s' _ _ upd_same)) (fun i H x H2 _ y => by rw [y.1]; exact Same.refl _) ?_ ?_
    · rintro i x H2 H3 hi s2 ⟨rfl, hx⟩ Q' k'
      rw [List.getElem?_map] at hx
      rw [List.length_map] at hi
      rw [List.getElem?_eq_getElem hi] at hx
      obtain rfl := Option.some.inj hx
      rw [List.getD_eq_getElem?_getD, List.getElem?_eq_getElem hi] at k'
      have k'' : ∀ t H4, Same H3 H4 → H4 t = some (.tup (cellV (cellAt cs ks[i]))) → Q' (.ref t) H4 := k'
      have hc := CellsAt.mono (s1.trans s2) hp
      obtain ⟨t, g, ht, e1⟩ := CellsAt.at hc (hpm.mem_iff.mp (List.getElem_mem hi))
      refine ⟨_, rfl, _, rfl, _, rfl, p, _, rfl, g, t, _, _, _, rfl, rfl, SqT.of ht, at_of (j := 0) rfl rfl, ?_⟩
      refine ⟨_, rfl, _, rfl, p, _, rfl, g, t, _, _, _, rfl, rfl, SqT.of ht, at_of (j := 1) rfl rfl, (by show 3 ≤ sizeLine; decide), fun u hu2 => ?_⟩
      refine k'' u _ (same_upd hu2) ?_
      unfold cellV
      rw [e1]
      exact upd_same
    · intro H2 acc s2 h2 ta
      have el := Paired.length ta
      rw [List.length_map, List.length_range] at el
      refine ⟨D, acc, rfl, .inl ⟨SqL.of h2, fun l hl => ?_⟩⟩
      have ec : (List.range (ks.map V.int).length).map (fun i => cellV (cellAt cs (ks.getD i 0))) = (ks.map (cellAt cs)).map cellV := by
        rw [List.length_map, range_get ks _ (fun a => cellV (cellAt cs a)) fun i a e => by rw [List.getD_eq_getElem?_getD, e]; rfl, List.map_map]
        rfl
      rw [ec] at ta
      have s3 : Same H2 (upd H2 l (.tup acc)) := same_upd hl
      have da : DpAll K (upd H2 l (.tup acc)) acc ((ks.map (cellAt cs)).map cellD) := TupsAt.dp cellV cellD dp_cell (TupsAt.mono (fun b l e => s3 _ _ e) ta)
      have sH := (s1.trans s2).trans s3
      have fin : ∀ (y2 : Addr) (H4 : Hp), Same (upd H2 l (.tup acc)) H4 → SqT K H4 y2 (ws.map V.int) → (2 ≤ sizeLine ∧ ∀ u, H4 u = none → Q (.ref u) (upd H4 u (.tup [.ref l, .ref y2]))) := fun y2 H4 s4 h4 => by
        refine ⟨by decide, fun u hu3 => k _ _ ks hpm hsd (sH.trans (s4.trans (same_upd hu3))) ?_⟩
        have s5 : Same H4 (upd H4 u (.tup [.ref l, .ref y2])) := same_upd hu3
        refine .tup (SqT.of upd_same) (.cons (.tup (SqT.of (s5 _ _ (s4 _ _ upd_same))) (dpAll_mono (s4.trans s5) _ _ da)) (.cons (.tup (Same.sqt s5 h4) ?_) .nil))
        exact dpAll_ints ws
      refine ⟨_, rfl, y, ws.map V.int, rfl, ?_⟩
      rcases hy with hy | hy
      · exact .inl ⟨Same.seq sH hy, fun l2 hl2 => fin l2 _ (same_upd hl2) (SqT.of upd_same)⟩
      · exact .inr ⟨Same.sqt sH hy, fin y _ (Same.refl _) (Same.sqt sH hy)⟩
end
end Hs
namespace Hs
open PySem PySem.Spec PyProof.Rows L2
/-! H4: shown_part -/
-- the local y is set to a dict comprehension that stands on its line
section
variable {X : Cx}
theorem ps_setDc {i : Nat} {y : Str} {py pos spos : Pos} {ke ve tgt itr : Expr} {ifs : List Expr} {sc : Scope} {own : List (Str × Nat)} {wi : TI} {g : TG} {tt : TT} {tk tv : TE}
    (hc : X.calm = true) (hN : X.N.Nodup) (hy : X.N[i]? = some y) (hyl : X.env.scope.names.lookup y = some .local)
    (hsw : swapsWith (.DictComp ke ve [⟨tgt, itr, ifs, 0⟩] sc pos) (some (.Name y py)) spos.line X.env = pure true)
    (hi : PI X tgt itr wi) (ok : BlkOk X.N X.env.scope sc own)
    (hg : ∀ (t : Shared) (G : Hp) (C : Addr) (l : List (Str × Addr)) (fp : List Addr), PG (X.blk t G sc (compEnvC sc l C X.env) fp) tgt g)
    (ht : ∀ (t : Shared) (G : Hp) (C : Addr) (l : List (Str × Addr)) (fp : List Addr), PTs (X.blk t G sc (compEnvC sc l C X.env) fp) ifs tt)
    (hk : ∀ (t : Shared) (G : Hp) (C : Addr) (l : List (Str × Addr)) (fp : List Addr), PE (X.blk t G sc (compEnvC sc l C X.env) fp) ke tk)
    (hv : ∀ (t : Shared) (G : Hp) (C : Addr) (l : List (Str × Addr)) (fp : List Addr), PE (X.blk t G sc (compEnvC sc l C X.env) fp) ve tv)
    (hs : ∀ x, foldedSetIterable itr X.env x = pure x := by intro _; rfl) :
    PS X (.Assign [.Name y py] (.DictComp ke ve [⟨tgt, itr, ifs, 0⟩] sc pos) spos) (tAsg (tDc wi g tt tk tv (own.map (·.2))) (gName i)) := by
  constructor
  intro pins s σ H D I h0
  rw [exec_Assign_Name_used _ _ _ _ hsw]
  refine wpAny_bind (wpAny_standAt (wpAny_bind ?_))
  show wpAny _ X.A (do
    let _ ← comprehension (.DictComp ke ve [⟨tgt, itr, ifs, 0⟩] sc pos) sc X.env (firstIterPos [⟨tgt, itr, ifs, 0⟩] pos) newDict false (eval itr X.env) (some (assign (.Name y py) X.env))) _ _ s
  have h1 : tDc wi g tt tk tv (own.map (·.2)) σ H (fun x G => gName i x σ G D.nx) := h0
  have core := dc_core (Qf := fun _ s' => SP X pins D .next s') (use := some (assign (.Name y py) X.env)) (pos := pos) (pos' := firstIterPos [⟨tgt, itr, ifs, 0⟩] pos) hc hN I hi ok hg ht hk hv hs h1 (fun L C s' m H' I' q hn f => by
    show wpAny _ _ (assign (.Name y py) X.env (.ref L)) _ _ _
    refine wpAny_assign_Name (store_ok2 (v := V.ref L) I' hN hy (.inl hyl) rfl (fun s2 I2 z => ?_) (.inr hyl))
    obtain ⟨a, sb, ha⟩ := z
    obtain ⟨f0, f1, f2, f3, f4, f5⟩ := f
    have haC : C ≠ a := by
      cases ha with
      | inl z => rw [z]; exact f1
      | inr z => exact fun e => f4 y a z e.symm
    exact ⟨m, hn.sameBut sb haC, fun h3 sb3 => ⟨_, H', I2.turned (t' := s2.toks) (fun b o hb e => (sb3.2 b hb).trans e) f0 f1 f3 f4 f5, q⟩⟩)
  exact wpAny_bind (thn core fun _ s' hq => wpAny_pure (wpAny_pure hq))
end
def StOk (cs : List Cell) (ws : List Int) : Prop := (cs.map (·.1)).Nodup ∧ cs.length ≤ 1000 ∧ Leads cs ∧ (∀ v ∈ ws, 0 ≤ v ∧ v ≤ 999) ∧ ws.length ≤ 1000 ∧ ∀ c ∈ cs, 1 ≤ c.1 ∧ c.1 ≤ 999
def hasC (cs : List Cell) (a : Int) : Bool := (findC cs a).isSome
def reached (cs : List Cell) (ws : List Int) : List Int := (comingL cs ws).filter (hasC cs)
def spShownPart (K : PySem.W.Frag) : Sp := fun vs H Q _ => ∃ v cs ws, vs = [v] ∧ Dp K H v (stD cs ws) ∧ StOk cs ws ∧
  ∀ (v : V) (H' : Hp) (ks : List Int), ks.Perm (reached cs ws) → ks.Pairwise (· ≤ ·) → Same H H' → Dp K H' v (stD (ks.map (cellAt cs)) ws) → Q v H'
theorem cellAt_fst (cs : List Cell) (a : Int) : (cellAt cs a).1 = a := by
  unfold cellAt
  cases findC cs a <;> rfl
theorem findC_map {cs : List Cell} : ∀ {l : List Int} {a : Int}, a ∈ l → findC (l.map (cellAt cs)) a = some (cellAt cs a).2
  | b :: l, a, h => by
    rw [List.map_cons, findC_cons, cellAt_fst]
    by_cases e : b = a
    · rw [if_pos e, e]
    · rw [if_neg e]
      exact findC_map ((List.mem_cons.mp h).resolve_left fun z => e z.symm)
theorem cellAt_map {cs : List Cell} {l : List Int} {a : Int} (h : a ∈ l) : cellAt (l.map (cellAt cs)) a = cellAt cs a := by
  have q := findC_map (cs := cs) h
  have e1 := cellAt_fst cs a
  show (match findC (l.map (cellAt cs)) a with | some r => (a, r) | none => (a, "", 0)) = _
  rw [q]
  exact Prod.ext e1.symm rfl
theorem map_fst_cellAt (cs : List Cell) (l : List Int) : (l.map (cellAt cs)).map (·.1) = l := by
  rw [List.map_map]
  refine (List.map_congr_left fun a _ => ?_).trans (List.map_id l)
  exact cellAt_fst cs a
section
variable {P : Program} {w : World} {K : PySem.W.Frag} {mg : Str → Option Value} {base : Heap}
theorem scShownPart : FnScope ["state", "cells", "reached", "place"] ["state"] (defScope (top 28)) := ⟨rfl, rfl, rfl, by decide +kernel, rfl, by decide +kernel, by decide +kernel⟩
theorem ok_shownPart (D : Def K mg "shown_part" (top 28) ["state"]) (T : Txt mg) (G1 : Fn P w K mg base CX0 1 "cells_of" ["state"] (spCells K)) (G2 : Fn P w K mg base CX0 1 "coming" ["cells", "values"] (spComing K))
    (G3 : Fn P w K mg base CX0 1 "state_of" ["cells", "values"] (spStateOf K)) : Fn P w K mg base CX0 2 "shown_part" ["state"] (spShownPart K) := by
  refine D.ok scShownPart (fun vs H Q E h => ?_) (fun f cdv A outer s H vs Q E hr h => ?_)
  · obtain ⟨v, cs, ws, rfl, _⟩ := h
    rfl
  · obtain ⟨v, cs, ws, rfl, hd, ⟨hn, hz, hL, hv, hw, _⟩, k⟩ := h
    have hu := hu_of hr
    refine ⟨_, pss_cons (ps_set (i := 1) scShownPart.nd rfl (Or.inr rfl) (pe_fn G1 hr pass0 (pa_cons (pv 0) pa_nil)))
      (pss_cons (ps_setDc (i := 2) (own := [("place", 3)]) (g := gName 3) rfl scShownPart.nd rfl rfl rfl (pi_list (pe_fn G2 hr pass0 (pa_cons (pv 1) (pa_cons (pe_ix (r := rIxT K) ix_tup (pv 0) pe_int (fun _ _ => rfl)) pa_nil)))) (blkOk_by (N := ["state", "cells", "reached", "place"]) (sc := defScope (top 28)) (by decide +kernel))
          (fun _ _ _ _ _ => pg_name (i := 3) scShownPart.nd rfl (Or.inl rfl)) (fun _ _ _ _ _ => pts_one (pt_cmp (pc_din hu (pv 3) (pv 1))))
          (fun _ _ _ _ _ => pv 3) (fun _ _ _ _ _ => pe_dget hu (pv 1) (pv 3) (fun _ _ => rfl)))
      (pss_one (ps_ret (pe_fn G3 hr pass0 (pa_cons (pv 2) (pa_cons (pe_ix (r := rIxT K) ix_tup (pv 0) pe_int (fun _ _ => rfl)) pa_nil)))))), ?_⟩
    refine ⟨v, rfl, v, cs, ws, rfl, hd, hn, hz, fun p H1 hp0 s1 hp => ?_⟩
    obtain ⟨a, pc, q, xs, rfl, hs, _, _, hq⟩ := Dp.st_inv hd
    refine ⟨_, rfl, _, rfl, a, _, _, _, rfl, rfl, Same.sqt s1 hs, at_of (j := 1) rfl rfl, p, q, cs, ws, rfl, hp, Same.sqt s1 hq, hL, hv, hw, fun l H2 hl0 s2 hl => ?_⟩
    have hpl := (coming_ok hL hv).1
    have hln := hpl.len
    refine ⟨l, rfl, ⟨_, SqL.of hl⟩, fun D hD => ?_⟩
    have el : ((comingL cs ws).map V.int).length = (comingL cs ws).length := List.length_map _
    refine dc_it walk_list (fun i H3 => Same H2 H3 ∧ CellsAt H3 D ((((comingL cs ws).take i).filter (hasC cs)).map (cellAt cs))) ⟨same_upd hD, [], upd_same, .nil⟩ (fun i H3 _ p3 => SqL.of (p3.1 _ _ hl)) ?_ (fun H3 p3 => ?_)
    · rintro i x H3 H4 hi ⟨s3, kvs, hk, hr1⟩ ⟨rfl, hx⟩
      refine ⟨wipe_back _ 3 _, ?_⟩
      rw [el] at hi
      rw [List.getElem?_map, List.getElem?_eq_getElem hi] at hx
      obtain rfl := Option.some.inj hx
      have hc := CellsAt.mono (s2.trans s3) hp
      have tk : (comingL cs ws).take (i + 1) = (comingL cs ws).take i ++ [(comingL cs ws)[i]] := by rw [List.take_add_one, List.getElem?_eq_getElem hi]; rfl
      obtain ⟨g1, g2⟩ := CellsAt.get hc (comingL cs ws)[i]
      cases hf : findC cs (comingL cs ws)[i] with
      | none =>
        refine ⟨_, rfl, _, rfl, p, _, rfl, g1 hf, _, rfl, iteF ?_⟩
        have e0 : hasC cs (comingL cs ws)[i] = false := by unfold hasC; rw [hf]; rfl
        refine ⟨s3, kvs, hk, ?_⟩
        rw [tk, List.filter_append, List.filter_cons, e0]
        simpa using hr1
      | some r =>
        obtain ⟨mk, n⟩ := r
        obtain ⟨t, gt, hgt⟩ := g2 mk n hf
        refine ⟨_, rfl, _, rfl, p, _, rfl, gt, _, rfl, iteT ?_⟩
        have e0 : hasC cs (comingL cs ws)[i] = true := by unfold hasC; rw [hf]; rfl
        refine ⟨_, rfl, _, rfl, _, rfl, p, _, rfl, gt, kvs, .inl (comingL cs ws)[i], rfl, hk, ?_, ?_, ?_⟩
        · have q1 := Paired.length hr1
          rw [List.length_map] at q1
          have q2 := List.length_filter_le (hasC cs) ((comingL cs ws).take i)
          rw [List.length_take] at q2
          exact small1000 (by omega)
        · intro b o e
          rw [upd_ne (ne_of_none e hD)]
          exact s3 b o e
        · have fresh : (Sum.inl (comingL cs ws)[i] : Key) ∉ kvs.map (·.1) := by
            rw [kv_keys hr1]
            intro z
            obtain ⟨c, hc1, e1⟩ := List.mem_map.mp z
            have e2 : c.1 = (comingL cs ws)[i] := Sum.inl.inj e1
            obtain ⟨a1, ha1, rfl⟩ := List.mem_map.mp hc1
            rw [cellAt_fst] at e2
            have m1 := (List.mem_filter.mp ha1).1
            have nd := hpl.1.sublist (List.take_sublist (i + 1) _)
            rw [tk, List.nodup_append] at nd
            exact nd.2.2 a1 m1 _ (List.mem_singleton.mpr rfl) e2
          refine ⟨kvs ++ [(.inl (comingL cs ws)[i], .ref t)], by rw [upd_same, putK_new fresh], ?_⟩
          rw [tk, List.filter_append, List.map_append]
          have e3 : ([(comingL cs ws)[i]].filter (hasC cs)).map (cellAt cs) = [((comingL cs ws)[i], mk, n)] := by
            rw [List.filter_cons, if_pos e0]
            show [cellAt cs (comingL cs ws)[i]] = _
            unfold cellAt
            rw [hf]
          rw [e3]
          have up : ∀ b l0, H4 b = some (.tup l0) → upd H4 D (.dK (putK kvs (.inl (comingL cs ws)[i]) (.ref t))) b = some (.tup l0) := fun b l0 e => by
            rw [upd_ne (ne_of e hk (by intro z; cases z))]
            exact e
          have up2 : ∀ b l0, H4 b = some (.tup l0) → upd H4 D (.dK (kvs ++ [(.inl (comingL cs ws)[i], .ref t)])) b = some (.tup l0) := fun b l0 e => by
            rw [upd_ne (ne_of e hk (by intro z; cases z))]
            exact e
          refine Paired.snoc (Paired.mapP hr1 fun kv c q => ?_) ⟨rfl, t, rfl, up _ _ hgt⟩
          obtain ⟨e1, t1, e2, h2⟩ := q
          exact ⟨e1, t1, e2, up _ _ h2⟩
    · obtain ⟨s3, hc3⟩ := p3
      rw [el, List.take_length] at hc3
      have sH := (s1.trans s2).trans s3
      have er : ((reached cs ws).map (cellAt cs)).map (·.1) = reached cs ws := map_fst_cellAt cs _
      have lr : (reached cs ws).length ≤ 1000 := by
        have q := List.length_filter_le (hasC cs) (comingL cs ws)
        unfold reached
        omega
      refine ⟨_, rfl, _, rfl, a, _, _, _, rfl, rfl, Same.sqt sH hs, at_of (j := 1) rfl rfl, D, q, (reached cs ws).map (cellAt cs), ws, rfl, hc3, by rw [List.length_map]; exact lr, .inr (Same.sqt sH hq), fun v2 H5 ks hpm hsd s5 hd5 => ?_⟩
      rw [er] at hpm
      refine k v2 H5 ks hpm hsd (sH.trans s5) ?_
      have ek : ks.map (cellAt ((reached cs ws).map (cellAt cs))) = ks.map (cellAt cs) := List.map_congr_left fun b hb => cellAt_map (hpm.mem_iff.mp hb)
      rw [ek] at hd5
      exact hd5
end
end Hs
namespace Hs
open PySem PySem.Spec PyProof.Rows L2
/-! H5: renumbered -/
def numK : List Int → Nat → List (Key × V)
  | [], _ => []
  | x :: l, i => (Sum.inl x, .int (i : Int)) :: numK l (i + 1)
theorem numK_len : ∀ (l : List Int) (i : Nat), (numK l i).length = l.length
  | [], _ => rfl
  | _ :: l, i => by rw [numK, List.length_cons, List.length_cons, numK_len l]
theorem numK_keys : ∀ (l : List Int) (i : Nat), (numK l i).map (·.1) = l.map Sum.inl
  | [], _ => rfl
  | _ :: l, i => by rw [numK, List.map_cons, List.map_cons, numK_keys l]
theorem numK_snoc : ∀ (l : List Int) (x : Int) (i : Nat), numK (l ++ [x]) i = numK l i ++ [(Sum.inl x, .int ((i + l.length : Nat) : Int))]
  | [], x, i => rfl
  | y :: l, x, i => by
    rw [List.cons_append, numK, numK, numK_snoc l, List.length_cons]
    have e : i + 1 + l.length = i + (l.length + 1) := by omega
    rw [e]
    rfl
theorem numK_get : ∀ (l : List Int) (x : Int) (i : Nat), x ∈ l → valV (numK l i) (.inl x) = some (.int ((i + l.idxOf x : Nat) : Int))
  | y :: l, x, i, h => by
    rw [numK, List.idxOf_cons]
    by_cases e : y = x
    · have eb : (y == x) = true := beq_iff_eq.mpr e
      rw [valV_pos (by rw [e]), eb]
      rfl
    · have eb : (y == x) = false := beq_eq_false_iff_ne.mpr e
      rw [valV_neg (fun z => e (Sum.inl.inj z)), eb, numK_get l x (i + 1) ((List.mem_cons.mp h).resolve_left fun z => e z.symm)]
      show _ = some (V.int ((i + (l.idxOf x + 1) : Nat) : Int))
      have e2 : i + 1 + l.idxOf x = i + (l.idxOf x + 1) := by omega
      rw [e2]
theorem numK_at : ∀ (l : List Int) (i j : Nat), (numK l i)[j]? = (l[j]?).map fun x => (Sum.inl x, V.int ((i + j : Nat) : Int))
  | [], _, _ => rfl
  | y :: l, i, 0 => rfl
  | y :: l, i, j + 1 => by
    rw [numK, List.getElem?_cons_succ, List.getElem?_cons_succ, numK_at l]
    have e : i + 1 + j = i + (j + 1) := by omega
    rw [e]
def numAt (cs : List Cell) (ws : List Int) (a : Int) : Int := (((0 :: comingL cs ws).idxOf a : Nat) : Int)
def leastF (cs : List Cell) (ws : List Int) (a : Int) : Cell := (numAt cs ws a, (cellAt cs a).2.1, numAt cs ws (cellAt cs a).2.2)
theorem idxOf_inj {l : List Int} {a b : Int} (ha : a ∈ l) (hb : b ∈ l) (h : l.idxOf a = l.idxOf b) : a = b := by
  have h1 := List.getElem_idxOf (List.idxOf_lt_length_of_mem ha)
  have h2 := List.getElem_idxOf (List.idxOf_lt_length_of_mem hb)
  rw [← h1, ← h2]
  congr 1
theorem CellsAt.off {H H' : Hp} {p x : Addr} {cs : List Cell} (np : p ≠ x) (nt : ∀ l, H x ≠ some (.tup l)) (o : ∀ b u, b ≠ x → H b = some u → H' b = some u) (h : CellsAt H p cs) : CellsAt H' p cs := by
  obtain ⟨kvs, e, r⟩ := h
  refine ⟨kvs, o _ _ np e, Paired.mapP r fun kv c q => ?_⟩
  obtain ⟨e1, t, e2, ht⟩ := q
  exact ⟨e1, t, e2, o _ _ (fun z => nt _ (by rw [← z]; exact ht)) ht⟩
def spRenum (K : PySem.W.Frag) : Sp := fun vs H Q _ => ∃ v cs ws, vs = [v] ∧ Dp K H v (stD cs ws) ∧ StOk cs ws ∧
  ∀ (v : V) (H' : Hp) (ks : List Int), ks.Perm ((reached cs ws).map (numAt cs ws)) → ks.Pairwise (· ≤ ·) → Same H H' → Dp K H' v (stD (ks.map (cellAt ((reached cs ws).map (leastF cs ws)))) (ws.map (numAt cs ws))) → Q v H'
section
variable {P : Program} {w : World} {K : PySem.W.Frag} {mg : Str → Option Value} {base : Heap}
theorem scRenum : FnScope ["state", "cells", "numbers", "place", "least", "value"] ["state"] (defScope (top 30)) := ⟨rfl, rfl, rfl, by decide +kernel, rfl, by decide +kernel, by decide +kernel⟩
theorem ok_renum (D : Def K mg "renumbered" (top 30) ["state"]) (T : Txt mg) (G1 : Fn P w K mg base CX0 1 "cells_of" ["state"] (spCells K)) (G2 : Fn P w K mg base CX0 1 "coming" ["cells", "values"] (spComing K))
    (G3 : Fn P w K mg base CX0 1 "state_of" ["cells", "values"] (spStateOf K)) : Fn P w K mg base CX0 2 "renumbered" ["state"] (spRenum K) := by
  refine D.ok scRenum (fun vs H Q E h => ?_) (fun f cdv A outer s H vs Q E hr h => ?_)
  · obtain ⟨v, cs, ws, rfl, _⟩ := h
    rfl
  · obtain ⟨v, cs, ws, rfl, hd, ⟨hn, hz, hL, hv, hw, hA⟩, k⟩ := h
    have hu := hu_of hr
    refine ⟨_, pss_cons (ps_set (i := 1) scRenum.nd rfl (Or.inl rfl) (pe_fn G1 hr pass0 (pa_cons (pv 0) pa_nil)))
      (pss_cons (ps_set (i := 2) scRenum.nd rfl (Or.inr rfl) (pe_disp (pps_cons pe_int pe_int pps_nil) rfl rfl (by simp) (by decide)))
      (pss_cons (ps_for PassesOwn.never rfl (pi_list (pe_fn G2 hr pass0 (pa_cons (pv 1) (pa_cons (pe_ix (r := rIxT K) ix_tup (pv 0) pe_int (fun _ _ => rfl)) pa_nil)))) (pg_name (i := 3) scRenum.nd rfl (Or.inl rfl))
        (pss_one (ps_dput hu (pv 2) (pv 3) (pe_callB call_lenD (by rfl) T.len PySem.boot_len (pa_cons (pv 2) pa_nil)) rfl)))
      (pss_cons (ps_set (i := 4) scRenum.nd rfl (Or.inl rfl) pe_dnewK)
      (pss_cons (ps_lock (ps_for PassesOwn.never rfl (pi_keys (pv 2)) (pg_name (i := 3) scRenum.nd rfl (Or.inl rfl))
        (pss_one (ps_if (pt_cmp (pc_din hu (pv 3) (pv 1)))
          (pss_one (ps_dput hu (pv 4) (pe_dget hu (pv 2) (pv 3) (fun _ _ => rfl))
            (pe_tup (pa_cons (pe_ix (r := rIxT K) ix_tup (pe_dget hu (pv 1) (pv 3) (fun _ _ => rfl)) pe_int (fun _ _ => rfl))
              (pa_cons (pe_dget hu (pv 2) (pe_ix (r := rIxT K) ix_tup (pe_dget hu (pv 1) (pv 3) (fun _ _ => rfl)) pe_int (fun _ _ => rfl)) (fun _ _ => rfl)) pa_nil))) rfl)) pss_nil))))
      (pss_one (ps_ret (pe_fn G3 hr pass0 (pa_cons (pv 4) (pa_cons
        (pe_lc (own := [("value", 5)]) (g := gName 5) (tt := tYes) rfl scRenum.nd (pi_tup (pe_ix (r := rIxT K) ix_tup (pv 0) pe_int (fun _ _ => rfl))) (blkOk_by (N := ["state", "cells", "numbers", "place", "least", "value"]) (sc := defScope (top 30)) (by decide +kernel))
          (fun _ _ _ _ _ => pg_name (i := 5) scRenum.nd rfl (Or.inl rfl)) (fun _ _ _ _ _ => pts_nil)
          (fun _ _ _ _ _ => pe_dget hu (pv 2) (pv 5) (fun _ _ => rfl))) pa_nil))))))))), ?_⟩
    refine ⟨v, rfl, v, cs, ws, rfl, hd, hn, hz, fun p H1 hp0 s1 hp => ?_⟩
    obtain ⟨a, pc, q, xs, rfl, hs, _, _, hq⟩ := Dp.st_inv hd
    have hcm := coming_ok hL hv
    generalize ecm : comingL cs ws = cm at hcm
    obtain ⟨hpl, hcl, hvl⟩ := hcm
    have hln := hpl.len
    have h0cm : (0 : Int) ∉ cm := fun z => by
      have := (hpl.2 0 z).1
      omega
    have nd0 : (0 :: cm).Nodup := List.nodup_cons.mpr ⟨h0cm, hpl.1⟩
    intro N hN
    refine ⟨upd_same, [(.inl 0, .int 0)], rfl, by decide, ?_⟩
    have hE : upd (upd H1 N (.dK [])) N (.dK (mergeK [] [(.inl 0, .int 0)])) = upd (upd H1 N (.dK [])) N (.dK (numK [0] 0)) := rfl
    rw [hE]
    generalize eH2 : upd (upd H1 N (.dK [])) N (.dK (numK [0] 0)) = H2
    have s2 : Same H1 H2 := fun b o e => by
      have nb : b ≠ N := ne_of_none e hN
      rw [← eH2, upd_ne nb, upd_ne nb]
      exact e
    have hN2 : H2 N = some (.dK (numK (0 :: cm.take 0) 0)) := by
      rw [← eH2]
      exact upd_same
    have HN : H N = none := s1.free hN
    refine ⟨_, rfl, _, rfl, a, _, _, _, rfl, rfl, Same.sqt (s1.trans s2) hs, at_of (j := 1) rfl rfl, p, q, cs, ws, rfl, CellsAt.mono s2 hp, Same.sqt (s1.trans s2) hq, hL, hv, hw, fun l H3 hl0 s3 hl => ?_⟩
    rw [ecm] at hl
    have lN : l ≠ N := fun z => by
      rw [z] at hl
      rw [s3 _ _ hN2] at hl
      cases hl
    have pN : p ≠ N := fun z => by
      obtain ⟨_, e, _⟩ := hp
      rw [z, hN] at e
      cases e
    have s03 : Same H H3 := (s1.trans s2).trans s3
    have hp3 := CellsAt.mono (s2.trans s3) hp
    refine ⟨l, rfl, ⟨_, SqL.of hl⟩, for_list (K := K) (a := l) (xs := cm.map V.int) (fun i σ H4 => ∃ v3, σ = [some (.ref a), some (.ref p), some (.ref N), v3, none, none] ∧ (∀ b o, b ≠ N → H3 b = some o → H4 b = some o) ∧ H4 N = some (.dK (numK (0 :: cm.take i) 0))) ⟨none, rfl, fun _ _ _ e => e, s3 _ _ hN2⟩ (fun i σ H4 _ p4 => ?_) ?_ ?_⟩
    · obtain ⟨_, _, o4, _⟩ := p4
      exact SqL.of (o4 _ _ lN hl)
    · rintro i x σ H4 hx ⟨v3, rfl, o4, h4⟩
      have hi : i < cm.length := by
        have z := (List.getElem?_eq_some_iff.mp hx).1
        rw [List.length_map] at z
        exact z
      rw [List.getElem?_map, List.getElem?_eq_getElem hi] at hx
      obtain rfl := Option.some.inj hx
      have tk : cm.take (i + 1) = cm.take i ++ [cm[i]] := by rw [List.take_add_one, List.getElem?_eq_getElem hi]; rfl
      have lt : (0 :: cm.take i).length = i + 1 := by rw [List.length_cons, List.length_take]; omega
      have fresh : (Sum.inl cm[i] : Key) ∉ (numK (0 :: cm.take i) 0).map (·.1) := by
        rw [numK_keys]
        intro z
        obtain ⟨y, hy, e⟩ := List.mem_map.mp z
        obtain rfl := Sum.inl.inj e
        have nd := nd0.sublist (List.Sublist.cons₂ 0 (List.take_sublist (i + 1) cm))
        rw [tk, ← List.cons_append, List.nodup_append] at nd
        exact nd.2.2 _ hy _ (List.mem_singleton.mpr rfl) rfl
      refine ⟨_, rfl, N, _, rfl, h4, _, rfl, _, rfl, N, _, rfl, DPut.k (k := .inl cm[i]) h4 (by rw [numK_len, lt]; exact small1000 (by omega)), _, rfl, fun b o nb e => ?_, ?_⟩
      · rw [upd_ne nb]
        exact o4 b o nb e
      · rw [upd_same, putK_new fresh, tk, ← List.cons_append, numK_snoc, numK_len, Nat.zero_add]
    rintro σ H4 ⟨v3, rfl, o4, h4⟩
    rw [List.length_map, List.take_length] at h4
    have hN3 : H3 N = some (.dK (numK [0] 0)) := s3 _ _ hN2
    have s04 : Same H H4 := fun b o e => o4 _ _ (ne_of_none e HN) (s03 _ _ e)
    have hp4 : CellsAt H4 p cs := CellsAt.off pN (fun l0 z => by rw [hN3] at z; cases z) o4 hp3
    intro L hL0
    have s5 : Same H4 (upd H4 L (.dK [])) := same_upd hL0
    have NL : N ≠ L := ne_of_none h4 hL0
    have pL : p ≠ L := by
      obtain ⟨_, e, _⟩ := hp4
      exact ne_of_none e hL0
    have hp5 := CellsAt.mono s5 hp4
    have h5 := s5 _ _ h4
    refine ⟨N, .dK (numK (0 :: cm) 0), h5, trivial, fun od => ?_⟩
    have s6 : ∀ b o, b ≠ N → upd H4 L (.dK []) b = some o → upd (upd H4 L (.dK [])) N (.frz od (.dK (numK (0 :: cm) 0))) b = some o := fun b o nb e => by
      rw [upd_ne nb]
      exact e
    have numGet : ∀ {H7 : Hp}, H7 N = some (.frz od (.dK (numK (0 :: cm) 0))) → ∀ {x : Int}, x ∈ (0 :: cm) → DGet H7 N (.int x) (some (.int (numAt cs ws x))) := fun {H7} e {x} hx => by
      have z := numK_get (0 :: cm) x 0 hx
      refine .inl ⟨_, .inl x, .inr ⟨od, e⟩, rfl, ?_⟩
      rw [z, Nat.zero_add]
      unfold numAt
      rw [ecm]
    have num0 : (numK (0 :: cm) 0).length = cm.length + 1 := by rw [numK_len, List.length_cons]
    refine ⟨_, rfl, N, od, rfl, .inl ⟨numK (0 :: cm) 0, upd_same, for_it walk_keys (fun i σ H7 => ∃ v3, σ = [some (.ref a), some (.ref p), some (.ref N), v3, some (.ref L), none] ∧ Same H H7 ∧ CellsAt H7 p cs ∧ H7 N = some (.frz od (.dK (numK (0 :: cm) 0))) ∧
      CellsAt H7 L ((((0 :: cm).take i).filter (hasC cs)).map (leastF cs ws))) ⟨v3, rfl, fun b o e => s6 _ _ (ne_of_none e HN) (s5 _ _ (s04 _ _ e)), CellsAt.off pN (fun l0 z => by rw [h5] at z; cases z) s6 hp5, upd_same, [], by rw [upd_ne NL.symm, upd_same], .nil⟩ (fun i σ H7 _ p7 => ?_) ?_ ?_⟩⟩
    · obtain ⟨_, _, _, _, e, _⟩ := p7
      exact e
    · rintro i x σ H7 H8 hi ⟨v4, rfl, s7, hp7, h7, kvs, hk, hr1⟩ ⟨rfl, k1, vv, hkv, rfl⟩
      have hi2 : i < (0 :: cm).length := by
        rw [num0] at hi
        rw [List.length_cons]
        exact hi
      rw [numK_at, List.getElem?_eq_getElem hi2] at hkv
      obtain ⟨rfl, rfl⟩ := Prod.mk.inj (Option.some.inj hkv)
      have tk : (0 :: cm).take (i + 1) = (0 :: cm).take i ++ [(0 :: cm)[i]] := by rw [List.take_add_one, List.getElem?_eq_getElem hi2]; rfl
      generalize exi : (0 :: cm)[i] = xi at tk
      have mxi : xi ∈ (0 :: cm) := by rw [← exi]; exact List.getElem_mem hi2
      show ∃ _, _
      obtain ⟨g1, g2⟩ := CellsAt.get hp7 xi
      cases hf : findC cs xi with
      | none =>
        refine ⟨_, rfl, _, rfl, p, _, rfl, g1 hf, _, rfl, iteF ?_⟩
        have e0 : hasC cs xi = false := by unfold hasC; rw [hf]; rfl
        refine ⟨_, rfl, s7, hp7, h7, kvs, hk, ?_⟩
        rw [tk, List.filter_append, List.filter_cons, e0]
        simpa using hr1
      | some r =>
        obtain ⟨mk, n⟩ := r
        obtain ⟨t, gt, hgt⟩ := g2 mk n hf
        refine ⟨_, rfl, _, rfl, p, _, rfl, gt, _, rfl, iteT ?_⟩
        have e0 : hasC cs xi = true := by unfold hasC; rw [hf]; rfl
        have hxa := hA _ (findC_some hf)
        have xcm : xi ∈ cm := (List.mem_cons.mp mxi).resolve_left fun z => by
          have := hxa.1
          omega
        have enx : nextOf cs xi = n := by unfold nextOf; rw [hf]
        have ncm : n ∈ (0 :: cm) := by
          rcases hcl xi xcm with z | z
          · rw [enx] at z
            rw [z]
            exact List.mem_cons_self
          · rw [enx] at z
            exact List.mem_cons_of_mem _ z
        have eF : leastF cs ws xi = (numAt cs ws xi, mk, numAt cs ws n) := by
          unfold leastF cellAt
          rw [hf]
        refine ⟨_, rfl, _, rfl, p, _, rfl, gt, t, _, _, _, rfl, rfl, SqT.of hgt, at_of (j := 0) rfl rfl, _, rfl, _, rfl, _, rfl, p, _, rfl, gt, t, _, _, _, rfl, rfl, SqT.of hgt, at_of (j := 1) rfl rfl, N, _, rfl, numGet h7 ncm, (by show 2 ≤ sizeLine; decide), fun r hr2 => ?_⟩
        have s8 : Same H8 (upd H8 r (.tup [.str mk, .int (numAt cs ws n)])) := same_upd hr2
        refine ⟨_, rfl, _, rfl, _, rfl, N, _, rfl, numGet (s8 _ _ h7) mxi, L, _, rfl, DPut.k (k := .inl (numAt cs ws xi)) (s8 _ _ hk) ?_, ?_⟩
        · have q1 := Paired.length hr1
          rw [List.length_map] at q1
          have q2 := List.length_filter_le (hasC cs) ((0 :: cm).take i)
          rw [List.length_take] at q2
          rw [List.length_cons] at hi2
          exact small1000 (by omega)
        have rL : r ≠ L := (ne_of_none hk hr2).symm
        have fresh : (Sum.inl (numAt cs ws xi) : Key) ∉ kvs.map (·.1) := by
          rw [kv_keys hr1]
          intro z
          obtain ⟨c, hc1, e1⟩ := List.mem_map.mp z
          obtain ⟨a1, ha1, rfl⟩ := List.mem_map.mp hc1
          have e2 : numAt cs ws a1 = numAt cs ws xi := Sum.inl.inj e1
          have m1 := (List.mem_filter.mp ha1).1
          unfold numAt at e2
          rw [ecm] at e2
          have e3 := idxOf_inj (List.mem_of_mem_take m1) mxi (Int.ofNat.inj e2)
          have nd := nd0.sublist (List.take_sublist (i + 1) _)
          rw [tk, List.nodup_append] at nd
          exact nd.2.2 a1 m1 _ (List.mem_singleton.mpr rfl) e3
        have o9 : ∀ b u, b ≠ L → upd H8 r (.tup [.str mk, .int (numAt cs ws n)]) b = some u → upd (upd H8 r (.tup [.str mk, .int (numAt cs ws n)])) L (.dK (putK kvs (.inl (numAt cs ws xi)) (.ref r))) b = some u := fun b u nb e => by
          rw [upd_ne nb]
          exact e
        have HL : H L = none := s04.free hL0
        refine ⟨_, rfl, fun b o e => o9 _ _ (ne_of_none e HL) (s8 _ _ (s7 _ _ e)), CellsAt.off pL (fun l0 z => by rw [s8 _ _ hk] at z; cases z) o9 (CellsAt.mono s8 hp7), o9 _ _ NL (s8 _ _ h7), kvs ++ [(.inl (numAt cs ws xi), .ref r)], by rw [upd_same, putK_new fresh], ?_⟩
        have e4 : ([xi].filter (hasC cs)).map (leastF cs ws) = [(numAt cs ws xi, mk, numAt cs ws n)] := by
          rw [List.filter_cons, if_pos e0]
          show [leastF cs ws xi] = _
          rw [eF]
        rw [tk, List.filter_append, List.map_append, e4]
        refine Paired.snoc (Paired.mapP hr1 fun kv c z => ?_) ⟨rfl, r, rfl, o9 _ _ rL upd_same⟩
        obtain ⟨e1, t1, e2, h2⟩ := z
        exact ⟨e1, t1, e2, o9 _ _ (ne_of h2 hk (by intro z; cases z)) (s8 _ _ h2)⟩
    · rintro σ H7 ⟨v4, rfl, s7, hp7, h7, hc7⟩
      rw [num0, ← List.length_cons, List.take_length] at hc7
      refine ⟨h7, ?_⟩
      have o8 : ∀ b u, b ≠ N → H7 b = some u → upd H7 N (.dK (numK (0 :: cm) 0)) b = some u := fun b u nb e => by
        rw [upd_ne nb]
        exact e
      have hc8 := CellsAt.off NL.symm (fun l0 z => by rw [h7] at z; cases z) o8 hc7
      have s8 : Same H (upd H7 N (.dK (numK (0 :: cm) 0))) := fun b o e => o8 _ _ (ne_of_none e HN) (s7 _ _ e)
      generalize eH8 : upd H7 N (.dK (numK (0 :: cm) 0)) = H8 at hc8 s8
      have h8 : H8 N = some (.dK (numK (0 :: cm) 0)) := by
        rw [← eH8]
        exact upd_same
      have z0 : hasC cs 0 = false := by
        unfold hasC
        cases e : findC cs 0 with
        | none => rfl
        | some r =>
          have := (hA _ (findC_some e)).1
          have : (1 : Int) ≤ 0 := this
          omega
      have er : (0 :: cm).filter (hasC cs) = reached cs ws := by
        rw [List.filter_cons, z0]
        unfold reached
        rw [ecm]
        rfl
      rw [er] at hc8
      have lr : ((reached cs ws).map (leastF cs ws)).length ≤ 1000 := by
        rw [List.length_map]
        have z := List.length_filter_le (hasC cs) cm
        unfold reached
        rw [ecm]
        omega
      have ef : ((reached cs ws).map (leastF cs ws)).map (·.1) = (reached cs ws).map (numAt cs ws) := by
        rw [List.map_map]
        rfl
      refine ⟨_, rfl, _, rfl, a, _, _, _, rfl, rfl, Same.sqt s8 hs, at_of (j := 1) rfl rfl, q, rfl, ⟨_, Same.sqt s8 hq⟩, fun D hD => ?_⟩
      refine lc_pure walk_tup (fun i => .int (numAt cs ws (ws.getD i 0))) (Nat.le_of_lt (small1000 (by rw [List.length_map]; exact hw))) hD (fun H9 s9 => Same.sqt (s8.trans s9) hq) (fun i H9 x H0 _ y => by rw [y.1]; exact Same.refl _) ?_ ?_
      · rintro i x H9 H0 hi s9 ⟨rfl, hx⟩ Q' k'
        rw [List.length_map] at hi
        rw [List.getElem?_map, List.getElem?_eq_getElem hi] at hx
        obtain rfl := Option.some.inj hx
        rw [List.getD_eq_getElem?_getD, List.getElem?_eq_getElem hi] at k'
        have mw : ws[i] ∈ (0 :: cm) := by
          rcases hvl _ (List.getElem_mem hi) with z | z
          · rw [z]
            exact List.mem_cons_self
          · exact List.mem_cons_of_mem _ z
        have z := numK_get (0 :: cm) ws[i] 0 mw
        rw [Nat.zero_add] at z
        refine ⟨_, rfl, _, rfl, N, _, rfl, .inl ⟨_, .inl ws[i], .inl (s9 _ _ h8), rfl, z.symm⟩, ?_⟩
        have k2 := k' H0 (Same.refl _)
        have e9 : numAt cs ws ws[i] = (((0 :: cm).idxOf ws[i] : Nat) : Int) := by
          unfold numAt
          rw [ecm]
        have k3 : Q' (.int (numAt cs ws ws[i])) H0 := k2
        rw [e9] at k3
        exact k3
      · intro H9 s9 h9
        have e9 : (List.range (ws.map V.int).length).map (fun i => V.int (numAt cs ws (ws.getD i 0))) = (ws.map (numAt cs ws)).map V.int := by
          rw [List.length_map, range_get ws _ (fun b => V.int (numAt cs ws b)) fun i b e => by rw [List.getD_eq_getElem?_getD, e]; rfl, List.map_map]
          rfl
        rw [e9] at h9
        refine ⟨L, D, (reached cs ws).map (leastF cs ws), ws.map (numAt cs ws), rfl, CellsAt.mono s9 hc8, lr, .inl (SqL.of h9), fun v2 H0 ks hpm hsd s0 hd0 => ?_⟩
        rw [ef] at hpm
        exact k v2 H0 ks hpm hsd ((s8.trans s9).trans s0) hd0
end
end Hs
namespace Hs
open PySem PySem.Spec PyProof.Rows L2
/-! H6: what is taken is a state; shown, least_form -/
theorem asc_lt {ns : List Int} (h : asc ns = true) (i : Nat) (hi : i + 1 < ns.length) : ns.getD i 0 < ns.getD (i + 1) 0 := by
  unfold asc at h
  exact of_decide_eq_true (List.all_eq_true.mp h i (List.mem_range.mpr (by omega)))
theorem asc_pair : ∀ {ns : List Int}, asc ns = true → ns.Pairwise (· < ·)
  | [], _ => .nil
  | [a], _ => List.pairwise_singleton _ _
  | a :: b :: l, h => by
    have h1 : a < b := asc_lt h 0 (by simp)
    have h2 : asc (b :: l) = true := by
      unfold asc
      refine List.all_eq_true.mpr fun i hi => ?_
      have hi' := List.mem_range.mp hi
      have z := asc_lt h (i + 1) (by rw [List.length_cons, List.length_cons]; rw [List.length_cons] at hi'; omega)
      exact decide_eq_true z
    have ih := asc_pair h2
    refine List.Pairwise.cons (fun c hc => ?_) ih
    rcases List.mem_cons.mp hc with e | e
    · rw [e]
      exact h1
    · have := (List.pairwise_cons.mp ih).1 c e
      omega
def cellOf : PyData → Cell
  | .tuple [.int a, .str s, .int n] => (a, s, n)
  | _ => (0, "", 0)
theorem cells_map : ∀ {cs : List PyData}, (∀ c ∈ cs, isCell c = true) → cs = (cs.map cellOf).map cellD ∧ cs.map addrOf = (cs.map cellOf).map (·.1) ∧ ∀ c ∈ cs.map cellOf, 1 ≤ c.1 ∧ c.1 ≤ 999 ∧ 0 ≤ c.2.2 ∧ c.2.2 ≤ 999
  | [], _ => ⟨rfl, rfl, fun _ h => nomatch h⟩
  | c :: cs, h => by
    obtain ⟨i1, i2, i3⟩ := cells_map fun d hd => h d (List.mem_cons_of_mem _ hd)
    obtain ⟨a, s, n, rfl, p1, p2, p3, p4⟩ := isCell_inv (h c List.mem_cons_self)
    refine ⟨?_, ?_, fun d hd => ?_⟩
    · rw [List.map_cons, List.map_cons, ← i1]
      rfl
    · rw [List.map_cons, List.map_cons, List.map_cons, i2]
      rfl
    · rw [List.map_cons] at hd
      rcases List.mem_cons.mp hd with e | e
      · rw [e]
        exact ⟨p1, p2, p3, p4⟩
      · exact i3 d e
def intOf : PyData → Int
  | .int i => i
  | _ => 0
theorem ints_map : ∀ {vs : List PyData} {lo hi : Int}, (∀ v ∈ vs, isBetween v lo hi = true) → vs = (vs.map intOf).map PyData.int ∧ ∀ v ∈ vs.map intOf, lo ≤ v ∧ v ≤ hi
  | [], _, _, _ => ⟨rfl, fun _ h => nomatch h⟩
  | v :: vs, lo, hi, h => by
    obtain ⟨i1, i2⟩ := ints_map fun d hd => h d (List.mem_cons_of_mem _ hd)
    obtain ⟨i, rfl, p1, p2⟩ := between_inv (h v List.mem_cons_self)
    refine ⟨?_, fun d hd => ?_⟩
    · rw [List.map_cons, List.map_cons, ← i1]
      rfl
    · rw [List.map_cons] at hd
      rcases List.mem_cons.mp hd with e | e
      · rw [e]
        exact ⟨p1, p2⟩
      · exact i2 d e
theorem look_state {ms : List Str} {n : Int} {d : PyData} (h : lookAt ms n d = none) (hz : SizeOk d) : ∃ cs ws, d = stD cs ws ∧ StOk cs ws ∧ (ws.length : Int) = n ∧ (∀ c ∈ cs, c.2.1 ∈ ms) ∧ (cs.map (·.1)).Pairwise (· < ·) := by
  unfold lookAt at h
  cases hf : hasForm d with
  | false =>
    rw [hf] at h
    cases h
  | true =>
    rw [hf, if_pos rfl] at h
    obtain ⟨cs, vs, rfl, h3, hc, hv⟩ := hasForm_inv hf
    have h' : (if (cs.all (markIn ms) && asc (cs.map addrOf)) = true then (if (vs.length : Int) = n then none else some ("values" : Str)) else some ("heap" : Str)) = none := h
    by_cases h1 : (cs.all (markIn ms) && asc (cs.map addrOf)) = true
    · rw [if_pos h1] at h'
      by_cases h2 : (vs.length : Int) = n
      · obtain ⟨c1, c2, c3⟩ := cells_map hc
        obtain ⟨v1, v2⟩ := ints_map hv
        rw [Bool.and_eq_true] at h1
        have ha := asc_pair h1.2
        rw [c2] at ha
        have hl := hz _ _ rfl
        refine ⟨cs.map cellOf, vs.map intOf, ?_, ⟨?_, by rw [List.length_map]; omega, fun c q => (c3 c q).2.2, v2, by rw [List.length_map]; exact hl, fun c q => ⟨(c3 c q).1, (c3 c q).2.1⟩⟩, by rw [List.length_map]; exact h2, fun c q => ?_, ha⟩
        · unfold stD
          rw [← c1, ← v1]
        · exact ha.imp fun {a b} z => by omega
        · have hm := List.all_eq_true.mp h1.1 (cellD c) (by rw [c1]; exact List.mem_map.mpr ⟨c, q, rfl⟩)
          exact of_decide_eq_true hm
      · rw [if_neg h2] at h'
        cases h'
    · rw [if_neg h1] at h'
      cases h'
theorem refusal_state {dm dn d : PyData} (h : refusal dm dn d = none) (hz : SizeOk d) : ∃ cs ws, d = stD cs ws ∧ StOk cs ws := by
  unfold refusal at h
  by_cases h1 : areNames dm 1 4 = true
  · rw [if_pos h1] at h
    by_cases h2 : isBetween dn 1 5 = true
    · rw [if_pos h2] at h
      cases e : lookAt (strsOf dm) (numOf dn) d with
      | none =>
        obtain ⟨cs, ws, e1, e2, _⟩ := look_state e hz
        exact ⟨cs, ws, e1, e2⟩
      | some z =>
        rw [e] at h
        cases h
    · rw [if_neg h2] at h
      cases h
  · rw [if_neg h1] at h
    cases h
/-- a call that looks at a state, and then tells something of it -/
def spTell (K : PySem.W.Frag) (CN CM CS : Addr) (go : List Cell → List Int → VK → Hp → Prop) : Sp := fun vs H Q E => ∃ vm vn v dm dn d, vs = [vm, vn, v] ∧ Dp K H vm dm ∧ Dp K H vn dn ∧ Dp K H v d ∧ Fits dm ∧ SizeOk d ∧
  (∀ r, refusal dm dn d = some r → ∀ H', Same H H' → EndR CN CM CS vm vn (some r) H' False E) ∧ (∀ cs ws, refusal dm dn d = none → d = stD cs ws → StOk cs ws → go cs ws Q H)
def goShown (K : PySem.W.Frag) (cs : List Cell) (ws : List Int) (Q : VK) (H : Hp) : Prop :=
  ∀ (v : V) (H' : Hp) (ks : List Int), ks.Perm (reached cs ws) → ks.Pairwise (· ≤ ·) → Same H H' → Dp K H' v (stD (ks.map (cellAt cs)) ws) → Q v H'
def goLeast (K : PySem.W.Frag) (cs : List Cell) (ws : List Int) (Q : VK) (H : Hp) : Prop :=
  ∀ (v : V) (H' : Hp) (ks : List Int), ks.Perm ((reached cs ws).map (numAt cs ws)) → ks.Pairwise (· ≤ ·) → Same H H' → Dp K H' v (stD (ks.map (cellAt ((reached cs ws).map (leastF cs ws)))) (ws.map (numAt cs ws))) → Q v H'
section
variable {P : Program} {w : World} {K : PySem.W.Frag} {mg : Str → Option Value} {base : Heap} {S CN CM CS : Addr}
theorem scShown : FnScope ["marks", "many", "state"] ["marks", "many", "state"] (defScope (top 29)) := ⟨rfl, rfl, rfl, by decide +kernel, rfl, by decide +kernel, by decide +kernel⟩
theorem ok_shown (D : Def K mg "shown" (top 29) ["marks", "many", "state"]) (GN : Fn P w K mg base (L2.CX P w) 6 "need_state" ["marks", "many", "state"] (spNeed K CN CM CS)) (GP : Fn P w K mg base CX0 2 "shown_part" ["state"] (spShownPart K)) :
    Fn P w K mg base (L2.CX P w) 7 "shown" ["marks", "many", "state"] (spTell K CN CM CS (goShown K)) := by
  refine D.okX scShown (fun vs H Q E h => ?_) (fun f cdv A outer s H vs Q E hr h => ?_)
  · obtain ⟨vm, vn, v, dm, dn, d, rfl, _⟩ := h
    rfl
  · obtain ⟨vm, vn, v, dm, dn, d, rfl, hm, hn, hd, hf, hz, k1, k2⟩ := h
    refine ⟨_, pss_cons (ps_expr (pe_fn GN hr (E := E) (passes_call (takes_of rfl rfl rfl rfl) (fun _ _ _ _ h => h)) (pa_cons (pv 0) (pa_cons (pv 1) (pa_cons (pv 2) pa_nil)))))
      (pss_one (ps_ret (pe_fn GP (hr.mono (by decide)) pass0 (pa_cons (pv 2) pa_nil)))), ?_⟩
    refine ⟨_, rfl, _, rfl, _, rfl, vm, vn, v, dm, dn, d, rfl, hm, hn, hd, hf, hz, fun H1 s1 => ?_⟩
    cases e : refusal dm dn d with
    | some r =>
      have z := k1 r e H1 s1
      cases r <;> exact z
    | none =>
      obtain ⟨cs, ws, rfl, ok⟩ := refusal_state e hz
      refine ⟨_, rfl, v, cs, ws, rfl, dp_mono s1 _ _ hd, ok, fun v2 H2 ks hpm hsd s2 hd2 => ?_⟩
      exact k2 cs ws e rfl ok v2 H2 ks hpm hsd (s1.trans s2) hd2
theorem scLeast : FnScope ["marks", "many", "state"] ["marks", "many", "state"] (defScope (top 31)) := ⟨rfl, rfl, rfl, by decide +kernel, rfl, by decide +kernel, by decide +kernel⟩
theorem ok_least (D : Def K mg "least_form" (top 31) ["marks", "many", "state"]) (GN : Fn P w K mg base (L2.CX P w) 6 "need_state" ["marks", "many", "state"] (spNeed K CN CM CS)) (GP : Fn P w K mg base CX0 2 "renumbered" ["state"] (spRenum K)) :
    Fn P w K mg base (L2.CX P w) 7 "least_form" ["marks", "many", "state"] (spTell K CN CM CS (goLeast K)) := by
  refine D.okX scLeast (fun vs H Q E h => ?_) (fun f cdv A outer s H vs Q E hr h => ?_)
  · obtain ⟨vm, vn, v, dm, dn, d, rfl, _⟩ := h
    rfl
  · obtain ⟨vm, vn, v, dm, dn, d, rfl, hm, hn, hd, hf, hz, k1, k2⟩ := h
    refine ⟨_, pss_cons (ps_expr (pe_fn GN hr (E := E) (passes_call (takes_of rfl rfl rfl rfl) (fun _ _ _ _ h => h)) (pa_cons (pv 0) (pa_cons (pv 1) (pa_cons (pv 2) pa_nil)))))
      (pss_one (ps_ret (pe_fn GP (hr.mono (by decide)) pass0 (pa_cons (pv 2) pa_nil)))), ?_⟩
    refine ⟨_, rfl, _, rfl, _, rfl, vm, vn, v, dm, dn, d, rfl, hm, hn, hd, hf, hz, fun H1 s1 => ?_⟩
    cases e : refusal dm dn d with
    | some r =>
      have z := k1 r e H1 s1
      cases r <;> exact z
    | none =>
      obtain ⟨cs, ws, rfl, ok⟩ := refusal_state e hz
      refine ⟨_, rfl, v, cs, ws, rfl, dp_mono s1 _ _ hd, ok, fun v2 H2 ks hpm hsd s2 hd2 => ?_⟩
      exact k2 cs ws e rfl ok v2 H2 ks hpm hsd (s1.trans s2) hd2
end
end Hs
namespace Hs
open PySem PySem.Spec PyProof.Rows L2
/-! L1: the draws. Nothing is told of a draw but its bounds; F is what its holder knows of the heap beside the draws. -/
def kvD (ac al : Addr) (t : Int) : List (Key × V) := [(.inr "cells", .ref ac), (.inr "left", .ref al), (.inr "at", .int t)]
theorem kvD_cells (ac al : Addr) (t : Int) : valV (kvD ac al t) (.inr "cells") = some (.ref ac) := valV_pos rfl
theorem kvD_left (ac al : Addr) (t : Int) : valV (kvD ac al t) (.inr "left") = some (.ref al) := by
  unfold kvD
  rw [valV_neg (show ¬ (Sum.inr ("cells" : Str) : Key) = .inr ("left" : Str) by decide), valV_pos rfl]
theorem kvD_at (ac al : Addr) (t : Int) : valV (kvD ac al t) (.inr "at") = some (.int t) := by
  unfold kvD
  rw [valV_neg (show ¬ (Sum.inr ("cells" : Str) : Key) = .inr ("at" : Str) by decide), valV_neg (show ¬ (Sum.inr ("left" : Str) : Key) = .inr ("at" : Str) by decide), valV_pos rfl]
theorem putD_left (ac al b : Addr) (t : Int) : putK (kvD ac al t) (.inr "left") (.ref b) = kvD ac b t := by rfl
theorem putD_at (ac al : Addr) (t u : Int) : putK (kvD ac al t) (.inr "at") (.int u) = kvD ac al u := by rfl
structure DrawAt (F H : Hp) (am : Addr) (B : Nat) : Prop where
  same : Same F H
  fm : F am = none
  ex : ∃ ac al cells left t, F ac = none ∧ F al = none ∧ ac ≠ al ∧ H am = some (.dK (kvD ac al t)) ∧ H ac = some (.lst ((cells : List Int).map V.int)) ∧ H al = some (.lst ((left : List Int).map V.int)) ∧ cells.length ≤ 63 ∧ left.length ≤ 63 ∧ 0 ≤ t ∧ t ≤ (B : Int)
theorem DrawAt.mono {F H : Hp} {am : Addr} {B C : Nat} (h : DrawAt F H am B) (hb : B ≤ C) : DrawAt F H am C := by
  obtain ⟨ac, al, cells, left, t, h1, h2, h3, h4, h5, h6, h7, h8, h9, h0⟩ := h.ex
  exact ⟨h.same, h.fm, ac, al, cells, left, t, h1, h2, h3, h4, h5, h6, h7, h8, h9, by omega⟩
/-- its holder lays something new, or changes something of its own -/
theorem DrawAt.upd {F H : Hp} {am p : Addr} {o : HO} {B : Nat} (h : DrawAt F H am B) (hp : H p = none ∨ ∃ u, F p = some u) : DrawAt (upd F p o) (upd H p o) am B := by
  obtain ⟨ac, al, cells, left, t, h1, h2, h3, h4, h5, h6, h7, h8, h9, h0⟩ := h.ex
  have ne : ∀ b u, F b = none → H b = some u → b ≠ p := fun b u e1 e2 z => by
    rw [z] at e1 e2
    rcases hp with q | ⟨u2, q⟩
    · rw [q] at e2
      cases e2
    · rw [q] at e1
      cases e1
  have nm := ne am _ h.fm h4
  have nc := ne ac _ h1 h5
  have nl := ne al _ h2 h6
  refine ⟨fun b u e => ?_, by rw [upd_ne nm]; exact h.fm, ac, al, cells, left, t, by rw [upd_ne nc]; exact h1, by rw [upd_ne nl]; exact h2, h3, by rw [upd_ne nm]; exact h4, by rw [upd_ne nc]; exact h5, by rw [upd_ne nl]; exact h6, h7, h8, h9, h0⟩
  by_cases z : b = p
  · subst z
    rw [upd_same] at e ⊢
    exact e
  · rw [upd_ne z] at e ⊢
    exact h.same _ _ e
theorem DrawAt.new {F H : Hp} {am p : Addr} {o : HO} {B : Nat} (h : DrawAt F H am B) (hp : H p = none) : DrawAt (L2.upd F p o) (L2.upd H p o) am B := h.upd (.inl hp)
theorem DrawAt.own {F H : Hp} {am p : Addr} {o u : HO} {B : Nat} (h : DrawAt F H am B) (hp : F p = some u) : DrawAt (L2.upd F p o) (L2.upd H p o) am B := h.upd (.inr ⟨u, hp⟩)
/-- something new beside, of which the holder keeps nothing -/
theorem DrawAt.beside {F H H' : Hp} {am : Addr} {B : Nat} (h : DrawAt F H am B) (s : Same H H') : DrawAt F H' am B := by
  obtain ⟨ac, al, cells, left, t, h1, h2, h3, h4, h5, h6, h7, h8, h9, h0⟩ := h.ex
  exact ⟨h.same.trans s, h.fm, ac, al, cells, left, t, h1, h2, h3, s _ _ h4, s _ _ h5, s _ _ h6, h7, h8, h9, h0⟩
/-- the holder keeps all that came -/
theorem DrawAt.keep {F H H' : Hp} {am : Addr} {B : Nat} (h : DrawAt F H am B) (s : Same H H') : ∃ F', Same F F' ∧ (∀ b u, H' b = some u → H b = none → F' b = some u) ∧ DrawAt F' H' am B := by
  obtain ⟨ac, al, cells, left, t, h1, h2, h3, h4, h5, h6, h7, h8, h9, h0⟩ := h.ex
  have no : ∀ b u, F b = none → H b = some u → (fun b => match H b with | none => H' b | some _ => F b) b = none := fun b u e1 e2 => by
    show (match H b with | none => H' b | some _ => F b) = none
    rw [e2]
    exact e1
  refine ⟨fun b => match H b with | none => H' b | some _ => F b, fun b u e => ?_, fun b u e1 e2 => ?_, fun b u e => ?_, no _ _ h.fm h4, ac, al, cells, left, t, no _ _ h1 h5, no _ _ h2 h6, h3, s _ _ h4, s _ _ h5, s _ _ h6, h7, h8, h9, h0⟩
  · show (match H b with | none => H' b | some _ => F b) = some u
    rw [h.same _ _ e]
    exact e
  · show (match H b with | none => H' b | some _ => F b) = some u
    rw [e2]
    exact e1
  · have e' : (match H b with | none => H' b | some _ => F b) = some u := e
    cases q : H b with
    | none =>
      rw [q] at e'
      exact e'
    | some u2 =>
      rw [q] at e'
      exact s _ _ (h.same _ _ e')
theorem eqv_nil (l : List Int) : PyData.eqv (.list (l.map PyData.int)) (.list []) = decide (l = []) := by
  cases l <;> rfl
theorem shaped_ints (l : List Int) : SeqAt.shaped (.list (l.map PyData.int)) = true := by
  have h1 : PyData.canLayAll0 (l.map PyData.int) = true := by
    induction l with
    | nil => simp [PyData.canLayAll0]
    | cons a l ih =>
      rw [List.map_cons]
      simp [PyData.canLayAll0, PyData.canLay0, ih]
  have h2 : PyData.depthAll (l.map PyData.int) ≤ 1 := by
    clear h1
    induction l with
    | nil => simp [PyData.depthAll]
    | cons a l ih =>
      rw [List.map_cons]
      simp [PyData.depthAll, PyData.depth] at ih ⊢
      omega
  unfold SeqAt.shaped
  rw [Bool.and_eq_true]
  refine ⟨?_, decide_eq_true ?_⟩
  · simp only [PyData.canLay0]
    exact h1
  · simp only [PyData.depth]
    omega
def spBegun (K : PySem.W.Frag) : Sp := fun vs H Q _ => ∃ (a : Addr) (ns : List Int), vs = [.ref a] ∧ SqL K H a (ns.map V.int) ∧ ns.length ≤ 63 ∧ ∀ (am : Addr) (H' : Hp), DrawAt H H' am 0 → Q (.ref am) H'
def spNext : Sp := fun vs H Q _ => ∃ (am : Addr) (many : Int) (F : Hp) (B : Nat), vs = [.ref am, .int many] ∧ 0 < many ∧ many < 1073741824 ∧ DrawAt F H am B ∧ B ≤ 1000000 ∧ ∀ (r : Int) (H' : Hp), 0 ≤ r → r < many → DrawAt F H' am (B + 1) → Q (.int r) H'
section
variable {P : Program} {w : World} {K : PySem.W.Frag} {mg : Str → Option Value} {base : Heap}
theorem scBegun : FnScope ["script", "cell"] ["script"] (defScope (top 33)) := ⟨rfl, rfl, rfl, by decide +kernel, rfl, by decide +kernel, by decide +kernel⟩
theorem ok_begun (D : Def K mg "_law_begun" (top 33) ["script"]) (T : Txt mg) : Fn P w K mg base CX0 1 "_law_begun" ["script"] (spBegun K) := by
  refine D.ok scBegun (fun vs H Q E h => ?_) (fun f cdv A outer s H vs Q E hr h => ?_)
  · obtain ⟨a, ns, rfl, _⟩ := h
    rfl
  · obtain ⟨a, ns, rfl, ha, hz, k⟩ := h
    refine ⟨_, pss_one (ps_ret (pe_disp (pps_cons pe_str (pe_callTy call_list_of (by rfl) T.list boot_list (pa_cons (pv 0) pa_nil))
      (pps_cons pe_str (pe_lc (own := [("cell", 1)]) (g := gName 1) rfl scBegun.nd (pi_list (pv 0)) (blkOk_by (N := ["script", "cell"]) (sc := defScope (top 33)) (by decide +kernel))
          (fun _ _ _ _ _ => pg_name (i := 1) scBegun.nd rfl (Or.inl rfl)) (fun _ _ _ _ _ => pts_one (pt_cmpR op_ge (pv 1) (pe_op op_pow pe_int pe_int) (nomark _)))
          (fun _ _ _ _ _ => pv 1)) (pps_cons pe_str pe_int pps_nil))) rfl rfl (by simp) (by decide))), ?_⟩
    intro m hm
    have s0 : Same H (upd H m (.dK [])) := same_upd hm
    refine ⟨_, rfl, a, _, rfl, .inl (L2.Same.seq s0 ha), fun ac hac => ?_⟩
    have s1 : Same H (upd (upd H m (.dK [])) ac (.lst (ns.map V.int))) := s0.trans (same_upd hac)
    refine ⟨_, rfl, a, rfl, ⟨_, L2.Same.seq s1 ha⟩, fun D hD => ?_⟩
    have mac : m ≠ ac := ne_of_none upd_same hac
    refine lc_it walk_list (fun i H2 => (∀ b o, b ≠ D → upd (upd H m (.dK [])) ac (.lst (ns.map V.int)) b = some o → H2 b = some o) ∧ ∃ left : List Int, H2 D = some (.lst (left.map V.int)) ∧ left.length ≤ i) ⟨fun b o nb e => by rw [upd_ne nb]; exact e, [], upd_same, Nat.le_refl _⟩
      (fun i H2 _ p2 => L2.Same.seq (fun b o e => p2.1 _ _ (ne_of_none (s1 _ _ e) hD) (s1 _ _ e)) ha) ?_ (fun H2 p2 => ?_)
    · rintro i x H2 H3 hi ⟨o2, left, h2, hl⟩ ⟨rfl, hx⟩
      refine ⟨wipe_back _ 1 _, ?_⟩
      rw [List.length_map] at hi
      rw [List.getElem?_map, List.getElem?_eq_getElem hi] at hx
      obtain rfl := Option.some.inj hx
      refine ⟨_, rfl, _, _, rfl, rfl, by unfold CPow; decide, _, _, rfl, rfl, _, rfl, ?_⟩
      by_cases c : (10 : Int) ^ (18 : Int).toNat ≤ ns[i]
      · rw [decide_eq_true c]
        refine iteT ⟨_, rfl, _, h2, small1000 (by rw [List.length_map]; omega), fun b o nb e => ?_, left ++ [ns[i]], ?_, by rw [List.length_append, List.length_singleton]; omega⟩
        · rw [upd_ne nb]
          exact o2 _ _ nb e
        · rw [upd_same, List.map_append]
          rfl
      · rw [decide_eq_false c]
        exact iteF ⟨o2, left, h2, by omega⟩
    · obtain ⟨o2, left, h2, hl⟩ := p2
      rw [List.length_map] at hl
      have nDm : m ≠ D := by
        have e : upd (upd H m (.dK [])) ac (.lst (ns.map V.int)) m = some (.dK []) := by
          rw [upd_ne mac, upd_same]
        exact ne_of_none e hD
      have nDc : ac ≠ D := ne_of_none upd_same hD
      have hm2 : H2 m = some (.dK []) := o2 _ _ nDm (by rw [upd_ne mac, upd_same])
      have hc2 : H2 ac = some (.lst (ns.map V.int)) := o2 _ _ nDc upd_same
      refine ⟨hm2, kvD ac D 0, rfl, (show 3 ≤ 15 by decide), ?_⟩
      have em : mergeK [] (kvD ac D 0) = kvD ac D 0 := by rfl
      rw [em]
      have hac0 : H ac = none := s0.free hac
      have hD0 : H D = none := s1.free hD
      refine k m _ ⟨fun b o e => ?_, hm, ac, D, ns, left, 0, hac0, hD0, nDc, upd_same, by rw [upd_ne mac.symm]; exact hc2, by rw [upd_ne nDm.symm]; exact h2, hz, by omega, Int.le_refl _, Int.le_refl _⟩
      rw [upd_ne (ne_of_none e hm)]
      exact o2 _ _ (ne_of_none e hD0) (s1 _ _ e)
end
end Hs
namespace Hs
open PySem PySem.Spec PyProof.Rows L2
theorem cut1 (x : Int) (l : List Int) : cutV ((x :: l).map V.int) (some 1) none = l.map V.int := by
  have e : cutV ((x :: l).map V.int) (some 1) none = (l.map V.int).take l.length := by
    unfold cutV HT.sIx
    simp
  rw [e]
  exact List.take_of_length_le (by rw [List.length_map]; exact Nat.le_refl _)
theorem ix0 (n : Nat) : ixN (n + 1) 0 = some 0 := by
  unfold ixN
  rw [if_pos (by decide), if_pos (by omega)]
  rfl
structure DrawX (F H : Hp) (am : Addr) (B : Nat) (ac al : Addr) (cells left : List Int) (t : Int) : Prop where
  same : Same F H
  fm : F am = none
  fc : F ac = none
  fl : F al = none
  ne : ac ≠ al
  hm : H am = some (.dK (kvD ac al t))
  hc : H ac = some (.lst (cells.map V.int))
  hl : H al = some (.lst (left.map V.int))
  lc : cells.length ≤ 63
  ll : left.length ≤ 63
  t0 : 0 ≤ t
  tB : t ≤ (B : Int)
theorem DrawAt.x {F H : Hp} {am : Addr} {B : Nat} (h : DrawAt F H am B) : ∃ ac al cells left t, DrawX F H am B ac al cells left t := by
  obtain ⟨ac, al, cells, left, t, h1, h2, h3, h4, h5, h6, h7, h8, h9, h0⟩ := h.ex
  exact ⟨ac, al, cells, left, t, h.same, h.fm, h1, h2, h3, h4, h5, h6, h7, h8, h9, h0⟩
section
variable {F H : Hp} {am : Addr} {B : Nat} {ac al : Addr} {cells left : List Int} {t : Int}
theorem DrawX.at (h : DrawX F H am B ac al cells left t) : DrawAt F H am B := ⟨h.same, h.fm, ac, al, cells, left, t, h.fc, h.fl, h.ne, h.hm, h.hc, h.hl, h.lc, h.ll, h.t0, h.tB⟩
theorem DrawX.beside {H' : Hp} (h : DrawX F H am B ac al cells left t) (s : Same H H') : DrawX F H' am B ac al cells left t := ⟨h.same.trans s, h.fm, h.fc, h.fl, h.ne, s _ _ h.hm, s _ _ h.hc, s _ _ h.hl, h.lc, h.ll, h.t0, h.tB⟩
theorem DrawX.setLeft {p : Addr} {left' : List Int} (h : DrawX F H am B ac al cells left t) (hp : H p = none) (hl : left'.length ≤ 63) :
    DrawX F (upd (upd H p (.lst (left'.map V.int))) am (.dK (kvD ac p t))) am B ac p cells left' t := by
  have np : am ≠ p := ne_of_none h.hm hp
  have nc : ac ≠ p := ne_of_none h.hc hp
  have ncm : ac ≠ am := ne_of h.hc h.hm (by intro z; cases z)
  refine ⟨fun b o e => ?_, h.fm, h.fc, h.same.free hp, nc, upd_same, by rw [upd_ne ncm, upd_ne nc]; exact h.hc, by rw [upd_ne np.symm, upd_same], h.lc, hl, h.t0, h.tB⟩
  rw [upd_ne (ne_of_none e h.fm), upd_ne (ne_of_none (h.same _ _ e) hp)]
  exact h.same _ _ e
theorem DrawX.put {left' : List Int} (h : DrawX F H am B ac al cells left t) (hl : left'.length ≤ 63) : DrawX F (upd H al (.lst (left'.map V.int))) am B ac al cells left' t := by
  have nm : am ≠ al := ne_of h.hm h.hl (by intro z; cases z)
  refine ⟨fun b o e => ?_, h.fm, h.fc, h.fl, h.ne, by rw [upd_ne nm]; exact h.hm, by rw [upd_ne h.ne]; exact h.hc, upd_same, h.lc, hl, h.t0, h.tB⟩
  rw [upd_ne (ne_of_none e h.fl)]
  exact h.same _ _ e
theorem DrawX.tick (h : DrawX F H am B ac al cells left t) : DrawX F (upd H am (.dK (kvD ac al (t + 1)))) am (B + 1) ac al cells left (t + 1) := by
  have nc : ac ≠ am := ne_of h.hc h.hm (by intro z; cases z)
  have nl : al ≠ am := ne_of h.hl h.hm (by intro z; cases z)
  have h1 := h.t0
  have h2 := h.tB
  refine ⟨fun b o e => ?_, h.fm, h.fc, h.fl, h.ne, upd_same, by rw [upd_ne nc]; exact h.hc, by rw [upd_ne nl]; exact h.hl, h.lc, h.ll, by omega, by omega⟩
  rw [upd_ne (ne_of_none e h.fm)]
  exact h.same _ _ e
theorem DrawX.gl (h : DrawX F H am B ac al cells left t) : DGet H am (.str "left") (some (.ref al)) := by
  rw [← kvD_left ac al t]
  exact DGet.k (k := .inr "left") h.hm
theorem DrawX.gc (h : DrawX F H am B ac al cells left t) : DGet H am (.str "cells") (some (.ref ac)) := by
  rw [← kvD_cells ac al t]
  exact DGet.k (k := .inr "cells") h.hm
theorem DrawX.ga (h : DrawX F H am B ac al cells left t) : DGet H am (.str "at") (some (.int t)) := by
  rw [← kvD_at ac al t]
  exact DGet.k (k := .inr "at") h.hm
end
theorem dp_ints {K : PySem.W.Frag} {H : Hp} {a : Addr} {l : List Int} (h : H a = some (.lst (l.map V.int))) : Dp K H (.ref a) (.list (l.map PyData.int)) := .lst (SqL.of h) (dpAll_ints l)
section
variable {P : Program} {w : World} {K : PySem.W.Frag} {mg : Str → Option Value} {base : Heap}
theorem scNext : FnScope ["m", "many", "rest", "at", "cells", "cell", "blend"] ["m", "many"] (defScope (top 34)) := ⟨rfl, rfl, rfl, by decide +kernel, rfl, by decide +kernel, by decide +kernel⟩
theorem ok_next (D : Def K mg "_law_next" (top 34) ["m", "many"]) (T : Txt mg) : Fn P w K mg base CX0 1 "_law_next" ["m", "many"] spNext := by
  refine D.ok scNext (fun vs H Q E h => ?_) (fun f cdv A outer s H vs Q E hr h => ?_)
  · obtain ⟨am, many, F, B, rfl, _⟩ := h
    rfl
  · obtain ⟨am, many, F, B, rfl, hm0, hm1, hd, hB, k⟩ := h
    have hu := hu_of hr
    refine ⟨_, pss_cons (ps_while PassesOwn.never (PW.pt (pw_and (pt_cmpR (op_neD hr.units) (pe_dget hu (pv 0) pe_str (fun _ _ => rfl)) (pe_lst pa_nil) (nomark _)) (pw_and1 (pt_cmpR op_eq (pe_ix (r := rIxL K) ix_list (pe_dget hu (pv 0) pe_str (fun _ _ => rfl)) pe_int (fun _ _ => rfl)) pe_int (nomark _)))))
        (pss_one (ps_dput hu (pv 0) pe_str (pe_slice sl_list (pe_dget hu (pv 0) pe_str (fun _ _ => rfl)) (po_some pe_int) po_none) rfl)))
      (pss_cons (ps_if (pt_cmpR (op_neD hr.units) (pe_dget hu (pv 0) pe_str (fun _ _ => rfl)) (pe_lst pa_nil) (nomark _))
        (pss_cons (ps_set (i := 2) scNext.nd rfl (Or.inl rfl) (pe_ix (r := rIxL K) ix_list (pe_dget hu (pv 0) pe_str (fun _ _ => rfl)) pe_int (fun _ _ => rfl)))
        (pss_cons (ps_asg (pe_op op_fdiv (pv 2) (pv 1)) (pg_sub (pe_dget hu (pv 0) pe_str (fun _ _ => rfl)) pe_int set_list))
        (pss_one (ps_ret (pe_op op_mod (pe_callTy call_int1 (by rfl) T.int boot_int (pa_cons (pv 2) pa_nil)) (pv 1)))))) pss_nil)
      (pss_cons (ps_par (i := 3) (j := 4) rfl scNext.nd rfl rfl (by decide) rfl rfl (pa_cons (pe_dget hu (pv 0) pe_str (fun _ _ => rfl)) (pa_cons (pe_dget hu (pv 0) pe_str (fun _ _ => rfl)) pa_nil)) rfl)
      (pss_cons (ps_dput hu (pv 0) pe_str (pe_op op_add (pv 3) pe_int) rfl)
      (pss_cons (ps_set (i := 5) scNext.nd rfl (Or.inl rfl) (pe_ifExp (pt_cmpR (op_neD hr.units) (pv 4) (pe_lst pa_nil) (nomark _))
        (pe_ix (r := rIxL K) ix_list (pv 4) (pe_op op_mod (pv 3) (pe_callB call_len_seq (by rfl) T.len PySem.boot_len (pa_cons (pv 4) pa_nil))) (fun _ _ => rfl)) pe_int))
      (pss_cons (ps_set (i := 6) scNext.nd rfl (Or.inl rfl) (pe_op op_mul (pe_op op_mod (pe_callTy call_int1 (by rfl) T.int boot_int (pa_cons (pv 5) pa_nil)) pe_int) (pe_op op_add (pe_op op_mul pe_int (pv 3)) pe_int)))
      (pss_cons (ps_set (i := 6) scNext.nd rfl (Or.inl rfl) (pe_op op_mod (pe_op op_add (pe_op op_add (pe_op op_add (pv 6) (pe_op op_mul (pe_op op_mul pe_int (pv 3)) (pv 3))) (pe_op op_mul pe_int (pv 3))) pe_int) pe_int))
      (pss_one (ps_ret (pe_op op_mod (pe_op op_fdiv (pe_op op_mod (pe_op op_mul (pe_op op_mod (pe_op op_mul (pv 6) (pv 6)) pe_int) pe_int) pe_int) pe_int) (pv 1)))))))))), ?_⟩
    obtain ⟨ac, al, cells, left, t, x⟩ := hd.x
    refine ⟨fun m σ H1 => σ = [some (.ref am), some (.int many), none, none, none, none, none] ∧ ∃ al left, DrawX F H1 am B ac al cells left t ∧ m = left.length, ⟨_, rfl, al, left, x, rfl⟩, ?_⟩
    rintro m σ H1 ⟨rfl, al, left, x, rfl⟩
    refine ⟨_, rfl, am, _, rfl, x.gl, Nat.zero_le _, fun p hp => ?_⟩
    have s1 : Same H1 (upd H1 p (.lst [])) := same_upd hp
    have x1 := x.beside s1
    refine ⟨.list (left.map PyData.int), .list ([] : List PyData), dp_ints x1.hl, .lst (SqL.of upd_same) .nil, shaped_ints left, shaped_ints [], _, rfl, ?_⟩
    rw [eqv_nil]
    have three : (∃ rest, left = 0 :: rest) ∨ left = [] ∨ ∃ y rest, left = y :: rest ∧ y ≠ 0 := by
      cases left with
      | nil => exact .inr (.inl rfl)
      | cons y rest =>
        by_cases c : y = 0
        · exact .inl ⟨rest, by rw [c]⟩
        · exact .inr (.inr ⟨y, rest, rfl, c⟩)
    rcases three with ⟨rest, rfl⟩ | rfl | ⟨y, rest, rfl, c0⟩
    · rw [decide_eq_false (List.cons_ne_nil _ _)]
      refine iteT ⟨_, rfl, am, _, rfl, x1.gl, al, _, 0, _, rfl, rfl, SqL.of x1.hl, at_of (j := 0) rfl rfl, rfl, _, rfl, ?_⟩
      show if decide (V.int 0 = V.int 0) = true then _ else _
      rw [decide_eq_true rfl]
      refine iteT ⟨fun σ' H' => ∃ m', m' < ((0 : Int) :: rest).length ∧ σ' = [some (.ref am), some (.int many), none, none, none, none, none] ∧ ∃ al left, DrawX F H' am B ac al cells left t ∧ m' = left.length, fun _ _ z => z, ?_⟩
      refine ⟨_, rfl, am, _, rfl, x1.gl, _, rfl, al, _, rfl, SqL.of x1.hl, fun q hq => ?_⟩
      rw [cut1]
      have x2 := x1.setLeft (left' := rest) hq (by have := x1.ll; rw [List.length_cons] at this; omega)
      refine ⟨_, rfl, am, _, rfl, DPut.k (k := .inr "left") (v := .ref q) (x1.beside (same_upd hq)).hm (show 3 < sizeLine by decide), rest.length, by rw [List.length_cons]; omega, rfl, q, rest, ?_, rfl⟩
      rw [putD_left]
      exact x2
    · -- nothing is left of the great cells
      rw [decide_eq_true (rfl : ([] : List Int) = [])]
      refine iteF (iteF ?_)
      generalize upd H1 p (.lst []) = H2 at x1
      clear x s1 hp
      refine ⟨_, rfl, am, _, rfl, x1.gl, Nat.zero_le _, fun p2 hp2 => ?_⟩
      have x2 := x1.beside (same_upd (o := .lst []) hp2)
      refine ⟨.list (([] : List Int).map PyData.int), .list ([] : List PyData), dp_ints x2.hl, .lst (SqL.of upd_same) .nil, shaped_ints [], shaped_ints [], _, rfl, iteF ?_⟩
      generalize upd H2 p2 (.lst []) = H3 at x2
      clear x1 hp2
      refine ⟨_, rfl, am, _, rfl, x2.ga, _, rfl, am, _, rfl, x2.gc, _, _, rfl, ?_⟩
      refine ⟨_, rfl, _, _, rfl, rfl, _, rfl, am, _, rfl, DPut.k (k := .inr "at") (v := .int (t + 1)) x2.hm (show 3 < sizeLine by decide), ?_⟩
      rw [putD_at]
      have x3 := x2.tick
      generalize upd H3 am (.dK (kvD ac al (t + 1))) = H4 at x3
      refine ⟨_, rfl, Nat.zero_le _, fun p3 hp3 => ?_⟩
      have x4 := x3.beside (same_upd (o := .lst []) hp3)
      refine ⟨.list (cells.map PyData.int), .list ([] : List PyData), dp_ints x4.hc, .lst (SqL.of upd_same) .nil, shaped_ints cells, shaped_ints [], _, rfl, ?_⟩
      rw [eqv_nil]
      generalize upd H4 p3 (.lst []) = H5 at x4
      have t0 := x2.t0
      have tB := x2.tB
      have hB' : t ≤ 1000000 := by omega
      have md : ∀ (u n : Int), 0 < n → 0 ≤ u % n ∧ u % n < n := fun u n h => ⟨Int.emod_nonneg u (by omega), Int.emod_lt_of_pos u h⟩
      have c13 : ∀ u z : Int, CMul (u % 2147483629) z := fun u z => .inl ⟨by have := (md u 2147483629 (by decide)).1; omega, by have := (md u 2147483629 (by decide)).2; omega⟩
      have c17 : ∀ u z : Int, CMul (u % 2147483647) z := fun u z => .inl ⟨by have := (md u 2147483647 (by decide)).1; omega, by have := (md u 2147483647 (by decide)).2; omega⟩
      have ct : ∀ u : Int, CMul u t := fun u => .inr ⟨by omega, by omega⟩
      have p1 : (0 : Int) < 2147483629 := by decide
      have p2 : (0 : Int) < 2147483647 := by decide
      have c48 : ∀ u : Int, CMul u 48271 := fun u => .inr ⟨by decide, by decide⟩
      by_cases c : cells = []
      · subst c
        rw [decide_eq_true rfl]
        refine iteF ?_
        refine ⟨_, rfl, .inl ⟨_, rfl, _, _, rfl, rfl, p1, _, rfl, _, _, rfl, rfl, ct _, _, _, rfl, rfl, _, _, rfl, rfl, c13 _ _, ?_⟩⟩
        refine ⟨_, rfl, _, rfl, _, _, rfl, rfl, ct _, _, rfl, _, _, rfl, rfl, ct _, _, _, rfl, rfl, _, rfl, _, _, rfl, rfl, ct _, _, _, rfl, rfl, _, _, rfl, rfl, _, _, rfl, rfl, p2, ?_⟩
        refine ⟨_, rfl, _, rfl, _, _, rfl, rfl, c17 _ _, _, _, rfl, rfl, p1, _, _, rfl, rfl, c48 _, _, _, rfl, rfl, p2, _, _, rfl, rfl, ⟨by decide, by decide⟩, _, rfl, _, _, rfl, rfl, hm0, ?_⟩
        exact k _ _ (md _ _ hm0).1 (md _ _ hm0).2 x4.at
      · rw [decide_eq_false c]
        have cl : 0 < cells.length := List.length_pos_iff.mpr c
        have m1 := md t (cells.length : Int) (by omega)
        have hj : (t % (cells.length : Int)).toNat < cells.length := by omega
        have eL : (((cells.map V.int).length : Nat) : Int) = (cells.length : Int) := by rw [List.length_map]
        have e0 : (0 : Int) < (((cells.map V.int).length : Nat) : Int) := by omega
        have e1 : t % (((cells.map V.int).length : Nat) : Int) = (((t % (cells.length : Int)).toNat : Nat) : Int) := by
          rw [eL]
          omega
        have e2 : (cells.map V.int)[(t % (cells.length : Int)).toNat]? = some (.int cells[(t % (cells.length : Int)).toNat]) := by
          rw [List.getElem?_map, List.getElem?_eq_getElem hj]
          rfl
        refine iteT ⟨_, rfl, _, rfl, _, rfl, ac, _, rfl, .inl (SqL.of x4.hc), _, _, rfl, rfl, e0, ac, _, _, _, rfl, rfl, SqL.of x4.hc, at_of e1 e2, ?_⟩
        refine ⟨_, rfl, .inl ⟨_, rfl, _, _, rfl, rfl, p1, _, rfl, _, _, rfl, rfl, ct _, _, _, rfl, rfl, _, _, rfl, rfl, c13 _ _, ?_⟩⟩
        refine ⟨_, rfl, _, rfl, _, _, rfl, rfl, ct _, _, rfl, _, _, rfl, rfl, ct _, _, _, rfl, rfl, _, rfl, _, _, rfl, rfl, ct _, _, _, rfl, rfl, _, _, rfl, rfl, _, _, rfl, rfl, p2, ?_⟩
        refine ⟨_, rfl, _, rfl, _, _, rfl, rfl, c17 _ _, _, _, rfl, rfl, p1, _, _, rfl, rfl, c48 _, _, _, rfl, rfl, p2, _, _, rfl, rfl, ⟨by decide, by decide⟩, _, rfl, _, _, rfl, rfl, hm0, ?_⟩
        exact k _ _ (md _ _ hm0).1 (md _ _ hm0).2 x4.at
    · rw [decide_eq_false (List.cons_ne_nil _ _)]
      refine iteT ⟨_, rfl, am, _, rfl, x1.gl, al, _, 0, _, rfl, rfl, SqL.of x1.hl, at_of (j := 0) rfl rfl, rfl, _, rfl, ?_⟩
      have e : decide (V.int y = V.int 0) = false := decide_eq_false fun z => c0 (V.int.inj z)
      show if decide (V.int y = V.int 0) = true then _ else _
      rw [e]
      refine iteF ?_
      generalize upd H1 p (.lst []) = H2 at x1
      clear x s1 hp
      refine ⟨_, rfl, am, _, rfl, x1.gl, Nat.zero_le _, fun p2 hp2 => ?_⟩
      have x2 := x1.beside (same_upd (o := .lst []) hp2)
      refine ⟨.list ((y :: rest).map PyData.int), .list ([] : List PyData), dp_ints x2.hl, .lst (SqL.of upd_same) .nil, shaped_ints (y :: rest), shaped_ints [], _, rfl, iteT ?_⟩
      generalize upd H2 p2 (.lst []) = H3 at x2
      clear x1 hp2
      refine ⟨_, rfl, am, _, rfl, x2.gl, al, _, 0, _, rfl, rfl, SqL.of x2.hl, at_of (j := 0) rfl rfl, ?_⟩
      refine ⟨_, rfl, _, rfl, _, _, rfl, rfl, ⟨hm0, hm1⟩, _, rfl, am, _, rfl, x2.gl, al, _, _, 0, rfl, rfl, x2.hl, (by rw [List.length_map, List.length_cons]; exact ix0 _), ?_⟩
      refine ⟨_, rfl, .inl ⟨_, rfl, _, rfl, _, _, rfl, rfl, hm0, ?_⟩⟩
      exact k _ _ (Int.emod_nonneg _ (by omega)) (Int.emod_lt_of_pos _ hm0) ((x2.put (left' := y / many :: rest) x2.ll).at.mono (Nat.le_succ _))
end
end Hs
namespace Hs
open PySem PySem.Spec PyProof.Rows L2
/-! L3: one of some things; names -/
/-- one of some things: a list or a tuple that the holder knows -/
def spOf (K : PySem.W.Frag) : Sp := fun vs H Q _ => ∃ (am p : Addr) (xs : List V) (F : Hp) (B : Nat), vs = [.ref am, .ref p] ∧ (SqL K F p xs ∨ SqT K F p xs) ∧ 0 < xs.length ∧ xs.length ≤ 1000 ∧ DrawAt F H am B ∧ B ≤ 1000000 ∧
  ∀ (x : V) (H' : Hp), x ∈ xs → DrawAt F H' am (B + 1) → Q x H'
/-- c, then at most three figures -/
def Nm (c : Nat) (z : List Nat) : Prop := ∃ ds, z = c :: ds ∧ ds.length ≤ 3 ∧ ∀ d ∈ ds, 48 ≤ d ∧ d ≤ 57
def strides : List Int := [1, 25, 3, 5, 7, 9, 11, 15, 17, 19, 21, 23]
def lets (s sh : Int) (n : Nat) : List Nat := (List.range n).map fun (k : Nat) => (97 + (((k : Int) * s + sh) % 26)).toNat
def spNamesOf : Sp := fun vs H Q _ => ∃ (am : Addr) (n : Nat) (F : Hp) (B : Nat), vs = [.ref am, .int (n : Int)] ∧ n ≤ 20 ∧ DrawAt F H am B ∧ B ≤ 900000 ∧
  ∀ (p : Addr) (zs : List (List Nat)) (s sh : Int) (F' H' : Hp), s ∈ strides → 0 ≤ sh → Paired Nm (lets s sh n) zs → Same F F' → F' p = some (.tup (zs.map fun z => V.str (SX.S z))) → DrawAt F' H' am (B + 2 + 4 * n) → Q (.ref p) H'
theorem DrawAt.less {F F' H : Hp} {am : Addr} {B : Nat} (h : DrawAt F H am B) (s : Same F' F) : DrawAt F' H am B := by
  obtain ⟨ac, al, cells, left, t, h1, h2, h3, h4, h5, h6, h7, h8, h9, h0⟩ := h.ex
  exact ⟨s.trans h.same, s.free h.fm, ac, al, cells, left, t, s.free h1, s.free h2, h3, h4, h5, h6, h7, h8, h9, h0⟩
theorem joinL_one : ∀ ds : List Nat, TL.joinL [] (ds.map fun c => [c]) = ds
  | [] => rfl
  | [_] => rfl
  | c :: d :: r => by
    have ih := joinL_one (d :: r)
    rw [List.map_cons] at ih
    rw [List.map_cons, List.map_cons]
    show [c] ++ ([] ++ TL.joinL [] ([d] :: r.map fun c => [c])) = c :: d :: r
    rw [ih]
    rfl
theorem join_figs (ds : List Nat) : Txt.join ("" : Str) (ds.map fun c => SX.S [c]) = SX.S ds := by
  have e : (("" : Str)) = SX.S [] := by decide
  have e2 : (ds.map fun c => SX.S [c]) = (ds.map fun c => [c]).map SX.S := by
    rw [List.map_map]
    rfl
  rw [e, e2, SX.join_S, joinL_one]
theorem fig_of : ∀ n : Nat, n < 10 → (Str.ofString (toString ((n : Nat) : Int)) : Str) = SX.S [48 + n] := by decide +kernel
theorem letter_of : ∀ j : Nat, j < 26 → (("abcdefghijklmnopqrstuvwxyz" : Str).cps.toList)[j]? = some (97 + j) := by decide +kernel
theorem lets_succ (s sh : Int) (i : Nat) : lets s sh (i + 1) = lets s sh i ++ [(97 + (((i : Nat) : Int) * s + sh) % 26).toNat] := by
  unfold lets
  rw [List.range_succ, List.map_append]
  rfl
section
variable {P : Program} {w : World} {K : PySem.W.Frag} {mg : Str → Option Value} {base : Heap}
theorem scOf : FnScope ["m", "some"] ["m", "some"] (defScope (top 35)) := ⟨rfl, rfl, rfl, by decide +kernel, rfl, by decide +kernel, by decide +kernel⟩
theorem ok_of (D : Def K mg "_law_of" (top 35) ["m", "some"]) (T : Txt mg) (GN : Fn P w K mg base CX0 1 "_law_next" ["m", "many"] spNext) : Fn P w K mg base CX0 2 "_law_of" ["m", "some"] (spOf K) := by
  refine D.ok scOf (fun vs H Q E h => ?_) (fun f cdv A outer s H vs Q E hr h => ?_)
  · obtain ⟨am, p, xs, F, B, rfl, _⟩ := h
    rfl
  · obtain ⟨am, p, xs, F, B, rfl, hp, h0, hz, hd, hB, k⟩ := h
    refine ⟨_, pss_one (ps_ret (pe_ix ix_seq (pv 1) (pe_fn GN hr pass0 (pa_cons (pv 0) (pa_cons (pe_callB call_len_seq (by rfl) T.len PySem.boot_len (pa_cons (pv 1) pa_nil)) pa_nil))) (fun _ _ => rfl))), ?_⟩
    have hp1 : SqL K H p xs ∨ SqT K H p xs := hp.imp (L2.Same.seq hd.same) (Same.sqt hd.same)
    refine ⟨_, rfl, _, rfl, _, rfl, p, xs, rfl, hp1, am, (xs.length : Int), F, B, rfl, by omega, by omega, hd, hB, fun r H1 r0 r1 d1 => ?_⟩
    have hr1 : r.toNat < xs.length := by omega
    have e1 : r = ((r.toNat : Nat) : Int) := by omega
    have k1 := k xs[r.toNat] H1 (List.getElem_mem hr1) d1
    rcases hp with q | q
    · exact .inl ⟨p, xs, r, _, rfl, rfl, L2.Same.seq d1.same q, at_of e1 (List.getElem?_eq_getElem hr1), k1⟩
    · exact .inr (.inl ⟨p, xs, r, _, rfl, rfl, Same.sqt d1.same q, at_of e1 (List.getElem?_eq_getElem hr1), k1⟩)
theorem scNamesOf : FnScope ["m", "many", "strides", "letters", "found", "shift", "stride", "k", "turn"] ["m", "many"] (defScope (top 36)) := ⟨rfl, rfl, rfl, by decide +kernel, rfl, by decide +kernel, by decide +kernel⟩
theorem ok_namesOf (D : Def K mg "_law_names" (top 36) ["m", "many"]) (T : Txt mg) (GN : Fn P w K mg base CX0 1 "_law_next" ["m", "many"] spNext) : Fn P w K mg base CX0 2 "_law_names" ["m", "many"] spNamesOf := by
  refine D.ok scNamesOf (fun vs H Q E h => ?_) (fun f cdv A outer s H vs Q E hr h => ?_)
  · obtain ⟨am, n, F, B, rfl, _⟩ := h
    rfl
  · obtain ⟨am, n, F, B, rfl, hn, hd, hB, k⟩ := h
    have hu := hu_of hr
    refine ⟨_, pss_cons (ps_par3 (i := 2) (j := 3) (l := 4) rfl scNamesOf.nd rfl rfl rfl (by decide) (by decide) (by decide) rfl rfl rfl
        (pa_cons (pe_lst (pa_cons pe_int (pa_cons pe_int (pa_cons pe_int (pa_cons pe_int (pa_cons pe_int (pa_cons pe_int (pa_cons pe_int (pa_cons pe_int (pa_cons pe_int (pa_cons pe_int (pa_cons pe_int (pa_cons pe_int pa_nil)))))))))))))
          (pa_cons pe_str (pa_cons (pe_lst pa_nil) pa_nil))) rfl)
      (pss_cons (ps_par (i := 5) (j := 6) rfl scNamesOf.nd rfl rfl (by decide) rfl rfl (pa_cons (pe_fn GN hr pass0 (pa_cons (pv 0) (pa_cons pe_int pa_nil))) (pa_cons (pe_ix ix_seq (pv 2) (pe_fn GN hr pass0 (pa_cons (pv 0) (pa_cons pe_int pa_nil))) (fun _ _ => rfl)) pa_nil)) rfl)
      (pss_cons (ps_for PassesOwn.never rfl (pi_range1 (by rfl) T.range (pa_cons (pv 1) pa_nil)) (pg_name (i := 7) scNamesOf.nd rfl (Or.inl rfl))
        (pss_one (ps_expr (pe_bm PySem.F.plainAttrs_list PySem.F.slot_list_append PySem.F.type_list_append mt_append (pv 4) (pa_cons
          (pe_op op_add_str (pe_ix ix_seq (pv 3) (pe_op op_mod (pe_callTy call_int1 (by rfl) T.int boot_int (pa_cons (pe_op op_add (pe_op op_mul (pv 7) (pv 6)) (pv 5)) pa_nil)) pe_int) (fun _ _ => rfl))
            (pe_bm PySem.F.plainAttrs_str PySem.F.slot_str_join PySem.F.type_str_join mt_join pe_str (pa_cons
              (pe_lc (own := [("turn", 8)]) (g := gName 8) (tt := tYes) rfl scNamesOf.nd (pi_range1 (by rfl) T.range (pa_cons (pe_fn GN hr pass0 (pa_cons (pv 0) (pa_cons pe_int pa_nil))) pa_nil)) (blkOk_by (N := ["m", "many", "strides", "letters", "found", "shift", "stride", "k", "turn"]) (sc := defScope (top 36)) (by decide +kernel))
                (fun _ _ _ _ _ => pg_name (i := 8) scNamesOf.nd rfl (Or.inl rfl)) (fun _ _ _ _ _ => pts_nil)
                (fun _ _ _ _ _ => pe_callTy call_str_int (by rfl) T.str boot_str (pa_cons (pe_fn GN hr pass0 (pa_cons (pv 0) (pa_cons pe_int pa_nil))) pa_nil))) pa_nil))) pa_nil)))))
      (pss_one (ps_ret (pe_callTy call_tuple_of (by rfl) T.tuple boot_tuple (pa_cons (pv 4) pa_nil)))))), ?_⟩
    refine ⟨(by show 12 ≤ sizeLine; decide), fun ps hps => ⟨Nat.zero_le _, fun pf hpf => ⟨_, _, _, rfl, ?_⟩⟩⟩
    have d1 := (hd.new (o := .lst (strides.map V.int)) hps).new (o := .lst []) hpf
    have e1 : Same F (upd (upd F ps (.lst (strides.map V.int))) pf (.lst [])) := fun b o e => by
      have n1 : b ≠ ps := ne_of_none (hd.same _ _ e) hps
      have n2 : b ≠ pf := ne_of_none (show upd H ps _ b = some o by rw [upd_ne n1]; exact hd.same _ _ e) hpf
      rw [upd_ne n2, upd_ne n1]
      exact e
    have nsf : ps ≠ pf := ne_of_none upd_same hpf
    have e2 : (upd (upd F ps (.lst (strides.map V.int))) pf (.lst [])) ps = some (.lst (strides.map V.int)) := by rw [upd_ne nsf, upd_same]
    have e3 : (upd (upd F ps (.lst (strides.map V.int))) pf (.lst [])) pf = some (.lst []) := upd_same
    generalize upd (upd F ps (.lst (strides.map V.int))) pf (.lst []) = F1 at d1 e1 e2 e3
    refine ⟨_, rfl, am, 26, F1, B, rfl, by decide, by decide, d1, by omega, fun sh H2 sh0 sh1 d2 => ?_⟩
    refine ⟨_, rfl, _, rfl, am, 12, F1, B + 1, rfl, by decide, by decide, d2, by omega, fun i H3 i0 i1 d3 => ?_⟩
    have hi : i.toNat < strides.length := by
      show i.toNat < 12
      omega
    refine .inl ⟨ps, strides.map V.int, i, .int strides[i.toNat], rfl, rfl, SqL.of (d3.same _ _ e2), at_of (j := i.toNat) (by omega) (by rw [List.getElem?_map, List.getElem?_eq_getElem hi]; rfl), _, _, rfl, ?_⟩
    have hs : strides[i.toNat] ∈ strides := List.getElem_mem hi
    generalize strides[i.toNat] = st at hs
    have hs1 : -100 ≤ st ∧ st ≤ 100 := (by decide : ∀ x ∈ strides, -100 ≤ x ∧ x ≤ 100) st hs
    have toN : ((n : Nat) : Int).toNat = n := by omega
    refine ⟨_, rfl, (n : Int), rfl, by omega, by omega, ?_⟩
    rw [toN]
    have p26 : (0 : Int) < 26 := by decide
    refine for_it walk_range (fun i σ H4 => ∃ v7, σ = [some (.ref am), some (.int (n : Int)), some (.ref ps), some (.str "abcdefghijklmnopqrstuvwxyz"), some (.ref pf), some (.int sh), some (.int st), v7, none] ∧ ∃ zs : List (List Nat), Paired Nm (lets st sh i) zs ∧
      DrawAt (upd F1 pf (.lst (zs.map fun z => V.str (SX.S z)))) H4 am (B + 2 + 4 * i)) ⟨none, rfl, [], .nil, ?_⟩ (fun _ _ _ _ _ => trivial) ?_ ?_
    · have e4 : upd F1 pf (.lst (([] : List (List Nat)).map fun z => V.str (SX.S z))) = F1 := by
        funext b
        by_cases c : b = pf
        · rw [c, upd_same, e3]
          rfl
        · rw [upd_ne c]
      rw [e4]
      exact d3
    · rintro i x σ H4 H5 hin ⟨v7, rfl, zs, hz, d4⟩ ⟨rfl, rfl⟩
      have lz : zs.length = i := by
        have z := Paired.length hz
        unfold lets at z
        rw [List.length_map, List.length_range] at z
        exact z.symm
      have h4 := d4.same pf _ upd_same
      have m26 : 0 ≤ ((0 + (i : Int)) * st + sh) % 26 ∧ ((0 + (i : Int)) * st + sh) % 26 < 26 := ⟨Int.emod_nonneg _ (by decide), Int.emod_lt_of_pos _ (by decide)⟩
      refine ⟨_, rfl, .inl ⟨rfl, _, SqL.of h4⟩, _, rfl, _, rfl, _, rfl, _, _, rfl, rfl, .inr ⟨by omega, by omega⟩, _, rfl, _, _, rfl, rfl, .inl ⟨_, rfl, _, _, rfl, rfl, p26, .inr (.inr ⟨_, _, 97 + (((0 + (i : Int)) * st + sh) % 26).toNat, rfl, rfl, by decide, ?_, ?_⟩)⟩⟩
      · have e : ((0 + (i : Int)) * st + sh) % 26 = (((((0 + (i : Int)) * st + sh) % 26).toNat : Nat) : Int) := by omega
        rw [e]
        exact atI_nat (letter_of _ (by omega))
      refine ⟨rfl, ?_⟩
      refine ⟨_, rfl, am, 4, _, _, rfl, by decide, by decide, d4, by omega, fun q H6 q0 q1 d6 => ⟨q, rfl, by omega, by omega, fun D hD => ?_⟩⟩
      refine lc_it walk_range (fun j H7 => ∃ ds : List Nat, ds.length = j ∧ (∀ d ∈ ds, 48 ≤ d ∧ d ≤ 57) ∧ DrawAt (upd (upd F1 pf (.lst (zs.map fun z => V.str (SX.S z)))) D (.lst (ds.map fun c => V.str (SX.S [c])))) H7 am (B + 2 + 4 * i + 1 + j)) ⟨[], rfl, fun _ z => (nomatch z), d6.new hD⟩ (fun _ _ _ _ => trivial) ?_ ?_
      · rintro j x H7 H8 hj ⟨ds, hl, hds, d7⟩ ⟨rfl, rfl⟩
        refine ⟨wipe_back _ 8 _, ?_⟩
        dsimp only [tYes]
        rw [if_pos rfl]
        refine ⟨_, rfl, am, 10, _, _, rfl, by decide, by decide, d7, by omega, fun r H9 r0 r1 d9 => ⟨r, rfl, ?_, ?_⟩⟩
        · have z : r.natAbs < 2 ^ 4 := by omega
          exact Nat.lt_trans (PySem.Flt.log2_lt_of (by decide) z) (by decide)
        have er : (Str.ofString (toString r) : Str) = SX.S [48 + r.toNat] := by
          have z := fig_of r.toNat (by omega)
          have z2 : ((r.toNat : Nat) : Int) = r := by omega
          rw [z2] at z
          exact z
        refine ⟨_, d9.same _ _ upd_same, by rw [List.length_map, hl]; exact small1000 (by omega), ds ++ [48 + r.toNat], by rw [List.length_append, hl]; rfl, fun d hd => ?_, ?_⟩
        · rcases List.mem_append.mp hd with z | z
          · exact hds d z
          · rw [List.mem_singleton] at z
            omega
        · have z := d9.own (o := .lst (ds.map (fun c => V.str (SX.S [c])) ++ [.str (Str.ofString (toString r))])) upd_same
          rw [upd_upd, er] at z
          rw [List.map_append, er]
          exact z
      · rintro H7 ⟨ds, hl, hds, d7⟩
        have lq : ds.length ≤ 3 := by omega
        have nfD : pf ≠ D := ne_of_none (d6.same pf _ upd_same) hD
        refine ⟨("" : Str), D, ds.map fun c => SX.S [c], rfl, rfl, .inl (SqL.of ?_), ?_, ?_⟩
        · rw [List.map_map]
          exact d7.same D _ upd_same
        · have z : ((ds.map fun c => SX.S [c]).map (·.length)).sum = ds.length := by
            rw [List.map_map]
            clear hl hds d7 lq
            induction ds with
            | nil => rfl
            | cons c ds ih =>
              rw [List.map_cons, List.sum_cons, ih, List.length_cons]
              show 1 + ds.length = _
              omega
          rw [z]
          show ds.length + (ds.map fun c => SX.S [c]).length * 0 ≤ _
          omega
        rw [join_figs]
        refine ⟨_, _, rfl, rfl, ?_, ?_⟩
        · show 1 + (SX.S ds).length ≤ sizeLine
          rw [SX.S_len]
          exact Nat.le_of_lt (small1000 (by omega))
        have h7 : H7 pf = some (.lst (zs.map fun z => V.str (SX.S z))) := d7.same pf _ (by rw [upd_ne nfD, upd_same])
        refine ⟨pf, _, _, rfl, rfl, h7, by rw [List.length_map, lz]; exact small1000 (by omega), ?_⟩
        have d8 := d7.own (p := pf) (o := .lst ((zs.map fun z => V.str (SX.S z)) ++ [.str (⟨#[97 + (((0 + (i : Int)) * st + sh) % 26).toNat]⟩ ++ SX.S ds)])) (by rw [upd_ne nfD, upd_same])
        have e8 : (⟨#[97 + (((0 + (i : Int)) * st + sh) % 26).toNat]⟩ : Str) ++ SX.S ds = SX.S ((97 + (((0 + (i : Int)) * st + sh) % 26).toNat) :: ds) := SX.S_cat [_] ds
        rw [e8] at d8
        refine ⟨_, rfl, zs ++ [(97 + (((0 + (i : Int)) * st + sh) % 26).toNat) :: ds], ?_, ?_⟩
        · rw [lets_succ]
          refine Paired.snoc hz ⟨ds, ?_, lq, hds⟩
          congr 1
          rw [Int.zero_add]
          omega
        · rw [List.map_append, e8]
          have d9 := d8.mono (C := B + 2 + 4 * (i + 1)) (by omega)
          refine d9.less (fun b o e => ?_)
          by_cases c : b = pf
          · rw [c, upd_same] at e ⊢
            rw [← e]
            rfl
          · rw [upd_ne c] at e ⊢
            have nD : b ≠ D := ne_of_none (d6.same b o (by rw [upd_ne c]; exact e)) hD
            rw [upd_ne nD, upd_ne c]
            exact e
    · rintro σ H4 ⟨v7, rfl, zs, hz, d4⟩
      refine ⟨_, rfl, pf, _, rfl, .inl ⟨SqL.of (d4.same _ _ upd_same), fun l hl => ?_⟩⟩
      have d5 := d4.new (o := .tup (zs.map fun z => V.str (SX.S z))) hl
      refine k l zs st sh _ _ hs sh0 hz (fun b o e => ?_) upd_same d5
      have n1 : b ≠ pf := fun z => by
        have z2 := e1 b o e
        rw [z, e3] at z2
        have z3 : F pf = none := hd.same.free (by
          cases q : H pf with
          | none => rfl
          | some u =>
            have z4 : upd H ps (.lst (strides.map V.int)) pf = some u := by rw [upd_ne nsf.symm]; exact q
            have hpf' : upd H ps (.lst (strides.map V.int)) pf = none := hpf
            rw [hpf'] at z4
            cases z4)
        rw [z, z3] at e
        cases e
      have e9 : upd F1 pf (.lst (zs.map fun z => V.str (SX.S z))) b = some o := by
        rw [upd_ne n1]
        exact e1 b o e
      rw [upd_ne (ne_of_none (d4.same _ _ e9) hl)]
      exact e9
end
end Hs
namespace Hs
open PySem PySem.Spec PyProof.Rows L2
/-! L4: a drawn state -/
structure GoodSt (ms : List Str) (many : Nat) (cs : List Cell) (ws : List Int) : Prop where
  asc : (cs.map (·.1)).Pairwise (· < ·)
  len : cs.length ≤ 12
  cell : ∀ c ∈ cs, 1 ≤ c.1 ∧ c.1 ≤ 240 ∧ c.2.1 ∈ ms ∧ 0 ≤ c.2.2 ∧ c.2.2 ≤ 300
  val : ∀ v ∈ ws, 0 ≤ v ∧ v ≤ 300
  many : ws.length = many
def spState (K : PySem.W.Frag) : Sp := fun vs H Q _ => ∃ (am pm : Addr) (n most : Nat) (ms : List Str) (F : Hp) (B : Nat), vs = [.ref am, .ref pm, .int (n : Int), .int (most : Int)] ∧ F pm = some (.tup (ms.map V.str)) ∧ ms ≠ [] ∧ ms.length ≤ 10 ∧ n ≤ 20 ∧ most ≤ 12 ∧ DrawAt F H am B ∧ B ≤ 900000 ∧
  ∀ (p : Addr) (cs : List Cell) (ws : List Int) (F' H' : Hp), GoodSt ms n cs ws → Same F F' → Dp K F' (.ref p) (stD cs ws) → DrawAt F' H' am (B + 200) → Q (.ref p) H'
theorem ite_both {c : Prop} [Decidable c] {ta tb : TE} {σ : L2.St} {H1 : Hp} {Q : VK} (R : V → Hp → Prop) (ha : c → ∀ Q' : VK, (∀ v H2, R v H2 → Q' v H2) → ta σ H1 Q') (hb : ¬ c → ∀ Q' : VK, (∀ v H2, R v H2 → Q' v H2) → tb σ H1 Q') (k : ∀ v H2, R v H2 → Q v H2) :
    if c then ta σ H1 Q else tb σ H1 Q := by
  by_cases h : c
  · rw [if_pos h]
    exact ha h Q k
  · rw [if_neg h]
    exact hb h Q k
theorem updN {H : Hp} {a b : Addr} {o : HO} (e : L2.upd H a o b = none) : H b = none := by
  by_cases z : b = a
  · rw [z, upd_same] at e
    cases e
  · rw [upd_ne z] at e
    exact e
theorem erase_map {α β : Type} (f : α → β) : ∀ (l : List α) (i : Nat), (l.map f).eraseIdx i = (l.eraseIdx i).map f
  | [], _ => rfl
  | _ :: _, 0 => rfl
  | a :: l, i + 1 => by rw [List.map_cons, List.eraseIdx_cons_succ, List.eraseIdx_cons_succ, List.map_cons, erase_map f l i]
theorem erase_perm {α : Type} : ∀ (l : List α) (i : Nat) (h : i < l.length), (l[i] :: l.eraseIdx i).Perm l
  | a :: l, 0, _ => List.Perm.refl _
  | a :: l, i + 1, h => by
    rw [List.eraseIdx_cons_succ, List.getElem_cons_succ]
    exact (List.Perm.swap _ _ _).trans ((erase_perm l i (Nat.lt_of_succ_lt_succ h)).cons a)
theorem putL (c : List (Key × V)) (k : Key) (x : V) : (putK c k x).length ≤ c.length + 1 := by
  unfold putK
  split
  · rw [List.length_map]
    omega
  · rw [List.length_append]
    exact Nat.le_refl _
structure Asc (as : List Int) (place : Int) (i : Nat) : Prop where
  asc : as.Pairwise (· < ·)
  bd : ∀ a ∈ as, 1 ≤ a ∧ a ≤ place
  p0 : 0 ≤ place
  p1 : place ≤ 20 * (i : Int)
  len : as.length = i
theorem Asc.snoc {as : List Int} {place u : Int} {i : Nat} (h : Asc as place i) (u0 : 0 ≤ u) (u1 : u ≤ 19) : Asc (as ++ [place + 1 + u]) (place + 1 + u) (i + 1) := by
  have h0 := h.p0
  have h1 := h.p1
  refine ⟨?_, fun a ha => ?_, by omega, by omega, by rw [List.length_append, h.len]; rfl⟩
  · rw [List.pairwise_append]
    refine ⟨h.asc, List.pairwise_singleton _ _, fun a ha b hb => ?_⟩
    rw [List.mem_singleton] at hb
    have := (h.bd a ha).2
    omega
  · rcases List.mem_append.mp ha with z | z
    · have := h.bd a z
      omega
    · rw [List.mem_singleton] at z
      omega
section
variable {P : Program} {w : World} {K : PySem.W.Frag} {mg : Str → Option Value} {base : Heap}
abbrev nmState : List Str := ["m", "marks", "many", "most", "count", "addresses", "place", "order", "after", "values", "k", "hollow", "left", "turn", "onward", "heap", "address"]
theorem scState : FnScope nmState ["m", "marks", "many", "most"] (defScope (top 37)) := ⟨rfl, rfl, rfl, by decide +kernel, rfl, by decide +kernel, by decide +kernel⟩
theorem ok_state (D : Def K mg "_law_state" (top 37) ["m", "marks", "many", "most"]) (T : Txt mg) (GN : Fn P w K mg base CX0 1 "_law_next" ["m", "many"] spNext) (GO : Fn P w K mg base CX0 2 "_law_of" ["m", "some"] (spOf K)) :
    Fn P w K mg base CX0 3 "_law_state" ["m", "marks", "many", "most"] (spState K) := by
  refine D.ok scState (fun vs H Q E h => ?_) (fun f cdv A outer s H vs Q E hr h => ?_)
  · obtain ⟨am, pm, n, most, ms, F, B, rfl, _⟩ := h
    rfl
  · obtain ⟨am, pm, n, most, ms, F, B, rfl, hpm, hms, hml, hn, hmost, hd, hB, k⟩ := h
    have hu := hu_of hr
    have hr1 : Room 1 (cxOf CX0 P w K mg base nmState "_law_state" (defScope (top 37)) f cdv A outer s H E).nox.A := hr.mono (by decide)
    refine ⟨_, pss_cons (ps_asg (pe_tup (pa_cons (pe_fn GN hr1 pass0 (pa_cons (pv 0) (pa_cons (pe_op op_add (pv 3) pe_int) pa_nil))) (pa_cons (pe_lst pa_nil) (pa_cons pe_int (pa_cons (pe_lst pa_nil) (pa_cons pe_dnewK (pa_cons (pe_lst pa_nil) pa_nil)))))))
        (pg_tup rfl (pgs_cons (pg_name (i := 4) scState.nd rfl (Or.inl rfl)) (pgs_cons (pg_name (i := 5) scState.nd rfl (Or.inl rfl)) (pgs_cons (pg_name (i := 6) scState.nd rfl (Or.inl rfl)) (pgs_cons (pg_name (i := 7) scState.nd rfl (Or.inl rfl)) (pgs_cons (pg_name (i := 8) scState.nd rfl (Or.inr rfl)) (pgs_cons (pg_name (i := 9) scState.nd rfl (Or.inl rfl)) pgs_nil))))))))
      (pss_cons (ps_for PassesOwn.never rfl (pi_range1 (by rfl) T.range (pa_cons (pv 4) pa_nil)) (pg_name (i := 10) scState.nd rfl (Or.inl rfl))
        (pss_cons (ps_set (i := 6) scState.nd rfl (Or.inl rfl) (pe_op op_add (pe_op op_add (pv 6) pe_int) (pe_ifExp (pt_cmpR op_gt (pe_fn GN hr1 pass0 (pa_cons (pv 0) (pa_cons pe_int pa_nil))) pe_int (nomark _)) (pe_fn GN hr1 pass0 (pa_cons (pv 0) (pa_cons pe_int pa_nil))) (pe_fn GN hr1 pass0 (pa_cons (pv 0) (pa_cons pe_int pa_nil))))))
        (pss_one (ps_expr (pe_bm PySem.F.plainAttrs_list PySem.F.slot_list_append PySem.F.type_list_append mt_append (pv 5) (pa_cons (pv 6) pa_nil))))))
      (pss_cons (ps_par (i := 11) (j := 12) rfl scState.nd rfl rfl (by decide) rfl rfl (pa_cons (pe_lst (pa_cons (pe_op op_add (pe_op op_add (pv 6) pe_int) (pe_fn GN hr1 pass0 (pa_cons (pv 0) (pa_cons pe_int pa_nil)))) (pa_cons (pe_op op_add (pe_op op_add (pv 6) pe_int) (pe_fn GN hr1 pass0 (pa_cons (pv 0) (pa_cons pe_int pa_nil)))) pa_nil)))
          (pa_cons (pe_callTy call_list_of (by rfl) T.list boot_list (pa_cons (pv 5) pa_nil)) pa_nil)) rfl)
      (pss_cons (ps_for PassesOwn.never rfl (pi_range1 (by rfl) T.range (pa_cons (pv 4) pa_nil)) (pg_name (i := 10) scState.nd rfl (Or.inl rfl))
        (pss_one (ps_expr (pe_bm PySem.F.plainAttrs_list PySem.F.slot_list_append PySem.F.type_list_append mt_append (pv 7) (pa_cons
          (pe_bm PySem.F.plainAttrs_list PySem.F.slot_list_pop PySem.F.type_list_pop mt_popAt (pv 12) (pa_cons (pe_fn GN hr1 pass0 (pa_cons (pv 0) (pa_cons (pe_callB call_len_seq (by rfl) T.len PySem.boot_len (pa_cons (pv 12) pa_nil)) pa_nil))) pa_nil)) pa_nil)))))
      (pss_cons (ps_for PassesOwn.never rfl (pi_range1 (by rfl) T.range (pa_cons (pv 4) pa_nil)) (pg_name (i := 10) scState.nd rfl (Or.inl rfl))
        (pss_cons (ps_par (i := 13) (j := 14) rfl scState.nd rfl rfl (by decide) rfl rfl (pa_cons (pe_fn GN hr1 pass0 (pa_cons (pv 0) (pa_cons pe_int pa_nil))) (pa_cons (pe_ifExp (pt_cmpR op_lt (pe_op op_add (pv 10) pe_int) (pv 4) (nomark _)) (pe_ix (r := rIxL K) ix_list (pv 7) (pe_op op_add (pv 10) pe_int) (fun _ _ => rfl)) pe_int) pa_nil)) rfl)
        (pss_one (ps_dput hu (pv 8) (pe_ix (r := rIxL K) ix_list (pv 7) (pv 10) (fun _ _ => rfl)) (pe_ifExp (pt_cmpR op_lt (pv 13) pe_int (nomark _)) (pv 14)
          (pe_fn GO hr pass0 (pa_cons (pv 0) (pa_cons (pe_op op_cat (pv 5) (pe_lst (pa_cons pe_int (pa_cons pe_int (pa_cons (pe_ix (r := rIxL K) ix_list (pv 11) (pe_op op_mod (pv 13) pe_int) (fun _ _ => rfl)) pa_nil))))) pa_nil)))) rfl))))
      (pss_cons (ps_set (i := 15) scState.nd rfl (Or.inl rfl) (pe_callTy call_tuple_of (by rfl) T.tuple boot_tuple (pa_cons
          (pe_lc (own := [("address", 16)]) (g := gName 16) (tt := tYes) rfl scState.nd (pi_list (pv 5)) (blkOk_by (N := nmState) (sc := defScope (top 37)) (by decide +kernel))
            (fun _ _ _ _ _ => pg_name (i := 16) scState.nd rfl (Or.inl rfl)) (fun _ _ _ _ _ => pts_nil)
            (fun _ _ _ _ _ => pe_tup (pa_cons (pv 16) (pa_cons (pe_fn GO hr pass0 (pa_cons (pv 0) (pa_cons (pv 1) pa_nil))) (pa_cons (pe_dget hu (pv 8) (pv 16) (fun _ _ => rfl)) pa_nil))))) pa_nil)))
      (pss_cons (ps_for PassesOwn.never rfl (pi_range1 (by rfl) T.range (pa_cons (pv 2) pa_nil)) (pg_name (i := 10) scState.nd rfl (Or.inl rfl))
        (pss_cons (ps_set (i := 13) scState.nd rfl (Or.inl rfl) (pe_fn GN hr1 pass0 (pa_cons (pv 0) (pa_cons pe_int pa_nil))))
        (pss_one (ps_expr (pe_bm PySem.F.plainAttrs_list PySem.F.slot_list_append PySem.F.type_list_append mt_append (pv 9) (pa_cons
          (pe_ifExp (PW.pt (pw_and (pt_cmpR op_lt (pv 13) pe_int (nomark _)) (pw_and1 (pt_cmpR op_gt (pv 4) pe_int (nomark _))))) (pe_ix (r := rIxL K) ix_list (pv 7) pe_int (fun _ _ => rfl))
            (pe_fn GO hr pass0 (pa_cons (pv 0) (pa_cons (pe_op op_cat (pe_op op_cat (pv 5) (pv 5)) (pe_lst (pa_cons pe_int (pa_cons (pe_ix (r := rIxL K) ix_list (pv 11) (pe_op op_mod (pv 13) pe_int) (fun _ _ => rfl)) pa_nil)))) pa_nil)))) pa_nil))))))
      (pss_one (ps_ret (pe_tup (pa_cons (pv 15) (pa_cons (pe_callTy call_tuple_of (by rfl) T.tuple boot_tuple (pa_cons (pv 9) pa_nil)) pa_nil))))))))))), ?_⟩
    refine ⟨_, rfl, _, rfl, _, _, rfl, rfl, am, (most : Int) + 1, F, B, rfl, by omega, by omega, hd, by omega, fun c H1 c0 c1 d1 => ?_⟩
    refine ⟨Nat.zero_le _, fun pa hpa => ⟨Nat.zero_le _, fun po hpo pd hpd => ⟨Nat.zero_le _, fun pv hpv => ⟨(by show 6 ≤ sizeLine; decide), fun tt htt => ?_⟩⟩⟩⟩
    have npo := updN hpo
    have npd := updN (updN hpd)
    have npv := updN (updN (updN hpv))
    have nap : pa ≠ po := ne_of_none upd_same hpo
    have nad : pa ≠ pd := ne_of_none upd_same (updN hpd)
    have nav : pa ≠ pv := ne_of_none upd_same (updN (updN hpv))
    have nod : po ≠ pd := ne_of_none upd_same hpd
    have nov : po ≠ pv := ne_of_none upd_same (updN hpv)
    have ndv : pd ≠ pv := ne_of_none upd_same hpv
    have fpa := d1.same.free hpa
    have fpo := d1.same.free npo
    have fpd := d1.same.free npd
    have fpv := d1.same.free npv
    have d2 := (((((d1.new (o := .lst []) hpa).new (o := .lst []) hpo).new (o := .dK []) hpd).new (o := .lst []) hpv).beside (same_upd (o := .tup [.int c, .ref pa, .int 0, .ref po, .ref pd, .ref pv]) htt))
    have e1 : Same F (upd (upd (upd (upd F pa (.lst [])) po (.lst [])) pd (.dK [])) pv (.lst [])) := fun b o e => by
      rw [upd_ne (ne_of_none e fpv), upd_ne (ne_of_none e fpd), upd_ne (ne_of_none e fpo), upd_ne (ne_of_none e fpa)]
      exact e
    have a1 : (upd (upd (upd (upd F pa (.lst [])) po (.lst [])) pd (.dK [])) pv (.lst [])) pa = some (.lst []) := by rw [upd_ne nav, upd_ne nad, upd_ne nap, upd_same]
    have o1 : (upd (upd (upd (upd F pa (.lst [])) po (.lst [])) pd (.dK [])) pv (.lst [])) po = some (.lst []) := by rw [upd_ne nov, upd_ne nod, upd_same]
    have g1 : (upd (upd (upd (upd F pa (.lst [])) po (.lst [])) pd (.dK [])) pv (.lst [])) pd = some (.dK []) := by rw [upd_ne ndv, upd_same]
    have v1 : (upd (upd (upd (upd F pa (.lst [])) po (.lst [])) pd (.dK [])) pv (.lst [])) pv = some (.lst []) := upd_same
    generalize upd (upd (upd (upd F pa (.lst [])) po (.lst [])) pd (.dK [])) pv (.lst []) = F1 at d2 e1 a1 o1 g1 v1
    refine ⟨tt, _, rfl, SqT.of upd_same, rfl, _, _, rfl, _, _, rfl, _, _, rfl, _, _, rfl, _, _, rfl, _, _, rfl, rfl, ?_⟩
    generalize upd (upd (upd (upd (upd H1 pa (.lst [])) po (.lst [])) pd (.dK [])) pv (.lst [])) tt (.tup [.int c, .ref pa, .int 0, .ref po, .ref pd, .ref pv]) = H2 at d2
    have hc12 : c ≤ 12 := by omega
    -- the addresses
    refine ⟨_, rfl, c, rfl, by omega, by omega, for_it walk_range (fun i σ H3 => ∃ vk place as, σ = [some (.ref am), some (.ref pm), some (.int (n : Int)), some (.int (most : Int)), some (.int c), some (.ref pa), some (.int place), some (.ref po), some (.ref pd), some (.ref pv), vk, none, none, none, none, none, none] ∧ Asc as place i ∧
      DrawAt (upd F1 pa (.lst (as.map V.int))) H3 am (B + 1 + 2 * i)) ⟨none, 0, [], rfl, ⟨.nil, fun _ z => (nomatch z), Int.le_refl _, Int.le_refl _, rfl⟩, ?_⟩ (fun _ _ _ _ _ => trivial) ?_ ?_⟩
    · have e4 : upd F1 pa (.lst (([] : List Int).map V.int)) = F1 := by
        funext b
        by_cases z : b = pa
        · rw [z, upd_same, a1]
          rfl
        · rw [upd_ne z]
      rw [e4]
      exact d2
    · rintro i x σ H3 H4 hi ⟨vk, place, as, rfl, ha, d3⟩ ⟨rfl, rfl⟩
      refine ⟨_, rfl, _, _, rfl, rfl, _, rfl, am, 4, _, _, rfl, by decide, by decide, d3, by omega, fun r H5 r0 r1 d5 => ⟨_, _, rfl, rfl, _, rfl, ?_⟩⟩
      refine ite_both (fun v H6 => ∃ u, v = .int u ∧ 0 ≤ u ∧ u ≤ 19 ∧ DrawAt (upd F1 pa (.lst (as.map V.int))) H6 am (B + 1 + 2 * i + 1 + 1)) (fun _ Q' k' => ?_) (fun _ Q' k' => ?_) ?_
      · exact ⟨_, rfl, am, 3, _, _, rfl, by decide, by decide, d5, by omega, fun u H6 u0 u1 d6 => k' _ _ ⟨u, rfl, u0, by omega, d6⟩⟩
      · exact ⟨_, rfl, am, 20, _, _, rfl, by decide, by decide, d5, by omega, fun u H6 u0 u1 d6 => k' _ _ ⟨u, rfl, u0, by omega, d6⟩⟩
      rintro v H6 ⟨u, rfl, u0, u1, d6⟩
      have h6 := d6.same pa _ upd_same
      refine ⟨_, _, rfl, rfl, _, rfl, .inl ⟨rfl, _, SqL.of h6⟩, _, rfl, pa, _, _, rfl, rfl, h6, by rw [List.length_map, ha.len]; exact small1000 (by omega), ?_⟩
      refine ⟨_, place + 1 + u, as ++ [place + 1 + u], rfl, ha.snoc u0 u1, ?_⟩
      have d7 := (d6.own (o := .lst (as.map V.int ++ [.int (place + 1 + u)])) upd_same).mono (C := B + 1 + 2 * (i + 1)) (by omega)
      rw [upd_upd] at d7
      rw [List.map_append]
      exact d7
    rintro σ H3 ⟨vk, place, as, rfl, ha, d3⟩
    generalize eas : as.map V.int = vas at d3
    have toC : ((c.toNat : Nat) : Int) = c := by omega
    have las := ha.len
    have hp0 := ha.p0
    have hp1 := ha.p1
    have e2 : Same F (upd F1 pa (.lst vas)) := fun b o e => by
      rw [upd_ne (ne_of_none e fpa)]
      exact e1 b o e
    have a2 : (upd F1 pa (.lst vas)) pa = some (.lst vas) := upd_same
    have o2 : (upd F1 pa (.lst vas)) po = some (.lst []) := by rw [upd_ne nap.symm]; exact o1
    have g2 : (upd F1 pa (.lst vas)) pd = some (.dK []) := by rw [upd_ne nad.symm]; exact g1
    have v2 : (upd F1 pa (.lst vas)) pv = some (.lst []) := by rw [upd_ne nav.symm]; exact v1
    generalize upd F1 pa (.lst vas) = F2 at d3 e2 a2 o2 g2 v2
    clear e1 a1 o1 g1 v1 d2
    refine ⟨_, rfl, _, _, rfl, rfl, _, rfl, am, 3, _, _, rfl, by decide, by decide, d3, by omega, fun u1 H4 u10 u11 d4 => ⟨_, _, rfl, rfl, ?_⟩⟩
    refine ⟨_, rfl, _, _, rfl, rfl, _, rfl, am, 40, _, _, rfl, by decide, by decide, d4, by omega, fun u2 H5 u20 u21 d5 => ⟨_, _, rfl, rfl, (by show 2 ≤ sizeLine; decide), fun ph hph => ?_⟩⟩
    have d6 := d5.new (o := .lst [.int (place + 1 + u1), .int (place + 5 + u2)]) hph
    have nah : pa ≠ ph := ne_of_none (d5.same _ _ a2) hph
    have noh : po ≠ ph := ne_of_none (d5.same _ _ o2) hph
    have ndh : pd ≠ ph := ne_of_none (d5.same _ _ g2) hph
    have nvh : pv ≠ ph := ne_of_none (d5.same _ _ v2) hph
    have fph : F ph = none := e2.free (d5.same.free hph)
    refine ⟨_, rfl, pa, _, rfl, .inl (SqL.of (d6.same pa (.lst vas) (by rw [upd_ne nah]; exact a2))), fun pl hpl => ⟨_, _, rfl, ?_⟩⟩
    have d7 := d6.new (o := .lst vas) hpl
    have nal : pa ≠ pl := ne_of_none (d5.same _ _ a2) (updN hpl)
    have nol : po ≠ pl := ne_of_none (d5.same _ _ o2) (updN hpl)
    have ndl : pd ≠ pl := ne_of_none (d5.same _ _ g2) (updN hpl)
    have nvl : pv ≠ pl := ne_of_none (d5.same _ _ v2) (updN hpl)
    have nhl : ph ≠ pl := ne_of_none upd_same hpl
    have fpl : F pl = none := e2.free (d5.same.free (updN hpl))
    have e3 : Same F (upd (upd F2 ph (.lst [.int (place + 1 + u1), .int (place + 5 + u2)])) pl (.lst vas)) := fun b o e => by
      rw [upd_ne (ne_of_none e fpl), upd_ne (ne_of_none e fph)]
      exact e2 b o e
    have a3 : (upd (upd F2 ph (.lst [.int (place + 1 + u1), .int (place + 5 + u2)])) pl (.lst vas)) pa = some (.lst vas) := by rw [upd_ne nal, upd_ne nah]; exact a2
    have o3 : (upd (upd F2 ph (.lst [.int (place + 1 + u1), .int (place + 5 + u2)])) pl (.lst vas)) po = some (.lst []) := by rw [upd_ne nol, upd_ne noh]; exact o2
    have g3 : (upd (upd F2 ph (.lst [.int (place + 1 + u1), .int (place + 5 + u2)])) pl (.lst vas)) pd = some (.dK []) := by rw [upd_ne ndl, upd_ne ndh]; exact g2
    have v3 : (upd (upd F2 ph (.lst [.int (place + 1 + u1), .int (place + 5 + u2)])) pl (.lst vas)) pv = some (.lst []) := by rw [upd_ne nvl, upd_ne nvh]; exact v2
    have h3 : (upd (upd F2 ph (.lst [.int (place + 1 + u1), .int (place + 5 + u2)])) pl (.lst vas)) ph = some (.lst [.int (place + 1 + u1), .int (place + 5 + u2)]) := by rw [upd_ne nhl, upd_same]
    have l3 : (upd (upd F2 ph (.lst [.int (place + 1 + u1), .int (place + 5 + u2)])) pl (.lst vas)) pl = some (.lst vas) := upd_same
    generalize upd (upd F2 ph (.lst [.int (place + 1 + u1), .int (place + 5 + u2)])) pl (.lst vas) = F3 at d7 e3 a3 o3 g3 v3 h3 l3
    generalize upd (upd H5 ph (.lst [.int (place + 1 + u1), .int (place + 5 + u2)])) pl (.lst vas) = H6 at d7
    have hh1 : 0 ≤ place + 1 + u1 ∧ place + 1 + u1 ≤ 300 := by omega
    have hh2 : 0 ≤ place + 5 + u2 ∧ place + 5 + u2 ≤ 300 := by omega
    generalize place + 1 + u1 = x1 at h3 hh1
    generalize place + 5 + u2 = x2 at h3 hh2
    clear e2 a2 o2 g2 v2 d3 d4 d5 d6 hph hpl
    -- the order
    refine ⟨_, rfl, c, rfl, by omega, by omega, for_it walk_range (fun i σ H3 => ∃ vk os ls, σ = [some (.ref am), some (.ref pm), some (.int (n : Int)), some (.int (most : Int)), some (.int c), some (.ref pa), some (.int place), some (.ref po), some (.ref pd), some (.ref pv), vk, some (.ref ph), some (.ref pl), none, none, none, none] ∧
      (os ++ ls).Perm as ∧ os.length = i ∧ DrawAt (upd (upd F3 po (.lst ((os : List Int).map V.int))) pl (.lst ((ls : List Int).map V.int))) H3 am (B + 27 + i)) ⟨_, [], as, rfl, List.Perm.refl _, rfl, ?_⟩ (fun _ _ _ _ _ => trivial) ?_ ?_⟩
    · have e4 : upd (upd F3 po (.lst (([] : List Int).map V.int))) pl (.lst (as.map V.int)) = F3 := by
        funext b
        by_cases z : b = pl
        · rw [z, upd_same, l3, eas]
        · rw [upd_ne z]
          by_cases z2 : b = po
          · rw [z2, upd_same, o3]
            rfl
          · rw [upd_ne z2]
      rw [e4]
      exact d7.mono (by omega)
    · rintro i x σ H7 H8 hi ⟨vk, os, ls, rfl, hpm2, hos, d8⟩ ⟨rfl, rfl⟩
      have hl8 := d8.same pl _ upd_same
      have ho8 := d8.same po (.lst (os.map V.int)) (by rw [upd_ne nol, upd_same])
      have lls : 0 < ls.length := by
        have z := hpm2.length_eq
        rw [List.length_append] at z
        omega
      have lls2 : ls.length ≤ 12 := by
        have z := hpm2.length_eq
        rw [List.length_append] at z
        omega
      refine ⟨_, rfl, .inl ⟨rfl, _, SqL.of ho8⟩, _, rfl, .inl ⟨rfl, _, SqL.of hl8⟩, _, rfl, _, rfl, pl, _, rfl, .inl (SqL.of hl8), am, _, _, _, rfl, ?_, ?_, d8, by omega, fun r H9 r0 r1 d9 => ?_⟩
      · rw [List.length_map]
        omega
      · rw [List.length_map]
        omega
      rw [List.length_map] at r1
      have hr : r.toNat < ls.length := by omega
      have hl9 := d9.same pl _ upd_same
      have ix : ixN (ls.map V.int).length r = some r.toNat := by
        rw [List.length_map]
        unfold ixN
        rw [if_pos r0, if_pos r1]
      refine ⟨pl, _, r, r.toNat, .int ls[r.toNat], rfl, rfl, hl9, by omega, by omega, (ixN_seq ix).1, by rw [List.getElem?_map, List.getElem?_eq_getElem hr]; rfl, ?_⟩
      have em : (ls.map V.int).eraseIdx r.toNat = (ls.eraseIdx r.toNat).map V.int := erase_map _ _ _
      rw [em]
      have d10 := d9.own (o := .lst ((ls.eraseIdx r.toNat).map V.int)) upd_same
      rw [upd_upd] at d10
      have ho10 := d10.same po (.lst (os.map V.int)) (by rw [upd_ne nol, upd_same])
      refine ⟨po, _, _, rfl, rfl, ho10, by rw [List.length_map, hos]; exact small1000 (by omega), _, os ++ [ls[r.toNat]], ls.eraseIdx r.toNat, rfl, ?_, by rw [List.length_append, hos]; rfl, ?_⟩
      · rw [List.append_assoc]
        refine List.Perm.trans (List.Perm.append_left os ?_) hpm2
        exact (erase_perm ls r.toNat hr)
      · have d11 := (d10.own (o := .lst (os.map V.int ++ [.int ls[r.toNat]])) (show (upd (upd F3 po (.lst (os.map V.int))) pl (.lst ((ls.eraseIdx r.toNat).map V.int))) po = some (.lst (os.map V.int)) by rw [upd_ne nol, upd_same])).mono (C := B + 27 + (i + 1)) (by omega)
        rw [List.map_append]
        refine d11.less fun b o e => ?_
        by_cases z : b = po
        · rw [z, upd_ne nol, upd_same] at e
          rw [z, upd_same]
          exact e
        · rw [upd_ne z]
          by_cases z2 : b = pl
          · rw [z2, upd_same] at e ⊢
            exact e
          · rw [upd_ne z2, upd_ne z] at e
            rw [upd_ne z2, upd_ne z]
            exact e
    rintro σ H7 ⟨vk2, os, ls, rfl, hpo2, hos, d8⟩
    have lls : ls = [] := by
      have z := hpo2.length_eq
      rw [List.length_append] at z
      exact List.length_eq_zero_iff.mp (by omega)
    subst lls
    rw [List.append_nil] at hpo2
    have e5 : Same F (upd (upd F3 po (.lst (os.map V.int))) pl (.lst (([] : List Int).map V.int))) := fun b o e => by
      rw [upd_ne (ne_of_none e fpl), upd_ne (ne_of_none e fpo)]
      exact e3 b o e
    have a5 : (upd (upd F3 po (.lst (os.map V.int))) pl (.lst (([] : List Int).map V.int))) pa = some (.lst vas) := by rw [upd_ne nal, upd_ne nap]; exact a3
    have o5 : (upd (upd F3 po (.lst (os.map V.int))) pl (.lst (([] : List Int).map V.int))) po = some (.lst (os.map V.int)) := by rw [upd_ne nol, upd_same]
    have g5 : (upd (upd F3 po (.lst (os.map V.int))) pl (.lst (([] : List Int).map V.int))) pd = some (.dK []) := by rw [upd_ne ndl, upd_ne nod.symm]; exact g3
    have v5 : (upd (upd F3 po (.lst (os.map V.int))) pl (.lst (([] : List Int).map V.int))) pv = some (.lst []) := by rw [upd_ne nvl, upd_ne nov.symm]; exact v3
    have h5 : (upd (upd F3 po (.lst (os.map V.int))) pl (.lst (([] : List Int).map V.int))) ph = some (.lst [.int x1, .int x2]) := by rw [upd_ne nhl, upd_ne noh.symm]; exact h3
    generalize upd (upd F3 po (.lst (os.map V.int))) pl (.lst (([] : List Int).map V.int)) = F5 at d8 e5 a5 o5 g5 v5 h5
    clear e3 a3 o3 g3 v3 h3 l3 d7
    have hol : ∀ t : Int, ∃ v, atI [V.int x1, V.int x2] (t % 2) = some (.int v) ∧ 0 ≤ v ∧ v ≤ 300 := fun t => by
      have m0 := Int.emod_nonneg t (show (2 : Int) ≠ 0 by decide)
      have m1 := Int.emod_lt_of_pos t (show (0 : Int) < 2 by decide)
      by_cases z : t % 2 = 0
      · exact ⟨x1, at_of (j := 0) z rfl, hh1⟩
      · exact ⟨x2, at_of (j := 1) (by omega) rfl, hh2⟩
    have p2 : (0 : Int) < 2 := by decide
    have mo : ∀ a ∈ as, 0 ≤ a ∧ a ≤ 300 := fun a z => by
      have := ha.bd a z
      omega
    -- what follows each
    refine ⟨_, rfl, c, rfl, by omega, by omega, for_it walk_range (fun i σ H3 => ∃ vk vt vo kvs, σ = [some (.ref am), some (.ref pm), some (.int (n : Int)), some (.int (most : Int)), some (.int c), some (.ref pa), some (.int place), some (.ref po), some (.ref pd), some (.ref pv), vk, some (.ref ph), some (.ref pl), vt, vo, none, none] ∧
      (∀ a ∈ os.take i, ∃ m : Int, valV kvs (.inl a) = some (.int m) ∧ 0 ≤ m ∧ m ≤ 300) ∧ (kvs : List (Key × V)).length ≤ i ∧ DrawAt (upd F5 pd (.dK kvs)) H3 am (B + 39 + 2 * i)) ⟨_, none, none, [], rfl, fun _ z => (nomatch z), Nat.le_refl _, ?_⟩ (fun _ _ _ _ _ => trivial) ?_ ?_⟩
    · have e4 : upd F5 pd (.dK []) = F5 := by
        funext b
        by_cases z : b = pd
        · rw [z, upd_same, g5]
        · rw [upd_ne z]
      rw [e4]
      exact d8.mono (by omega)
    · rintro i x σ H8 H9 hi ⟨vk, vt, vo, kvs, rfl, hkv, hkl, d9⟩ ⟨rfl, rfl⟩
      have hi2 : i < os.length := by omega
      have ho9 := d9.same po (.lst (os.map V.int)) (by rw [upd_ne nod]; exact o5)
      refine ⟨_, rfl, am, 8, _, _, rfl, by decide, by decide, d9, by omega, fun tn H10 t0 t1 d10 => ?_⟩
      have ho10 := d10.same po (.lst (os.map V.int)) (by rw [upd_ne nod]; exact o5)
      have ha10 := d10.same pa (.lst vas) (by rw [upd_ne nad]; exact a5)
      have hh10 := d10.same ph (.lst [.int x1, .int x2]) (by rw [upd_ne ndh.symm]; exact h5)
      refine ⟨_, rfl, _, _, rfl, rfl, _, rfl, _, _, rfl, rfl, _, rfl, ?_⟩
      refine ite_both (fun v H11 => H11 = H10 ∧ ∃ u, v = .int u ∧ 0 ≤ u ∧ u ≤ 300) (fun lt Q' k' => ?_) (fun _ Q' k' => ?_) ?_
      · have lt' := of_decide_eq_true lt
        have hi3 : i + 1 < os.length := by omega
        refine ⟨_, rfl, _, rfl, _, _, rfl, rfl, po, _, _, .int os[i + 1], rfl, rfl, SqL.of ho10, at_of (j := i + 1) (by omega) (by rw [List.getElem?_map, List.getElem?_eq_getElem hi3]; rfl), ?_⟩
        exact k' _ _ ⟨rfl, os[i + 1], rfl, mo _ (hpo2.mem_iff.mp (List.getElem_mem hi3))⟩
      · exact k' _ _ ⟨rfl, 0, rfl, by decide, by decide⟩
      rintro v H11 ⟨rfl, u, rfl, u0, u1⟩
      refine ⟨_, _, rfl, ?_⟩
      refine ⟨_, rfl, _, _, rfl, rfl, _, rfl, ?_⟩
      refine ite_both (fun v H12 => ∃ u, v = .int u ∧ 0 ≤ u ∧ u ≤ 300 ∧ DrawAt (upd F5 pd (.dK kvs)) H12 am (B + 39 + 2 * i + 1 + 1)) (fun _ Q' k' => ?_) (fun _ Q' k' => ?_) ?_
      · exact ⟨_, rfl, k' _ _ ⟨u, rfl, u0, u1, d10.mono (by omega)⟩⟩
      · obtain ⟨hv, hat, hv0, hv1⟩ := hol tn
        refine ⟨_, rfl, _, rfl, _, rfl, _, rfl, _, _, rfl, rfl, p2, ph, _, _, _, rfl, rfl, SqL.of hh10, hat, (by show 3 ≤ sizeLine; decide), fun q hq => ?_⟩
        have lv : vas.length ≤ 12 := by
          rw [← eas, List.length_map]
          omega
        refine ⟨pa, q, vas, [.int 0, .int 0, .int hv], rfl, rfl, (same_upd hq) _ _ ha10, upd_same, Nat.le_of_lt (small1000 (by show vas.length + 3 ≤ 1000; omega)), fun r hr => ?_⟩
        have d11 := (d10.new (o := .lst [.int 0, .int 0, .int hv]) hq).new (o := .lst (vas ++ [.int 0, .int 0, .int hv])) hr
        refine ⟨am, r, _, _, _, rfl, .inl (SqL.of upd_same), ?_, ?_, d11, by omega, fun x H12 hx d12 => ?_⟩
        · rw [List.length_append]
          show 0 < vas.length + 3
          omega
        · rw [List.length_append]
          show vas.length + 3 ≤ 1000
          omega
        have hxu : ∃ u : Int, x = .int u ∧ 0 ≤ u ∧ u ≤ 300 := by
          rcases List.mem_append.mp hx with z | z
          · rw [← eas] at z
            obtain ⟨a, haa, rfl⟩ := List.mem_map.mp z
            exact ⟨a, rfl, mo a haa⟩
          · rcases List.mem_cons.mp z with z | z
            · exact ⟨0, z, by decide, by decide⟩
            · rcases List.mem_cons.mp z with z | z
              · exact ⟨0, z, by decide, by decide⟩
              · exact ⟨hv, List.mem_singleton.mp z, hv0, hv1⟩
        obtain ⟨u3, rfl, u30, u31⟩ := hxu
        refine k' _ _ ⟨u3, rfl, u30, u31, d12.less fun b o e => ?_⟩
        have e6 := d10.same b o e
        have nq : b ≠ q := ne_of_none e6 hq
        have nr : b ≠ r := ne_of_none (show upd H11 q _ b = some o by rw [upd_ne nq]; exact e6) hr
        rw [upd_ne nr, upd_ne nq]
        exact e
      rintro v H12 ⟨u4, rfl, u40, u41, d12⟩
      have ho12 := d12.same po (.lst (os.map V.int)) (by rw [upd_ne nod]; exact o5)
      have hd12 := d12.same pd _ upd_same
      refine ⟨_, rfl, _, rfl, _, rfl, po, _, _, .int os[i], rfl, rfl, SqL.of ho12, at_of (j := i) (by omega) (by rw [List.getElem?_map, List.getElem?_eq_getElem hi2]; rfl), pd, _, rfl, DPut.k (k := .inl os[i]) hd12 (small1000 (by omega)), _, _, _, putK kvs (.inl os[i]) (.int u4), rfl, fun a haa => ?_, Nat.le_trans (putL _ _ _) (by omega), ?_⟩
      · rw [valV_put]
        by_cases z : a = os[i]
        · rw [if_pos (by rw [z])]
          exact ⟨u4, rfl, u40, u41⟩
        · rw [if_neg (fun z2 => z (Sum.inl.inj z2))]
          rw [List.take_add_one, List.getElem?_eq_getElem hi2] at haa
          rcases List.mem_append.mp haa with z3 | z3
          · exact hkv a z3
          · exact absurd (List.mem_singleton.mp z3) z
      · have d13 := (d12.own (o := .dK (putK kvs (.inl os[i]) (.int u4))) upd_same).mono (C := B + 39 + 2 * (i + 1)) (by omega)
        rw [upd_upd] at d13
        exact d13
    rintro σ H8 ⟨vk3, vt, vo, kvs, rfl, hkv, hkl, d9⟩
    have hall : ∀ a ∈ as, ∃ m : Int, valV kvs (.inl a) = some (.int m) ∧ 0 ≤ m ∧ m ≤ 300 := fun a haa => hkv a (by rw [List.take_of_length_le (by omega)]; exact hpo2.mem_iff.mpr haa)
    have e6 : Same F (upd F5 pd (.dK kvs)) := fun b o e => by
      rw [upd_ne (ne_of_none e fpd)]
      exact e5 b o e
    have a6 : (upd F5 pd (.dK kvs)) pa = some (.lst vas) := by rw [upd_ne nad]; exact a5
    have o6 : (upd F5 pd (.dK kvs)) po = some (.lst (os.map V.int)) := by rw [upd_ne nod]; exact o5
    have g6 : (upd F5 pd (.dK kvs)) pd = some (.dK kvs) := upd_same
    have v6 : (upd F5 pd (.dK kvs)) pv = some (.lst []) := by rw [upd_ne ndv.symm]; exact v5
    have h6 : (upd F5 pd (.dK kvs)) ph = some (.lst [.int x1, .int x2]) := by rw [upd_ne ndh.symm]; exact h5
    generalize upd F5 pd (.dK kvs) = F6 at d9 e6 a6 o6 g6 v6 h6
    clear e5 a5 o5 g5 v5 h5 d8
    have lv : vas.length = as.length := by rw [← eas, List.length_map]
    -- the cells
    refine ⟨_, rfl, pa, rfl, ⟨_, SqL.of (d9.same _ _ a6)⟩, fun D hD => ?_⟩
    refine lc_it (walk_list (K := K) (a := pa) (xs := vas)) (fun i H9 => ∃ F' acc cs, DrawAt F' H9 am (B + 63 + i) ∧ Same F6 F' ∧ F' D = some (.lst acc) ∧ TupsAt F' acc ((cs : List Cell).map cellV) ∧ cs.map (·.1) = as.take i ∧ (∀ c ∈ cs, c.2.1 ∈ ms ∧ 0 ≤ c.2.2 ∧ c.2.2 ≤ 300)) ⟨_, [], [], (d9.mono (by omega)).new hD, fun b o e => ?_, upd_same, .nil, rfl, fun _ z => (nomatch z)⟩ (fun i H9 _ p9 => ?_) ?_ ?_
    · rw [upd_ne (ne_of_none (d9.same _ _ e) hD)]
      exact e
    · obtain ⟨F', acc, cs, d10, s10, _⟩ := p9
      exact SqL.of (d10.same _ _ (s10 _ _ a6))
    · rintro i x H9 H10 hi ⟨F', acc, cs, d10, s10, hacc, ht, hca, hcg⟩ ⟨rfl, hx⟩
      refine ⟨wipe_back _ 16 _, ?_⟩
      dsimp only [tYes]
      rw [if_pos rfl]
      have hi2 : i < as.length := by omega
      rw [← eas, List.getElem?_map, List.getElem?_eq_getElem hi2] at hx
      obtain rfl := Option.some.inj hx
      have hpm10 : F' pm = some (.tup (ms.map V.str)) := s10 _ _ (e6 _ _ hpm)
      refine ⟨_, rfl, _, rfl, _, rfl, am, pm, ms.map V.str, F', _, rfl, .inr (SqT.of hpm10), ?_, by rw [List.length_map]; omega, d10, by omega, fun x H11 hx d11 => ?_⟩
      · rw [List.length_map]
        exact List.length_pos_iff.mpr hms
      obtain ⟨mk, hmk, rfl⟩ := List.mem_map.mp hx
      obtain ⟨nx, hnx, nx0, nx1⟩ := hall as[i] (List.getElem_mem hi2)
      have gd : DGet H11 pd (.int as[i]) (some (.int nx)) := by
        rw [← hnx]
        exact DGet.k (k := .inl as[i]) (d11.same _ _ (s10 _ _ g6))
      refine ⟨_, rfl, _, rfl, pd, _, rfl, gd, (by show 3 ≤ sizeLine; decide), fun t ht11 => ?_⟩
      have d12 := d11.new (o := .tup [.int as[i], .str mk, .int nx]) ht11
      have nDt : D ≠ t := ne_of_none (d11.same _ _ hacc) ht11
      have F't : F' t = none := d11.same.free ht11
      have hacc2 : (upd F' t (.tup [.int as[i], .str mk, .int nx])) D = some (.lst acc) := by rw [upd_ne nDt]; exact hacc
      have lacc : acc.length = i := by
        have z := Paired.length ht
        have z2 := congrArg List.length hca
        rw [List.length_map, List.length_take] at z2
        rw [List.length_map] at z
        omega
      have d13 := (d12.own (o := .lst (acc ++ [.ref t])) hacc2).mono (C := B + 63 + (i + 1)) (by omega)
      have nsD : ∀ b o, F6 b = some o → b ≠ D := fun b o e => ne_of_none (d9.same _ _ e) hD
      have up : ∀ b l, (upd F' t (.tup [.int as[i], .str mk, .int nx])) b = some (.tup l) → (upd (upd F' t (.tup [.int as[i], .str mk, .int nx])) D (.lst (acc ++ [.ref t]))) b = some (.tup l) := fun b l e => by
        rw [upd_ne (ne_of e hacc2 (by intro z; cases z))]
        exact e
      refine ⟨acc, d12.same _ _ hacc2, by rw [lacc]; exact small1000 (by omega), _, acc ++ [.ref t], cs ++ [(as[i], mk, nx)], d13, fun b o e => ?_, upd_same, ?_, ?_, fun c hc => ?_⟩
      · rw [upd_ne (nsD b o e), upd_ne (ne_of_none (s10 _ _ e) F't)]
        exact s10 _ _ e
      · rw [List.map_append]
        refine Paired.snoc (TupsAt.mono (fun b l e => up b l ?_) ht) ⟨t, rfl, up t _ upd_same⟩
        rw [upd_ne (ne_of_none e F't)]
        exact e
      · rw [List.map_append, hca, List.take_add_one, List.getElem?_eq_getElem hi2]
        rfl
      · rcases List.mem_append.mp hc with z | z
        · exact hcg c z
        · rw [List.mem_singleton] at z
          rw [z]
          exact ⟨hmk, nx0, nx1⟩
    rintro H9 ⟨F', acc, cs, d10, s10, hacc, htu, hca, hcg⟩
    rw [lv, List.take_length] at hca
    refine ⟨D, acc, rfl, .inl ⟨SqL.of (d10.same _ _ hacc), fun l hl => ?_⟩⟩
    have d11 := d10.new (o := .tup acc) hl
    have sl : Same F' (upd F' l (.tup acc)) := fun b o e => by
      rw [upd_ne (ne_of_none (d10.same _ _ e) hl)]
      exact e
    have htu2 := TupsAt.mono (fun b l0 e => sl _ _ e) htu
    have hl2' : (upd F' l (.tup acc)) l = some (.tup acc) := upd_same
    have s11 : Same F6 (upd F' l (.tup acc)) := s10.trans sl
    generalize upd F' l (.tup acc) = F7 at d11 htu2 hl2' s11
    have e7 : Same F F7 := e6.trans s11
    have a7 := s11 _ _ a6
    have o7 := s11 _ _ o6
    have v7 := s11 _ _ v6
    have h7 := s11 _ _ h6
    have F7pd : F7 pv = some (.lst []) := v7
    clear e6 a6 o6 g6 v6 h6 d9 d10 hD hl
    have toN : ((n : Nat) : Int).toNat = n := by omega
    refine ⟨_, rfl, (n : Int), rfl, by omega, by omega, ?_⟩
    rw [toN]
    generalize eH : upd H9 l (.tup acc) = H10 at d11
    refine for_it walk_range (fun i σ H11 => ∃ vk vt ws, σ = [some (.ref am), some (.ref pm), some (.int (n : Int)), some (.int (most : Int)), some (.int c), some (.ref pa), some (.int place), some (.ref po), some (.ref pd), some (.ref pv), vk, some (.ref ph), some (.ref pl), vt, vo, some (.ref l), none] ∧
      (ws : List Int).length = i ∧ (∀ v ∈ ws, 0 ≤ v ∧ v ≤ 300) ∧ DrawAt (upd F7 pv (.lst (ws.map V.int))) H11 am (B + 75 + 2 * i)) ⟨_, _, [], rfl, rfl, fun _ z => (nomatch z), ?_⟩ (fun _ _ _ _ _ => trivial) ?_ ?_
    · have e4 : upd F7 pv (.lst (([] : List Int).map V.int)) = F7 := by
        funext b
        by_cases z : b = pv
        · rw [z, upd_same, v7]
          rfl
        · rw [upd_ne z]
      rw [e4]
      exact d11.mono (by omega)
    · rintro i x σ H11 H12 hi ⟨vk, vt, ws, rfl, lws, hws, d12⟩ ⟨rfl, rfl⟩
      refine ⟨_, rfl, am, 8, _, _, rfl, by decide, by decide, d12, by omega, fun tn H13 t0 t1 d13 => ?_⟩
      have ho13 := d13.same po (.lst (os.map V.int)) (by rw [upd_ne nov]; exact o7)
      have ha13 := d13.same pa (.lst vas) (by rw [upd_ne nav]; exact a7)
      have hh13 := d13.same ph (.lst [.int x1, .int x2]) (by rw [upd_ne nvh.symm]; exact h7)
      have hv13 := d13.same pv _ upd_same
      refine ⟨_, rfl, .inl ⟨rfl, _, SqL.of hv13⟩, ?_⟩
      have R : ∀ (b : Bool), (b = true → c ≠ 0) → ∀ Q' : VK, (∀ v H14, (∃ u, v = .int u ∧ 0 ≤ u ∧ u ≤ 300 ∧ DrawAt (upd F7 pv (.lst (ws.map V.int))) H14 am (B + 75 + 2 * i + 1 + 1)) → Q' v H14) →
          (if b = true then tOp (rIxL K) (tVar 7) (tC (.int 0)) ([some (V.ref am), some (.ref pm), some (.int (n : Int)), some (.int (most : Int)), some (.int c), some (.ref pa), some (.int place), some (.ref po), some (.ref pd), some (.ref pv), some (.int (0 + (i : Int))), some (.ref ph), some (.ref pl), some (.int tn), vo, some (.ref l), none] : L2.St) H13 Q'
            else tCall (spOf K) [] E0 (tCons (tVar 0) (tCons (tOp rCat (tOp rCat (tVar 5) (tVar 5)) (tLst (tCons (tC (.int 0)) (tCons (tOp (rIxL K) (tVar 11) (tOp (rI (fun _ j => 0 < j) fun i j => .int (i % j)) (tVar 13) (tC (.int 2)))) tNil)))) tNil)) ([some (V.ref am), some (.ref pm), some (.int (n : Int)), some (.int (most : Int)), some (.int c), some (.ref pa), some (.int place), some (.ref po), some (.ref pd), some (.ref pv), some (.int (0 + (i : Int))), some (.ref ph), some (.ref pl), some (.int tn), vo, some (.ref l), none] : L2.St) H13 Q') := fun b hb Q' k' => by
        cases b with
        | true =>
          have c1 := hb rfl
          have ho0 : 0 < os.length := by omega
          refine iteT ⟨_, rfl, po, _, 0, .int os[0], rfl, rfl, SqL.of ho13, at_of (j := 0) rfl (by rw [List.getElem?_map, List.getElem?_eq_getElem ho0]; rfl), ?_⟩
          have z := mo _ (hpo2.mem_iff.mp (List.getElem_mem ho0))
          exact k' _ _ ⟨os[0], rfl, z.1, z.2, d13.mono (by omega)⟩
        | false =>
          obtain ⟨hv, hat, hv0, hv1⟩ := hol tn
          refine iteF ⟨_, rfl, _, rfl, _, rfl, pa, pa, vas, vas, rfl, rfl, ha13, ha13, Nat.le_of_lt (small1000 (by omega)), fun q hq => ?_⟩
          have hq13 := (same_upd (o := .lst (vas ++ vas)) hq) _ _ hh13
          refine ⟨_, rfl, _, rfl, _, _, rfl, rfl, p2, ph, _, _, _, rfl, rfl, SqL.of hq13, hat, (by show 2 ≤ sizeLine; decide), fun q2 hq2 => ?_⟩
          have nqq : q ≠ q2 := ne_of_none upd_same hq2
          refine ⟨q, q2, vas ++ vas, [.int 0, .int hv], rfl, rfl, by rw [upd_ne nqq, upd_same], upd_same, Nat.le_of_lt (small1000 (by rw [List.length_append]; show vas.length + vas.length + 2 ≤ 1000; omega)), fun r hr => ?_⟩
          have d14 := ((d13.new (o := .lst (vas ++ vas)) hq).new (o := .lst [.int 0, .int hv]) hq2).new (o := .lst ((vas ++ vas) ++ [.int 0, .int hv])) hr
          refine ⟨am, r, _, _, _, rfl, .inl (SqL.of upd_same), ?_, ?_, d14, by omega, fun x H14 hx d15 => ?_⟩
          · rw [List.length_append]
            show 0 < _ + 2
            omega
          · rw [List.length_append, List.length_append]
            show vas.length + vas.length + 2 ≤ 1000
            omega
          have va : ∀ z ∈ vas, ∃ u : Int, z = .int u ∧ 0 ≤ u ∧ u ≤ 300 := fun z hz => by
            rw [← eas] at hz
            obtain ⟨a, haa, rfl⟩ := List.mem_map.mp hz
            exact ⟨a, rfl, mo a haa⟩
          have hxu : ∃ u : Int, x = .int u ∧ 0 ≤ u ∧ u ≤ 300 := by
            rcases List.mem_append.mp hx with z | z
            · rcases List.mem_append.mp z with z | z
              · exact va x z
              · exact va x z
            · rcases List.mem_cons.mp z with z | z
              · exact ⟨0, z, by decide, by decide⟩
              · exact ⟨hv, List.mem_singleton.mp z, hv0, hv1⟩
          obtain ⟨u3, rfl, u30, u31⟩ := hxu
          refine k' _ _ ⟨u3, rfl, u30, u31, d15.less fun b o e => ?_⟩
          have e8 := d13.same b o e
          have n1 : b ≠ q := ne_of_none e8 hq
          have e9 : upd H13 q (.lst (vas ++ vas)) b = some o := by rw [upd_ne n1]; exact e8
          have n2 : b ≠ q2 := ne_of_none e9 hq2
          have e10 : upd (upd H13 q (.lst (vas ++ vas))) q2 (.lst [.int 0, .int hv]) b = some o := by rw [upd_ne n2]; exact e9
          rw [upd_ne (ne_of_none e10 hr), upd_ne n2, upd_ne n1]
          exact e
      have fin : ∀ v H14, (∃ u, v = V.int u ∧ 0 ≤ u ∧ u ≤ 300 ∧ DrawAt (upd F7 pv (.lst (ws.map V.int))) H14 am (B + 75 + 2 * i + 1 + 1)) → ∃ u ws', v = V.int u ∧ ws' = ws ++ [u] ∧ (∀ v ∈ ws', 0 ≤ v ∧ v ≤ 300) ∧ H14 pv = some (.lst (ws.map V.int)) ∧ DrawAt (upd F7 pv (.lst (ws'.map V.int))) (upd H14 pv (.lst (ws.map V.int ++ [.int u]))) am (B + 75 + 2 * (i + 1)) := fun v H14 z => by
        obtain ⟨u, rfl, u0, u1, d15⟩ := z
        have d16 := (d15.own (o := .lst (ws.map V.int ++ [.int u])) upd_same).mono (C := B + 75 + 2 * (i + 1)) (by omega)
        rw [upd_upd] at d16
        refine ⟨u, _, rfl, rfl, fun v hv => ?_, d15.same _ _ upd_same, ?_⟩
        · rcases List.mem_append.mp hv with z | z
          · exact hws v z
          · rw [List.mem_singleton] at z
            omega
        · rw [List.map_append]
          exact d16
      refine ⟨_, rfl, _, _, rfl, rfl, _, rfl, ?_⟩
      by_cases lt : tn < 3
      · rw [decide_eq_true lt]
        refine iteT ⟨_, rfl, _, _, rfl, rfl, _, rfl, ?_⟩
        refine R _ (fun z => ?_) _ (fun v H14 z => ?_)
        · have := of_decide_eq_true z
          omega
        · obtain ⟨u, ws', rfl, ews, hws', hpv14, d16⟩ := fin v H14 z
          exact ⟨pv, _, _, rfl, rfl, hpv14, by rw [List.length_map, lws]; exact small1000 (by omega), _, _, ws', rfl, by rw [ews, List.length_append, lws]; rfl, hws', d16⟩
      · rw [decide_eq_false lt]
        refine iteF (R false (fun z => (nomatch z)) _ (fun v H14 z => ?_))
        obtain ⟨u, ws', rfl, ews, hws', hpv14, d16⟩ := fin v H14 z
        exact ⟨pv, _, _, rfl, rfl, hpv14, by rw [List.length_map, lws]; exact small1000 (by omega), _, _, ws', rfl, by rw [ews, List.length_append, lws]; rfl, hws', d16⟩
    rintro σ H11 ⟨vk, vt2, ws, rfl, lws, hws, d12⟩
    have hv12 := d12.same pv _ upd_same
    refine ⟨_, rfl, _, rfl, pv, _, rfl, .inl ⟨SqL.of hv12, fun l2 hl2 => ⟨(by show 2 ≤ sizeLine; decide), fun u hu3 => ?_⟩⟩⟩
    have d13 := (d12.new (o := .tup (ws.map V.int)) hl2).new (o := .tup [.ref l, .ref l2]) hu3
    have sE : Same F7 (upd F7 pv (.lst (ws.map V.int))) ∨ True := .inr trivial
    have npvl : l ≠ pv := ne_of hl2' v7 (by intro z; cases z)
    have nl2 : ∀ b o, (upd F7 pv (.lst (ws.map V.int))) b = some o → b ≠ l2 := fun b o e => ne_of_none (d12.same _ _ e) hl2
    have nu : ∀ b o, (upd (upd F7 pv (.lst (ws.map V.int))) l2 (.tup (ws.map V.int))) b = some o → b ≠ u := fun b o e => ne_of_none ((d12.new (o := .tup (ws.map V.int)) hl2).same _ _ e) hu3
    have sf : ∀ b o, b ≠ pv → F7 b = some o → (upd (upd (upd F7 pv (.lst (ws.map V.int))) l2 (.tup (ws.map V.int))) u (.tup [.ref l, .ref l2])) b = some o := fun b o nb e => by
      have z1 : (upd F7 pv (.lst (ws.map V.int))) b = some o := by rw [upd_ne nb]; exact e
      have z2 : (upd (upd F7 pv (.lst (ws.map V.int))) l2 (.tup (ws.map V.int))) b = some o := by rw [upd_ne (nl2 b o z1)]; exact z1
      rw [upd_ne (nu b o z2)]
      exact z2
    have tl2 : (upd (upd (upd F7 pv (.lst (ws.map V.int))) l2 (.tup (ws.map V.int))) u (.tup [.ref l, .ref l2])) l2 = some (.tup (ws.map V.int)) := by
      rw [upd_ne (nu l2 _ upd_same), upd_same]
    refine k u cs ws _ _ ⟨by rw [hca]; exact ha.asc, ?_, fun c hc => ?_, hws, lws⟩ (fun b o e => sf b o (ne_of_none e fpv) (e7 b o e)) ?_ (d13.mono (by omega))
    · have z := congrArg List.length hca
      rw [List.length_map] at z
      omega
    · have z := hcg c hc
      have z2 : c.1 ∈ as := by
        rw [← hca]
        exact List.mem_map.mpr ⟨c, hc, rfl⟩
      have z3 := ha.bd _ z2
      exact ⟨z3.1, by omega, z.1, z.2.1, z.2.2⟩
    · refine .tup (SqT.of upd_same) (.cons (.tup (SqT.of (sf l _ npvl hl2')) ?_) (.cons (.tup (SqT.of tl2) (dpAll_ints ws)) .nil))
      exact TupsAt.dp cellV cellD dp_cell (TupsAt.mono (fun b l0 e => sf b _ (ne_of e v7 (by intro z; cases z)) e) htu2)
end
end Hs
namespace Hs
open PySem PySem.Spec PyProof.Rows L2
/-! L5: a state at the bounds -/
structure Oky (ms : List Str) (n : Nat) (cs : List Cell) (ws : List Int) : Prop where
  asc : (cs.map (·.1)).Pairwise (· < ·)
  len : cs.length ≤ 300
  cell : ∀ c ∈ cs, 1 ≤ c.1 ∧ c.1 ≤ 999 ∧ c.2.1 ∈ ms ∧ 0 ≤ c.2.2 ∧ c.2.2 ≤ 999
  val : ∀ v ∈ ws, 0 ≤ v ∧ v ≤ 999
  many : ws.length = n
theorem GoodSt.oky {ms : List Str} {n : Nat} {cs : List Cell} {ws : List Int} (h : GoodSt ms n cs ws) : Oky ms n cs ws :=
  ⟨h.asc, by have := h.len; omega, fun c hc => by have := h.cell c hc; exact ⟨this.1, by omega, this.2.2.1, this.2.2.2.1, by omega⟩, fun v hv => by have := h.val v hv; omega, h.many⟩
def edgeF (z : Str) (k : Nat) : Cell := (3 * (k : Int) + 102, z, if (k : Int) < 299 then 3 * (k : Int) + 105 else 0)
def edgeCs (z : Str) : List Cell := (List.range 300).map (edgeF z)
theorem edge_oky (ms : List Str) (z : Str) (h : z ∈ ms) : Oky ms 5 (edgeCs z) [102, 999, 0, 5, 999] := by
  refine ⟨?_, by unfold edgeCs; rw [List.length_map, List.length_range]; decide, fun c hc => ?_, by decide, rfl⟩
  · have e : (edgeCs z).map (·.1) = (List.range 300).map fun (k : Nat) => 3 * (k : Int) + 102 := by
      unfold edgeCs
      rw [List.map_map]
      rfl
    rw [e, List.pairwise_map]
    refine List.Pairwise.imp ?_ List.pairwise_lt_range
    intro a b hab
    omega
  · unfold edgeCs at hc
    obtain ⟨k, hk, rfl⟩ := List.mem_map.mp hc
    have hk' := List.mem_range.mp hk
    unfold edgeF
    refine ⟨by show 1 ≤ 3 * (k : Int) + 102; omega, by show 3 * (k : Int) + 102 ≤ 999; omega, h, ?_⟩
    show 0 ≤ (if (k : Int) < 299 then 3 * (k : Int) + 105 else 0) ∧ (if (k : Int) < 299 then 3 * (k : Int) + 105 else 0) ≤ 999
    split <;> omega
theorem edge1_oky (ms : List Str) (z : Str) (h : z ∈ ms) : Oky ms 5 [(999, z, 999)] [999, 0, 1, 999, 500] := by
  refine ⟨List.pairwise_singleton _ _, (show 1 ≤ 300 by decide), fun c hc => ?_, by decide, rfl⟩
  rw [List.mem_singleton] at hc
  rw [hc]
  exact ⟨(show (1 : Int) ≤ 999 by decide), (show (999 : Int) ≤ 999 by decide), h, (show (0 : Int) ≤ 999 by decide), (show (999 : Int) ≤ 999 by decide)⟩
theorem DrawAt.max {F H : Hp} {am : Addr} {B : Nat} (h : DrawAt F H am B) : ∃ F', Same F F' ∧ DrawAt F' H am B ∧ ∀ b l, H b = some (.tup l) → F' b = some (.tup l) := by
  obtain ⟨ac, al, cells, left, t, h1, h2, h3, h4, h5, h6, h7, h8, h9, h0⟩ := h.ex
  have no : ∀ b, b = am ∨ b = ac ∨ b = al → (fun b => if b = am ∨ b = ac ∨ b = al then none else H b) b = none := fun b z => if_pos z
  refine ⟨fun b => if b = am ∨ b = ac ∨ b = al then none else H b, fun b u e => ?_, ⟨fun b u e => ?_, no _ (.inl rfl), ac, al, cells, left, t, no _ (.inr (.inl rfl)), no _ (.inr (.inr rfl)), h3, h4, h5, h6, h7, h8, h9, h0⟩, fun b l e => ?_⟩
  · show (if b = am ∨ b = ac ∨ b = al then none else H b) = some u
    rw [if_neg]
    · exact h.same _ _ e
    · rintro (z | z | z)
      · rw [z, h.fm] at e
        cases e
      · rw [z, h1] at e
        cases e
      · rw [z, h2] at e
        cases e
  · have e' : (if b = am ∨ b = ac ∨ b = al then none else H b) = some u := e
    split at e'
    · cases e'
    · exact e'
  · show (if b = am ∨ b = ac ∨ b = al then none else H b) = some (.tup l)
    rw [if_neg]
    · exact e
    · rintro (z | z | z)
      · rw [z, h4] at e
        cases e
      · rw [z, h5] at e
        cases e
      · rw [z, h6] at e
        cases e
def spEdge (K : PySem.W.Frag) : Sp := fun vs H Q _ => ∃ (am pm : Addr) (z : Str) (ms : List Str) (F : Hp) (B : Nat), vs = [.ref am, .ref pm] ∧ F pm = some (.tup ((z :: ms).map V.str)) ∧ DrawAt F H am B ∧ B ≤ 900000 ∧
  ∀ (p : Addr) (cs : List Cell) (ws : List Int) (F' H' : Hp), Oky (z :: ms) 5 cs ws → Same F F' → Dp K F' (.ref p) (stD cs ws) → DrawAt F' H' am (B + 1) → Q (.ref p) H'
theorem same_new {F H : Hp} {am p : Addr} {o : HO} {B : Nat} (h : DrawAt F H am B) (hp : H p = none) : Same F (upd F p o) := fun b u e => by
  rw [upd_ne (ne_of_none (h.same _ _ e) hp)]
  exact e
section
variable {P : Program} {w : World} {K : PySem.W.Frag} {mg : Str → Option Value} {base : Heap}
theorem scEdge : FnScope ["m", "marks", "heap", "k"] ["m", "marks"] (defScope (top 38)) := ⟨rfl, rfl, rfl, by decide +kernel, rfl, by decide +kernel, by decide +kernel⟩
theorem ok_edge (D : Def K mg "_law_edge" (top 38) ["m", "marks"]) (T : Txt mg) (GN : Fn P w K mg base CX0 1 "_law_next" ["m", "many"] spNext) : Fn P w K mg base CX0 2 "_law_edge" ["m", "marks"] (spEdge K) := by
  refine D.ok scEdge (fun vs H Q E h => ?_) (fun f cdv A outer s H vs Q E hr h => ?_)
  · obtain ⟨am, pm, z, ms, F, B, rfl, _⟩ := h
    rfl
  · obtain ⟨am, pm, z, ms, F, B, rfl, hpm, hd, hB, k⟩ := h
    refine ⟨_, pss_cons (ps_if (pt_cmpR op_eq (pe_fn GN hr pass0 (pa_cons (pv 0) (pa_cons pe_int pa_nil))) pe_int (nomark _))
        (pss_one (ps_ret (pe_tup (pa_cons (pe_tup (pa_cons (pe_tup (pa_cons pe_int (pa_cons (pe_ix (r := rIxT K) ix_tup (pv 1) pe_int (fun _ _ => rfl)) (pa_cons pe_int pa_nil)))) pa_nil))
          (pa_cons (pe_tup (pa_cons pe_int (pa_cons pe_int (pa_cons pe_int (pa_cons pe_int (pa_cons pe_int pa_nil)))))) pa_nil))))) pss_nil)
      (pss_cons (ps_set (i := 2) scEdge.nd rfl (Or.inl rfl) (pe_callTy call_tuple_of (by rfl) T.tuple boot_tuple (pa_cons
          (pe_lc (own := [("k", 3)]) (g := gName 3) (tt := tYes) rfl scEdge.nd (pi_range1 (by rfl) T.range (pa_cons pe_int pa_nil)) (blkOk_by (N := ["m", "marks", "heap", "k"]) (sc := defScope (top 38)) (by decide +kernel))
            (fun _ _ _ _ _ => pg_name (i := 3) scEdge.nd rfl (Or.inl rfl)) (fun _ _ _ _ _ => pts_nil)
            (fun _ _ _ _ _ => pe_tup (pa_cons (pe_op op_add (pe_op op_mul pe_int (pv 3)) pe_int) (pa_cons (pe_ix (r := rIxT K) ix_tup (pv 1) pe_int (fun _ _ => rfl))
              (pa_cons (pe_ifExp (pt_cmpR op_lt (pv 3) pe_int (nomark _)) (pe_op op_add (pe_op op_mul pe_int (pv 3)) pe_int) pe_int) pa_nil))))) pa_nil)))
      (pss_one (ps_ret (pe_tup (pa_cons (pv 2) (pa_cons (pe_tup (pa_cons pe_int (pa_cons pe_int (pa_cons pe_int (pa_cons pe_int (pa_cons pe_int pa_nil)))))) pa_nil)))))), ?_⟩
    refine ⟨_, rfl, am, 2, F, B, rfl, by decide, by decide, hd, by omega, fun r H1 r0 r1 d1 => ⟨rfl, _, rfl, ?_⟩⟩
    show if decide (V.int r = V.int 0) = true then _ else _
    by_cases c : r = 0
    · rw [decide_eq_true (show V.int r = V.int 0 by rw [c])]
      refine iteT ⟨_, rfl, pm, _, 0, .str z, rfl, rfl, SqT.of (d1.same _ _ hpm), at_of (j := 0) rfl rfl, (by show 3 ≤ sizeLine; decide), fun a ha => ⟨(by show 1 ≤ sizeLine; decide), fun b hb => ⟨(by show 5 ≤ sizeLine; decide), fun e he => ⟨(by show 2 ≤ sizeLine; decide), fun u hu => ?_⟩⟩⟩⟩
      have d2 := d1.new (o := .tup [.int 999, .str z, .int 999]) ha
      have d3 := d2.new (o := .tup [.ref a]) hb
      have d4 := d3.new (o := .tup [.int 999, .int 0, .int 1, .int 999, .int 500]) he
      have d5 := d4.new (o := .tup [.ref b, .ref e]) hu
      have s1 := same_new (o := .tup [.int 999, .str z, .int 999]) d1 ha
      have s2 := same_new (o := .tup [.ref a]) d2 hb
      have s3 := same_new (o := .tup [.int 999, .int 0, .int 1, .int 999, .int 500]) d3 he
      have s4 := same_new (o := .tup [.ref b, .ref e]) d4 hu
      refine k u [(999, z, 999)] [999, 0, 1, 999, 500] _ _ (edge1_oky _ z List.mem_cons_self) (((s1.trans s2).trans s3).trans s4) ?_ d5
      refine .tup (SqT.of upd_same) (.cons (.tup (SqT.of (s4 _ _ (s3 _ _ upd_same))) (.cons (dp_cell (999, z, 999) a (s4 _ _ (s3 _ _ (s2 _ _ upd_same)))) .nil)) (.cons (.tup (SqT.of (s4 _ _ upd_same)) (dpAll_ints [999, 0, 1, 999, 500])) .nil))
    · rw [decide_eq_false (fun q => c (V.int.inj q))]
      refine iteF ⟨300, rfl, by decide, by decide, fun D hD => ?_⟩
      refine lc_tups (walk_range (lo := 0) (n := 300)) (fun i => cellV (edgeF z i)) (Nat.le_of_lt (small1000 (by decide))) hD (fun _ _ => trivial) (fun i H x H2 _ y => by rw [y.1]; exact Same.refl _) ?_ ?_
      · rintro i x H2 H3 hi s2 ⟨rfl, rfl⟩ Q' k'
        have hm3 := s2 _ _ (d1.same _ _ hpm)
        have e0 : (0 : Int) + (i : Int) = (i : Int) := Int.zero_add _
        show tTup _ ((wipe _ [3]).set 3 (some (.int (0 + (i : Int))))) H3 Q'
        rw [e0]
        refine ⟨_, rfl, _, _, rfl, rfl, .inl ⟨by decide, by decide⟩, _, _, rfl, rfl, _, rfl, pm, _, 0, .str z, rfl, rfl, SqT.of hm3, at_of (j := 0) rfl rfl, _, rfl, _, _, rfl, rfl, _, rfl, ?_⟩
        refine ite_both (fun v H4 => H4 = H3 ∧ v = .int (edgeF z i).2.2) (fun lt Q2 k2 => ?_) (fun lt Q2 k2 => ?_) ?_
        · refine ⟨_, rfl, _, _, rfl, rfl, .inl ⟨by decide, by decide⟩, _, _, rfl, rfl, k2 _ _ ⟨rfl, ?_⟩⟩
          show _ = V.int (if (i : Int) < 299 then 3 * (i : Int) + 105 else 0)
          rw [if_pos (of_decide_eq_true lt)]
        · refine k2 _ _ ⟨rfl, ?_⟩
          show _ = V.int (if (i : Int) < 299 then 3 * (i : Int) + 105 else 0)
          rw [if_neg (fun q => lt (decide_eq_true q))]
        rintro v H4 ⟨rfl, rfl⟩
        exact ⟨(by show 3 ≤ sizeLine; decide), fun t ht => k' t _ (same_upd ht) upd_same⟩
      · intro H2 acc s2 h2 ta
        have d2 := d1.beside s2
        obtain ⟨F2, sF, d3, tF⟩ := d2.max
        refine ⟨D, acc, rfl, .inl ⟨SqL.of h2, fun l hl => ?_⟩⟩
        have d4 := d3.new (o := .tup acc) hl
        have s4 := same_new (o := .tup acc) d3 hl
        refine ⟨_, rfl, (by show 5 ≤ sizeLine; decide), fun e he => ⟨(by show 2 ≤ sizeLine; decide), fun u hu => ?_⟩⟩
        have d5 := d4.new (o := .tup [.int 102, .int 999, .int 0, .int 5, .int 999]) he
        have s5 := same_new (o := .tup [.int 102, .int 999, .int 0, .int 5, .int 999]) d4 he
        have d6 := d5.new (o := .tup [.ref l, .ref e]) hu
        have s6 := same_new (o := .tup [.ref l, .ref e]) d5 hu
        refine k u (edgeCs z) [102, 999, 0, 5, 999] _ _ (edge_oky _ z List.mem_cons_self) (((sF.trans s4).trans s5).trans s6) ?_ d6
        refine .tup (SqT.of upd_same) (.cons (.tup (SqT.of (s6 _ _ (s5 _ _ upd_same))) ?_) (.cons (.tup (SqT.of (s6 _ _ upd_same)) (dpAll_ints [102, 999, 0, 5, 999])) .nil))
        have ec : (List.range 300).map (fun i => cellV (edgeF z i)) = (edgeCs z).map cellV := by
          unfold edgeCs
          rw [List.map_map]
          rfl
        rw [ec] at ta
        exact TupsAt.dp cellV cellD dp_cell (TupsAt.mono (fun b l0 e => s6 _ _ (s5 _ _ (s4 _ _ (tF _ _ e)))) ta)
end
end Hs
namespace Hs
open PySem PySem.Spec PyProof.Rows L2
/-! W1: deep data said by expressions, beside what others hold: F is what is known, it grows by new things alone. -/
structure Grow (F H F' H' : Hp) : Prop where
  f : Same F F'
  h : Same H H'
  fh : Same F' H'
  out : ∀ b u, F b = none → H b = some u → F' b = none
theorem Grow.refl {F H : Hp} (s : Same F H) : Grow F H F H := ⟨Same.refl _, Same.refl _, s, fun _ _ e _ => e⟩
theorem Grow.trans {F H F1 H1 F2 H2 : Hp} (a : Grow F H F1 H1) (b : Grow F1 H1 F2 H2) : Grow F H F2 H2 := ⟨a.f.trans b.f, a.h.trans b.h, b.fh, fun p u e1 e2 => b.out p u (a.out p u e1 e2) (a.h _ _ e2)⟩
theorem Grow.new {F H : Hp} {p : Addr} {o : HO} (s : Same F H) (hp : H p = none) : Grow F H (upd F p o) (upd H p o) := by
  refine ⟨fun b u e => ?_, same_upd hp, fun b u e => ?_, fun b u e1 e2 => ?_⟩
  · rw [upd_ne (ne_of_none (s _ _ e) hp)]
    exact e
  · by_cases z : b = p
    · rw [z, upd_same] at e ⊢
      exact e
    · rw [upd_ne z] at e ⊢
      exact s _ _ e
  · rw [upd_ne (ne_of_none e2 hp)]
    exact e1
/-- new things of which nothing is kept -/
theorem Grow.beside {F H H' : Hp} (s : Same F H) (h : Same H H') : Grow F H F H' := ⟨Same.refl _, h, s.trans h, fun _ _ e _ => e⟩
theorem DrawAt.grow {F H F' H' : Hp} {am : Addr} {B : Nat} (d : DrawAt F H am B) (g : Grow F H F' H') : DrawAt F' H' am B := by
  obtain ⟨ac, al, cells, left, t, h1, h2, h3, h4, h5, h6, h7, h8, h9, h0⟩ := d.ex
  exact ⟨g.fh, g.out _ _ d.fm h4, ac, al, cells, left, t, g.out _ _ h1 h5, g.out _ _ h2 h6, h3, g.h _ _ h4, g.h _ _ h5, g.h _ _ h6, h7, h8, h9, h0⟩
def EvD (K : PySem.W.Frag) (te : TE) (σ : L2.St) (F : Hp) (d : PyData) : Prop := ∀ (F1 H : Hp) (Q : VK), Same F F1 → Same F1 H → (∀ v F' H', Grow F1 H F' H' → Dp K F' v d → Q v H') → te σ H Q
def EvA (K : PySem.W.Frag) (ta : TA) (σ : L2.St) (F : Hp) (ds : List PyData) : Prop := ∀ (F1 H : Hp) (Q : List V → Hp → Prop), Same F F1 → Same F1 H → (∀ vs F' H', Grow F1 H F' H' → DpAll K F' vs ds → Q vs H') → ta σ H Q
section
variable {K : PySem.W.Frag} {σ : L2.St} {F : Hp} {te ta tb : TE} {t : TA} {d e : PyData} {ds es : List PyData}
theorem EvD.up {F' : Hp} (h : EvD K te σ F d) (s : Same F F') : EvD K te σ F' d := fun F1 H Q s1 s2 k => h F1 H Q (s.trans s1) s2 k
theorem EvD.var {i : Nat} {v : V} (h : Dp K F v d) (e : σ[i]? = some (some v) := by rfl) : EvD K (tVar i) σ F d := fun F1 H Q s1 s2 k => ⟨v, e, k v F1 H (Grow.refl s2) (dp_mono s1 _ _ h)⟩
theorem EvD.con {v : V} (h : ∀ H, Dp K H v d) : EvD K (tC v) σ F d := fun F1 H Q s1 s2 k => k v F1 H (Grow.refl s2) (h _)
theorem EvD.int (i : Int) : EvD K (tC (.int i)) σ F (.int i) := EvD.con fun _ => .int i
theorem EvD.str (x : Str) : EvD K (tC (.str x)) σ F (.str x) := EvD.con fun _ => .str x
theorem EvD.bl (b : Bool) : EvD K (tC (.bl b)) σ F (.bool b) := EvD.con fun _ => .bl b
theorem EvD.non : EvD K (tC .non) σ F .none := EvD.con fun _ => .non
theorem EvA.nil : EvA K tNil σ F [] := fun F1 H Q s1 s2 k => k [] F1 H (Grow.refl s2) .nil
theorem EvA.cons (h1 : EvD K te σ F d) (h2 : EvA K t σ F ds) : EvA K (tCons te t) σ F (d :: ds) := fun F1 H Q s1 s2 k =>
  h1 F1 H _ s1 s2 fun v F2 H2 g2 d2 => h2 F2 H2 _ (s1.trans g2.f) g2.fh fun vs F3 H3 g3 d3 => k _ F3 H3 (g2.trans g3) (.cons (dp_mono g3.f _ _ d2) d3)
theorem EvD.tup (h : EvA K t σ F ds) (hz : ds.length ≤ 1000 := by exact Nat.le_of_ble_eq_true rfl) : EvD K (tTup t) σ F (.tuple ds) := fun F1 H Q s1 s2 k =>
  h F1 H _ s1 s2 fun vs F2 H2 g2 d2 => ⟨by rw [DpAll.len d2]; exact Nat.le_of_lt (small1000 hz), fun p hp =>
    k _ _ _ (g2.trans (Grow.new (o := .tup vs) g2.fh hp)) (.tup (SqT.of upd_same) (dpAll_mono (Grow.new (o := .tup vs) g2.fh hp).f _ _ d2))⟩
theorem EvD.lst (h : EvA K t σ F ds) (hz : ds.length ≤ 1000 := by exact Nat.le_of_ble_eq_true rfl) : EvD K (tLst t) σ F (.list ds) := fun F1 H Q s1 s2 k =>
  h F1 H _ s1 s2 fun vs F2 H2 g2 d2 => ⟨by rw [DpAll.len d2]; exact Nat.le_of_lt (small1000 hz), fun p hp =>
    k _ _ _ (g2.trans (Grow.new (o := .lst vs) g2.fh hp)) (.lst (SqL.of upd_same) (dpAll_mono (Grow.new (o := .lst vs) g2.fh hp).f _ _ d2))⟩
theorem EvD.cat (ha : EvD K ta σ F (.tuple ds)) (hb : EvD K tb σ F (.tuple es)) (hz : ds.length + es.length ≤ 1000) : EvD K (tOp (rCatA K) ta tb) σ F (.tuple (ds ++ es)) := fun F1 H Q s1 s2 k =>
  ha F1 H _ s1 s2 fun v F2 H2 g2 d2 => hb F2 H2 _ (s1.trans g2.f) g2.fh fun u F3 H3 g3 d3 => by
    obtain ⟨a, xs, rfl, hx, dx⟩ := Dp.tuple_inv (dp_mono g3.f _ _ d2)
    obtain ⟨b, ys, rfl, hy, dy⟩ := Dp.tuple_inv d3
    have g4 := g2.trans g3
    have lx := DpAll.len dx
    have ly := DpAll.len dy
    refine ⟨a, b, xs, ys, rfl, rfl, Same.sqt g4.fh hx, Same.sqt g4.fh hy, Nat.le_of_lt (small1000 (by omega)), fun z => ?_, fun _ z => ?_, fun _ _ p hp => ?_⟩
    · subst z
      cases dx
      exact k _ F3 H3 g4 d3
    · subst z
      cases dy
      rw [List.append_nil] at k
      exact k _ F3 H3 g4 (dp_mono g3.f _ _ d2)
    · have g5 := Grow.new (o := .tup (xs ++ ys)) g4.fh hp
      exact k _ _ _ (g4.trans g5) (.tup (SqT.of upd_same) (DpAll.app (dpAll_mono g5.f _ _ dx) (dpAll_mono g5.f _ _ dy)))
theorem EvD.ix {j : Nat} {i : Int} (ha : EvD K ta σ F (.tuple ds)) (e : i = (j : Int)) (hj : ds[j]? = some d) : EvD K (tOp (rIxT K) ta (tC (.int i))) σ F d := fun F1 H Q s1 s2 k =>
  ha F1 H _ s1 s2 fun v F2 H2 g2 d2 => by
    obtain ⟨a, xs, rfl, hx, dx⟩ := Dp.tuple_inv d2
    obtain ⟨x, ex, dx1⟩ := DpAll.get dx hj
    exact ⟨a, xs, i, x, rfl, rfl, Same.sqt g2.fh hx, at_of e ex, k _ F2 H2 g2 dx1⟩
theorem EvD.strcat {x y : Str} (ha : EvD K ta σ F (.str x)) (hb : EvD K tb σ F (.str y)) (hz : x.length + y.length ≤ 1000) : EvD K (tOp (fun x y H Q => ∃ i j, x = V.str i ∧ y = V.str j ∧ i.length + j.length ≤ sizeLine ∧ Q (.str (i ++ j)) H) ta tb) σ F (.str (x ++ y)) := fun F1 H Q s1 s2 k =>
  ha F1 H _ s1 s2 fun v F2 H2 g2 d2 => hb F2 H2 _ (s1.trans g2.f) g2.fh fun u F3 H3 g3 d3 => by
    obtain rfl := Dp.str_inv d2
    obtain rfl := Dp.str_inv d3
    exact ⟨x, y, rfl, rfl, Nat.le_of_lt (small1000 hz), k _ F3 H3 (g2.trans g3) (.str _)⟩
theorem EvD.list (ha : EvD K ta σ F (.tuple ds)) : EvD K (tCB (fun xs H Q => ∃ p ys, xs = [V.ref p] ∧ (SqL K H p ys ∨ SqT K H p ys) ∧ ∀ l, H l = none → Q (.ref l) (upd H l (.lst ys))) (tCons ta tNil)) σ F (.list ds) := fun F1 H Q s1 s2 k =>
  ha F1 H _ s1 s2 fun v F2 H2 g2 d2 => by
    obtain ⟨a, xs, rfl, hx, dx⟩ := Dp.tuple_inv d2
    refine ⟨a, xs, rfl, .inr (Same.sqt g2.fh hx), fun l hl => ?_⟩
    have g3 := Grow.new (o := .lst xs) g2.fh hl
    exact k _ _ _ (g2.trans g3) (.lst (SqL.of upd_same) (dpAll_mono g3.f _ _ dx))
theorem DpAll.drop : ∀ {vs : List V} {ds : List PyData} (n : Nat), DpAll K F vs ds → DpAll K F (vs.drop n) (ds.drop n)
  | _, _, 0, h => h
  | _, _, _ + 1, .nil => .nil
  | _, _, n + 1, .cons _ r => DpAll.drop n r
theorem DpAll.take : ∀ {vs : List V} {ds : List PyData} (n : Nat), DpAll K F vs ds → DpAll K F (vs.take n) (ds.take n)
  | _, _, 0, _ => .nil
  | _, _, _ + 1, .nil => .nil
  | _, _, n + 1, .cons a r => .cons a (DpAll.take n r)
/-- t[lo:hi] -/
theorem EvD.sl {lo hi : Option Int} {tl th : TO} (ha : EvD K ta σ F (.tuple ds)) (hl : ∀ H (R : Option Int → Hp → Prop), R lo H → tl σ H R) (hh : ∀ H (R : Option Int → Hp → Prop), R hi H → th σ H R)
    (i n : Nat) (h1 : HT.sIx ds.length 0 lo = i) (h2 : HT.sIx ds.length ds.length hi - HT.sIx ds.length 0 lo = n) : EvD K (tSl (rSlA K) ta tl th) σ F (.tuple ((ds.drop i).take n)) := fun F1 H Q s1 s2 k =>
  ha F1 H _ s1 s2 fun v F2 H2 g2 d2 => hl _ _ (hh _ _ (by
    obtain ⟨a, xs, rfl, hx, dx⟩ := Dp.tuple_inv d2
    have lx := DpAll.len dx
    refine ⟨a, xs, rfl, Same.sqt g2.fh hx, fun z => ?_, fun _ p hp => ?_⟩
    · rw [lx] at z
      have e : (ds.drop i).take n = ds := by
        rw [← h1, ← h2, z.1, z.2, List.drop_zero, Nat.sub_zero, List.take_length]
      rw [e] at k
      exact k _ F2 H2 g2 d2
    · have g3 := Grow.new (o := .tup (cutV xs lo hi)) g2.fh hp
      refine k _ _ _ (g2.trans g3) (.tup (SqT.of upd_same) ?_)
      have e : cutV xs lo hi = (xs.drop i).take n := by
        unfold cutV
        rw [lx, h1, ← h2, h1]
      have z := dpAll_mono g3.f _ _ (DpAll.take n (DpAll.drop i dx))
      rw [← e] at z
      exact z))
end
end Hs
namespace Hs
open PySem PySem.Spec PyProof.Rows L2
/-! W2: what is due, in plain terms -/
structure FOk (cs : List Cell) (ws : List Int) : Prop where
  len : cs.length ≤ 300
  cell : ∀ c ∈ cs, 1 ≤ c.1 ∧ c.1 ≤ 999 ∧ 0 ≤ c.2.2 ∧ c.2.2 ≤ 999
  val : ∀ v ∈ ws, 0 ≤ v ∧ v ≤ 999
theorem between_int {i lo hi : Int} (h : lo ≤ i ∧ i ≤ hi) : isBetween (.int i) lo hi = true := decide_eq_true h
theorem isCell_cell {c : Cell} (h : 1 ≤ c.1 ∧ c.1 ≤ 999 ∧ 0 ≤ c.2.2 ∧ c.2.2 ≤ 999) : isCell (cellD c) = true := by
  show (true && (isBetween (.int c.1) 1 999 && isBetween (.int c.2.2) 0 999)) = true
  rw [between_int ⟨h.1, h.2.1⟩, between_int h.2.2]
  rfl
theorem all_cells {cs : List Cell} (h : ∀ c ∈ cs, 1 ≤ c.1 ∧ c.1 ≤ 999 ∧ 0 ≤ c.2.2 ∧ c.2.2 ≤ 999) : (cs.map cellD).all isCell = true := by
  refine List.all_eq_true.mpr fun d hd => ?_
  obtain ⟨c, hc, rfl⟩ := List.mem_map.mp hd
  exact isCell_cell (h c hc)
theorem all_vals {ws : List Int} (h : ∀ v ∈ ws, 0 ≤ v ∧ v ≤ 999) : (ws.map PyData.int).all (fun d => isBetween d 0 999) = true := by
  refine List.all_eq_true.mpr fun d hd => ?_
  obtain ⟨v, hv, rfl⟩ := List.mem_map.mp hd
  exact between_int (h v hv)
theorem FOk.form {cs : List Cell} {ws : List Int} (h : FOk cs ws) : hasForm (stD cs ws) = true := by
  show (decide ((cs.map cellD).length ≤ 300) && ((cs.map cellD).all isCell && (ws.map PyData.int).all (fun d => isBetween d 0 999))) = true
  rw [all_cells h.cell, all_vals h.val, decide_eq_true (by rw [List.length_map]; exact h.len)]
  rfl
theorem look_st {cs : List Cell} {ws : List Int} (h : FOk cs ws) (ms : List Str) (n : Int) : lookAt ms n (stD cs ws) = if (cs.all (fun c => decide (c.2.1 ∈ ms)) && asc (cs.map (·.1))) = true then (if (ws.length : Int) = n then none else some ("values" : Str)) else some ("heap" : Str) := by
  have e1 : (cs.map cellD).all (markIn ms) = cs.all (fun c => decide (c.2.1 ∈ ms)) := by
    rw [List.all_map]
    rfl
  have e2 : (cs.map cellD).map addrOf = cs.map (·.1) := by
    rw [List.map_map]
    rfl
  have e3 : ((ws.map PyData.int).length : Int) = (ws.length : Int) := by rw [List.length_map]
  unfold lookAt
  rw [h.form, if_pos rfl]
  show (if ((cs.map cellD).all (markIn ms) && asc ((cs.map cellD).map addrOf)) = true then (if ((ws.map PyData.int).length : Int) = n then none else some ("values" : Str)) else some ("heap" : Str)) = _
  rw [e1, e2, e3]
theorem asc_of_pair {ns : List Int} (h : ns.Pairwise (· < ·)) : asc ns = true := by
  unfold asc
  refine List.all_eq_true.mpr fun i hi => decide_eq_true ?_
  have hi' := List.mem_range.mp hi
  have h1 : i < ns.length := by omega
  have h2 : i + 1 < ns.length := by omega
  rw [List.getD_eq_getElem?_getD, List.getD_eq_getElem?_getD, List.getElem?_eq_getElem h1, List.getElem?_eq_getElem h2]
  exact List.pairwise_iff_getElem.mp h i (i + 1) h1 h2 (by omega)
theorem asc_not {ns : List Int} (h : ¬ ns.Pairwise (· < ·)) : asc ns = false := by
  cases e : asc ns with
  | false => rfl
  | true => exact absurd (asc_pair e) h
theorem Oky.fok {ms : List Str} {n : Nat} {cs : List Cell} {ws : List Int} (h : Oky ms n cs ws) : FOk cs ws := ⟨h.len, fun c hc => ⟨(h.cell c hc).1, (h.cell c hc).2.1, (h.cell c hc).2.2.2⟩, h.val⟩
theorem Oky.marks {ms : List Str} {n : Nat} {cs : List Cell} {ws : List Int} (h : Oky ms n cs ws) : cs.all (fun c => decide (c.2.1 ∈ ms)) = true := List.all_eq_true.mpr fun c hc => decide_eq_true (h.cell c hc).2.2.1
theorem look_oky {ms : List Str} {n : Nat} {cs : List Cell} {ws : List Int} (h : Oky ms n cs ws) : lookAt ms n (stD cs ws) = none := by
  rw [look_st h.fok, h.marks, asc_of_pair h.asc]
  show (if (ws.length : Int) = (n : Int) then none else some ("values" : Str)) = none
  rw [if_pos (by rw [h.many])]
theorem due_heap {ms : List Str} {n : Int} {cs : List Cell} {ws : List Int} (h : FOk cs ws) (b : (∃ c ∈ cs, c.2.1 ∉ ms) ∨ ¬ (cs.map (·.1)).Pairwise (· < ·)) : lookAt ms n (stD cs ws) = some ("heap" : Str) := by
  rw [look_st h, if_neg]
  rw [Bool.and_eq_true]
  rintro ⟨h1, h2⟩
  rcases b with ⟨c, hc, hn⟩ | b
  · exact hn (of_decide_eq_true (List.all_eq_true.mp h1 c hc))
  · exact b (asc_pair h2)
theorem due_values {ms : List Str} {n : Int} {cs : List Cell} {ws : List Int} (h : FOk cs ws) (h1 : ∀ c ∈ cs, c.2.1 ∈ ms) (h2 : (cs.map (·.1)).Pairwise (· < ·)) (h3 : (ws.length : Int) ≠ n) : lookAt ms n (stD cs ws) = some ("values" : Str) := by
  rw [look_st h, if_pos, if_neg h3]
  rw [Bool.and_eq_true]
  exact ⟨List.all_eq_true.mpr fun c hc => decide_eq_true (h1 c hc), asc_of_pair h2⟩
theorem due_form {ms : List Str} {n : Int} {d : PyData} (h : hasForm d = false) : lookAt ms n d = some ("form" : Str) := by
  unfold lookAt
  rw [h]
  rfl
theorem form_cell {cs vs : List PyData} (h : ∃ c ∈ cs, isCell c = false) : hasForm (.tuple [.tuple cs, .tuple vs]) = false := by
  show (decide (cs.length ≤ 300) && (cs.all isCell && vs.all (fun d => isBetween d 0 999))) = false
  have e : cs.all isCell = false := by
    obtain ⟨c, hc, hn⟩ := h
    cases q : cs.all isCell with
    | false => rfl
    | true =>
      rw [List.all_eq_true.mp q c hc] at hn
      cases hn
  rw [e, Bool.false_and, Bool.and_false]
theorem form_val {cs vs : List PyData} (h : ∃ v ∈ vs, isBetween v 0 999 = false) : hasForm (.tuple [.tuple cs, .tuple vs]) = false := by
  show (decide (cs.length ≤ 300) && (cs.all isCell && vs.all (fun d => isBetween d 0 999))) = false
  have e : vs.all (fun d => isBetween d 0 999) = false := by
    obtain ⟨c, hc, hn⟩ := h
    cases q : vs.all (fun d => isBetween d 0 999) with
    | false => rfl
    | true =>
      have z := List.all_eq_true.mp q c hc
      rw [hn] at z
      cases z
  rw [e, Bool.and_false, Bool.and_false]
theorem form_len {cs vs : List PyData} (h : 300 < cs.length) : hasForm (.tuple [.tuple cs, .tuple vs]) = false := by
  show (decide (cs.length ≤ 300) && (cs.all isCell && vs.all (fun d => isBetween d 0 999))) = false
  rw [decide_eq_false (by omega), Bool.false_and]
theorem form_heap : ∀ cs : List Cell, hasForm (.tuple (cs.map cellD)) = false
  | [] => rfl
  | [_] => rfl
  | [_, _] => rfl
  | _ :: _ :: _ :: _ => rfl
/-- a row of what is wrong -/
def Row (ms : List Str) (n : Nat) (d : PyData) : Prop := ∃ w z, d = .tuple [w, .str z] ∧ lookAt ms n w = some z ∧ SizeOk w ∧ z ∈ ([("form" : Str), "heap", "values"] : List Str)
theorem size2 {a : PyData} {ds : List PyData} (h : ds.length ≤ 1000) : SizeOk (.tuple [a, .tuple ds]) := fun b es e => by
  injection e with e
  injection e with _ e
  injection e with e _
  injection e with e
  rw [← e]
  exact h
theorem size_no {d : PyData} (h : ∀ a ds, d ≠ .tuple [a, .tuple ds]) : SizeOk d := fun a ds e => absurd e (h a ds)
theorem Row.form {ms : List Str} {n : Nat} {w : PyData} (h : hasForm w = false) (hz : SizeOk w) : Row ms n (.tuple [w, .str "form"]) := ⟨w, "form", rfl, due_form h, hz, by decide⟩
theorem Row.heap {ms : List Str} {n : Nat} {cs : List Cell} {ws : List Int} (h : FOk cs ws) (b : (∃ c ∈ cs, c.2.1 ∉ ms) ∨ ¬ (cs.map (·.1)).Pairwise (· < ·)) (hz : ws.length ≤ 1000) : Row ms n (.tuple [stD cs ws, .str "heap"]) :=
  ⟨_, "heap", rfl, due_heap h b, size2 (by rw [List.length_map]; exact hz), by decide⟩
theorem Row.values {ms : List Str} {n : Nat} {cs : List Cell} {ws : List Int} (h : FOk cs ws) (h1 : ∀ c ∈ cs, c.2.1 ∈ ms) (h2 : (cs.map (·.1)).Pairwise (· < ·)) (h3 : ws.length ≠ n) (hz : ws.length ≤ 1000) : Row ms n (.tuple [stD cs ws, .str "values"]) :=
  ⟨_, "values", rfl, due_values h h1 h2 (by omega), size2 (by rw [List.length_map]; exact hz), by decide⟩
/-- the state of which the wrong ones are made -/
structure Sml (mk : Str) (ms : List Str) (n : Nat) (cs : List Cell) (ws : List Int) : Prop where
  n1 : 1 ≤ n
  n2 : n ≤ 20
  ne : cs ≠ []
  asc : (cs.map (·.1)).Pairwise (· < ·)
  len : cs.length ≤ 20
  cell : ∀ c ∈ cs, 2 ≤ c.1 ∧ c.1 ≤ 996 ∧ c.2.1 ∈ mk :: ms ∧ 0 ≤ c.2.2 ∧ c.2.2 ≤ 999
  val : ∀ v ∈ ws, 0 ≤ v ∧ v ≤ 999
  many : ws.length = n
  l10 : mk.length ≤ 10
  no1 : (mk ++ "z") ∉ mk :: ms
  no2 : ("" : Str) ∉ mk :: ms
  no3 : ("A b" : Str) ∉ mk :: ms
  no4 : ("abcdefghi" : Str) ∉ mk :: ms
section
variable {mk : Str} {ms : List Str} {n : Nat} {cs : List Cell} {ws : List Int}
/-- a cell ahead -/
theorem Sml.ahead (h : Sml mk ms n cs ws) {c : Cell} (hc : 1 ≤ c.1 ∧ c.1 ≤ 999 ∧ 0 ≤ c.2.2 ∧ c.2.2 ≤ 999) {us : List Int} (hu : ∀ v ∈ us, 0 ≤ v ∧ v ≤ 999) : FOk (c :: cs) us := by
  have hl := h.len
  refine ⟨by rw [List.length_cons]; omega, fun d hd => ?_, hu⟩
  rcases List.mem_cons.mp hd with e | e
  · rw [e]
    exact hc
  · have z := h.cell d e
    exact ⟨by omega, by omega, z.2.2.2⟩
theorem Sml.behind (h : Sml mk ms n cs ws) {es : List Cell} (hl : es.length ≤ 20) (hc : ∀ c ∈ es, 1 ≤ c.1 ∧ c.1 ≤ 999 ∧ 0 ≤ c.2.2 ∧ c.2.2 ≤ 999) : FOk (cs ++ es) ws := by
  have hl2 := h.len
  refine ⟨by rw [List.length_append]; omega, fun d hd => ?_, h.val⟩
  rcases List.mem_append.mp hd with e | e
  · have z := h.cell d e
    exact ⟨by omega, by omega, z.2.2.2⟩
  · exact hc d e
/-- not ascending: an address ahead that is not below -/
theorem not_asc_ahead {c d : Cell} {es : List Cell} (h : d.1 ≤ c.1) : ¬ ((c :: d :: es).map (·.1)).Pairwise (· < ·) := fun z => by
  rw [List.map_cons, List.map_cons] at z
  have := (List.pairwise_cons.mp z).1 d.1 List.mem_cons_self
  omega
theorem not_asc_behind {es : List Cell} {c d : Cell} {fs : List Cell} (hc : c ∈ es) (hd : d ∈ fs) (h : d.1 ≤ c.1) : ¬ ((es ++ fs).map (·.1)).Pairwise (· < ·) := fun z => by
  rw [List.map_append, List.pairwise_append] at z
  have := z.2.2 c.1 (List.mem_map.mpr ⟨c, hc, rfl⟩) d.1 (List.mem_map.mpr ⟨d, hd, rfl⟩)
  omega
end
end Hs
namespace Hs
open PySem PySem.Spec PyProof.Rows L2
/-! W3: what is wrong -/
abbrev nmWrongs : List Str := ["m", "marks", "state", "heap", "values", "cell", "low", "mark", "rows", "bad", "twice", "k", "one"]
theorem scWrongs : FnScope nmWrongs ["m", "marks", "state"] (defScope (top 39)) := ⟨rfl, rfl, rfl, by decide +kernel, rfl, by decide +kernel, by decide +kernel⟩
abbrev bodyOf (st : Stmt) : List Stmt := defBody st
def spWrongs (K : PySem.W.Frag) : Sp := fun vs H Q _ => ∃ (vm : V) (pm sp : Addr) (mk : Str) (ms : List Str) (n : Nat) (cs : List Cell) (ws : List Int) (F : Hp), vs = [vm, .ref pm, .ref sp] ∧ F pm = some (.tup ((mk :: ms).map V.str)) ∧ ms.length ≤ 10 ∧ Dp K F (.ref sp) (stD cs ws) ∧ Sml mk ms n cs ws ∧ Same F H ∧
  ∀ (r : Addr) (ds : List PyData) (F' H' : Hp), Grow F H F' H' → Dp K F' (.ref r) (.list ds) → ds.length ≤ 100 → (∀ d ∈ ds, Row (mk :: ms) n d) → ds ≠ [] → Q (.ref r) H'
abbrev sgW (vm : V) (pm sp hp vp cp lp : Addr) (mk : Str) (R b t : Option V) : L2.St := [some vm, some (.ref pm), some (.ref sp), some (.ref hp), some (.ref vp), some (.ref cp), some (.ref lp), some (.str mk), R, b, t, none, none]
/-- what is known of the names' values -/
structure Kn (K : PySem.W.Frag) (F : Hp) (hp vp cp lp : Addr) (mk : Str) (c0 : Cell) (cs : List Cell) (ws : List Int) : Prop where
  h : Dp K F (.ref hp) (.tuple ((c0 :: cs).map cellD))
  v : Dp K F (.ref vp) (.tuple (ws.map PyData.int))
  c : Dp K F (.ref cp) (cellD (1, mk, 0))
  l : Dp K F (.ref lp) (cellD c0)
theorem Kn.up {K : PySem.W.Frag} {F F' : Hp} {hp vp cp lp : Addr} {mk : Str} {c0 : Cell} {cs : List Cell} {ws : List Int} (h : Kn K F hp vp cp lp mk c0 cs ws) (s : Same F F') : Kn K F' hp vp cp lp mk c0 cs ws :=
  ⟨dp_mono s _ _ h.h, dp_mono s _ _ h.v, dp_mono s _ _ h.c, dp_mono s _ _ h.l⟩
structure RAt (K : PySem.W.Frag) (ms : List Str) (n : Nat) (F1 H1 F H : Hp) (R : Addr) (L : Nat) : Prop where
  g : Grow F1 H1 F H
  new : H1 R = none
  ex : ∃ vs ds, H R = some (.lst vs) ∧ F R = none ∧ DpAll K F vs ds ∧ (∀ d ∈ ds, Row ms n d) ∧ ds.length ≤ L ∧ ds ≠ []
section
variable {K : PySem.W.Frag} {ms : List Str} {n : Nat} {F1 H1 F H F' H' : Hp} {R : Addr} {L : Nat} {ta : TA} {te : TE} {σ : L2.St} {es : List PyData} {d : PyData} {Q : VK}
theorem RAt.grow (a : RAt K ms n F1 H1 F H R L) (g : Grow F H F' H') : RAt K ms n F1 H1 F' H' R L := by
  obtain ⟨vs, ds, h1, h2, h3, h4, h5, h6⟩ := a.ex
  exact ⟨a.g.trans g, a.new, vs, ds, g.h _ _ h1, g.out _ _ h2 h1, dpAll_mono g.f _ _ h3, h4, h5, h6⟩
theorem rows_new (s : Same F1 H1) (h : EvA K ta σ F1 es) (hr : ∀ e ∈ es, Row ms n e) (hl : es.length ≤ 100) (hn : es ≠ []) (k : ∀ F' H' R, RAt K ms n F1 H1 F' H' R es.length → Same F1 F' → Q (.ref R) H') : tLst ta σ H1 Q :=
  h F1 H1 _ (Same.refl _) s fun vs F2 H2 g2 d2 => ⟨by rw [DpAll.len d2]; exact Nat.le_of_lt (small1000 (by omega)), fun p hp =>
    k F2 _ p ⟨g2.trans (Grow.beside g2.fh (same_upd hp)), g2.h.free hp, vs, es, upd_same, g2.fh.free hp, d2, hr, Nat.le_refl _, hn⟩ g2.f⟩
theorem rows_put (a : RAt K ms n F1 H1 F H R L) {ys : List V} {q : Addr} (hq : H q = some (.lst ys)) (hd : DpAll K F ys es) (hr : ∀ e ∈ es, Row ms n e) (hl : L + es.length ≤ 500)
    (k : ∀ H' R', RAt K ms n F1 H1 F H' R' (L + es.length) → Q (.ref R') H') : rCat (.ref R) (.ref q) H Q := by
  obtain ⟨vs, ds, h1, h2, h3, h4, h5, h6⟩ := a.ex
  have l1 := DpAll.len h3
  have l2 := DpAll.len hd
  refine ⟨R, q, vs, ys, rfl, rfl, h1, hq, Nat.le_of_lt (small1000 (by omega)), fun r hr2 => ?_⟩
  refine k _ r ⟨a.g.trans (Grow.beside a.g.fh (same_upd hr2)), a.g.h.free hr2, vs ++ ys, ds ++ es, upd_same, a.g.fh.free hr2, DpAll.app h3 hd, fun e he => ?_, by rw [List.length_append]; omega, fun z => h6 (List.append_eq_nil_iff.mp z).1⟩
  rcases List.mem_append.mp he with z | z
  · exact h4 e z
  · exact hr e z
theorem rows_cat (a : RAt K ms n F1 H1 F H R L) (e0 : σ[8]? = some (some (.ref R))) (h : EvA K ta σ F es) (hr : ∀ e ∈ es, Row ms n e) (hl : L + es.length ≤ 500)
    (k : ∀ F' H' R', RAt K ms n F1 H1 F' H' R' (L + es.length) → Same F F' → Q (.ref R') H') : tOp rCat (tVar 8) (tLst ta) σ H Q := by
  refine ⟨_, e0, h F H _ (Same.refl _) a.g.fh fun vs F2 H2 g2 d2 => ⟨by rw [DpAll.len d2]; exact Nat.le_of_lt (small1000 (by omega)), fun p hp => ?_⟩⟩
  have g3 := g2.trans (Grow.beside g2.fh (same_upd (o := .lst vs) hp))
  exact rows_put (a.grow g3) upd_same d2 hr hl fun H' R' z => k F2 H' R' z g2.f
theorem rows_app (a : RAt K ms n F1 H1 F H R L) (e0 : σ[8]? = some (some (.ref R))) (h : EvD K te σ F d) (hr : Row ms n d) (hl : L + 1 ≤ 500)
    (k : ∀ F' H', RAt K ms n F1 H1 F' H' R (L + 1) → Same F F' → Q .non H') : tBM K "list" rAppend (tVar 8) (tCons te tNil) σ H Q := by
  obtain ⟨vs0, ds0, h01, _⟩ := a.ex
  refine ⟨_, e0, .inl ⟨rfl, _, SqL.of h01⟩, h F H _ (Same.refl _) a.g.fh fun v F2 H2 g2 d2 => ?_⟩
  have a2 := a.grow g2
  obtain ⟨vs, ds, h1, h2, h3, h4, h5, h6⟩ := a2.ex
  have l1 := DpAll.len h3
  refine ⟨R, vs, v, rfl, rfl, h1, small1000 (by omega), k F2 _ ⟨⟨a2.g.f, fun b o e => ?_, fun b o e => ?_, a2.g.out⟩, a2.new, vs ++ [v], ds ++ [d], upd_same, h2, DpAll.app h3 (.cons d2 .nil), fun e he => ?_, by rw [List.length_append, List.length_singleton]; omega, fun z => h6 (List.append_eq_nil_iff.mp z).1⟩ g2.f⟩
  · rw [upd_ne (ne_of_none e a2.new)]
    exact a2.g.h _ _ e
  · rw [upd_ne (ne_of_none e h2)]
    exact a2.g.fh _ _ e
  · rcases List.mem_append.mp he with z | z
    · exact h4 e z
    · rw [List.mem_singleton] at z
      rw [z]
      exact hr
/-- rows + [(one, P) for one in twice] -/
theorem rows_comp {P : Str} {tw : Addr} {ts : List PyData} {own : List Nat} (ho : own = [12]) (a : RAt K ms n F1 H1 F H R L) (e0 : σ[8]? = some (some (.ref R))) (e1 : σ[10]? = some (some (.ref tw))) (hs : σ.length = 13) (h : Dp K F (.ref tw) (.list ts)) (hr : ∀ e ∈ ts, Row ms n (.tuple [e, .str P])) (hl : L + ts.length ≤ 500)
    (k : ∀ F' H' R', RAt K ms n F1 H1 F' H' R' (L + ts.length) → Same F F' → Q (.ref R') H') : tOp rCat (tVar 8) (tLc (iList K (tVar 10)) (gName 12) tYes (tTup (tCons (tVar 12) (tCons (tC (.str P)) tNil))) own) σ H Q := by
  subst ho
  obtain ⟨p, xs, ep, hx, dx⟩ := Dp.list_inv h
  cases ep
  have lx := DpAll.len dx
  refine ⟨_, e0, _, e1, tw, rfl, ⟨_, L2.Same.seq a.g.fh hx⟩, fun D hD => ?_⟩
  refine lc_it (walk_list (K := K) (a := tw) (xs := xs)) (fun i H2 => ∃ F2 acc, Grow F H F2 (fun b => if b = D then none else H2 b) ∧ F2 D = none ∧ H2 D = some (.lst acc) ∧ DpAll K F2 acc ((ts.take i).map fun e => .tuple [e, .str P])) ⟨F, [], ⟨Same.refl _, fun b o e => ?_, fun b o e => ?_, fun _ _ e _ => e⟩, a.g.fh.free hD, upd_same, .nil⟩ (fun i H2 _ p2 => ?_) ?_ ?_
  · show (if b = D then none else upd H D (.lst []) b) = some o
    rw [if_neg (ne_of_none e hD), upd_ne (ne_of_none e hD)]
    exact e
  · show (if b = D then none else upd H D (.lst []) b) = some o
    have e' := a.g.fh _ _ e
    rw [if_neg (ne_of_none e' hD), upd_ne (ne_of_none e' hD)]
    exact e'
  · obtain ⟨F2, acc, g, _⟩ := p2
    refine L2.Same.seq (fun b o e => ?_) hx
    have z := g.fh _ _ (g.f _ _ e)
    have z2 : (if b = D then none else H2 b) = some o := z
    split at z2
    · cases z2
    · exact z2
  · rintro i x H2 H3 hi ⟨F2, acc, g, fD, hacc, da⟩ ⟨rfl, hx3⟩
    refine ⟨wipe_back _ 12 _, ?_⟩
    dsimp only [tYes]
    rw [if_pos rfl]
    obtain ⟨e, he1, he2⟩ := DpAll.get' dx hx3
    have hi2 : i < ts.length := by omega
    rw [List.getElem?_eq_getElem hi2] at he1
    obtain rfl := Option.some.inj he1
    have la := DpAll.len da
    rw [List.length_map, List.length_take] at la
    refine ⟨x, ?_, (by show 2 ≤ sizeLine; decide), fun t ht => ?_⟩
    · rw [List.getElem?_set_self (by rw [wipe_length, hs]; decide)]
    have nDt : D ≠ t := ne_of_none hacc ht
    have F2t : F2 t = none := g.fh.free (by show (if t = D then none else H3 t) = none; rw [if_neg nDt.symm]; exact ht)
    have sF : Same F2 (upd F2 t (.tup [x, .str P])) := same_upd F2t
    refine ⟨acc, by rw [upd_ne nDt]; exact hacc, by rw [la]; exact small1000 (by omega), upd F2 t (.tup [x, .str P]), acc ++ [.ref t], ⟨g.f.trans sF, fun b o eb => ?_, fun b o eb => ?_, fun b u e1 e2 => ?_⟩, by rw [upd_ne nDt]; exact fD, upd_same, ?_⟩
    · have z := g.h _ _ eb
      have z2 : (if b = D then none else H3 b) = some o := z
      show (if b = D then none else upd (upd H3 t (.tup [x, .str P])) D (.lst (acc ++ [.ref t])) b) = some o
      by_cases c : b = D
      · rw [if_pos c] at z2
        cases z2
      · rw [if_neg c] at z2 ⊢
        rw [upd_ne c, upd_ne (ne_of_none z2 ht)]
        exact z2
    · show (if b = D then none else upd (upd H3 t (.tup [x, .str P])) D (.lst (acc ++ [.ref t])) b) = some o
      by_cases c : b = D
      · rw [c, upd_ne nDt, fD] at eb
        cases eb
      · rw [if_neg c, upd_ne c]
        by_cases c2 : b = t
        · rw [c2, upd_same] at eb ⊢
          exact eb
        · rw [upd_ne c2] at eb ⊢
          have z2 : (if b = D then none else H3 b) = some o := g.fh _ _ eb
          rw [if_neg c] at z2
          exact z2
    · have z := g.out b u e1 e2
      have z2 : (if b = D then none else H3 b) = some u := g.h _ _ e2
      have nt : b ≠ t := fun c => by
        rw [c] at z2
        split at z2
        · cases z2
        · rw [ht] at z2
          cases z2
      rw [upd_ne nt]
      exact z
    · rw [List.take_add_one, List.getElem?_eq_getElem hi2, List.map_append]
      refine DpAll.app (dpAll_mono sF _ _ da) (.cons (.tup (SqT.of upd_same) (.cons ?_ (.cons (.str _) .nil))) .nil)
      exact dp_mono (g.f.trans sF) _ _ he2
  · rintro H2 ⟨F2, acc, g, fD, hacc, da⟩
    rw [lx, List.take_length] at da
    have g2 : Grow F H F2 H2 := by
      have up : Same (fun b => if b = D then none else H2 b) H2 := fun b o e => by
        have z2 : (if b = D then none else H2 b) = some o := e
        split at z2
        · cases z2
        · exact z2
      exact ⟨g.f, g.h.trans up, g.fh.trans up, g.out⟩
    have z := rows_put (Q := Q) (a.grow g2) hacc da (fun e he => by
      obtain ⟨e2, he2, rfl⟩ := List.mem_map.mp he
      exact hr e2 he2) (by rw [List.length_map]; exact hl) (fun H' R' z => k F2 H' R' (by rw [List.length_map] at z; exact z) g2.f)
    exact z
end
theorem tail1 {ws : List Int} (h : 1 ≤ ws.length) : (((ws.map PyData.int).drop 1).take ((ws.map PyData.int).length - 1)) = (ws.drop 1).map PyData.int := by
  rw [List.take_of_length_le (by rw [List.length_drop]; exact Nat.le_refl _), List.map_drop]
section
variable {K : PySem.W.Frag} {F : Hp} {σ : L2.St} {ta tb te : TE} {t : TA}
theorem EvA.up {ds : List PyData} {F' : Hp} (h : EvA K t σ F ds) (s : Same F F') : EvA K t σ F' ds := fun F1 H Q s1 s2 k => h F1 H Q (s.trans s1) s2 k
theorem EvD.neg (i : Int) : EvD K (tUn (rU fun i => .int (-i)) (tC (.int i))) σ F (.int (-i)) := fun F1 H Q s1 s2 k => ⟨i, rfl, k _ F1 H (Grow.refl s2) (.int _)⟩
theorem EvD.tl {ws : List Int} (h : EvD K te σ F (.tuple (ws.map PyData.int))) (hw : 1 ≤ ws.length) : EvD K (tSl (rSlA K) te (tPart (tC (.int 1))) tNoPart) σ F (.tuple ((ws.drop 1).map PyData.int)) := by
  have z := EvD.sl (lo := some 1) (hi := none) (tl := tPart (tC (.int 1))) (th := tNoPart) (σ := σ) h (fun H R r => ⟨1, rfl, r⟩) (fun H R r => r) 1 ((ws.map PyData.int).length - 1) (by
    show min (1 : Int).toNat (ws.map PyData.int).length = 1
    rw [List.length_map]
    show min 1 ws.length = 1
    omega) (by
    show (ws.map PyData.int).length - min (1 : Int).toNat (ws.map PyData.int).length = _
    rw [List.length_map]
    show ws.length - min 1 ws.length = ws.length - 1
    omega)
  rw [tail1 hw] at z
  exact z
theorem EvD.lastc {cs : List Cell} (h : EvD K te σ F (.tuple (cs.map cellD))) (hw : 1 ≤ cs.length) : EvD K (tSl (rSlA K) te (tPart (tUn (rU fun i => .int (-i)) (tC (.int 1)))) tNoPart) σ F (.tuple ((cs.drop (cs.length - 1)).map cellD)) := by
  have z := EvD.sl (lo := some (-1)) (hi := none) (tl := tPart (tUn (rU fun i => .int (-i)) (tC (.int 1)))) (th := tNoPart) (σ := σ) h (fun H R r => ⟨1, rfl, -1, rfl, r⟩) (fun H R r => r) (cs.length - 1) 1 (by
    show (if (-1 : Int) < 0 then ((-1 : Int) + ((cs.map cellD).length : Int)).toNat else min (-1 : Int).toNat (cs.map cellD).length) = cs.length - 1
    rw [if_pos (by decide), List.length_map]
    omega) (by
    show (cs.map cellD).length - (if (-1 : Int) < 0 then ((-1 : Int) + ((cs.map cellD).length : Int)).toNat else min (-1 : Int).toNat (cs.map cellD).length) = 1
    rw [if_pos (by decide), List.length_map]
    omega)
  have e : (((cs.map cellD).drop (cs.length - 1)).take 1) = (cs.drop (cs.length - 1)).map cellD := by
    rw [List.take_of_length_le (by rw [List.length_drop, List.length_map]; omega), List.map_drop]
  rw [e] at z
  exact z
theorem EvD.cells (as bs : List Cell) (ha : EvD K ta σ F (.tuple (as.map cellD))) (hb : EvD K tb σ F (.tuple (bs.map cellD))) (hz : as.length + bs.length ≤ 1000) : EvD K (tOp (rCatA K) ta tb) σ F (.tuple ((as ++ bs).map cellD)) := by
  rw [List.map_append]
  exact EvD.cat ha hb (by rw [List.length_map, List.length_map]; exact hz)
theorem EvD.ints (as bs : List Int) (ha : EvD K ta σ F (.tuple (as.map PyData.int))) (hb : EvD K tb σ F (.tuple (bs.map PyData.int))) (hz : as.length + bs.length ≤ 1000) : EvD K (tOp (rCatA K) ta tb) σ F (.tuple ((as ++ bs).map PyData.int)) := by
  rw [List.map_append]
  exact EvD.cat ha hb (by rw [List.length_map, List.length_map]; exact hz)
end
def tApp (K : PySem.W.Frag) (P : Str) : TS := tDrop (tBM K "list" rAppend (tVar 8) (tCons (tTup (tCons (tTup (tCons (tOp (rCatA K) (tTup (tCons (tVar 9) tNil)) (tVar 3)) (tCons (tVar 4) tNil))) (tCons (tC (.str P)) tNil))) tNil))
theorem rows_loop {K : PySem.W.Frag} {vm : V} {pm sp hp vp cp lp : Addr} {mk : Str} {c0 : Cell} {cs : List Cell} {ws : List Int} {ms : List Str} {n : Nat} {F1 H1 F H : Hp} {R : Addr} {L : Nat} {b t : Option V} {ta : TA} {bads : List PyData} {P : Str} {D : Ends}
    (kn : Kn K F1 hp vp cp lp mk c0 cs ws) (lc : cs.length ≤ 100) (lw : ws.length ≤ 100) (a : RAt K ms n F1 H1 F H R L) (h : EvA K ta (sgW vm pm sp hp vp cp lp mk (some (.ref R)) b t) F bads)
    (hr : ∀ d ∈ bads, Row ms n (.tuple [.tuple [.tuple (d :: (c0 :: cs).map cellD), .tuple (ws.map PyData.int)], .str P])) (hl : bads.length ≤ 20) (hL : L ≤ 400)
    (k : ∀ b' F' H', RAt K ms n F1 H1 F' H' R (L + bads.length) → Same F F' → D.nx (sgW vm pm sp hp vp cp lp mk (some (.ref R)) b' t) H') :
    tFor (iTup K (tTup ta)) (gName 9) (tApp K P) D (sgW vm pm sp hp vp cp lp mk (some (.ref R)) b t) H :=
  h F H _ (Same.refl _) a.g.fh fun vs F2 H2 g2 d2 => ⟨by rw [DpAll.len d2]; exact Nat.le_of_lt (small1000 (by omega)), fun p hp2 => by
    have lv := DpAll.len d2
    have g3 := Grow.new (o := .tup vs) g2.fh hp2
    have d3 := dpAll_mono g3.f _ _ d2
    have a3 := (a.grow g2).grow g3
    have p3 : (upd F2 p (.tup vs)) p = some (.tup vs) := upd_same
    have s3 := g2.f.trans g3.f
    generalize upd F2 p (.tup vs) = F3 at g3 d3 a3 p3 s3
    generalize upd H2 p (.tup vs) = H3 at g3 a3
    refine ⟨p, rfl, ⟨_, SqT.of (g3.fh _ _ p3)⟩, for_tup (K := K) (a := p) (xs := vs) (fun i σ' H' => ∃ b' F', σ' = sgW vm pm sp hp vp cp lp mk (some (.ref R)) b' t ∧ RAt K ms n F1 H1 F' H' R (L + i) ∧ Same F3 F') ⟨b, F3, rfl, a3, Same.refl _⟩ (fun i σ' H' _ p' => ?_) ?_ ?_⟩
    · obtain ⟨b', F', _, a', s'⟩ := p'
      exact SqT.of (a'.g.fh _ _ (s' _ _ p3))
    · rintro i x σ' H' hx ⟨b', F', rfl, a', s'⟩
      obtain ⟨d, hd1, hd2⟩ := DpAll.get' d3 hx
      have hi : i < bads.length := (List.getElem?_eq_some_iff.mp hd1).1
      have kn' := kn.up a'.g.f
      have hdm : d ∈ bads := List.mem_of_getElem? hd1
      have ev : EvD K (tTup (tCons (tTup (tCons (tOp (rCatA K) (tTup (tCons (tVar 9) tNil)) (tVar 3)) (tCons (tVar 4) tNil))) (tCons (tC (.str P)) tNil))) (sgW vm pm sp hp vp cp lp mk (some (.ref R)) (some x) t) F' (.tuple [.tuple [.tuple ([d] ++ (c0 :: cs).map cellD), .tuple (ws.map PyData.int)], .str P]) :=
        EvD.tup (EvA.cons (EvD.tup (EvA.cons (EvD.cat (EvD.tup (EvA.cons (EvD.var (dp_mono s' _ _ hd2)) EvA.nil)) (EvD.var kn'.h) (by rw [List.length_map]; show 1 + (cs.length + 1) ≤ 1000; omega)) (EvA.cons (EvD.var kn'.v) EvA.nil))) (EvA.cons (EvD.str P) EvA.nil))
      show tApp K P _ (sgW vm pm sp hp vp cp lp mk (some (.ref R)) (some x) t) H'
      exact rows_app a' rfl ev (hr d hdm) (by omega) fun F'' H'' a'' s'' => ⟨some x, F'', rfl, a'', s'.trans s''⟩
    · rintro σ' H' ⟨b', F', rfl, a', s'⟩
      rw [lv] at a'
      exact k b' F' H' a' (s3.trans s')⟩
theorem seq_asg {te : TE} {g : TG} {r : TS} {D : Ends} {σ : L2.St} {H : Hp} (h : te σ H fun x H1 => g x σ H1 fun σ' H' => r D σ' H') : tSeq (tAsg te g) r D σ H := h
theorem seq_set {te : TE} {i : Nat} {r : TS} {D : Ends} {σ : L2.St} {H : Hp} (h : te σ H fun x H1 => r D (σ.set i (some x)) H1) : tSeq (tAsg te (gName i)) r D σ H := h
theorem seq_tup {K : PySem.W.Frag} {ta : TA} {g : TG} {r : TS} {D : Ends} {σ : L2.St} {H : Hp} (h : ta σ H fun xs H1 => xs.length ≤ sizeLine ∧ ∀ p, H1 p = none → g (.ref p) σ (upd H1 p (.tup xs)) fun σ' H' => r D σ' H') : tSeq (tAsg (tTup ta) g) r D σ H := h
theorem seq_for {wi : TI} {g : TG} {b r : TS} {D : Ends} {σ : L2.St} {H : Hp} (h : tFor wi g b { D with nx := fun σ' H' => r D σ' H' } σ H) : tSeq (tFor wi g b) r D σ H := h
theorem seq_drop {te : TE} {r : TS} {D : Ends} {σ : L2.St} {H : Hp} (h : te σ H fun _ H1 => r D σ H1) : tSeq (tDrop te) r D σ H := h
theorem ret_it {te : TE} {D : Ends} {σ : L2.St} {H : Hp} (h : te σ H D.rt) : tRet te D σ H := h
theorem lc_tupsN {J : It} {n : Nat} {G : Hp → Prop} {Y : Nat → Hp → V → Hp → Prop} (w : Walk J n G Y) {k : Nat} {te : TE} {σ : L2.St} {H1 : Hp} {D : Addr} {Qd : Hp → Prop} (f : Nat → List V) (hn : n ≤ sizeLine) (hD : H1 D = none)
    (hG : ∀ H, Same H1 H → G H) (hY : ∀ i H x H', Same H1 H → Y i H x H' → Same H H')
    (hs : ∀ i x H H', i < n → Same H1 H → Y i H x H' → ∀ Q : VK, (∀ t H4, Same H' H4 → H' t = none → H4 t = some (.tup (f i)) → Q (.ref t) H4) → te ((wipe σ [k]).set k (some x)) H' Q)
    (hd : ∀ H acc, Same H1 H → H D = some (.lst acc) → TupsAt (fun b => match H1 b with | none => H b | some _ => none) acc ((List.range n).map f) → Qd H) :
    ∃ W : Nat → Nat → Hp → Prop, (∃ m, W 0 m (upd H1 D (.lst []))) ∧ ∀ i m H, W i m H →
      (J.stop i H ∧ Qd H) ∨ (J.go i H ∧ ∃ Nx : Hp → Prop, (∀ H', Nx H' → ∃ m', m' < m ∧ W (i + 1) m' H') ∧ ∀ x H', J.yld i H x H' → gName k x (wipe σ [k]) H' fun σ2 H2 => wipe σ2 [k] = wipe σ [k] ∧ tYes σ2 H2 fun b H3 =>
        if b = true then te σ2 H3 fun y H4 => ∃ acc, H4 D = some (.lst acc) ∧ acc.length < sizeLine ∧ Nx (upd H4 D (.lst (acc ++ [y]))) else Nx H3) := by
  refine lc_it w (fun i H => Same H1 H ∧ ∃ acc, H D = some (.lst acc) ∧ TupsAt (fun b => match H1 b with | none => H b | some _ => none) acc ((List.range i).map f)) ⟨same_upd hD, [], upd_same, .nil⟩ (fun i H _ p => hG H p.1) (fun i x H H' hi p y => ?_) (fun H p => ?_)
  · refine ⟨wipe_back σ k _, ?_⟩
    dsimp only [tYes]
    rw [if_pos rfl]
    obtain ⟨p1, acc, p2, p3⟩ := p
    have s1 := hY i H x H' p1 y
    refine hs i x H H' hi p1 y _ fun t H4 s4 ht0 ht => ?_
    have s5 : Same H1 H4 := (p1.trans s1).trans s4
    have hl : acc.length = i := by
      have q := Paired.length p3
      rw [List.length_map, List.length_range] at q
      exact q
    have h4 := s4 _ _ (s1 _ _ p2)
    have up : ∀ b l, H1 b = none → H4 b = some (.tup l) → (match H1 b with | none => upd H4 D (.lst (acc ++ [.ref t])) b | some _ => none) = some (.tup l) := fun b l e0 e => by
      rw [e0]
      show upd H4 D (.lst (acc ++ [.ref t])) b = some (.tup l)
      rw [upd_ne (ne_of e h4 (by intro z; cases z))]
      exact e
    refine ⟨acc, h4, by rw [hl]; exact Nat.lt_of_lt_of_le hi hn, fun b u e => ?_, acc ++ [.ref t], upd_same, ?_⟩
    · rw [upd_ne (ne_of_none e hD)]
      exact s5 b u e
    · rw [List.range_succ, List.map_append]
      refine Paired.snoc (TupsAt.mono (fun b l e => ?_) p3) ⟨t, rfl, up _ _ ((p1.trans s1).free ht0) ht⟩
      have e' : (match H1 b with | none => H b | some _ => none) = some (.tup l) := e
      cases q : H1 b with
      | none =>
        rw [q] at e'
        have z := up b l q (s4 _ _ (s1 _ _ e'))
        rw [q] at z
        exact z
      | some u =>
        rw [q] at e'
        cases e'
  · obtain ⟨p1, acc, p2, p3⟩ := p
    exact hd H acc p1 p2 p3
/-- what came new, beside what is known -/
def newF (F H H' : Hp) : Hp := fun b => match H b with
  | none => H' b
  | some _ => F b
theorem newF_grow {F H H' : Hp} (s : Same F H) (h : Same H H') : Grow F H (newF F H H') H' := by
  refine ⟨fun b u e => ?_, h, fun b u e => ?_, fun b u e1 e2 => ?_⟩
  · unfold newF
    rw [s _ _ e]
    exact e
  · unfold newF at e
    cases q : H b with
    | none =>
      rw [q] at e
      exact e
    | some u2 =>
      rw [q] at e
      exact h _ _ (s _ _ e)
  · unfold newF
    rw [e2]
    exact e1
theorem fm {α : Type} {p : α → Prop} {a : α} {l : List α} (h : p a) (r : ∀ d ∈ l, p d) : ∀ d ∈ a :: l, p d := fun d hd => by
  rcases List.mem_cons.mp hd with e | e
  · rw [e]
    exact h
  · exact r d e
theorem fm0 {α : Type} {p : α → Prop} : ∀ d ∈ ([] : List α), p d := fun _ h => nomatch h
theorem size_heap (cs : List Cell) : SizeOk (.tuple (cs.map cellD)) := fun a ds e => by
  injection e with e
  have m : PyData.tuple ds ∈ cs.map cellD := by
    rw [e]
    exact List.mem_cons_of_mem _ List.mem_cons_self
  obtain ⟨c, _, hc⟩ := List.mem_map.mp m
  injection hc with hc
  rw [← hc]
  show 3 ≤ 1000
  decide
def cells301 (mk : Str) : List Cell := (List.range 301).map fun (k : Nat) => ((k : Int) + 1, mk, 0)
theorem ev301 {K : PySem.W.Frag} {F : Hp} {σ : L2.St} {mk : Str} {own : List Nat} (ho : own = [11]) (h7 : σ[7]? = some (some (.str mk))) (hs : σ.length = 13) :
    EvD K (tCB (fun xs H Q => ∃ p ys, xs = [V.ref p] ∧ ((SqL K H p ys ∧ ∀ l, H l = none → Q (.ref l) (upd H l (.tup ys))) ∨ (SqT K H p ys ∧ Q (.ref p) H))) (tCons (tLc (iRng1 (tCons (tC (.int 301)) tNil)) (gName 11) tYes
      (tTup (tCons (tOp (rI0 fun i j => .int (i + j)) (tVar 11) (tC (.int 1))) (tCons (tVar 7) (tCons (tC (.int 0)) tNil)))) own) tNil)) σ F (.tuple ((cells301 mk).map cellD)) := fun F1 H Q s1 s2 k => by
  subst ho
  have w7 : ∀ x, ((wipe σ [11]).set 11 (some x))[7]? = some (some (V.str mk)) := fun x => by
    show ((σ.set 11 none).set 11 (some x))[7]? = _
    rw [List.getElem?_set_ne (by decide), List.getElem?_set_ne (by decide)]
    exact h7
  have w11 : ∀ x, ((wipe σ [11]).set 11 (some x))[11]? = some (some x) := fun x => by
    show ((σ.set 11 none).set 11 (some x))[11]? = _
    rw [List.getElem?_set_self (by rw [List.length_set, hs]; decide)]
  refine ⟨301, rfl, by decide, by decide, fun D hD => ?_⟩
  refine lc_tupsN (walk_range (lo := 0) (n := 301)) (fun i => cellV ((i : Int) + 1, mk, 0)) (Nat.le_of_lt (small1000 (by decide))) hD (fun _ _ => trivial) (fun i H x H2 _ y => by rw [y.1]; exact Same.refl _) ?_ ?_
  · rintro i x H2 H3 hi s3 ⟨rfl, rfl⟩ Q' k'
    refine ⟨_, w11 _, _, _, rfl, rfl, _, w7 _, (by show 3 ≤ sizeLine; decide), fun t ht => k' t _ (same_upd ht) ht ?_⟩
    rw [upd_same]
    show some (HO.tup [V.int ((0 : Int) + (i : Int) + 1), .str mk, .int 0]) = some (.tup [.int ((i : Int) + 1), .str mk, .int 0])
    rw [Int.zero_add]
  · intro H2 acc s3 h2 ta
    refine ⟨D, acc, rfl, .inl ⟨SqL.of h2, fun l hl => ?_⟩⟩
    have s4 : Same H2 (upd H2 l (.tup acc)) := same_upd hl
    have s5 := s3.trans s4
    refine k (.ref l) (newF F1 H (upd H2 l (.tup acc))) _ (newF_grow s2 s5) (.tup (xs := acc) (SqT.of ?_) ?_)
    · unfold newF
      rw [s3.free hl]
      exact upd_same
    · have ec : (List.range 301).map (fun i => cellV (((i : Nat) : Int) + 1, mk, 0)) = (cells301 mk).map cellV := by
        unfold cells301
        rw [List.map_map]
        rfl
      rw [ec] at ta
      refine TupsAt.dp cellV cellD dp_cell (TupsAt.mono (fun b l0 e => ?_) ta)
      have e' : (match H b with | none => H2 b | some _ => none) = some (.tup l0) := e
      show (match H b with | none => upd H2 l (.tup acc) b | some _ => F1 b) = some (.tup l0)
      cases q : H b with
      | none =>
        rw [q] at e'
        exact s4 _ _ e'
      | some u =>
        rw [q] at e'
        cases e'
section
variable {P : Program} {w : World} {K : PySem.W.Frag} {mg : Str → Option Value} {base : Heap}
theorem ok_wrongs (D : Def K mg "_law_wrongs" (top 39) ["m", "marks", "state"]) (T : Txt mg) : Fn P w K mg base CX0 1 "_law_wrongs" ["m", "marks", "state"] (spWrongs K) := by
  refine D.ok scWrongs (fun vs H Q E h => ?_) (fun f cdv A outer s H vs Q E hr h => ?_)
  · obtain ⟨vm, pm, sp, mk, ms, n, cs, ws, F, rfl, _⟩ := h
    rfl
  · obtain ⟨vm, pm, sp, mk, ms, n, cs, ws, F, rfl, hpm, hml, hst, hs, hF, k⟩ := h
    refine ⟨_, (pss_cons (ps_asg (pv 2) (pg_tup rfl (pgs_cons (pg_name (i := 3) scWrongs.nd rfl (Or.inl rfl)) (pgs_cons (pg_name (i := 4) scWrongs.nd rfl (Or.inl rfl)) pgs_nil))))
      (pss_cons (ps_asg (pe_tup (pa_cons (pe_tup (pa_cons pe_int (pa_cons (pe_ix (r := rIxT K) ix_tup (pv 1) pe_int (fun _ _ => rfl)) (pa_cons pe_int pa_nil)))) (pa_cons (pe_ix (r := rIxT K) ix_tup (pv 3) pe_int (fun _ _ => rfl)) (pa_cons (pe_ix (r := rIxT K) ix_tup (pv 1) pe_int (fun _ _ => rfl)) pa_nil)))) (pg_tup rfl (pgs_cons (pg_name (i := 5) scWrongs.nd rfl (Or.inl rfl)) (pgs_cons (pg_name (i := 6) scWrongs.nd rfl (Or.inl rfl)) (pgs_cons (pg_name (i := 7) scWrongs.nd rfl (Or.inr rfl)) pgs_nil)))))
      (pss_cons (ps_set (i := 8) scWrongs.nd rfl (Or.inl rfl) (pe_lst (pa_cons (pe_tup (pa_cons (pe_lst (pa_cons (pv 3) (pa_cons (pv 4) pa_nil))) (pa_cons pe_str pa_nil))) (pa_cons (pe_tup (pa_cons (pe_tup (pa_cons (pv 3) pa_nil)) (pa_cons pe_str pa_nil))) (pa_cons (pe_tup (pa_cons (pe_tup (pa_cons (pv 3) (pa_cons (pv 4) (pa_cons (pe_tup pa_nil) pa_nil)))) (pa_cons pe_str pa_nil))) (pa_cons (pe_tup (pa_cons (pe_tup (pa_cons (pe_callTy call_list_of (by rfl) T.list boot_list (pa_cons (pv 3) pa_nil)) (pa_cons (pv 4) pa_nil))) (pa_cons pe_str pa_nil))) (pa_cons (pe_tup (pa_cons (pv 3) (pa_cons pe_str pa_nil))) pa_nil)))))))
      (pss_cons (ps_set (i := 8) scWrongs.nd rfl (Or.inl rfl) (pe_op op_cat (pv 8) (pe_lst (pa_cons (pe_tup (pa_cons (pe_tup (pa_cons (pv 3) (pa_cons (pe_callTy call_list_of (by rfl) T.list boot_list (pa_cons (pv 4) pa_nil)) pa_nil))) (pa_cons pe_str pa_nil))) (pa_cons (pe_tup (pa_cons (pe_tup (pa_cons (pv 3) (pa_cons (pe_op op_catA (pe_slice sl_tupA (pv 4) (po_some pe_int) po_none) (pe_tup (pa_cons (pe_un un_neg pe_int) pa_nil))) pa_nil))) (pa_cons pe_str pa_nil))) (pa_cons (pe_tup (pa_cons (pe_tup (pa_cons (pv 3) (pa_cons (pe_op op_catA (pe_slice sl_tupA (pv 4) (po_some pe_int) po_none) (pe_tup (pa_cons pe_int pa_nil))) pa_nil))) (pa_cons pe_str pa_nil))) pa_nil))))))
      (pss_cons (ps_set (i := 8) scWrongs.nd rfl (Or.inl rfl) (pe_op op_cat (pv 8) (pe_lst (pa_cons (pe_tup (pa_cons (pe_tup (pa_cons (pv 3) (pa_cons (pe_op op_catA (pe_tup (pa_cons pe_bl pa_nil)) (pe_slice sl_tupA (pv 4) (po_some pe_int) po_none)) pa_nil))) (pa_cons pe_str pa_nil))) (pa_cons (pe_tup (pa_cons (pe_tup (pa_cons (pv 3) (pa_cons (pe_op op_catA (pe_slice sl_tupA (pv 4) (po_some pe_int) po_none) (pe_tup (pa_cons pe_str pa_nil))) pa_nil))) (pa_cons pe_str pa_nil))) (pa_cons (pe_tup (pa_cons (pe_tup (pa_cons (pv 3) (pa_cons (pe_op op_catA (pe_slice sl_tupA (pv 4) (po_some pe_int) po_none) (pe_tup (pa_cons pe_non pa_nil))) pa_nil))) (pa_cons pe_str pa_nil))) pa_nil))))))
      (pss_cons (ps_for PassesOwn.never rfl (pi_tup (pe_tup (pa_cons (pe_tup (pa_cons pe_int (pa_cons (pv 7) (pa_cons pe_int pa_nil)))) (pa_cons (pe_tup (pa_cons pe_int (pa_cons (pv 7) (pa_cons pe_int pa_nil)))) (pa_cons (pe_tup (pa_cons pe_bl (pa_cons (pv 7) (pa_cons pe_int pa_nil)))) (pa_cons (pe_tup (pa_cons (pe_un un_neg pe_int) (pa_cons (pv 7) (pa_cons pe_int pa_nil)))) (pa_cons (pe_tup (pa_cons pe_int (pa_cons (pv 7) pa_nil))) (pa_cons (pe_tup (pa_cons pe_int (pa_cons (pv 7) (pa_cons pe_int pa_nil)))) (pa_cons (pe_tup (pa_cons pe_int (pa_cons (pv 7) (pa_cons (pe_un un_neg pe_int) pa_nil)))) (pa_cons (pe_tup (pa_cons pe_int (pa_cons (pv 7) (pa_cons pe_bl pa_nil)))) pa_nil)))))))))) (pg_name (i := 9) scWrongs.nd rfl (Or.inl rfl)) (pss_one (ps_expr (pe_bm PySem.F.plainAttrs_list PySem.F.slot_list_append PySem.F.type_list_append mt_append (pv 8) (pa_cons (pe_tup (pa_cons (pe_tup (pa_cons (pe_op op_catA (pe_tup (pa_cons (pv 9) pa_nil)) (pv 3)) (pa_cons (pv 4) pa_nil))) (pa_cons pe_str pa_nil))) pa_nil)))))
      (pss_cons (ps_for PassesOwn.never rfl (pi_tup (pe_tup (pa_cons (pe_tup (pa_cons pe_int (pa_cons pe_int (pa_cons pe_int pa_nil)))) (pa_cons (pe_tup (pa_cons pe_int (pa_cons pe_non (pa_cons pe_int pa_nil)))) (pa_cons (pe_tup (pa_cons pe_int (pa_cons (pe_lst (pa_cons (pv 7) pa_nil)) (pa_cons pe_int pa_nil)))) (pa_cons (pe_tup (pa_cons pe_int (pa_cons (pe_tup (pa_cons (pv 7) pa_nil)) (pa_cons pe_int pa_nil)))) (pa_cons (pe_lst (pa_cons pe_int (pa_cons (pv 7) (pa_cons pe_int pa_nil)))) (pa_cons (pe_tup (pa_cons pe_int (pa_cons (pv 7) (pa_cons pe_int (pa_cons pe_int pa_nil))))) (pa_cons (pe_tup (pa_cons pe_str (pa_cons (pv 7) (pa_cons pe_int pa_nil)))) (pa_cons (pe_tup (pa_cons pe_int (pa_cons (pv 7) (pa_cons (pe_lst (pa_cons pe_int pa_nil)) pa_nil)))) (pa_cons pe_int (pa_cons pe_non pa_nil)))))))))))) (pg_name (i := 9) scWrongs.nd rfl (Or.inl rfl)) (pss_one (ps_expr (pe_bm PySem.F.plainAttrs_list PySem.F.slot_list_append PySem.F.type_list_append mt_append (pv 8) (pa_cons (pe_tup (pa_cons (pe_tup (pa_cons (pe_op op_catA (pe_tup (pa_cons (pv 9) pa_nil)) (pv 3)) (pa_cons (pv 4) pa_nil))) (pa_cons pe_str pa_nil))) pa_nil)))))
      (pss_cons (ps_expr (pe_bm PySem.F.plainAttrs_list PySem.F.slot_list_append PySem.F.type_list_append mt_append (pv 8) (pa_cons (pe_tup (pa_cons (pe_tup (pa_cons (pe_callTy call_tuple_of (by rfl) T.tuple boot_tuple (pa_cons (pe_lc (own := [("k", 11)]) (g := gName 11) (tt := tYes) rfl scWrongs.nd (pi_range1 (by rfl) T.range (pa_cons pe_int pa_nil)) (blkOk_by (N := nmWrongs) (sc := defScope (top 39)) (by decide +kernel)) (fun _ _ _ _ _ => pg_name (i := 11) scWrongs.nd rfl (Or.inl rfl)) (fun _ _ _ _ _ => pts_nil) (fun _ _ _ _ _ => (pe_tup (pa_cons (pe_op op_add (pv 11) pe_int) (pa_cons (pv 7) (pa_cons pe_int pa_nil)))))) pa_nil)) (pa_cons (pv 4) pa_nil))) (pa_cons pe_str pa_nil))) pa_nil)))
      (pss_cons (ps_for PassesOwn.never rfl (pi_tup (pe_tup (pa_cons (pe_tup (pa_cons pe_int (pa_cons (pv 7) (pa_cons pe_int pa_nil)))) (pa_cons (pe_tup (pa_cons (pe_ix (r := rIxT K) ix_tup (pv 6) pe_int (fun _ _ => rfl)) (pa_cons (pv 7) (pa_cons pe_int pa_nil)))) (pa_cons (pv 6) (pa_cons (pe_tup (pa_cons (pe_ix (r := rIxT K) ix_tup (pv 6) pe_int (fun _ _ => rfl)) (pa_cons (pe_ix (r := rIxT K) ix_tup (pv 6) pe_int (fun _ _ => rfl)) (pa_cons pe_int pa_nil)))) (pa_cons (pe_tup (pa_cons pe_int (pa_cons (pe_op op_add_str (pv 7) pe_str) (pa_cons pe_int pa_nil)))) (pa_cons (pe_tup (pa_cons pe_int (pa_cons pe_str (pa_cons pe_int pa_nil)))) (pa_cons (pe_tup (pa_cons pe_int (pa_cons pe_str (pa_cons pe_int pa_nil)))) (pa_cons (pe_tup (pa_cons pe_int (pa_cons pe_str (pa_cons pe_int pa_nil)))) pa_nil)))))))))) (pg_name (i := 9) scWrongs.nd rfl (Or.inl rfl)) (pss_one (ps_expr (pe_bm PySem.F.plainAttrs_list PySem.F.slot_list_append PySem.F.type_list_append mt_append (pv 8) (pa_cons (pe_tup (pa_cons (pe_tup (pa_cons (pe_op op_catA (pe_tup (pa_cons (pv 9) pa_nil)) (pv 3)) (pa_cons (pv 4) pa_nil))) (pa_cons pe_str pa_nil))) pa_nil)))))
      (pss_cons (ps_set (i := 8) scWrongs.nd rfl (Or.inl rfl) (pe_op op_cat (pv 8) (pe_lst (pa_cons (pe_tup (pa_cons (pe_tup (pa_cons (pe_op op_catA (pv 3) (pe_tup (pa_cons (pv 5) (pa_cons (pv 5) pa_nil)))) (pa_cons (pv 4) pa_nil))) (pa_cons pe_str pa_nil))) (pa_cons (pe_tup (pa_cons (pe_tup (pa_cons (pe_op op_catA (pv 3) (pe_tup (pa_cons (pv 6) pa_nil))) (pa_cons (pv 4) pa_nil))) (pa_cons pe_str pa_nil))) (pa_cons (pe_tup (pa_cons (pe_tup (pa_cons (pe_op op_catA (pv 3) (pe_slice sl_tupA (pv 3) (po_some (pe_un un_neg pe_int)) po_none)) (pa_cons (pv 4) pa_nil))) (pa_cons pe_str pa_nil))) pa_nil))))))
      (pss_cons (ps_set (i := 8) scWrongs.nd rfl (Or.inl rfl) (pe_op op_cat (pv 8) (pe_lst (pa_cons (pe_tup (pa_cons (pe_tup (pa_cons (pe_tup (pa_cons (pv 5) pa_nil)) (pa_cons (pe_op op_catA (pv 4) (pe_tup (pa_cons pe_int pa_nil))) pa_nil))) (pa_cons pe_str pa_nil))) (pa_cons (pe_tup (pa_cons (pe_tup (pa_cons (pe_tup (pa_cons (pv 5) pa_nil)) (pa_cons (pe_slice sl_tupA (pv 4) (po_some pe_int) po_none) pa_nil))) (pa_cons pe_str pa_nil))) (pa_cons (pe_tup (pa_cons (pe_tup (pa_cons (pv 3) (pa_cons (pe_op op_catA (pv 4) (pv 4)) pa_nil))) (pa_cons pe_str pa_nil))) (pa_cons (pe_tup (pa_cons (pe_tup pa_nil) (pa_cons pe_str pa_nil))) pa_nil)))))))
      (pss_cons (ps_set (i := 10) scWrongs.nd rfl (Or.inl rfl) (pe_lst (pa_cons (pe_tup (pa_cons (pe_op op_catA (pe_tup (pa_cons (pe_tup (pa_cons pe_int (pa_cons (pv 7) (pa_cons pe_int pa_nil)))) pa_nil)) (pv 3)) (pa_cons (pe_op op_catA (pv 4) (pe_tup (pa_cons pe_int pa_nil))) pa_nil))) (pa_cons (pe_tup (pa_cons (pe_op op_catA (pe_tup (pa_cons (pe_tup (pa_cons pe_int (pa_cons pe_str (pa_cons pe_int pa_nil)))) pa_nil)) (pv 3)) (pa_cons (pe_slice sl_tupA (pv 4) (po_some pe_int) po_none) pa_nil))) (pa_cons (pe_tup (pa_cons (pe_op op_catA (pe_tup (pa_cons (pv 6) pa_nil)) (pv 3)) (pa_cons (pe_op op_catA (pv 4) (pv 4)) pa_nil))) pa_nil)))))
      (pss_cons (ps_set (i := 8) scWrongs.nd rfl (Or.inl rfl) (pe_op op_cat (pv 8) (pe_lc (own := [("one", 12)]) (g := gName 12) (tt := tYes) rfl scWrongs.nd (pi_list (pv 10)) (blkOk_by (N := nmWrongs) (sc := defScope (top 39)) (by decide +kernel)) (fun _ _ _ _ _ => pg_name (i := 12) scWrongs.nd rfl (Or.inl rfl)) (fun _ _ _ _ _ => pts_nil) (fun _ _ _ _ _ => (pe_tup (pa_cons (pv 12) (pa_cons pe_str pa_nil)))))))
      (pss_cons (ps_set (i := 10) scWrongs.nd rfl (Or.inl rfl) (pe_lst (pa_cons (pe_tup (pa_cons (pe_op op_catA (pe_op op_catA (pe_tup (pa_cons (pe_tup (pa_cons pe_int (pa_cons (pv 7) (pa_cons pe_int pa_nil)))) pa_nil)) (pv 3)) (pe_tup (pa_cons (pe_tup (pa_cons pe_int (pa_cons (pv 7) (pa_cons (pe_un un_neg pe_int) pa_nil)))) pa_nil))) (pa_cons (pv 4) pa_nil))) (pa_cons (pe_tup (pa_cons (pe_op op_catA (pe_tup (pa_cons (pe_tup (pa_cons pe_int (pa_cons pe_str (pa_cons pe_int pa_nil)))) pa_nil)) (pv 3)) (pa_cons (pe_op op_catA (pv 4) (pe_tup (pa_cons pe_int pa_nil))) pa_nil))) (pa_cons (pe_tup (pa_cons (pe_tup (pa_cons (pe_tup (pa_cons pe_int (pa_cons (pv 7) (pa_cons pe_int pa_nil)))) (pa_cons (pe_tup (pa_cons pe_int (pa_cons (pv 7) (pa_cons pe_bl pa_nil)))) pa_nil))) (pa_cons (pe_tup pa_nil) pa_nil))) pa_nil)))))
      (pss_one (ps_ret (pe_op op_cat (pv 8) (pe_lc (own := [("one", 12)]) (g := gName 12) (tt := tYes) rfl scWrongs.nd (pi_list (pv 10)) (blkOk_by (N := nmWrongs) (sc := defScope (top 39)) (by decide +kernel)) (fun _ _ _ _ _ => pg_name (i := 12) scWrongs.nd rfl (Or.inl rfl)) (fun _ _ _ _ _ => pts_nil) (fun _ _ _ _ _ => (pe_tup (pa_cons (pv 12) (pa_cons pe_str pa_nil)))))))))))))))))))))), ?_⟩
    obtain ⟨c0, cs, rfl⟩ := List.exists_cons_of_ne_nil hs.ne
    obtain ⟨a, hp, vp, xs, ea, hsa, hhp, hxs, hvp⟩ := Dp.st_inv hst
    cases ea
    have kh : Dp K F (.ref hp) (.tuple ((c0 :: cs).map cellD)) := .tup hhp hxs
    have kv : Dp K F (.ref vp) (.tuple (ws.map PyData.int)) := .tup hvp (dpAll_ints ws)
    have km : Dp K F (.ref pm) (.tuple ((mk :: ms).map PyData.str)) := .tup (SqT.of hpm) (dpAll_strs _)
    have lcs : cs.length ≤ 19 := by
      have := hs.len
      rw [List.length_cons] at this
      omega
    have lws : ws.length = n := hs.many
    have hn1 := hs.n1
    have hn2 := hs.n2
    have hc0 := hs.cell c0 List.mem_cons_self
    refine ⟨_, rfl, sp, _, rfl, Same.sqt hF hsa, rfl, _, _, rfl, _, _, rfl, rfl, ?_⟩
    have ev1 : EvA K (tCons (tTup (tCons (tC (.int 1)) (tCons (tOp (rIxT K) (tVar 1) (tC (.int 0))) (tCons (tC (.int 0)) tNil)))) (tCons (tOp (rIxT K) (tVar 3) (tC (.int 0))) (tCons (tOp (rIxT K) (tVar 1) (tC (.int 0))) tNil)))
        ([some vm, some (.ref pm), some (.ref sp), some (.ref hp), some (.ref vp), none, none, none, none, none, none, none, none] : L2.St) F [cellD (1, mk, 0), cellD c0, .str mk] :=
      EvA.cons (EvD.tup (EvA.cons (EvD.int 1) (EvA.cons (EvD.ix (j := 0) (EvD.var km) rfl rfl) (EvA.cons (EvD.int 0) EvA.nil)))) (EvA.cons (EvD.ix (j := 0) (EvD.var kh) rfl rfl) (EvA.cons (EvD.ix (j := 0) (EvD.var km) rfl rfl) EvA.nil))
    try dsimp only
    refine seq_tup (K := K) ?_
    refine ev1 F H _ (Same.refl _) hF fun vs F1 H1 g1 d1 => ?_
    cases d1 with
    | cons dc r1 =>
    cases r1 with
    | cons dl r2 =>
    cases r2 with
    | cons dm r3 =>
    cases r3
    obtain ⟨cp, _, rfl, _, _⟩ := Dp.tuple_inv dc
    obtain ⟨lp, _, rfl, _, _⟩ := Dp.tuple_inv dl
    obtain rfl := Dp.str_inv dm
    refine ⟨(by show 3 ≤ sizeLine; decide), fun p hp1 => ⟨p, _, rfl, SqT.of upd_same, rfl, _, _, rfl, _, _, rfl, _, _, rfl, rfl, ?_⟩⟩
    have g2 := g1.trans (Grow.beside g1.fh (same_upd (o := .tup [.ref cp, .ref lp, .str mk]) hp1))
    have kn : Kn K F1 hp vp cp lp mk c0 cs ws := ⟨dp_mono g1.f _ _ kh, dp_mono g1.f _ _ kv, dc, dl⟩
    generalize upd H1 p (.tup [.ref cp, .ref lp, .str mk]) = H2 at g2
    clear ev1 hp1 g1
    have hw1 : 1 ≤ ws.length := by omega
    have NS : ∀ {d : PyData}, (∀ a ds, d ≠ .tuple [a, .tuple ds]) → SizeOk d := fun h => size_no h
    have ac := hs.asc
    have mkm : mk ∈ mk :: ms := List.mem_cons_self
    have c0m := hc0.2.2.1
    have fc0 : 1 ≤ c0.1 ∧ c0.1 ≤ 999 ∧ 0 ≤ c0.2.2 ∧ c0.2.2 ≤ 999 := ⟨by omega, by omega, hc0.2.2.2⟩
    have f1 : ∀ (z : Str), 1 ≤ ((1, z, 0) : Cell).1 ∧ ((1, z, 0) : Cell).1 ≤ 999 ∧ 0 ≤ ((1, z, 0) : Cell).2.2 ∧ ((1, z, 0) : Cell).2.2 ≤ 999 := fun z => ⟨by show (1 : Int) ≤ 1; decide, by show (1 : Int) ≤ 999; decide, by show (0 : Int) ≤ 0; decide, by show (0 : Int) ≤ 999; decide⟩
    have f998 : ∀ (z : Str), 1 ≤ ((998, z, 0) : Cell).1 ∧ ((998, z, 0) : Cell).1 ≤ 999 ∧ 0 ≤ ((998, z, 0) : Cell).2.2 ∧ ((998, z, 0) : Cell).2.2 ≤ 999 := fun z => ⟨by show (1 : Int) ≤ 998; decide, by show (998 : Int) ≤ 999; decide, by show (0 : Int) ≤ 0; decide, by show (0 : Int) ≤ 999; decide⟩
    have v0 : ∀ v ∈ ws ++ [0], 0 ≤ v ∧ v ≤ 999 := fun v hv => (List.mem_append.mp hv).elim (hs.val v) fun z => by
      rw [List.mem_singleton] at z
      omega
    have vv : ∀ v ∈ ws ++ ws, 0 ≤ v ∧ v ≤ 999 := fun v hv => (List.mem_append.mp hv).elim (hs.val v) (hs.val v)
    have vd : ∀ v ∈ ws.drop 1, 0 ≤ v ∧ v ≤ 999 := fun v hv => hs.val v (List.mem_of_mem_drop hv)
    have l0 : (ws ++ [(0 : Int)]).length = ws.length + 1 := by rw [List.length_append]; rfl
    have lvv : (ws ++ ws).length = ws.length + ws.length := List.length_append
    have ld : (ws.drop 1).length = ws.length - 1 := List.length_drop
    have na998 : ∀ z : Str, ¬ (((998, z, 0) :: c0 :: cs : List Cell).map (·.1)).Pairwise (· < ·) := fun z => not_asc_ahead (by show c0.1 ≤ 998; omega)
    have one : FOk [((1, mk, 0) : Cell)] ws ∧ FOk [((1, mk, 0) : Cell)] (ws ++ [0]) ∧ FOk [((1, mk, 0) : Cell)] (ws.drop 1) := ⟨⟨by show 1 ≤ 300; decide, fm (f1 mk) fm0, hs.val⟩, ⟨by show 1 ≤ 300; decide, fm (f1 mk) fm0, v0⟩, ⟨by show 1 ≤ 300; decide, fm (f1 mk) fm0, vd⟩⟩
    have fst : ∀ us : List Int, (∀ v ∈ us, 0 ≤ v ∧ v ≤ 999) → FOk (c0 :: cs) us := fun us hu => ⟨by rw [List.length_cons]; omega, fun c hc => by
      have z := hs.cell c hc
      exact ⟨by omega, by omega, z.2.2.2⟩, hu⟩
    -- the first rows
    have r1 : EvA K _ (sgW vm pm sp hp vp cp lp mk none none none) F1 _ := (EvA.cons (EvD.tup (EvA.cons (EvD.lst (EvA.cons (EvD.var (i := 3) kn.h) (EvA.cons (EvD.var (i := 4) kn.v) EvA.nil))) (EvA.cons (EvD.str "form") EvA.nil))) (EvA.cons (EvD.tup (EvA.cons (EvD.tup (EvA.cons (EvD.var (i := 3) kn.h) EvA.nil)) (EvA.cons (EvD.str "form") EvA.nil))) (EvA.cons (EvD.tup (EvA.cons (EvD.tup (EvA.cons (EvD.var (i := 3) kn.h) (EvA.cons (EvD.var (i := 4) kn.v) (EvA.cons (EvD.tup EvA.nil) EvA.nil)))) (EvA.cons (EvD.str "form") EvA.nil))) (EvA.cons (EvD.tup (EvA.cons (EvD.tup (EvA.cons (EvD.list (EvD.var (i := 3) kn.h)) (EvA.cons (EvD.var (i := 4) kn.v) EvA.nil))) (EvA.cons (EvD.str "form") EvA.nil))) (EvA.cons (EvD.tup (EvA.cons (EvD.var (i := 3) kn.h) (EvA.cons (EvD.str "form") EvA.nil))) EvA.nil)))))
    try dsimp only
    refine seq_set (rows_new (ms := mk :: ms) (n := n) g2.fh r1 ?_ (Nat.le_of_ble_eq_true rfl) (List.cons_ne_nil _ _) fun F2 H3 R a2 s2 => ?_)
    · exact fm (.form rfl (NS fun _ _ => by simp)) (fm (.form rfl (NS fun _ _ => by simp)) (fm (.form rfl (NS fun _ _ => by simp)) (fm (.form rfl (size2 (by rw [List.length_map]; omega))) (fm (.form (form_heap _) (size_heap _)) fm0))))
    have lc2 : cs.length ≤ 100 := by omega
    have lw2 : ws.length ≤ 100 := by omega
    -- values
    try dsimp only
    have r2 : EvA K _ (sgW vm pm sp hp vp cp lp mk (some (.ref R)) none none) F1 _ := (EvA.cons (EvD.tup (EvA.cons (EvD.tup (EvA.cons (EvD.var (i := 3) kn.h) (EvA.cons (EvD.list (EvD.var (i := 4) kn.v)) EvA.nil))) (EvA.cons (EvD.str "form") EvA.nil))) (EvA.cons (EvD.tup (EvA.cons (EvD.tup (EvA.cons (EvD.var (i := 3) kn.h) (EvA.cons (EvD.ints (ws.drop 1) ([-1]) (EvD.tl (EvD.var (i := 4) kn.v) hw1) (EvD.tup (EvA.cons (EvD.neg 1) EvA.nil)) (by first | omega | (simp only [List.length_append, List.length_cons, List.length_nil, List.length_map, List.length_drop]; omega))) EvA.nil))) (EvA.cons (EvD.str "form") EvA.nil))) (EvA.cons (EvD.tup (EvA.cons (EvD.tup (EvA.cons (EvD.var (i := 3) kn.h) (EvA.cons (EvD.ints (ws.drop 1) ([1000]) (EvD.tl (EvD.var (i := 4) kn.v) hw1) (EvD.tup (EvA.cons (EvD.int 1000) EvA.nil)) (by first | omega | (simp only [List.length_append, List.length_cons, List.length_nil, List.length_map, List.length_drop]; omega))) EvA.nil))) (EvA.cons (EvD.str "form") EvA.nil))) EvA.nil)))
    refine seq_set (rows_cat a2 rfl (fun Fx Hx Qx sx => r2 Fx Hx Qx (s2.trans sx)) ?_ (Nat.le_of_ble_eq_true rfl) fun F3 H4 R3 a3 s3 => ?_)
    · exact fm (.form rfl (NS fun _ _ => by simp)) (fm (.form (form_val ⟨.int (-1), List.mem_map.mpr ⟨-1, List.mem_append_right _ (List.mem_singleton.mpr rfl), rfl⟩, rfl⟩) (size2 (by rw [List.length_map, List.length_append]; show _ + 1 ≤ 1000; omega)))
        (fm (.form (form_val ⟨.int 1000, List.mem_map.mpr ⟨1000, List.mem_append_right _ (List.mem_singleton.mpr rfl), rfl⟩, rfl⟩) (size2 (by rw [List.length_map, List.length_append]; show _ + 1 ≤ 1000; omega))) fm0))
    try dsimp only
    have r3 : EvA K _ (sgW vm pm sp hp vp cp lp mk (some (.ref R3)) none none) F1 _ := (EvA.cons (EvD.tup (EvA.cons (EvD.tup (EvA.cons (EvD.var (i := 3) kn.h) (EvA.cons (EvD.cat (EvD.tup (EvA.cons (EvD.bl true) EvA.nil)) (EvD.tl (EvD.var (i := 4) kn.v) hw1) (by first | omega | (simp only [List.length_append, List.length_cons, List.length_nil, List.length_map, List.length_drop]; omega))) EvA.nil))) (EvA.cons (EvD.str "form") EvA.nil))) (EvA.cons (EvD.tup (EvA.cons (EvD.tup (EvA.cons (EvD.var (i := 3) kn.h) (EvA.cons (EvD.cat (EvD.tl (EvD.var (i := 4) kn.v) hw1) (EvD.tup (EvA.cons (EvD.str "0") EvA.nil)) (by first | omega | (simp only [List.length_append, List.length_cons, List.length_nil, List.length_map, List.length_drop]; omega))) EvA.nil))) (EvA.cons (EvD.str "form") EvA.nil))) (EvA.cons (EvD.tup (EvA.cons (EvD.tup (EvA.cons (EvD.var (i := 3) kn.h) (EvA.cons (EvD.cat (EvD.tl (EvD.var (i := 4) kn.v) hw1) (EvD.tup (EvA.cons EvD.non EvA.nil)) (by first | omega | (simp only [List.length_append, List.length_cons, List.length_nil, List.length_map, List.length_drop]; omega))) EvA.nil))) (EvA.cons (EvD.str "form") EvA.nil))) EvA.nil)))
    refine seq_set (rows_cat a3 rfl (fun Fx Hx Qx sx => r3 Fx Hx Qx (a3.g.f.trans sx)) ?_ (Nat.le_of_ble_eq_true rfl) fun F4 H5 R4 a4 s4 => ?_)
    · exact fm (.form (form_val ⟨.bool true, List.mem_append_left _ (List.mem_singleton.mpr rfl), rfl⟩) (size2 (by rw [List.length_append, List.length_map]; show 1 + _ ≤ 1000; omega)))
        (fm (.form (form_val ⟨.str "0", List.mem_append_right _ (List.mem_singleton.mpr rfl), rfl⟩) (size2 (by rw [List.length_append, List.length_map]; show _ + 1 ≤ 1000; omega)))
        (fm (.form (form_val ⟨.none, List.mem_append_right _ (List.mem_singleton.mpr rfl), rfl⟩) (size2 (by rw [List.length_append, List.length_map]; show _ + 1 ≤ 1000; omega))) fm0))
    -- cells of other forms
    try dsimp only
    have bf : ∀ {bads : List PyData}, (∀ d ∈ bads, isCell d = false) → ∀ d ∈ bads, Row (mk :: ms) n (.tuple [.tuple [.tuple (d :: (c0 :: cs).map cellD), .tuple (ws.map PyData.int)], .str "form"]) := fun h d hd => .form (form_cell ⟨d, List.mem_cons_self, h d hd⟩) (size2 (by rw [List.length_map]; omega))
    have b1 : EvA K _ (sgW vm pm sp hp vp cp lp mk (some (.ref R4)) none none) F1 _ := (EvA.cons (EvD.tup (EvA.cons (EvD.int 0) (EvA.cons (EvD.var (i := 7) (.str mk)) (EvA.cons (EvD.int 0) EvA.nil)))) (EvA.cons (EvD.tup (EvA.cons (EvD.int 1000) (EvA.cons (EvD.var (i := 7) (.str mk)) (EvA.cons (EvD.int 0) EvA.nil)))) (EvA.cons (EvD.tup (EvA.cons (EvD.bl true) (EvA.cons (EvD.var (i := 7) (.str mk)) (EvA.cons (EvD.int 0) EvA.nil)))) (EvA.cons (EvD.tup (EvA.cons (EvD.neg 1) (EvA.cons (EvD.var (i := 7) (.str mk)) (EvA.cons (EvD.int 0) EvA.nil)))) (EvA.cons (EvD.tup (EvA.cons (EvD.int 1) (EvA.cons (EvD.var (i := 7) (.str mk)) EvA.nil))) (EvA.cons (EvD.tup (EvA.cons (EvD.int 1) (EvA.cons (EvD.var (i := 7) (.str mk)) (EvA.cons (EvD.int 1000) EvA.nil)))) (EvA.cons (EvD.tup (EvA.cons (EvD.int 1) (EvA.cons (EvD.var (i := 7) (.str mk)) (EvA.cons (EvD.neg 1) EvA.nil)))) (EvA.cons (EvD.tup (EvA.cons (EvD.int 1) (EvA.cons (EvD.var (i := 7) (.str mk)) (EvA.cons (EvD.bl true) EvA.nil)))) EvA.nil))))))))
    refine seq_for (rows_loop kn lc2 lw2 a4 (fun Fx Hx Qx sx => b1 Fx Hx Qx (a4.g.f.trans sx)) (bf ?_) (Nat.le_of_ble_eq_true rfl) (Nat.le_of_ble_eq_true rfl) fun b5 F5 H6 a5 s5 => ?_)
    · exact fm rfl (fm rfl (fm rfl (fm rfl (fm rfl (fm rfl (fm rfl (fm rfl fm0)))))))
    try dsimp only
    have b2 : EvA K _ (sgW vm pm sp hp vp cp lp mk (some (.ref R4)) b5 none) F1 _ := (EvA.cons (EvD.tup (EvA.cons (EvD.int 1) (EvA.cons (EvD.int 5) (EvA.cons (EvD.int 0) EvA.nil)))) (EvA.cons (EvD.tup (EvA.cons (EvD.int 1) (EvA.cons EvD.non (EvA.cons (EvD.int 0) EvA.nil)))) (EvA.cons (EvD.tup (EvA.cons (EvD.int 1) (EvA.cons (EvD.lst (EvA.cons (EvD.var (i := 7) (.str mk)) EvA.nil)) (EvA.cons (EvD.int 0) EvA.nil)))) (EvA.cons (EvD.tup (EvA.cons (EvD.int 1) (EvA.cons (EvD.tup (EvA.cons (EvD.var (i := 7) (.str mk)) EvA.nil)) (EvA.cons (EvD.int 0) EvA.nil)))) (EvA.cons (EvD.lst (EvA.cons (EvD.int 1) (EvA.cons (EvD.var (i := 7) (.str mk)) (EvA.cons (EvD.int 0) EvA.nil)))) (EvA.cons (EvD.tup (EvA.cons (EvD.int 1) (EvA.cons (EvD.var (i := 7) (.str mk)) (EvA.cons (EvD.int 0) (EvA.cons (EvD.int 0) EvA.nil))))) (EvA.cons (EvD.tup (EvA.cons (EvD.str "1") (EvA.cons (EvD.var (i := 7) (.str mk)) (EvA.cons (EvD.int 0) EvA.nil)))) (EvA.cons (EvD.tup (EvA.cons (EvD.int 1) (EvA.cons (EvD.var (i := 7) (.str mk)) (EvA.cons (EvD.lst (EvA.cons (EvD.int 0) EvA.nil)) EvA.nil)))) (EvA.cons (EvD.int 1) (EvA.cons EvD.non EvA.nil))))))))))
    refine seq_for (rows_loop kn lc2 lw2 a5 (fun Fx Hx Qx sx => b2 Fx Hx Qx (a5.g.f.trans sx)) (bf ?_) (Nat.le_of_ble_eq_true rfl) (Nat.le_of_ble_eq_true rfl) fun b6 F6 H7 a6 s6 => ?_)
    · exact fm rfl (fm rfl (fm rfl (fm rfl (fm rfl (fm rfl (fm rfl (fm rfl (fm rfl (fm rfl fm0)))))))))
    -- too many cells
    try dsimp only
    have kn6 := kn.up a6.g.f
    have e301 := ev301 (K := K) (F := F6) (σ := sgW vm pm sp hp vp cp lp mk (some (.ref R4)) b6 none) (mk := mk) (own := [11]) rfl rfl rfl
    refine seq_drop (rows_app a6 rfl (EvD.tup (EvA.cons (EvD.tup (EvA.cons e301 (EvA.cons (EvD.var (i := 4) kn6.v) EvA.nil))) (EvA.cons (EvD.str "form") EvA.nil))) ?_ (Nat.le_of_ble_eq_true rfl) fun F7 H8 a7 s7 => ?_)
    · exact .form (form_len (by unfold cells301; rw [List.length_map, List.length_map, List.length_range]; decide)) (size2 (by rw [List.length_map]; omega))
    -- heaps
    try dsimp only
    have b3 : EvA K _ (sgW vm pm sp hp vp cp lp mk (some (.ref R4)) b6 none) F1 _ := (EvA.cons (EvD.tup (EvA.cons (EvD.int 998) (EvA.cons (EvD.var (i := 7) (.str mk)) (EvA.cons (EvD.int 0) EvA.nil)))) (EvA.cons (EvD.tup (EvA.cons (EvD.ix (j := 0) (EvD.var (i := 6) kn.l) rfl rfl) (EvA.cons (EvD.var (i := 7) (.str mk)) (EvA.cons (EvD.int 0) EvA.nil)))) (EvA.cons (EvD.var (i := 6) kn.l) (EvA.cons (EvD.tup (EvA.cons (EvD.ix (j := 0) (EvD.var (i := 6) kn.l) rfl rfl) (EvA.cons (EvD.ix (j := 1) (EvD.var (i := 6) kn.l) rfl rfl) (EvA.cons (EvD.int 7) EvA.nil)))) (EvA.cons (EvD.tup (EvA.cons (EvD.int 1) (EvA.cons (EvD.strcat (EvD.var (i := 7) (.str mk)) (EvD.str "z") (by show mk.length + 1 ≤ 1000; have := hs.l10; omega)) (EvA.cons (EvD.int 0) EvA.nil)))) (EvA.cons (EvD.tup (EvA.cons (EvD.int 1) (EvA.cons (EvD.str "") (EvA.cons (EvD.int 0) EvA.nil)))) (EvA.cons (EvD.tup (EvA.cons (EvD.int 1) (EvA.cons (EvD.str "A b") (EvA.cons (EvD.int 0) EvA.nil)))) (EvA.cons (EvD.tup (EvA.cons (EvD.int 1) (EvA.cons (EvD.str "abcdefghi") (EvA.cons (EvD.int 0) EvA.nil)))) EvA.nil))))))))
    have bh : ∀ c : Cell, (1 ≤ c.1 ∧ c.1 ≤ 999 ∧ 0 ≤ c.2.2 ∧ c.2.2 ≤ 999) → (c.2.1 ∉ mk :: ms ∨ c0.1 ≤ c.1) → Row (mk :: ms) n (.tuple [.tuple [.tuple (cellD c :: (c0 :: cs).map cellD), .tuple (ws.map PyData.int)], .str "heap"]) := fun c hc h =>
      Row.heap (cs := c :: c0 :: cs) (hs.ahead hc hs.val) (h.elim (fun z => .inl ⟨c, List.mem_cons_self, z⟩) fun z => .inr (not_asc_ahead z)) (by omega)
    refine seq_for (rows_loop kn lc2 lw2 a7 (fun Fx Hx Qx sx => b3 Fx Hx Qx (a7.g.f.trans sx)) ?_ (Nat.le_of_ble_eq_true rfl) (Nat.le_of_ble_eq_true rfl) fun b8 F8 H9 a8 s8 => ?_)
    · exact fm (bh (998, mk, 0) (f998 mk) (.inr (by show c0.1 ≤ 998; omega))) (fm (bh (c0.1, mk, 0) ⟨fc0.1, fc0.2.1, by show (0 : Int) ≤ 0; decide, by show (0 : Int) ≤ 999; decide⟩ (.inr (Int.le_refl _))) (fm (bh c0 fc0 (.inr (Int.le_refl _)))
        (fm (bh (c0.1, c0.2.1, 7) ⟨fc0.1, fc0.2.1, by show (0 : Int) ≤ 7; decide, by show (7 : Int) ≤ 999; decide⟩ (.inr (Int.le_refl _))) (fm (bh (1, mk ++ "z", 0) (f1 _) (.inl hs.no1)) (fm (bh (1, "", 0) (f1 _) (.inl hs.no2)) (fm (bh (1, "A b", 0) (f1 _) (.inl hs.no3)) (fm (bh (1, "abcdefghi", 0) (f1 _) (.inl hs.no4)) fm0)))))))
    try dsimp only
    have r4 : EvA K _ (sgW vm pm sp hp vp cp lp mk (some (.ref R4)) b8 none) F1 _ := (EvA.cons (EvD.tup (EvA.cons (EvD.tup (EvA.cons (EvD.cells (c0 :: cs) ([(1, mk, 0), (1, mk, 0)]) (EvD.var (i := 3) kn.h) (EvD.tup (EvA.cons (EvD.var (i := 5) kn.c) (EvA.cons (EvD.var (i := 5) kn.c) EvA.nil))) (by first | omega | (simp only [List.length_append, List.length_cons, List.length_nil, List.length_map, List.length_drop]; omega))) (EvA.cons (EvD.var (i := 4) kn.v) EvA.nil))) (EvA.cons (EvD.str "heap") EvA.nil))) (EvA.cons (EvD.tup (EvA.cons (EvD.tup (EvA.cons (EvD.cells (c0 :: cs) ([c0]) (EvD.var (i := 3) kn.h) (EvD.tup (EvA.cons (EvD.var (i := 6) kn.l) EvA.nil)) (by first | omega | (simp only [List.length_append, List.length_cons, List.length_nil, List.length_map, List.length_drop]; omega))) (EvA.cons (EvD.var (i := 4) kn.v) EvA.nil))) (EvA.cons (EvD.str "heap") EvA.nil))) (EvA.cons (EvD.tup (EvA.cons (EvD.tup (EvA.cons (EvD.cells (c0 :: cs) ((c0 :: cs).drop ((c0 :: cs).length - 1)) (EvD.var (i := 3) kn.h) (EvD.lastc (EvD.var (i := 3) kn.h) (by rw [List.length_cons]; omega)) (by first | omega | (simp only [List.length_append, List.length_cons, List.length_nil, List.length_map, List.length_drop]; omega))) (EvA.cons (EvD.var (i := 4) kn.v) EvA.nil))) (EvA.cons (EvD.str "heap") EvA.nil))) EvA.nil)))
    refine seq_set (rows_cat a8 rfl (fun Fx Hx Qx sx => r4 Fx Hx Qx (a8.g.f.trans sx)) ?_ (Nat.le_of_ble_eq_true rfl) fun F9 H10 R9 a9 s9 => ?_)
    · refine fm (Row.heap (cs := (c0 :: cs) ++ [(1, mk, 0), (1, mk, 0)]) (hs.behind (by show 2 ≤ 20; decide) (fm (f1 mk) (fm (f1 mk) fm0))) (.inr (not_asc_behind (c := c0) (d := (1, mk, 0)) List.mem_cons_self List.mem_cons_self (by show 1 ≤ c0.1; omega))) (by omega))
        (fm (Row.heap (cs := (c0 :: cs) ++ [c0]) (hs.behind (by show 1 ≤ 20; decide) (fm fc0 fm0)) (.inr (not_asc_behind (c := c0) (d := c0) List.mem_cons_self List.mem_cons_self (Int.le_refl _))) (by omega)) (fm ?_ fm0))
      have ll : (c0 :: cs).length - 1 < (c0 :: cs).length := by rw [List.length_cons]; omega
      have dr : (c0 :: cs).drop ((c0 :: cs).length - 1) = [(c0 :: cs)[(c0 :: cs).length - 1]] := by
        rw [List.drop_eq_getElem_cons ll, List.drop_of_length_le (by omega)]
      have z1 : (c0 :: cs)[(c0 :: cs).length - 1] ∈ c0 :: cs := List.getElem_mem ll
      have z2 := hs.cell _ z1
      rw [dr]
      exact Row.heap (hs.behind (by show 1 ≤ 20; decide) (fm ⟨by omega, by omega, z2.2.2.2⟩ fm0)) (.inr (not_asc_behind z1 List.mem_cons_self (Int.le_refl _))) (by omega)
    try dsimp only
    have r5 : EvA K _ (sgW vm pm sp hp vp cp lp mk (some (.ref R9)) b8 none) F1 _ := (EvA.cons (EvD.tup (EvA.cons (EvD.tup (EvA.cons (EvD.tup (EvA.cons (EvD.var (i := 5) kn.c) EvA.nil)) (EvA.cons (EvD.ints (ws) ([0]) (EvD.var (i := 4) kn.v) (EvD.tup (EvA.cons (EvD.int 0) EvA.nil)) (by first | omega | (simp only [List.length_append, List.length_cons, List.length_nil, List.length_map, List.length_drop]; omega))) EvA.nil))) (EvA.cons (EvD.str "values") EvA.nil))) (EvA.cons (EvD.tup (EvA.cons (EvD.tup (EvA.cons (EvD.tup (EvA.cons (EvD.var (i := 5) kn.c) EvA.nil)) (EvA.cons (EvD.tl (EvD.var (i := 4) kn.v) hw1) EvA.nil))) (EvA.cons (EvD.str "values") EvA.nil))) (EvA.cons (EvD.tup (EvA.cons (EvD.tup (EvA.cons (EvD.var (i := 3) kn.h) (EvA.cons (EvD.ints (ws) (ws) (EvD.var (i := 4) kn.v) (EvD.var (i := 4) kn.v) (by first | omega | (simp only [List.length_append, List.length_cons, List.length_nil, List.length_map, List.length_drop]; omega))) EvA.nil))) (EvA.cons (EvD.str "values") EvA.nil))) (EvA.cons (EvD.tup (EvA.cons (EvD.tup EvA.nil) (EvA.cons (EvD.str "form") EvA.nil))) EvA.nil))))
    refine seq_set (rows_cat a9 rfl (fun Fx Hx Qx sx => r5 Fx Hx Qx (a9.g.f.trans sx)) ?_ (Nat.le_of_ble_eq_true rfl) fun F10 H11 R10 a10 s10 => ?_)
    · exact fm (Row.values (cs := [(1, mk, 0)]) one.2.1 (fm mkm fm0) (List.pairwise_singleton _ _) (by omega) (by omega)) (fm (Row.values (cs := [(1, mk, 0)]) one.2.2 (fm mkm fm0) (List.pairwise_singleton _ _) (by omega) (by omega))
        (fm (Row.values (fst _ vv) (fun c hc => (hs.cell c hc).2.2.1) ac (by omega) (by omega)) (fm (.form rfl (NS fun _ _ => by simp)) fm0)))
    -- two things wrong
    try dsimp only
    have kn10 := kn.up a10.g.f
    have t1 : EvA K _ (sgW vm pm sp hp vp cp lp mk (some (.ref R10)) b8 none) F1 _ := (EvA.cons (EvD.tup (EvA.cons (EvD.cells ([(998, mk, 0)]) (c0 :: cs) (EvD.tup (EvA.cons (EvD.tup (EvA.cons (EvD.int 998) (EvA.cons (EvD.var (i := 7) (.str mk)) (EvA.cons (EvD.int 0) EvA.nil)))) EvA.nil)) (EvD.var (i := 3) kn.h) (by first | omega | (simp only [List.length_append, List.length_cons, List.length_nil, List.length_map, List.length_drop]; omega))) (EvA.cons (EvD.ints (ws) ([0]) (EvD.var (i := 4) kn.v) (EvD.tup (EvA.cons (EvD.int 0) EvA.nil)) (by first | omega | (simp only [List.length_append, List.length_cons, List.length_nil, List.length_map, List.length_drop]; omega))) EvA.nil))) (EvA.cons (EvD.tup (EvA.cons (EvD.cells ([(1, "", 0)]) (c0 :: cs) (EvD.tup (EvA.cons (EvD.tup (EvA.cons (EvD.int 1) (EvA.cons (EvD.str "") (EvA.cons (EvD.int 0) EvA.nil)))) EvA.nil)) (EvD.var (i := 3) kn.h) (by first | omega | (simp only [List.length_append, List.length_cons, List.length_nil, List.length_map, List.length_drop]; omega))) (EvA.cons (EvD.tl (EvD.var (i := 4) kn.v) hw1) EvA.nil))) (EvA.cons (EvD.tup (EvA.cons (EvD.cells ([c0]) (c0 :: cs) (EvD.tup (EvA.cons (EvD.var (i := 6) kn.l) EvA.nil)) (EvD.var (i := 3) kn.h) (by first | omega | (simp only [List.length_append, List.length_cons, List.length_nil, List.length_map, List.length_drop]; omega))) (EvA.cons (EvD.ints (ws) (ws) (EvD.var (i := 4) kn.v) (EvD.var (i := 4) kn.v) (by first | omega | (simp only [List.length_append, List.length_cons, List.length_nil, List.length_map, List.length_drop]; omega))) EvA.nil))) EvA.nil)))
    refine seq_set ((EvD.lst (t1.up a10.g.f) (Nat.le_of_ble_eq_true rfl)) F10 H11 _ (Same.refl _) a10.g.fh fun tv F11 H12 g11 d11 => ?_)
    obtain ⟨tw, _, rfl, _, _⟩ := Dp.list_inv d11
    have a11 := a10.grow g11
    try dsimp only
    refine seq_set (rows_comp (P := "heap") rfl a11 rfl rfl rfl d11 ?_ (Nat.le_of_ble_eq_true rfl) fun F12 H13 R12 a12 s12 => ?_)
    · exact fm (Row.heap (cs := (998, mk, 0) :: c0 :: cs) (hs.ahead (f998 mk) v0) (.inr (na998 mk)) (by omega)) (fm (Row.heap (cs := (1, "", 0) :: c0 :: cs) (hs.ahead (f1 "") vd) (.inl ⟨_, List.mem_cons_self, hs.no2⟩) (by omega))
        (fm (Row.heap (cs := c0 :: c0 :: cs) (hs.ahead fc0 vv) (.inr (not_asc_ahead (Int.le_refl _))) (by omega)) fm0))
    try dsimp only
    have t2 : EvA K _ (sgW vm pm sp hp vp cp lp mk (some (.ref R12)) b8 (some (.ref tw))) F1 _ := (EvA.cons (EvD.tup (EvA.cons (EvD.cells ([(998, mk, 0)] ++ (c0 :: cs)) ([(999, mk, -1)]) (EvD.cells ([(998, mk, 0)]) (c0 :: cs) (EvD.tup (EvA.cons (EvD.tup (EvA.cons (EvD.int 998) (EvA.cons (EvD.var (i := 7) (.str mk)) (EvA.cons (EvD.int 0) EvA.nil)))) EvA.nil)) (EvD.var (i := 3) kn.h) (by first | omega | (simp only [List.length_append, List.length_cons, List.length_nil, List.length_map, List.length_drop]; omega))) (EvD.tup (EvA.cons (EvD.tup (EvA.cons (EvD.int 999) (EvA.cons (EvD.var (i := 7) (.str mk)) (EvA.cons (EvD.neg 1) EvA.nil)))) EvA.nil)) (by first | omega | (simp only [List.length_append, List.length_cons, List.length_nil, List.length_map, List.length_drop]; omega))) (EvA.cons (EvD.var (i := 4) kn.v) EvA.nil))) (EvA.cons (EvD.tup (EvA.cons (EvD.cells ([(1, "", 0)]) (c0 :: cs) (EvD.tup (EvA.cons (EvD.tup (EvA.cons (EvD.int 1) (EvA.cons (EvD.str "") (EvA.cons (EvD.int 0) EvA.nil)))) EvA.nil)) (EvD.var (i := 3) kn.h) (by first | omega | (simp only [List.length_append, List.length_cons, List.length_nil, List.length_map, List.length_drop]; omega))) (EvA.cons (EvD.ints (ws) ([1000]) (EvD.var (i := 4) kn.v) (EvD.tup (EvA.cons (EvD.int 1000) EvA.nil)) (by first | omega | (simp only [List.length_append, List.length_cons, List.length_nil, List.length_map, List.length_drop]; omega))) EvA.nil))) (EvA.cons (EvD.tup (EvA.cons (EvD.tup (EvA.cons (EvD.tup (EvA.cons (EvD.int 2) (EvA.cons (EvD.var (i := 7) (.str mk)) (EvA.cons (EvD.int 0) EvA.nil)))) (EvA.cons (EvD.tup (EvA.cons (EvD.int 1) (EvA.cons (EvD.var (i := 7) (.str mk)) (EvA.cons (EvD.bl true) EvA.nil)))) EvA.nil))) (EvA.cons (EvD.tup EvA.nil) EvA.nil))) EvA.nil)))
    refine seq_set ((EvD.lst (t2.up a12.g.f) (Nat.le_of_ble_eq_true rfl)) F12 H13 _ (Same.refl _) a12.g.fh fun tv F13 H14 g13 d13 => ?_)
    obtain ⟨tw2, _, rfl, _, _⟩ := Dp.list_inv d13
    have a13 := a12.grow g13
    try dsimp only
    refine ret_it (rows_comp (P := "form") rfl a13 rfl rfl rfl d13 ?_ (Nat.le_of_ble_eq_true rfl) fun F14 H15 R14 a14 s14 => ?_)
    · exact fm (.form (form_cell ⟨cellD (999, mk, -1), List.mem_map.mpr ⟨(999, mk, -1), List.mem_append_right _ (List.mem_singleton.mpr rfl), rfl⟩, rfl⟩) (size2 (by rw [List.length_map]; omega)))
        (fm (.form (form_val ⟨.int 1000, List.mem_map.mpr ⟨1000, List.mem_append_right _ (List.mem_singleton.mpr rfl), rfl⟩, rfl⟩) (size2 (by rw [List.length_map, List.length_append]; show _ + 1 ≤ 1000; omega)))
        (fm (.form (form_cell ⟨.tuple [.int 1, .str mk, .bool true], List.mem_cons_of_mem _ List.mem_cons_self, rfl⟩) (size2 (by show 0 ≤ 1000; decide))) fm0))
    obtain ⟨vs, ds, q1, q2, q3, q4, q5, q6⟩ := a14.ex
    have gT := g2.trans a14.g
    have nR : H R14 = none := g2.h.free a14.new
    have sR : Same F14 (upd F14 R14 (.lst vs)) := same_upd q2
    refine k R14 ds (upd F14 R14 (.lst vs)) H15 ⟨gT.f.trans sR, gT.h, fun b u e => ?_, fun b u e1 e2 => ?_⟩ (.lst (SqL.of upd_same) (dpAll_mono sR _ _ q3)) (Nat.le_trans q5 (Nat.le_of_ble_eq_true rfl)) q4 q6
    · by_cases c : b = R14
      · rw [c, upd_same] at e
        rw [c, q1]
        exact e
      · rw [upd_ne c] at e
        exact gT.fh _ _ e
    · rw [upd_ne (ne_of_none e2 nR)]
      exact gT.out b u e1 e2
end
end Hs
namespace Hs
open PySem PySem.Spec PyProof.Rows L2
/-! X1: what a call is refused with -/
section
variable {X : Cx} {CX : CXT} {k : Nat} {x : Str} {ps : List Str} {sp : Sp} {E : L2.St → XK} {p pos : Pos} {e : Expr} {es : List Expr} {t : TA}
/-- a def of the module called in a try -/
theorem pe_fnS (F : Fn X.prog X.w X.K X.mg X.base CX k x ps sp) (hr : Room k X.A) (hx : ∀ σ, PassesAt CX X σ (E σ)) (ha : PA X (e :: es) t) (hg : Gl X x := by rfl)
    (hdb : (x == ("__debug__" : Str)) = false := by decide) (he : starEach (e :: es) X.env = (false, eval e X.env) :: starEach es X.env := by rfl) (hpl : (backTo pos (starEach es X.env)).any (·.1) = false := by rfl) :
    PE X (.Call (.Name x p) (e :: es) [] pos) (tCallS sp E t) := by
  obtain ⟨f, fd, G, hm, hk, hb⟩ := F.ex
  exact pe_callS G hr hg hm hk hb hx ha hdb he hpl
end
/-- which of the errors a clause takes, and that their fields can be read -/
structure ExF (K : PySem.W.Frag) (CN CM CS : Addr) : Prop where
  nn : PySem.W.exmOne K (.ref CN) (.ref CN) = some true
  mn : PySem.W.exmOne K (.ref CM) (.ref CN) = some false
  mm : PySem.W.exmOne K (.ref CM) (.ref CM) = some true
  sn : PySem.W.exmOne K (.ref CS) (.ref CN) = some false
  sm : PySem.W.exmOne K (.ref CS) (.ref CM) = some false
  ss : PySem.W.exmOne K (.ref CS) (.ref CS) = some true
  xn : XfC K CN
  xm : XfC K CM
  xs : XfC K CS
def refD (dm dn : PyData) : Option Ref → PyData
  | none => .none
  | some .name => .tuple [.str "name", dm]
  | some .number => .tuple [.str "number", dn]
  | some (.state z) => .tuple [.str "state", .str z]
def tsF (C : Addr) (nm f : Str) : Addr → Value → Option Addr → TS := fun a cls d => tRet (tTup (tCons (tC (.str nm)) (tCons (tXf a cls d C f (tVar 4)) tNil)))
def tsO : Addr → Value → Option Addr → TS := fun _ _ _ => tRet (tTup (tCons (tC (.str "other")) (tCons (tC .non) tNil)))
def clsL (S CN CM CS : Addr) : List Cl := [⟨.ref CN, some 4, tsF CN "name" "value"⟩, ⟨.ref CM, some 4, tsF CM "number" "value"⟩, ⟨.ref CS, some 4, tsF CS "state" "place"⟩, ⟨.ref S, none, tsO⟩]
def spRefusal (K : PySem.W.Frag) : Sp := fun vs H Q _ => ∃ (c : Int) (vm vn v : V) (dm dn d : PyData), vs = [.int c, vm, vn, v] ∧ Dp K H vm dm ∧ Dp K H vn dn ∧ Dp K H v d ∧ Fits dm ∧ SizeOk d ∧
  ∀ v' H', Same H H' → Dp K H' v' (refD dm dn (refusal dm dn d)) → Q v' H'
theorem end_ok {K : PySem.W.Frag} {S CN CM CS : Addr} (X : ExF K CN CM CS) {D : Ends} {c : Int} {vm vn v : V} {dm dn : PyData} {H H1 : Hp} (hm : Dp K H vm dm) (hn : Dp K H vn dn) (s : Same H H1) (r : Ref)
    (k : ∀ v' H', Same H H' → Dp K H' v' (refD dm dn (some r)) → D.rt v' H') : EndR CN CM CS vm vn (some r) H1 False (WE (wCls K (fun _ _ _ _ => False) D (clsL S CN CM CS)) ([some (.int c), some vm, some vn, some v, none] : L2.St)) := by
  cases r with
  | name =>
    intro d' H2 s2 hd
    refine ⟨true, X.nn, fun _ a ha => ?_, fun z => (nomatch z)⟩
    refine ⟨_, rfl, rfl, rfl, d', _, vm, rfl, hd, rfl, (by show 2 ≤ sizeLine; decide), fun p hp => ?_⟩
    have s3 := (s.trans s2).trans (same_upd (o := .tup [.str "name", vm]) hp)
    exact k _ _ s3 (.tup (SqT.of upd_same) (.cons (.str _) (.cons (dp_mono s3 _ _ hm) .nil)))
  | number =>
    intro d' H2 s2 hd
    refine ⟨false, X.mn, fun z => (nomatch z), fun _ => ⟨true, X.mm, fun _ a ha => ?_, fun z => (nomatch z)⟩⟩
    refine ⟨_, rfl, rfl, rfl, d', _, vn, rfl, hd, rfl, (by show 2 ≤ sizeLine; decide), fun p hp => ?_⟩
    have s3 := (s.trans s2).trans (same_upd (o := .tup [.str "number", vn]) hp)
    exact k _ _ s3 (.tup (SqT.of upd_same) (.cons (.str _) (.cons (dp_mono s3 _ _ hn) .nil)))
  | state z =>
    intro d' H2 s2 hd
    refine ⟨false, X.sn, fun z => (nomatch z), fun _ => ⟨false, X.sm, fun z => (nomatch z), fun _ => ⟨true, X.ss, fun _ a ha => ?_, fun z => (nomatch z)⟩⟩⟩
    refine ⟨_, rfl, rfl, rfl, d', _, .str z, rfl, hd, rfl, (by show 2 ≤ sizeLine; decide), fun p hp => ?_⟩
    have s3 := (s.trans s2).trans (same_upd (o := .tup [.str "state", .str z]) hp)
    exact k _ _ s3 (.tup (SqT.of upd_same) (.cons (.str _) (.cons (.str _) .nil)))
section
variable {P : Program} {w : World} {K : PySem.W.Frag} {mg : Str → Option Value} {base : Heap} {S CN CM CS : Addr}
theorem scRefusal : FnScope ["call", "marks", "many", "state", "e"] ["call", "marks", "many", "state"] (defScope (top 40)) := ⟨rfl, rfl, rfl, by decide +kernel, rfl, by decide +kernel, by decide +kernel⟩
theorem ok_refusal (D : Def K mg "_law_refusal" (top 40) ["call", "marks", "many", "state"]) (Z : Errs K mg S CN CM CS) (X : ExF K CN CM CS)
    (GN : Fn P w K mg base (L2.CX P w) 6 "need_state" ["marks", "many", "state"] (spNeed K CN CM CS)) (GS : Fn P w K mg base (L2.CX P w) 7 "shown" ["marks", "many", "state"] (spTell K CN CM CS (goShown K)))
    (GL : Fn P w K mg base (L2.CX P w) 7 "least_form" ["marks", "many", "state"] (spTell K CN CM CS (goLeast K))) : Fn P w K mg base CX0 8 "_law_refusal" ["call", "marks", "many", "state"] (spRefusal K) := by
  obtain ⟨f1, d1, ZN⟩ := Z.name
  obtain ⟨f2, d2, ZM⟩ := Z.number
  obtain ⟨f3, d3, ZS⟩ := Z.state
  refine D.ok scRefusal (fun vs H Q E h => ?_) (fun f cdv A outer s H vs Q E hr h => ?_)
  · obtain ⟨c, vm, vn, v, dm, dn, d, rfl, _⟩ := h
    rfl
  · obtain ⟨c, vm, vn, v, dm, dn, d, rfl, hm, hn, hd, hf, hz, k⟩ := h
    have hr6 : Room 6 (A.deeper (envOfC "_law_refusal" (defScope (top 40)) s.heap.objs.size f cdv)) := hr.mono (by decide)
    refine ⟨_, pss_cons (ps_try_cls (l := clsL S CN CM CS) (Wout := fun _ _ _ _ => False) rfl rfl scRefusal.nd takes0
        (fun W pn xe tk _ => pss_one (ps_if (pt_cmpR op_eq (pv 0) pe_int (nomark _)) (pss_one (ps_expr (pe_fnS GN hr6 (fun σ => passAt tk σ) (pa_cons (pv 1) (pa_cons (pv 2) (pa_cons (pv 3) pa_nil))))))
          (pss_one (ps_if (pt_cmpR op_eq (pv 0) pe_int (nomark _)) (pss_one (ps_expr (pe_fnS GS hr (fun σ => passAt tk σ) (pa_cons (pv 1) (pa_cons (pv 2) (pa_cons (pv 3) pa_nil))))))
            (pss_one (ps_expr (pe_fnS GL hr (fun σ => passAt tk σ) (pa_cons (pv 1) (pa_cons (pv 2) (pa_cons (pv 3) pa_nil))))))))))
        (.named (i := 4) rfl rfl ⟨rfl, by decide, Or.inl ZN.err.gC⟩ (fun a oe cls d pn hz hf => pss_one (ps_ret (pe_tup (pa_cons pe_str (pa_cons (pe_xf X.xn ZN.err.noF hz hf (pv 4)) pa_nil)))))
        (.named (i := 4) rfl rfl ⟨rfl, by decide, Or.inl ZM.err.gC⟩ (fun a oe cls d pn hz hf => pss_one (ps_ret (pe_tup (pa_cons pe_str (pa_cons (pe_xf X.xm ZM.err.noF hz hf (pv 4)) pa_nil)))))
        (.named (i := 4) rfl rfl ⟨rfl, by decide, Or.inl ZS.err.gC⟩ (fun a oe cls d pn hz hf => pss_one (ps_ret (pe_tup (pa_cons pe_str (pa_cons (pe_xf X.xs ZS.err.noF hz hf (pv 4)) pa_nil)))))
        (.bare ⟨rfl, by decide, Or.inl Z.sup.gS⟩ (fun a oe cls d pn hz hf => pss_one (ps_ret (pe_tup (pa_cons pe_str (pa_cons pe_non pa_nil))))) .nil)))))
      (pss_one (ps_ret pe_non)), ?_⟩
    have kn : refusal dm dn d = none → ∀ H', Same H H' → Q .non H' := fun e H' s' => k .non H' s' (by rw [e]; exact .non)
    have ks : ∀ r, refusal dm dn d = some r → ∀ v' H', Same H H' → Dp K H' v' (refD dm dn (some r)) → Q v' H' := fun r e v' H' s' d' => k v' H' s' (by rw [e]; exact d')
    refine ⟨_, rfl, rfl, _, rfl, ?_⟩
    show if decide (V.int c = V.int 0) = true then _ else _
    by_cases c0 : c = 0
    · rw [decide_eq_true (show V.int c = V.int 0 by rw [c0])]
      refine iteT ⟨_, rfl, _, rfl, _, rfl, vm, vn, v, dm, dn, d, rfl, hm, hn, hd, hf, hz, fun H1 s1 => ?_⟩
      cases e : refusal dm dn d with
      | none => exact kn e H1 s1
      | some r =>
        have z := end_ok X (S := S) (D := { nx := fun _ H' => Q .non H', rt := Q }) (c := c) (v := v) hm hn s1 r (ks r e)
        cases r <;> exact z
    · rw [decide_eq_false (fun q => c0 (V.int.inj q))]
      refine iteF ⟨_, rfl, rfl, _, rfl, ?_⟩
      show if decide (V.int c = V.int 1) = true then _ else _
      by_cases c1 : c = 1
      · rw [decide_eq_true (show V.int c = V.int 1 by rw [c1])]
        refine iteT ⟨_, rfl, _, rfl, _, rfl, vm, vn, v, dm, dn, d, rfl, hm, hn, hd, hf, hz, fun r e H1 s1 => ?_, fun cs ws e _ _ v2 H2 _ _ _ s2 _ => kn e H2 s2⟩
        have z := end_ok X (S := S) (D := { nx := fun _ H' => Q .non H', rt := Q }) (c := c) (v := v) hm hn s1 r (ks r e)
        cases r <;> exact z
      · rw [decide_eq_false (fun q => c1 (V.int.inj q))]
        refine iteF ⟨_, rfl, _, rfl, _, rfl, vm, vn, v, dm, dn, d, rfl, hm, hn, hd, hf, hz, fun r e H1 s1 => ?_, fun cs ws e _ _ v2 H2 _ _ _ s2 _ => kn e H2 s2⟩
        have z := end_ok X (S := S) (D := { nx := fun _ H' => Q .non H', rt := Q }) (c := c) (v := v) hm hn s1 r (ks r e)
        cases r <;> exact z
end
end Hs
namespace Hs
open PySem PySem.Spec PyProof.Rows L2
/-! M1: the drawn marks are marks; texts of what is told are short -/
theorem strides_go : ∀ s ∈ strides, ∀ d : Nat, d < 26 → 0 < d → ((d : Int) * s) % 26 ≠ 0 := by decide +kernel
theorem lets_nodup {s sh : Int} {n : Nat} (hs : s ∈ strides) (hn : n ≤ 20) : (lets s sh n).Nodup := by
  unfold lets
  rw [List.nodup_iff_pairwise_ne, List.pairwise_map]
  refine List.pairwise_lt_range.imp_of_mem ?_
  intro a b ha hb hab e
  have hb' := List.mem_range.mp hb
  have m1 := Int.emod_nonneg ((a : Int) * s + sh) (show (26 : Int) ≠ 0 by decide)
  have m2 := Int.emod_nonneg ((b : Int) * s + sh) (show (26 : Int) ≠ 0 by decide)
  have e2 : ((a : Int) * s + sh) % 26 = ((b : Int) * s + sh) % 26 := by omega
  have e4 : (((b - a : Nat) : Int) * s) % 26 = 0 := by
    rw [Int.ofNat_sub (Nat.le_of_lt hab), Int.sub_mul]
    clear m1 m2 e
    generalize (a : Int) * s = x at e2 ⊢
    generalize (b : Int) * s = y at e2 ⊢
    omega
  exact strides_go s hs (b - a) (by omega) (by omega) e4
def Mk (c : Nat) (z : List Nat) : Prop := ∃ ds, z = c :: ds ∧ ds.length ≤ 2 ∧ ∀ d ∈ ds, 48 ≤ d ∧ d ≤ 57
theorem Nm.mk {c : Nat} {z : List Nat} (h : Nm c z) : Mk c (z.take 3) := by
  obtain ⟨ds, rfl, hl, hd⟩ := h
  exact ⟨ds.take 2, rfl, by rw [List.length_take]; omega, fun d hm => hd d (List.mem_of_mem_take hm)⟩
theorem cut3 (z : List Nat) : cutS (SX.S z) none (some 3) = SX.S (z.take 3) := by
  have e : HT.sIx z.length z.length (some 3) = min 3 z.length := rfl
  unfold cutS
  have l : (SX.S z).length = z.length := SX.S_len z
  rw [l, e]
  show (⟨(((z.toArray.toList).drop 0).take (min 3 z.length - 0)).toArray⟩ : Str) = ⟨(z.take 3).toArray⟩
  rw [List.drop_zero, Nat.sub_zero]
  congr 2
  show z.take (min 3 z.length) = z.take 3
  rcases Nat.le_total 3 z.length with h | h
  · rw [Nat.min_eq_left h]
  · rw [Nat.min_eq_right h, List.take_length, List.take_of_length_le h]
theorem lets_range {s sh : Int} {n : Nat} : ∀ c ∈ lets s sh n, 97 ≤ c ∧ c ≤ 122 := fun c hc => by
  obtain ⟨k, _, rfl⟩ := List.mem_map.mp hc
  have m1 := Int.emod_nonneg ((k : Int) * s + sh) (show (26 : Int) ≠ 0 by decide)
  have m2 := Int.emod_lt_of_pos ((k : Int) * s + sh) (show (0 : Int) < 26 by decide)
  omega
theorem letter_in : ∀ c : Nat, c < 123 → 97 ≤ c → c ∈ letters.cps.toList := by decide +kernel
theorem sign_in : ∀ c : Nat, c < 123 → (97 ≤ c ∨ (48 ≤ c ∧ c ≤ 57)) → okSign c = true := by decide +kernel
theorem Mk.name {c : Nat} {z : List Nat} (h : Mk c z) (hc : 97 ≤ c ∧ c ≤ 122) : isNameS (SX.S z) = true := by
  obtain ⟨ds, rfl, hl, hd⟩ := h
  have e1 : (SX.S (c :: ds)).length = ds.length + 1 := by rw [SX.S_len, List.length_cons]
  have e2 : (SX.S (c :: ds)).cps.toList = c :: ds := rfl
  have e3 : ¬ SX.S (c :: ds) = ("nil" : Str) := fun z => by
    have z2 : c :: ds = ("nil" : Str).cps.toList := by rw [← z]
    have z3 : c :: ds = [110, 105, 108] := z2.trans (by decide)
    injection z3 with z4 z5
    have := hd 105 (by rw [z5]; exact List.mem_cons_self)
    omega
  have e4 : (c :: ds).all okSign = true := List.all_eq_true.mpr fun d hm => by
    rcases List.mem_cons.mp hm with q | q
    · rw [q]
      exact sign_in c (by omega) (.inl hc.1)
    · have := hd d q
      exact sign_in d (by omega) (.inr this)
  unfold isNameS
  rw [e1, e2, decide_eq_true (show 1 ≤ ds.length + 1 ∧ ds.length + 1 ≤ 8 by omega), decide_eq_false e3, e4]
  show (true && !false && decide (c ∈ letters.cps.toList) && true) = true
  rw [decide_eq_true (letter_in c (by omega) hc.1)]
  rfl
theorem mks_nodup : ∀ {cs : List Nat} {zs : List (List Nat)}, Paired Mk cs zs → cs.Nodup → (zs.map SX.S).Nodup
  | [], [], .nil, _ => List.nodup_nil
  | c :: cs, z :: zs, .cons h r, hn => by
    obtain ⟨h1, h2⟩ := List.nodup_cons.mp hn
    rw [List.map_cons]
    refine List.nodup_cons.mpr ⟨fun hm => ?_, mks_nodup r h2⟩
    obtain ⟨z2, hz2, e⟩ := List.mem_map.mp hm
    have e2 := SX.S_inj e
    have key : ∀ {cs : List Nat} {zs : List (List Nat)}, Paired Mk cs zs → ∀ z ∈ zs, ∃ c ∈ cs, Mk c z := by
      intro cs zs p
      induction p with
      | nil => exact fun _ h => nomatch h
      | cons a b ih =>
        intro z hz
        rcases List.mem_cons.mp hz with q | q
        · rw [q]
          exact ⟨_, List.mem_cons_self, a⟩
        · obtain ⟨c, hc, hm⟩ := ih z q
          exact ⟨c, List.mem_cons_of_mem _ hc, hm⟩
    obtain ⟨c2, hc2, ds2, e3, _⟩ := key r z2 hz2
    obtain ⟨ds, e4, _⟩ := h
    rw [e3, e4] at e2
    injection e2 with e5 _
    rw [e5] at hc2
    exact h1 hc2
/-- what is known of drawn marks -/
structure Marks (mk : Str) (ms : List Str) : Prop where
  len : ms.length ≤ 3
  names : areNames (.tuple ((mk :: ms).map PyData.str)) 1 4 = true
  nd : (mk :: ms).Nodup
  short : ∀ s ∈ mk :: ms, s.length ≤ 3 ∧ ∀ c ∈ s.cps.toList, c < 128
  no1 : (mk ++ "z") ∉ mk :: ms
  no2 : ("" : Str) ∉ mk :: ms
  no3 : ("A b" : Str) ∉ mk :: ms
  no4 : ("abcdefghi" : Str) ∉ mk :: ms
theorem paired_mem {α β : Type} {R : α → β → Prop} : ∀ {l : List α} {m : List β}, Paired R l m → ∀ b ∈ m, ∃ a ∈ l, R a b
  | [], [], .nil => fun _ h => nomatch h
  | a :: l, b :: m, .cons h r => fun c hc => by
    rcases List.mem_cons.mp hc with q | q
    · rw [q]
      exact ⟨a, List.mem_cons_self, h⟩
    · obtain ⟨x, hx, hr⟩ := paired_mem r c q
      exact ⟨x, List.mem_cons_of_mem _ hx, hr⟩
theorem marks_ok {s sh : Int} {n : Nat} {zs : List (List Nat)} (hs : s ∈ strides) (h1 : 1 ≤ n) (h4 : n ≤ 4) (h : Paired Nm (lets s sh n) zs) : ∃ mk ms, zs.map (fun z => SX.S (z.take 3)) = mk :: ms ∧ Marks mk ms := by
  have hp : Paired Mk (lets s sh n) (zs.map fun z => z.take 3) := by
    have go : ∀ {cs : List Nat} {zs : List (List Nat)}, Paired Nm cs zs → Paired Mk cs (zs.map fun z => z.take 3) := by
      intro cs zs p
      induction p with
      | nil => exact .nil
      | cons a b ih => exact .cons a.mk ih
    exact go h
  have hl : zs.length = n := by
    have z := Paired.length h
    unfold lets at z
    rw [List.length_map, List.length_range] at z
    exact z.symm
  have all : ∀ t ∈ zs.map (fun z => SX.S (z.take 3)), ∃ c z, t = SX.S z ∧ (97 ≤ c ∧ c ≤ 122) ∧ Mk c z := fun t ht => by
    obtain ⟨z, hz, rfl⟩ := List.mem_map.mp ht
    obtain ⟨c, hc, hm⟩ := paired_mem hp (z.take 3) (List.mem_map.mpr ⟨z, hz, rfl⟩)
    exact ⟨c, z.take 3, rfl, lets_range c hc, hm⟩
  have nd : (zs.map (fun z => SX.S (z.take 3))).Nodup := by
    have z := mks_nodup hp (lets_nodup hs (by omega))
    rw [List.map_map] at z
    exact z
  have hl2 : (zs.map (fun z => SX.S (z.take 3))).length = n := by rw [List.length_map, hl]
  generalize zs.map (fun z => SX.S (z.take 3)) = ts at all nd hl2
  match ts, hl2, all, nd with
  | [], hl2, _, _ =>
    have z : 0 = n := hl2
    omega
  | mk :: ms, hl2, all, nd =>
    rw [List.length_cons] at hl2
    refine ⟨mk, ms, rfl, by omega, ?_, nd, fun t ht => ?_, fun z => ?_, fun z => ?_, fun z => ?_, fun z => ?_⟩
    · have e1 : ((mk :: ms).map PyData.str).all isName = true := List.all_eq_true.mpr fun d hd => by
        obtain ⟨t, ht, rfl⟩ := List.mem_map.mp hd
        obtain ⟨c, z, rfl, hc, hm⟩ := all t ht
        exact hm.name hc
      have e2 : ((mk :: ms).map PyData.str).map strOf = mk :: ms := by
        rw [List.map_map]
        exact List.map_id' _
      show (decide ((1 : Int) ≤ (((mk :: ms).map PyData.str).length : Int) ∧ (((mk :: ms).map PyData.str).length : Int) ≤ 4) && (((mk :: ms).map PyData.str).all isName && decide ((((mk :: ms).map PyData.str).map strOf).Nodup))) = true
      rw [e1, e2, decide_eq_true nd, List.length_map, List.length_cons, decide_eq_true (by omega)]
      rfl
    · obtain ⟨c, z, rfl, hc, ds, rfl, hd1, hd2⟩ := all t ht
      refine ⟨by rw [SX.S_len, List.length_cons]; omega, fun d hd => ?_⟩
      have hd' : d ∈ c :: ds := hd
      rcases List.mem_cons.mp hd' with q | q
      · omega
      · have := hd2 d q
        omega
    · obtain ⟨c, y, e, hc, ds, rfl, hd1, hd2⟩ := all _ z
      obtain ⟨c0, y0, e0, hc0, ds0, rfl, _, _⟩ := all mk List.mem_cons_self
      rw [e0] at e
      have e' : SX.S (c0 :: ds0) ++ SX.S [122] = SX.S (c :: ds) := e
      rw [SX.S_cat] at e'
      have e3 := SX.S_inj e'
      rw [List.cons_append] at e3
      injection e3 with _ e4
      have := hd2 122 (by rw [← e4]; exact List.mem_append_right _ (List.mem_singleton.mpr rfl))
      omega
    · obtain ⟨c, y, e, hc, ds, rfl, _⟩ := all _ z
      have e2 := congrArg (fun s : Str => s.cps.toList) e
      have e3 : ([] : List Nat) = c :: ds := e2
      cases e3
    · obtain ⟨c, y, e, hc, ds, rfl, _⟩ := all _ z
      have e2 := congrArg (fun s : Str => s.cps.toList) e
      have e3 : [65, 32, 98] = c :: ds := (show [65, 32, 98] = ("A b" : Str).cps.toList by decide).trans e2
      injection e3 with e4
      omega
    · obtain ⟨c, y, e, hc, ds, rfl, hl3, _⟩ := all _ z
      have e2 := congrArg Str.length e
      have e3 : ("abcdefghi" : Str).length = 9 := by decide
      rw [e3, SX.S_len, List.length_cons] at e2
      omega
/-! ### short texts -/
theorem tupleText_le (ts : List Str) : (tupleText ts).length ≤ piled ts + 4 := by
  unfold tupleText
  rw [strLen_append, strLen_append]
  have h1 : (Str.join ", " ts).length ≤ piled ts := by
    by_cases c : ts = []
    · rw [c]
      decide
    · have := join_length_add ts c
      omega
  have h2 : ((if ts.length == 1 then ",)" else ")" : String) : Str).length ≤ 2 := by
    split <;> decide
  have h3 : ("(" : Str).length = 1 := by decide
  omega
end Hs
namespace Hs
open PySem PySem.Spec PyProof.Rows L2
/-! M2: wrong marks, wrong numbers; what is told has a short text -/
structure Tell (d : PyData) : Prop where
  s : d.showable = true
  h : d.hasDict = false
  dp : d.depth ≤ 64
  l : d.shown.length ≤ sizeLine
def bdsM (mk : Str) (ms : List Str) : List PyData := [.tuple ((mk :: ms).map PyData.str ++ [.str mk]), .tuple [], .list [.str "a"], .tuple [.str "A"], .tuple [.str "nil"], .tuple [.str "a", .str "b", .str "c", .str "d", .str "e"], .int 7, .tuple [.str "abcdefghi"], .tuple [.str "a\n"], .tuple [.list [.str "a"]]]
def bdsN : List PyData := [.int 0, .int 6, .bool true, .str "2", .int (-1), .none, .list [.int 1]]
theorem shown_strs : ∀ l : List Str, PyData.shownAll (l.map PyData.str) = l.map reprText
  | [] => by simp only [List.map_nil, PyData.shownAll]
  | x :: l => by simp only [List.map_cons, PyData.shownAll, PyData.shown, shown_strs l]
theorem showable_strs : ∀ l : List Str, PyData.showableAll (l.map PyData.str) = true
  | [] => by simp only [List.map_nil, PyData.showableAll]
  | x :: l => by simp only [List.map_cons, PyData.showableAll, PyData.showable, showable_strs l, Bool.and_self]
theorem noDict_strs : ∀ l : List Str, PyData.hasDictAll (l.map PyData.str) = false
  | [] => by simp only [List.map_nil, PyData.hasDictAll]
  | x :: l => by simp only [List.map_cons, PyData.hasDictAll, PyData.hasDict, noDict_strs l, Bool.or_self]
theorem depth_strs : ∀ l : List Str, PyData.depthAll (l.map PyData.str) ≤ 1
  | [] => by simp [PyData.depthAll]
  | x :: l => by
    have := depth_strs l
    simp [PyData.depthAll, PyData.depth] at this ⊢
    omega
theorem tell_state : ∀ z ∈ ([("form" : Str), "heap", "values"] : List Str), Tell (.tuple [.str "state", .str z]) := by
  intro z hz
  rcases List.mem_cons.mp hz with rfl | hz
  · exact ⟨by decide +kernel, by decide +kernel, by decide +kernel, by decide +kernel⟩
  rcases List.mem_cons.mp hz with rfl | hz
  · exact ⟨by decide +kernel, by decide +kernel, by decide +kernel, by decide +kernel⟩
  rcases List.mem_cons.mp hz with rfl | hz
  · exact ⟨by decide +kernel, by decide +kernel, by decide +kernel, by decide +kernel⟩
  · cases hz
theorem tell_num : ∀ d ∈ bdsN, isBetween d 1 5 = false ∧ Tell (.tuple [.str "number", d]) := by
  intro d hd
  unfold bdsN at hd
  simp only [List.mem_cons, List.not_mem_nil, or_false] at hd
  rcases hd with rfl | rfl | rfl | rfl | rfl | rfl | rfl <;> exact ⟨by decide +kernel, by decide +kernel, by decide +kernel, by decide +kernel, by decide +kernel⟩
theorem fits_no {d : PyData} (h : ∀ xs, d ≠ .tuple xs) : Fits d := fun xs e => absurd e (h xs)
theorem fits_strs {l : List Str} (h1 : l.length ≤ 1000) (h : ∀ s ∈ l, s.length ≤ 1000) : Fits (.tuple (l.map PyData.str)) := fun xs e => by
  injection e with e
  subst e
  refine ⟨by rw [List.length_map]; exact h1, fun s hs => ?_⟩
  obtain ⟨t, ht, e⟩ := List.mem_map.mp hs
  injection e with e
  rw [← e]
  exact Nat.le_of_lt (small1000 (h t ht))
theorem tell_strs {l : List Str} (h1 : l.length ≤ 5) (h : ∀ s ∈ l, s.length ≤ 3 ∧ ∀ c ∈ s.cps.toList, c < 128) : Tell (.tuple [.str "name", .tuple (l.map PyData.str)]) := by
  refine ⟨?_, ?_, ?_, ?_⟩
  · simp only [PyData.showable, PyData.showableAll, showable_strs, Bool.and_self]
  · simp only [PyData.hasDict, PyData.hasDictAll, noDict_strs, Bool.or_self]
  · have := depth_strs l
    simp only [PyData.depth, PyData.depthAll]
    omega
  · have p : piled (l.map reprText) ≤ 34 * l.length := by
      clear h1
      induction l with
      | nil => exact Nat.le_refl _
      | cons x l ih =>
        rw [List.map_cons, piled_cons, List.length_cons]
        have a := ih fun s hs => h s (List.mem_cons_of_mem _ hs)
        have b := h x List.mem_cons_self
        have c := PySem.StrLaws.reprText_len x fun c hc => by
          have := b.2 c hc
          have e : (16 : Nat) ^ 8 = 4294967296 := by decide
          omega
        omega
    have q := tupleText_le (l.map reprText)
    have e : (PyData.tuple [.str "name", .tuple (l.map PyData.str)]).shown = tupleText [reprText "name", tupleText (l.map reprText)] := by
      simp only [PyData.shown, PyData.shownAll, shown_strs]
    rw [e]
    have r := tupleText_le [reprText "name", tupleText (l.map reprText)]
    rw [piled_cons, piled_cons, piled_nil] at r
    have s : (reprText "name").length ≤ 20 := by decide +kernel
    have t : sizeLine = 16777216 := sizeLine_eq
    omega
theorem tell_marks {mk : Str} {ms : List Str} (h : Marks mk ms) : ∀ d ∈ bdsM mk ms, areNames d 1 4 = false ∧ Fits d ∧ Tell (.tuple [.str "name", d]) := by
  intro d hd
  unfold bdsM at hd
  simp only [List.mem_cons, List.not_mem_nil, or_false] at hd
  have e0 : (mk :: ms).map PyData.str ++ [PyData.str mk] = ((mk :: ms) ++ [mk]).map PyData.str := by
    rw [List.map_append]
    rfl
  have fs : ∀ l : List Str, l.length ≤ 1000 → (∀ s ∈ l, s.length ≤ 1000) → Fits (.tuple (l.map PyData.str)) := fun l h1 h => fits_strs h1 h
  rcases hd with rfl | rfl | rfl | rfl | rfl | rfl | rfl | rfl | rfl | rfl
  · rw [e0]
    have hl := h.len
    have sh : ∀ s ∈ (mk :: ms) ++ [mk], s.length ≤ 3 ∧ ∀ c ∈ s.cps.toList, c < 128 := fun s hs => by
      rcases List.mem_append.mp hs with q | q
      · exact h.short s q
      · rw [List.mem_singleton] at q
        rw [q]
        exact h.short mk List.mem_cons_self
    refine ⟨?_, fits_strs (by rw [List.length_append, List.length_cons]; show _ + 1 ≤ 1000; omega) (fun s hs => by have := (sh s hs).1; omega), tell_strs (by rw [List.length_append, List.length_cons]; show _ + 1 ≤ 5; omega) sh⟩
    have e1 : ((((mk :: ms) ++ [mk]).map PyData.str).map strOf) = (mk :: ms) ++ [mk] := by
      rw [List.map_map]
      exact List.map_id' _
    have e2 : ¬ ((mk :: ms) ++ [mk]).Nodup := fun z => (List.nodup_cons.mp z).1 (List.mem_append_right _ (List.mem_singleton.mpr rfl))
    show (decide _ && (_ && decide ((((mk :: ms) ++ [mk]).map PyData.str).map strOf).Nodup)) = false
    rw [e1, decide_eq_false e2, Bool.and_false, Bool.and_false]
  · exact ⟨by decide +kernel, fs [] (by decide) (fun _ z => (nomatch z)), by decide +kernel, by decide +kernel, by decide +kernel, by decide +kernel⟩
  · exact ⟨by decide +kernel, fits_no (fun _ z => (nomatch z)), by decide +kernel, by decide +kernel, by decide +kernel, by decide +kernel⟩
  · exact ⟨by decide +kernel, fs ["A"] (by decide) (by decide +kernel), by decide +kernel, by decide +kernel, by decide +kernel, by decide +kernel⟩
  · exact ⟨by decide +kernel, fs ["nil"] (by decide) (by decide +kernel), by decide +kernel, by decide +kernel, by decide +kernel, by decide +kernel⟩
  · exact ⟨by decide +kernel, fs ["a", "b", "c", "d", "e"] (by decide) (by decide +kernel), by decide +kernel, by decide +kernel, by decide +kernel, by decide +kernel⟩
  · exact ⟨by decide +kernel, fits_no (fun _ z => (nomatch z)), by decide +kernel, by decide +kernel, by decide +kernel, by decide +kernel⟩
  · exact ⟨by decide +kernel, fs ["abcdefghi"] (by decide) (by decide +kernel), by decide +kernel, by decide +kernel, by decide +kernel, by decide +kernel⟩
  · exact ⟨by decide +kernel, fs ["a\n"] (by decide) (by decide +kernel), by decide +kernel, by decide +kernel, by decide +kernel, by decide +kernel⟩
  · refine ⟨by decide +kernel, fun xs e => ?_, by decide +kernel, by decide +kernel, by decide +kernel, by decide +kernel⟩
    injection e with e
    subst e
    refine ⟨by decide, fun s hs => ?_⟩
    rw [List.mem_singleton] at hs
    cases hs
end Hs
namespace Hs
open PySem PySem.Spec PyProof.Rows L2
/-! X2: the law -/
theorem eqv_tup0 : ∀ l : List PyData, PyData.eqv (.tuple l) (.tuple []) = decide (l = [])
  | [] => rfl
  | _ :: _ => rfl
theorem shaped_cells (cs : List Cell) (h : ∀ c ∈ cs, PyData.strOk c.2.1 = true) : SeqAt.shaped (.tuple (cs.map cellD)) = true := by
  have h1 : PyData.canLayAll0 (cs.map cellD) = true := by
    induction cs with
    | nil => simp [PyData.canLayAll0]
    | cons a l ih =>
      rw [List.map_cons]
      simp [PyData.canLayAll0, PyData.canLay0, cellD, ih fun c hc => h c (List.mem_cons_of_mem _ hc), h a List.mem_cons_self]
  have h2 : PyData.depthAll (cs.map cellD) ≤ 2 := by
    clear h1 h
    induction cs with
    | nil => simp [PyData.depthAll]
    | cons a l ih =>
      rw [List.map_cons]
      simp [PyData.depthAll, PyData.depth, cellD] at ih ⊢
      omega
  unfold SeqAt.shaped
  rw [Bool.and_eq_true]
  refine ⟨?_, decide_eq_true ?_⟩
  · simp only [PyData.canLay0]
    exact h1
  · simp only [PyData.depth]
    omega
section
variable {mk : Str} {ms : List Str} {n : Nat}
abbrev mkD (mk : Str) (ms : List Str) : PyData := .tuple ((mk :: ms).map PyData.str)
theorem ref_look (M : Marks mk ms) (h1 : 1 ≤ n) (h5 : n ≤ 5) (d : PyData) : refusal (mkD mk ms) (.int (n : Int)) d = (lookAt (mk :: ms) n d).map Ref.state := by
  unfold refusal
  rw [if_pos M.names, if_pos (between_int (by omega)), strsOf_strs]
  rfl
theorem ref_oky (M : Marks mk ms) (h1 : 1 ≤ n) (h5 : n ≤ 5) {cs : List Cell} {ws : List Int} (h : Oky (mk :: ms) n cs ws) : refusal (mkD mk ms) (.int (n : Int)) (stD cs ws) = none := by
  rw [ref_look M h1 h5, look_oky h]
  rfl
theorem ref_five (M : Marks mk ms) {cs : List Cell} {ws : List Int} (h : Oky (mk :: ms) 5 cs ws) : refusal (mkD mk ms) (.int 5) (stD cs ws) = none := ref_oky (n := 5) M (by decide) (by decide) h
theorem ref_name {dm dn d : PyData} (h : areNames dm 1 4 = false) : refusal dm dn d = some .name := by
  unfold refusal
  rw [h]
  rfl
theorem ref_num (M : Marks mk ms) {dn d : PyData} (h : isBetween dn 1 5 = false) : refusal (mkD mk ms) dn d = some .number := by
  unfold refusal
  rw [if_pos M.names, h]
  rfl
theorem fits_marks (M : Marks mk ms) : Fits (mkD mk ms) := fits_strs (by have := M.len; rw [List.length_cons]; omega) (fun s hs => by have := (M.short s hs).1; omega)
theorem size_st {cs : List Cell} {ws : List Int} (h : ws.length ≤ 1000) : SizeOk (stD cs ws) := size2 (by rw [List.length_map]; exact h)
def keepC (c : Cell) : Bool := decide (c.1 < 997) && decide (1 < c.1)
theorem sml_of (M : Marks mk ms) (h1 : 1 ≤ n) (h5 : n ≤ 5) {cs : List Cell} {ws : List Int} (g : GoodSt (mk :: ms) n cs ws) (h : cs.filter keepC ≠ []) : Sml mk ms n (cs.filter keepC) ws := by
  have hl := List.length_filter_le keepC cs
  have gl := g.len
  have sub : ((cs.filter keepC).map (·.1)).Pairwise (· < ·) := g.asc.sublist (List.filter_sublist.map _)
  refine ⟨h1, by omega, h, sub, by omega, fun c hc => ?_, fun v hv => by have := g.val v hv; omega, g.many, by have := (M.short mk List.mem_cons_self).1; omega, M.no1, M.no2, M.no3, M.no4⟩
  obtain ⟨hm, hk⟩ := List.mem_filter.mp hc
  have z := g.cell c hm
  have k1 : (decide (c.1 < 997) && decide (1 < c.1)) = true := hk
  rw [Bool.and_eq_true] at k1
  have k2 := of_decide_eq_true k1.1
  have k3 := of_decide_eq_true k1.2
  exact ⟨by omega, by omega, z.2.2.1, z.2.2.2.1, by omega⟩
theorem sml_two (M : Marks mk ms) (h1 : 1 ≤ n) (h5 : n ≤ 5) {cs : List Cell} {ws : List Int} (g : GoodSt (mk :: ms) n cs ws) : Sml mk ms n [(2, mk, 0)] ws :=
  ⟨h1, by omega, List.cons_ne_nil _ _, List.pairwise_singleton _ _, (by show 1 ≤ 20; decide), fm ⟨by show (2 : Int) ≤ 2; decide, by show (2 : Int) ≤ 996; decide, List.mem_cons_self, by show (0 : Int) ≤ 0; decide, by show (0 : Int) ≤ 999; decide⟩ fm0, fun v hv => by have := g.val v hv; omega, g.many,
    by have := (M.short mk List.mem_cons_self).1; omega, M.no1, M.no2, M.no3, M.no4⟩
end
theorem notNon {A B : Prop} (h : B) : if (!decide (V.non = V.non)) = true then A else B := by
  rw [decide_eq_true rfl]
  exact iteF h
theorem neSame {A B : Prop} (z : Str) (h : B) : if (!decide (V.str z = V.str z)) = true then A else B := by
  rw [decide_eq_true rfl]
  exact iteF h
abbrev nmLaw : List Str := ["script", "m", "marks", "many", "state", "edge", "call", "small", "wrongs", "bad_marks", "bad_many", "wrong", "place", "name", "cell"]
theorem scLaw : FnScope nmLaw ["script"] (defScope (top 41)) := ⟨rfl, rfl, rfl, by decide +kernel, rfl, by decide +kernel, by decide +kernel⟩
def spLaw (K : PySem.W.Frag) : Sp := fun vs H Q _ => ∃ (a : Addr) (ns : List Int), vs = [.ref a] ∧ SqL K H a (ns.map V.int) ∧ ns.length ≤ 63 ∧ ∀ H', Q (.bl true) H'
section
variable {P : Program} {w : World} {K : PySem.W.Frag} {mg : Str → Option Value} {base : Heap} {S CN CM CS : Addr}
theorem law_g {f : Addr} {fd : FuncData} (F : Fun K "law" "law" (top 41) f fd) (T : Txt mg)
    (GB : Fn P w K mg base CX0 1 "_law_begun" ["script"] (spBegun K)) (GN : Fn P w K mg base CX0 1 "_law_next" ["m", "many"] spNext) (GO : Fn P w K mg base CX0 2 "_law_of" ["m", "some"] (spOf K))
    (GA : Fn P w K mg base CX0 2 "_law_names" ["m", "many"] spNamesOf) (GS : Fn P w K mg base CX0 3 "_law_state" ["m", "marks", "many", "most"] (spState K)) (GE : Fn P w K mg base CX0 2 "_law_edge" ["m", "marks"] (spEdge K))
    (GW : Fn P w K mg base CX0 1 "_law_wrongs" ["m", "marks", "state"] (spWrongs K)) (GR : Fn P w K mg base CX0 8 "_law_refusal" ["call", "marks", "many", "state"] (spRefusal K))
    (GD : Fn P w K mg base (L2.CX P w) 6 "need_state" ["marks", "many", "state"] (spNeed K CN CM CS)) : FnG P w K mg base CX0 9 f fd ["script"] (spLaw K) := by
  obtain ⟨oc, od, kV, doc, pm0, an, cdv, ct, osl, rfl, lk, hcd⟩ := F.ex
  refine fn_g lk hcd scLaw (fun vs H Q E h => ?_) (fun A outer s H vs Q E hr hg h => ?_)
  · obtain ⟨a, ns, rfl, _⟩ := h
    rfl
  · obtain ⟨a, ns, rfl, ha, hz, k⟩ := h
    have hr1 : Room 1 (A.deeper (envOfC "law" (defScope (top 41)) s.heap.objs.size f cdv)) := hr.mono (by decide)
    have hr2 : Room 2 (A.deeper (envOfC "law" (defScope (top 41)) s.heap.objs.size f cdv)) := hr.mono (by decide)
    have hr3 : Room 3 (A.deeper (envOfC "law" (defScope (top 41)) s.heap.objs.size f cdv)) := hr.mono (by decide)
    have hr6 : Room 6 (A.deeper (envOfC "law" (defScope (top 41)) s.heap.objs.size f cdv)) := hr.mono (by decide)
    have hu66 : (A.deeper (envOfC "law" (defScope (top 41)) s.heap.objs.size f cdv)).units + 66 < cLine := by
      have := hr.un
      omega
    suffices hh : ∃ t, PSs (cxOf CX0 P w K mg base nmLaw "law" (defScope (top 41)) f cdv A outer s H E).nox (defBody (top 41)) t ∧ t { nx := fun _ H' => Q .non H', rt := Q } (start nmLaw [.ref a]) H by
      obtain ⟨t, ht, hq⟩ := hh
      exact ⟨t, ht.nox, hq⟩
    refine ⟨_, pss_cons (ps_set (i := 1) scLaw.nd rfl (Or.inl rfl) (pe_fn GB hr1 pass0 (pa_cons (pv 0) pa_nil)))
      (pss_cons (ps_set (i := 2) scLaw.nd rfl (Or.inl rfl) (pe_callTy call_tuple_of (by rfl) T.tuple boot_tuple (pa_cons
        (pe_lc (own := [("name", 13)]) (g := gName 13) (tt := tYes) rfl scLaw.nd (pi_tup (pe_fn GA hr2 pass0 (pa_cons (pv 1) (pa_cons (pe_op op_add pe_int (pe_fn GN hr1 pass0 (pa_cons (pv 1) (pa_cons pe_int pa_nil)))) pa_nil)))) (blkOk_by (N := nmLaw) (sc := defScope (top 41)) (by decide +kernel))
          (fun _ _ _ _ _ => pg_name (i := 13) scLaw.nd rfl (Or.inl rfl)) (fun _ _ _ _ _ => pts_nil) (fun _ _ _ _ _ => pe_slice sl_str (pv 13) po_none (po_some pe_int))) pa_nil)))
      (pss_cons (ps_set (i := 3) scLaw.nd rfl (Or.inl rfl) (pe_op op_add pe_int (pe_fn GN hr1 pass0 (pa_cons (pv 1) (pa_cons pe_int pa_nil)))))
      (pss_cons (ps_set (i := 4) scLaw.nd rfl (Or.inl rfl) (pe_fn GS hr3 pass0 (pa_cons (pv 1) (pa_cons (pv 2) (pa_cons (pv 3) (pa_cons pe_int pa_nil))))))
      (pss_cons (ps_set (i := 5) scLaw.nd rfl (Or.inl rfl) (pe_fn GE hr2 pass0 (pa_cons (pv 1) (pa_cons (pv 2) pa_nil))))
      (pss_cons (ps_for PassesOwn.never rfl (pi_range1 (by rfl) T.range (pa_cons pe_int pa_nil)) (pg_name (i := 6) scLaw.nd rfl (Or.inl rfl))
        (pss_one (ps_if (PW.pt (pw_or (pt_cmpR op_notN (pe_fn GR hr pass0 (pa_cons (pv 6) (pa_cons (pv 2) (pa_cons (pv 3) (pa_cons (pv 4) pa_nil))))) pe_non (nomark _)) (pw_or1 (pt_cmpR op_notN (pe_fn GR hr pass0 (pa_cons (pv 6) (pa_cons (pv 2) (pa_cons pe_int (pa_cons (pv 5) pa_nil))))) pe_non (nomark _)))))
          (pss_one (ps_ret pe_bl)) pss_nil)))
      (pss_cons (ps_if (pt_cmpR op_notN (pe_fn GD hr6 (E := fun _ _ _ => False) (passes_call (W := fun _ _ _ _ => False) takes0 (fun _ _ _ _ h => h)) (pa_cons (pv 2) (pa_cons (pv 3) (pa_cons (pv 4) pa_nil)))) pe_non (nomark _)) (pss_one (ps_ret pe_bl)) pss_nil)
      (pss_cons (ps_set (i := 7) scLaw.nd rfl (Or.inl rfl) (pe_tup (pa_cons (pe_callTy call_tuple_of (by rfl) T.tuple boot_tuple (pa_cons
        (pe_lc (own := [("cell", 14)]) (g := gName 14) rfl scLaw.nd (pi_tup (pe_ix (r := rIxT K) ix_tup (pv 4) pe_int (fun _ _ => rfl))) (blkOk_by (N := nmLaw) (sc := defScope (top 41)) (by decide +kernel))
          (fun _ _ _ _ _ => pg_name (i := 14) scLaw.nd rfl (Or.inl rfl)) (fun _ _ _ _ _ => pts_one (PW.pt (pw_and (pt_cmpR op_lt (pe_ix (r := rIxT K) ix_tup (pv 14) pe_int (fun _ _ => rfl)) pe_int (nomark _)) (pw_and1 (pt_cmpR op_gt (pe_ix (r := rIxT K) ix_tup (pv 14) pe_int (fun _ _ => rfl)) pe_int (nomark _))))))
          (fun _ _ _ _ _ => pv 14)) pa_nil)) (pa_cons (pe_ix (r := rIxT K) ix_tup (pv 4) pe_int (fun _ _ => rfl)) pa_nil))))
      (pss_cons (ps_set (i := 7) scLaw.nd rfl (Or.inl rfl) (pe_ifExp (pt_cmpR (op_eqD hr.units) (pe_ix (r := rIxT K) ix_tup (pv 7) pe_int (fun _ _ => rfl)) (pe_tup pa_nil) (nomark _))
        (pe_tup (pa_cons (pe_tup (pa_cons (pe_tup (pa_cons pe_int (pa_cons (pe_ix (r := rIxT K) ix_tup (pv 2) pe_int (fun _ _ => rfl)) (pa_cons pe_int pa_nil)))) pa_nil)) (pa_cons (pe_ix (r := rIxT K) ix_tup (pv 7) pe_int (fun _ _ => rfl)) pa_nil))) (pv 7)))
      (pss_cons (ps_set (i := 8) scLaw.nd rfl (Or.inl rfl) (pe_fn GW hr1 pass0 (pa_cons (pv 1) (pa_cons (pv 2) (pa_cons (pv 7) pa_nil)))))
      (pss_cons (ps_set (i := 9) scLaw.nd rfl (Or.inl rfl) (pe_fn GO hr2 pass0 (pa_cons (pv 1) (pa_cons (pe_lst (pa_cons (pe_op op_catA (pv 2) (pe_tup (pa_cons (pe_ix (r := rIxT K) ix_tup (pv 2) pe_int (fun _ _ => rfl)) pa_nil))) (pa_cons (pe_tup pa_nil) (pa_cons (pe_lst (pa_cons pe_str pa_nil)) (pa_cons (pe_tup (pa_cons pe_str pa_nil))
        (pa_cons (pe_tup (pa_cons pe_str pa_nil)) (pa_cons (pe_tup (pa_cons pe_str (pa_cons pe_str (pa_cons pe_str (pa_cons pe_str (pa_cons pe_str pa_nil)))))) (pa_cons pe_int (pa_cons (pe_tup (pa_cons pe_str pa_nil)) (pa_cons (pe_tup (pa_cons pe_str pa_nil)) (pa_cons (pe_tup (pa_cons (pe_lst (pa_cons pe_str pa_nil)) pa_nil)) pa_nil))))))))))) pa_nil))))
      (pss_cons (ps_set (i := 10) scLaw.nd rfl (Or.inl rfl) (pe_fn GO hr2 pass0 (pa_cons (pv 1) (pa_cons (pe_lst (pa_cons pe_int (pa_cons pe_int (pa_cons pe_bl (pa_cons pe_str (pa_cons (pe_un un_neg pe_int) (pa_cons pe_non (pa_cons (pe_lst (pa_cons pe_int pa_nil)) pa_nil)))))))) pa_nil))))
      (pss_cons (ps_for PassesOwn.never rfl (pi_range1 (by rfl) T.range (pa_cons pe_int pa_nil)) (pg_name (i := 6) scLaw.nd rfl (Or.inl rfl))
        (pss_cons (ps_for PassesOwn.never rfl (pi_list (pv 8)) (pg_tup rfl (pgs_cons (pg_name (i := 11) scLaw.nd rfl (Or.inl rfl)) (pgs_cons (pg_name (i := 12) scLaw.nd rfl (Or.inl rfl)) pgs_nil)))
          (pss_one (ps_if (pt_cmpR op_ne (pe_callB (call_reprD hg hu66) (by rfl) T.repr (by decide +kernel) (pa_cons (pe_fn GR hr pass0 (pa_cons (pv 6) (pa_cons (pv 2) (pa_cons (pv 3) (pa_cons (pv 11) pa_nil))))) pa_nil)) (pe_callB (call_reprD hg hu66) (by rfl) T.repr (by decide +kernel) (pa_cons (pe_tup (pa_cons pe_str (pa_cons (pv 12) pa_nil))) pa_nil)) (nomark _))
            (pss_one (ps_ret pe_bl)) pss_nil)))
        (pss_cons (ps_if (pt_cmpR op_ne (pe_callB (call_reprD hg hu66) (by rfl) T.repr (by decide +kernel) (pa_cons (pe_fn GR hr pass0 (pa_cons (pv 6) (pa_cons (pv 9) (pa_cons (pv 10) (pa_cons (pv 11) pa_nil))))) pa_nil)) (pe_callB (call_reprD hg hu66) (by rfl) T.repr (by decide +kernel) (pa_cons (pe_tup (pa_cons pe_str (pa_cons (pv 9) pa_nil))) pa_nil)) (nomark _))
            (pss_one (ps_ret pe_bl)) pss_nil)
        (pss_one (ps_if (pt_cmpR op_ne (pe_callB (call_reprD hg hu66) (by rfl) T.repr (by decide +kernel) (pa_cons (pe_fn GR hr pass0 (pa_cons (pv 6) (pa_cons (pv 2) (pa_cons (pv 10) (pa_cons (pv 11) pa_nil))))) pa_nil)) (pe_callB (call_reprD hg hu66) (by rfl) T.repr (by decide +kernel) (pa_cons (pe_tup (pa_cons pe_str (pa_cons (pv 10) pa_nil))) pa_nil)) (nomark _))
            (pss_one (ps_ret pe_bl)) pss_nil)))))
      (pss_one (ps_ret pe_bl)))))))))))))), ?_⟩
    refine ⟨_, rfl, a, ns, rfl, ha, hz, fun am H1 d1 => ?_⟩
    -- marks
    refine ⟨_, rfl, _, rfl, am, 4, H, 0, rfl, by decide, by decide, d1, by decide, fun r H2 r0 r1 d2 => ⟨_, _, rfl, rfl, ?_⟩⟩
    obtain ⟨rn, rfl⟩ := Int.eq_ofNat_of_zero_le r0
    have en : (1 : Int) + (rn : Int) = ((1 + rn : Nat) : Int) := by omega
    refine ⟨am, 1 + rn, H, 0 + 1, (show [V.ref am, V.int (1 + (rn : Int))] = _ by rw [en]), by omega, d2, by decide, fun p zs st sh F3 H3 hst hsh hzs s3 hp d3 => ⟨p, rfl, ⟨_, SqT.of (d3.same _ _ hp)⟩, fun D hD => ?_⟩⟩
    have lz : zs.length = 1 + rn := by
      have z := Paired.length hzs
      unfold lets at z
      rw [List.length_map, List.length_range] at z
      exact z.symm
    refine lc_pure (walk_tup (K := K) (a := p) (xs := zs.map fun z => V.str (SX.S z))) (fun i => .str (SX.S ((zs.getD i []).take 3))) (Nat.le_of_lt (small1000 (by rw [List.length_map]; omega))) hD (fun H4 s4 => SqT.of (s4 _ _ (d3.same _ _ hp))) (fun i H4 x H5 _ y => by rw [y.1]; exact Same.refl _) ?_ ?_
    · rintro i x H4 H5 hi s4 ⟨rfl, hx⟩ Q' k'
      rw [List.length_map] at hi
      rw [List.getElem?_map, List.getElem?_eq_getElem hi] at hx
      obtain rfl := Option.some.inj hx
      rw [List.getD_eq_getElem?_getD, List.getElem?_eq_getElem hi] at k'
      obtain ⟨c, _, ds, e, hl, _⟩ := paired_mem hzs _ (List.getElem_mem hi)
      refine ⟨_, rfl, _, rfl, _, rfl, ?_, ?_⟩
      · rw [SX.S_len, e, List.length_cons]
        exact Nat.le_of_lt (small1000 (by omega))
      · rw [cut3]
        exact k' H5 (Same.refl _)
    intro H4 s4 h4
    refine ⟨D, _, rfl, .inl ⟨SqL.of h4, fun pm hpm0 => ?_⟩⟩
    have em : (List.range (zs.map fun z => V.str (SX.S z)).length).map (fun i => V.str (SX.S ((zs.getD i []).take 3))) = (zs.map (fun z => SX.S (z.take 3))).map V.str := by
      rw [List.length_map, range_get zs _ (fun z => V.str (SX.S (z.take 3))) fun i a e => by rw [List.getD_eq_getElem?_getD, e]; rfl, List.map_map]
      rfl
    obtain ⟨mk, ms, ez, M⟩ := marks_ok hst (by omega) (by omega) hzs
    rw [em, ez]
    have d5 := (d3.beside s4).new (o := .tup ((mk :: ms).map V.str)) hpm0
    have s5 := same_new (o := .tup ((mk :: ms).map V.str)) (d3.beside s4) hpm0
    have hpm5 : (upd F3 pm (.tup ((mk :: ms).map V.str))) pm = some (.tup ((mk :: ms).map V.str)) := upd_same
    generalize upd F3 pm (.tup ((mk :: ms).map V.str)) = F5 at d5 s5 hpm5
    generalize upd H4 pm (.tup ((mk :: ms).map V.str)) = H5 at d5
    have hml := M.len
    -- many
    refine ⟨_, rfl, am, 5, _, _, rfl, by decide, by decide, d5, by omega, fun r6 H6 r60 r61 d6 => ⟨_, _, rfl, rfl, ?_⟩⟩
    obtain ⟨mn, rfl⟩ := Int.eq_ofNat_of_zero_le r60
    have em2 : (1 : Int) + (mn : Int) = ((1 + mn : Nat) : Int) := by omega
    show gName 3 (V.int (1 + (mn : Int))) _ _ _
    rw [em2]
    have n1 : 1 ≤ 1 + mn := by omega
    have n5 : 1 + mn ≤ 5 := by omega
    generalize 1 + mn = n at n1 n5
    -- state, edge
    refine ⟨_, rfl, _, rfl, _, rfl, am, pm, n, 12, mk :: ms, F5, _, rfl, hpm5, List.cons_ne_nil _ _, by rw [List.length_cons]; omega, by omega, by decide, d6, by omega, fun sp cs ws F7 H7 good s7 dst d7 => ?_⟩
    refine ⟨_, rfl, _, rfl, am, pm, mk, ms, F7, _, rfl, s7 _ _ hpm5, d7, by omega, fun ep ecs ews F8 H8 eok s8 de d8 => ?_⟩
    have hpm8 := s8 _ _ (s7 _ _ hpm5)
    have dm8 : Dp K F8 (.ref pm) (mkD mk ms) := .tup (SqT.of hpm8) (dpAll_strs _)
    have ds8 : Dp K F8 (.ref sp) (stD cs ws) := dp_mono s8 _ _ dst
    have fm8 := fits_marks M
    have lws := good.many
    have lews := eok.many
    -- taken
    refine ⟨3, rfl, by decide, by decide, for_it walk_range (fun i σ H9 => ∃ vc, σ = [some (.ref a), some (.ref am), some (.ref pm), some (.int (n : Int)), some (.ref sp), some (.ref ep), vc, none, none, none, none, none, none, none, none] ∧ Same H8 H9) ⟨none, rfl, Same.refl _⟩ (fun _ _ _ _ _ => trivial) ?_ ?_⟩
    · rintro i x σ H9 H10 hi ⟨vc, rfl, s9⟩ ⟨rfl, rfl⟩
      have sd := d8.same.trans s9
      refine ⟨_, rfl, _, rfl, _, rfl, _, rfl, _, .ref pm, .int (n : Int), .ref sp, mkD mk ms, .int (n : Int), stD cs ws, rfl, dp_mono sd _ _ dm8, .int _, dp_mono sd _ _ ds8, fm8, size_st (by omega), fun v' H11 s11 d11 => ?_⟩
      rw [ref_oky M n1 n5 good.oky] at d11
      obtain rfl := Dp.none_inv d11
      refine ⟨rfl, _, rfl, notNon ?_⟩
      have sd2 := sd.trans s11
      refine ⟨_, rfl, _, rfl, _, rfl, _, .ref pm, .int 5, .ref ep, mkD mk ms, .int 5, stD ecs ews, rfl, dp_mono sd2 _ _ dm8, .int _, dp_mono sd2 _ _ de, fm8, size_st (by omega), fun v' H12 s12 d12 => ?_⟩
      rw [ref_five M eok] at d12
      obtain rfl := Dp.none_inv d12
      exact ⟨rfl, _, rfl, notNon ⟨_, rfl, (s9.trans s11).trans s12⟩⟩
    rintro σ H9 ⟨vc, rfl, s9⟩
    have sd := d8.same.trans s9
    refine ⟨_, rfl, _, rfl, _, rfl, .ref pm, .int (n : Int), .ref sp, mkD mk ms, .int (n : Int), stD cs ws, rfl, dp_mono sd _ _ dm8, .int _, dp_mono sd _ _ ds8, fm8, size_st (by omega), fun H10 s10 => ?_⟩
    rw [ref_oky M n1 n5 good.oky]
    refine ⟨rfl, _, rfl, notNon ?_⟩
    have s9b : Same H8 H10 := s9.trans s10
    have d10 := d8.beside s9b
    clear d8 s9 s10 sd s9b
    -- a state away from the bounds
    obtain ⟨_, p0, q0, xs, e0, hsp, hp0, hxs, hq0⟩ := Dp.st_inv ds8
    cases e0
    refine ⟨_, rfl, sp, _, 0, .ref p0, rfl, rfl, Same.sqt d10.same hsp, at_of (j := 0) rfl rfl, p0, rfl, ⟨_, Same.sqt d10.same hp0⟩, fun D2 hD2 => ?_⟩
    have lxs := DpAll.len hxs
    rw [List.length_map] at lxs
    have lcs := good.len
    refine lc_it (walk_tup (K := K) (a := p0) (xs := xs)) (fun i H11 => Same H10 (fun b => if b = D2 then none else H11 b) ∧ ∃ acc, H11 D2 = some (.lst acc) ∧ DpAll K F8 acc (((cs.take i).filter keepC).map cellD)) ⟨fun b o e => ?_, [], upd_same, .nil⟩ (fun i H11 _ p11 => ?_) ?_ ?_
    · show (if b = D2 then none else upd H10 D2 (.lst []) b) = some o
      rw [if_neg (ne_of_none e hD2), upd_ne (ne_of_none e hD2)]
      exact e
    · refine Same.sqt (fun b o e => ?_) hp0
      have z : (if b = D2 then none else H11 b) = some o := p11.1 _ _ (d10.same _ _ e)
      split at z
      · cases z
      · exact z
    · rintro i x H11 H12 hi ⟨s11, acc, hacc, da⟩ ⟨rfl, hx⟩
      refine ⟨wipe_back _ 14 _, ?_⟩
      have hi2 : i < cs.length := by omega
      obtain ⟨d, hd1, hd2⟩ := DpAll.get' hxs hx
      rw [List.getElem?_map, List.getElem?_eq_getElem hi2] at hd1
      have ed : cellD cs[i] = d := Option.some.inj hd1
      rw [← ed] at hd2
      have hd3 := hd2
      obtain ⟨t, rfl, ht⟩ := Dp.cell_inv hd2
      have s12 : Same F8 H12 := fun b o e => by
        have z : (if b = D2 then none else H12 b) = some o := s11 _ _ (d10.same _ _ e)
        split at z
        · cases z
        · exact z
      have ht1 := Same.sqt s12 ht
      have tk : cs.take (i + 1) = cs.take i ++ [cs[i]] := by rw [List.take_add_one, List.getElem?_eq_getElem hi2]; rfl
      have la := DpAll.len da
      have lf := List.length_filter_le keepC (cs.take i)
      rw [List.length_take] at lf
      rw [List.length_map] at la
      have no : keepC cs[i] = false → Same H10 (fun b => if b = D2 then none else H12 b) ∧ ∃ acc, H12 D2 = some (.lst acc) ∧ DpAll K F8 acc (((cs.take (i + 1)).filter keepC).map cellD) := fun e => by
        refine ⟨s11, acc, hacc, ?_⟩
        rw [tk, List.filter_append, List.filter_cons, e]
        simpa using da
      refine ⟨_, rfl, t, _, 0, _, rfl, rfl, ht1, at_of (j := 0) rfl rfl, _, _, rfl, rfl, _, rfl, ?_⟩
      by_cases c1 : cs[i].1 < 997
      · rw [decide_eq_true c1]
        refine iteT ⟨_, rfl, t, _, 0, _, rfl, rfl, ht1, at_of (j := 0) rfl rfl, _, _, rfl, rfl, _, rfl, ?_⟩
        by_cases c2 : 1 < cs[i].1
        · rw [decide_eq_true c2]
          have e : keepC cs[i] = true := by
            unfold keepC
            rw [decide_eq_true c1, decide_eq_true c2]
            rfl
          refine iteT ⟨_, rfl, acc, hacc, small1000 (by omega), fun b o eb => ?_, acc ++ [.ref t], upd_same, ?_⟩
          · have z : (if b = D2 then none else H12 b) = some o := s11 _ _ eb
            show (if b = D2 then none else upd H12 D2 (.lst (acc ++ [.ref t])) b) = some o
            by_cases c : b = D2
            · rw [if_pos c] at z
              cases z
            · rw [if_neg c] at z ⊢
              rw [upd_ne c]
              exact z
          · rw [tk, List.filter_append, List.filter_cons, if_pos e, List.map_append]
            exact DpAll.app da (.cons hd3 .nil)
        · rw [decide_eq_false c2]
          refine iteF (no ?_)
          unfold keepC
          rw [decide_eq_false c2, Bool.and_false]
      · rw [decide_eq_false c1]
        refine iteF (iteF (no ?_))
        unfold keepC
        rw [decide_eq_false c1, Bool.false_and]
    rintro H11 ⟨s11, acc, hacc, da⟩
    rw [lxs, List.take_length] at da
    have s10b : Same H10 H11 := fun b o e => by
      have z : (if b = D2 then none else H11 b) = some o := s11 _ _ e
      split at z
      · cases z
      · exact z
    have d11 := d10.beside s10b
    refine ⟨D2, acc, rfl, .inl ⟨SqL.of hacc, fun l hl => ?_⟩⟩
    have d12 := d11.new (o := .tup acc) hl
    have s12 := same_new (o := .tup acc) d11 hl
    have hl12 : (upd F8 l (.tup acc)) l = some (.tup acc) := upd_same
    refine ⟨_, rfl, sp, _, 1, .ref q0, rfl, rfl, Same.sqt (s12.trans d12.same) hsp, at_of (j := 1) rfl rfl, (by show 2 ≤ sizeLine; decide), fun u hu => ?_⟩
    have d13 := d12.new (o := .tup [.ref l, .ref q0]) hu
    have s13 := same_new (o := .tup [.ref l, .ref q0]) d12 hu
    have hu13 : (upd (upd F8 l (.tup acc)) u (.tup [.ref l, .ref q0])) u = some (.tup [.ref l, .ref q0]) := upd_same
    have hl13 := s13 _ _ hl12
    have s813 := s12.trans s13
    generalize upd (upd F8 l (.tup acc)) u (.tup [.ref l, .ref q0]) = F13 at d13 s13 hu13 hl13 s813
    generalize upd (upd H11 l (.tup acc)) u (.tup [.ref l, .ref q0]) = H13 at d13
    clear s11 hacc hD2 d11 d12 s12 hl12 hl hu s10b
    have dl13 : Dp K F13 (.ref l) (.tuple ((cs.filter keepC).map cellD)) := .tup (SqT.of hl13) (dpAll_mono s813 _ _ da)
    have dq13 : Dp K F13 (.ref q0) (.tuple (ws.map PyData.int)) := .tup (Same.sqt s813 hq0) (dpAll_ints ws)
    have du13 : Dp K F13 (.ref u) (stD (cs.filter keepC) ws) := .tup (SqT.of hu13) (.cons dl13 (.cons dq13 .nil))
    have hpm13 := s813 _ _ hpm8
    refine ⟨_, rfl, u, _, 0, .ref l, rfl, rfl, SqT.of (d13.same _ _ hu13), at_of (j := 0) rfl rfl, Nat.zero_le _, fun e he => ?_⟩
    have s14 : Same H13 (upd H13 e (.tup [])) := same_upd he
    have skC : ∀ c ∈ cs.filter keepC, PyData.strOk c.2.1 = true := fun c hc => by
      have z := (good.cell c (List.mem_filter.mp hc).1).2.2.1
      have z2 := (M.short _ z).2
      unfold PyData.strOk
      rw [← Array.all_toList]
      exact List.all_eq_true.mpr fun x hx => decide_eq_true (by have := z2 x hx; omega)
    refine ⟨_, _, dp_mono (d13.same.trans s14) _ _ dl13, .tup (SqT.of upd_same) .nil, shaped_cells _ skC, (by decide +kernel), _, rfl, ?_⟩
    rw [eqv_tup0]
    have d14 := d13.beside s14
    generalize upd H13 e (.tup []) = H14 at d14
    refine ite_both (fun v H15 => ∃ sq cs2 F15, v = .ref sq ∧ Sml mk ms n cs2 ws ∧ Dp K F15 (.ref sq) (stD cs2 ws) ∧ Same F13 F15 ∧ DrawAt F15 H15 am 400) (fun _ Q' k' => ?_) (fun c Q' k' => ?_) ?_
    · refine ⟨_, rfl, pm, _, 0, .str mk, rfl, rfl, SqT.of (d14.same _ _ hpm13), at_of (j := 0) rfl rfl, (by show 3 ≤ sizeLine; decide), fun t1 ht1 => ⟨(by show 1 ≤ sizeLine; decide), fun t2 ht2 => ?_⟩⟩
      have d15 := d14.new (o := .tup [.int 2, .str mk, .int 0]) ht1
      have s15 := same_new (o := .tup [.int 2, .str mk, .int 0]) d14 ht1
      have d16 := d15.new (o := .tup [.ref t1]) ht2
      have s16 := same_new (o := .tup [.ref t1]) d15 ht2
      refine ⟨_, rfl, u, _, 1, .ref q0, rfl, rfl, SqT.of (d16.same _ _ (s16 _ _ (s15 _ _ hu13))), at_of (j := 1) rfl rfl, (by show 2 ≤ sizeLine; decide), fun t3 ht3 => ?_⟩
      have d17 := d16.new (o := .tup [.ref t2, .ref q0]) ht3
      have s17 := same_new (o := .tup [.ref t2, .ref q0]) d16 ht3
      refine k' _ _ ⟨t3, [(2, mk, 0)], _, rfl, sml_two M n1 n5 good, .tup (SqT.of upd_same) (.cons (.tup (SqT.of (s17 _ _ upd_same)) (.cons (dp_cell (2, mk, 0) t1 (s17 _ _ (s16 _ _ upd_same))) .nil)) (.cons (dp_mono ((s15.trans s16).trans s17) _ _ dq13) .nil)), (s15.trans s16).trans s17, d17.mono (by omega)⟩
    · exact ⟨_, rfl, k' _ _ ⟨u, _, F13, rfl, sml_of M n1 n5 good (fun z => c (by rw [z]; exact decide_eq_true rfl)), du13, Same.refl _, d14.mono (by omega)⟩⟩
    rintro v H15 ⟨sq, cs2, F15, rfl, sml, dsq, s15, d15⟩
    have hpm15 := s15 _ _ hpm13
    clear d14 d13
    refine ⟨_, rfl, _, rfl, _, rfl, .ref am, pm, sq, mk, ms, n, cs2, ws, F15, rfl, hpm15, by omega, dsq, sml, d15.same, fun rr ds F16 H16 g16 dr lds rows nds => ?_⟩
    have d16 := d15.grow g16
    have hpm16 := g16.f _ _ hpm15
    have dm16 : Dp K F16 (.ref pm) (mkD mk ms) := .tup (SqT.of hpm16) (dpAll_strs _)
    -- wrong marks, wrong numbers
    have evm : EvA K _ ([some (.ref a), some (.ref am), some (.ref pm), some (.int (n : Int)), some (.ref sp), some (.ref ep), vc, some (.ref sq), some (.ref rr), none, none, none, none, none, none] : L2.St) F16 (bdsM mk ms) :=
      EvA.cons (EvD.cat (EvD.var (i := 2) dm16) (EvD.tup (EvA.cons (EvD.ix (j := 0) (EvD.var (i := 2) dm16) rfl rfl) EvA.nil)) (by rw [List.length_map, List.length_cons]; show _ + 1 ≤ 1000; omega)) (EvA.cons (EvD.tup EvA.nil) (EvA.cons (EvD.lst (EvA.cons (EvD.str "a") EvA.nil)) (EvA.cons (EvD.tup (EvA.cons (EvD.str "A") EvA.nil)) (EvA.cons (EvD.tup (EvA.cons (EvD.str "nil") EvA.nil))
        (EvA.cons (EvD.tup (EvA.cons (EvD.str "a") (EvA.cons (EvD.str "b") (EvA.cons (EvD.str "c") (EvA.cons (EvD.str "d") (EvA.cons (EvD.str "e") EvA.nil)))))) (EvA.cons (EvD.int 7) (EvA.cons (EvD.tup (EvA.cons (EvD.str "abcdefghi") EvA.nil)) (EvA.cons (EvD.tup (EvA.cons (EvD.str "a\n") EvA.nil)) (EvA.cons (EvD.tup (EvA.cons (EvD.lst (EvA.cons (EvD.str "a") EvA.nil)) EvA.nil)) EvA.nil)))))))))
    have evn : ∀ v, EvA K _ ([some (.ref a), some (.ref am), some (.ref pm), some (.int (n : Int)), some (.ref sp), some (.ref ep), vc, some (.ref sq), some (.ref rr), some v, none, none, none, none, none] : L2.St) F16 bdsN := fun v =>
      EvA.cons (EvD.int 0) (EvA.cons (EvD.int 6) (EvA.cons (EvD.bl true) (EvA.cons (EvD.str "2") (EvA.cons (EvD.neg 1) (EvA.cons EvD.non (EvA.cons (EvD.lst (EvA.cons (EvD.int 1) EvA.nil)) EvA.nil))))))
    refine ⟨_, rfl, (EvD.lst evm (Nat.le_of_ble_eq_true rfl)) F16 H16 _ (Same.refl _) d16.same fun v F17 H17 g17 d17 => ?_⟩
    obtain ⟨p1, xs1, rfl, hx1, dx1⟩ := Dp.list_inv d17
    have lx1 := DpAll.len dx1
    have lx1b : xs1.length = 10 := lx1
    refine ⟨am, p1, xs1, F17, 400, rfl, .inl hx1, by omega, by omega, d16.grow g17, by decide, fun vbm H18 hbm d18 => ?_⟩
    obtain ⟨j1, hj1⟩ := List.mem_iff_getElem?.mp hbm
    obtain ⟨bm, hbm1, dbm⟩ := DpAll.get' dx1 hj1
    obtain ⟨bm1, bm2, bm3⟩ := tell_marks M bm (List.mem_of_getElem? hbm1)
    refine ⟨_, rfl, (EvD.lst ((evn vbm).up g17.f) (Nat.le_of_ble_eq_true rfl)) F17 H18 _ (Same.refl _) d18.same fun v F19 H19 g19 d19 => ?_⟩
    obtain ⟨p2, xs2, rfl, hx2, dx2⟩ := Dp.list_inv d19
    have lx2 := DpAll.len dx2
    have lx2b : xs2.length = 7 := lx2
    refine ⟨am, p2, xs2, F19, 401, rfl, .inl hx2, by omega, by omega, d18.grow g19, by decide, fun vbn H20 hbn d20 => ?_⟩
    obtain ⟨j2, hj2⟩ := List.mem_iff_getElem?.mp hbn
    obtain ⟨bn, hbn1, dbn⟩ := DpAll.get' dx2 hj2
    obtain ⟨bn1, bn2⟩ := tell_num bn (List.mem_of_getElem? hbn1)
    have dm20 : Dp K F19 (.ref pm) (mkD mk ms) := dp_mono (g17.f.trans g19.f) _ _ dm16
    have dr20 : Dp K F19 (.ref rr) (.list ds) := dp_mono (g17.f.trans g19.f) _ _ dr
    have dbm20 := dp_mono g19.f _ _ dbm
    have sF := d20.same
    obtain ⟨_, rv, e0, hrv, drv⟩ := Dp.list_inv dr20
    cases e0
    have lrv := DpAll.len drv
    -- each is refused
    refine ⟨3, rfl, by decide, by decide, for_it walk_range (fun i σ H21 => ∃ vc vw vp, σ = [some (.ref a), some (.ref am), some (.ref pm), some (.int (n : Int)), some (.ref sp), some (.ref ep), vc, some (.ref sq), some (.ref rr), some vbm, some vbn, vw, vp, none, none] ∧ Same H20 H21) ⟨_, none, none, rfl, Same.refl _⟩ (fun _ _ _ _ _ => trivial) ?_ ?_⟩
    · rintro i x σ H21 H22 hi ⟨vc2, vw, vp, rfl, s21⟩ ⟨rfl, rfl⟩
      have sF21 := sF.trans s21
      refine ⟨_, rfl, rr, rfl, ⟨_, L2.Same.seq sF21 hrv⟩, for_list (K := K) (a := rr) (xs := rv) (fun j σ H23 => ∃ vw vp, σ = [some (.ref a), some (.ref am), some (.ref pm), some (.int (n : Int)), some (.ref sp), some (.ref ep), some (.int (0 + (i : Int))), some (.ref sq), some (.ref rr), some vbm, some vbn, vw, vp, none, none] ∧ Same H20 H23 ∧
        (0 < j → ∃ w z, vw = some w ∧ Dp K F19 w z ∧ SizeOk z)) ⟨vw, vp, rfl, s21, fun z => absurd z (Nat.lt_irrefl 0)⟩ (fun j σ H23 _ p23 => ?_) ?_ ?_⟩
      · obtain ⟨_, _, _, s23, _⟩ := p23
        exact L2.Same.seq (sF.trans s23) hrv
      · rintro j y σ H23 hy ⟨vw2, vp2, rfl, s23, _⟩
        obtain ⟨d, hd1, hd2⟩ := DpAll.get' drv hy
        obtain ⟨w', z, rfl, hlk, hsz, hzm⟩ := rows d (List.mem_of_getElem? hd1)
        obtain ⟨t, ys, rfl, hty, dys⟩ := Dp.tuple_inv hd2
        cases dys with
        | cons dw r1 =>
        cases r1 with
        | cons dz r2 =>
        cases r2
        obtain rfl := Dp.str_inv dz
        rename_i vwr
        have sF23 := sF.trans s23
        have er : refusal (mkD mk ms) (.int (n : Int)) w' = some (.state z) := by
          rw [ref_look M n1 n5, hlk]
          rfl
        have tl := tell_state z hzm
        refine ⟨t, _, rfl, Same.sqt sF23 hty, rfl, _, _, rfl, _, _, rfl, rfl, ?_⟩
        refine ⟨_, rfl, _, rfl, _, rfl, _, rfl, _, .ref pm, .int (n : Int), vwr, mkD mk ms, .int (n : Int), w', rfl, dp_mono sF23 _ _ dm20, .int _, dp_mono sF23 _ _ dw, fm8, hsz, fun v' H24 s24 d24 => ?_⟩
        rw [er] at d24
        obtain ⟨a1, _, rfl, _, _⟩ := Dp.tuple_inv d24
        refine ⟨a1, _, rfl, d24, tl.s, tl.h, tl.dp, tl.l, _, rfl, (by show 2 ≤ sizeLine; decide), fun p hp => ?_⟩
        have s25 : Same H24 (upd H24 p (.tup [.str "state", .str z])) := same_upd hp
        refine ⟨p, _, rfl, .tup (SqT.of upd_same) (.cons (.str _) (.cons (.str _) .nil)), tl.s, tl.h, tl.dp, tl.l, rfl, _, rfl, neSame _ ?_⟩
        exact ⟨_, _, rfl, (s23.trans s24).trans s25, fun _ => ⟨vwr, w', rfl, dw, hsz⟩⟩
      · rintro σ H23 ⟨vw2, vp2, rfl, s23, hlast⟩
        obtain ⟨vwr, w', rfl, dw, hsz⟩ := hlast (by rw [lrv]; exact List.length_pos_iff.mpr nds)
        have sF23 := sF.trans s23
        refine ⟨_, rfl, _, rfl, _, rfl, _, rfl, _, vbm, vbn, vwr, bm, bn, w', rfl, dp_mono sF23 _ _ dbm20, dp_mono sF23 _ _ dbn, dp_mono sF23 _ _ dw, bm2, hsz, fun v' H24 s24 d24 => ?_⟩
        rw [ref_name bm1] at d24
        obtain ⟨a1, _, rfl, _, _⟩ := Dp.tuple_inv d24
        refine ⟨a1, _, rfl, d24, bm3.s, bm3.h, bm3.dp, bm3.l, _, rfl, (by show 2 ≤ sizeLine; decide), fun p hp => ?_⟩
        have s25 : Same H24 (upd H24 p (.tup [.str "name", vbm])) := same_upd hp
        have sF25 := (sF23.trans s24).trans s25
        refine ⟨p, _, rfl, .tup (SqT.of upd_same) (.cons (.str _) (.cons (dp_mono sF25 _ _ dbm20) .nil)), bm3.s, bm3.h, bm3.dp, bm3.l, rfl, _, rfl, neSame _ ?_⟩
        refine ⟨_, rfl, _, rfl, _, rfl, _, rfl, _, .ref pm, vbn, vwr, mkD mk ms, bn, w', rfl, dp_mono sF25 _ _ dm20, dp_mono sF25 _ _ dbn, dp_mono sF25 _ _ dw, fm8, hsz, fun v' H26 s26 d26 => ?_⟩
        rw [ref_num M bn1] at d26
        obtain ⟨a2, _, rfl, _, _⟩ := Dp.tuple_inv d26
        refine ⟨a2, _, rfl, d26, bn2.s, bn2.h, bn2.dp, bn2.l, _, rfl, (by show 2 ≤ sizeLine; decide), fun p2 hp2 => ?_⟩
        have s27 : Same H26 (upd H26 p2 (.tup [.str "number", vbn])) := same_upd hp2
        have sF27 := (sF25.trans s26).trans s27
        refine ⟨p2, _, rfl, .tup (SqT.of upd_same) (.cons (.str _) (.cons (dp_mono sF27 _ _ dbn) .nil)), bn2.s, bn2.h, bn2.dp, bn2.l, rfl, _, rfl, neSame _ ?_⟩
        exact ⟨_, _, _, rfl, (((s23.trans s24).trans s25).trans s26).trans s27⟩
    rintro σ H21 ⟨vc2, vw, vp, rfl, s21⟩
    exact k H21
end
end Hs
namespace Hs
open PySem PySem.Spec PyProof.Rows L2
/-! X3: the law is called; what the top has written -/
theorem law_callG {P : Program} {w : World} {K : PySem.W.Frag} {g gb : Str → Option Value} {CX : CXT} {k : Nat} {fa a : Addr} {fd : FuncData} {x : Str} {sp : Sp} {s : Shared} {ws : List Value} {ns : List Int}
    (KX : K.In s.heap) (hn : s.heap.Ns mainGlobals g) (hb : s.heap.Ns builtinsNs gb) (hbb : ∀ y : Str, y ≠ "__name__" → gb y = bootBuiltins y) (hlim : s.heap.NoLimit) (hgens : s.gens = #[])
    (ha : s.heap.get? a = some { cls := .type "list", data := .seq ws.toArray }) (hi : IntsAre ws ns) (hl : ns.length ≤ sizeLine) (hr : Room k callerA)
    (F : ∀ base : Heap, K.In base → base.Ns mainGlobals g → FnG P w K g base CX k fa fd [x] sp) (hbind : ∀ (t : Shared) (u : Value), BindsTo t fd ⟨[u], []⟩ [(x, u)])
    (hsp : ∀ H : Hp, SqL K H a (ns.map V.int) → sp [.ref a] H (fun v _ => v = .bl true) fun _ _ _ => False) (hCX : ∀ H e t, CX [] H s (fun _ _ _ => False) e t → False) :
    codeAny (model P w) callerA (.call (.ref fa) ⟨[.ref a], []⟩) (fun r t => r = .ok (.ret (.bool true)) ∧ OldK s.heap t.heap ∧ t.os = s.os ∧ AllBare t.gens) s := by
  have vals := vals_ints hi
  have lenW := hi.length
  have key : ∀ H : Hp, (∀ p, H p = none ∨ ∃ o xs, H p = some (.frz o (.lst xs))) → SqL K H a (ns.map V.int) → HOk P w H s.heap → (∀ p, H p ≠ none → p = a) → (H a ≠ none → K.lookup a = none) →
      codeAny (model P w) callerA (.call (.ref fa) ⟨[.ref a], []⟩) (fun r t => r = .ok (.ret (.bool true)) ∧ OldK s.heap t.heap ∧ t.os = s.os ∧ AllBare t.gens) s := by
    intro H onlyF hS hok onlyA hK
    have stays : ∀ {p : Addr} {o : Obj}, s.heap.get? p = some o → H p = none → (hidT s.heap H).get? p = some o := fun e n => hidT_get e n
    have noDict : ∀ {p : Addr} {o : Obj} {es : Array DictEntry} {ep : Nat}, s.heap.get? p = some o → o.data = .dict es ep → H p = none := fun {p o es ep} e d => by
      cases q : H p with
      | none => rfl
      | some u =>
        obtain rfl : p = a := onlyA p (by rw [q]; simp)
        rw [ha] at e
        cases e
        have z : Data.seq ws.toArray _ = Data.dict es ep := d
        cases z
    have nsStays : ∀ {p : Addr} {m : Str → Option Value}, s.heap.Ns p m → (hidT s.heap H).Ns p m := fun {p m} z => by
      obtain ⟨o, es, ep, e, d, r⟩ := z
      exact ⟨o, es, ep, stays e (noDict e d), d, r⟩
    have kIn : K.In (hidT s.heap H) := fun p o e => stays (KX p o e) (by
      cases q : H p with
      | none => rfl
      | some u =>
        obtain rfl : p = a := onlyA p (by rw [q]; simp)
        rw [hK (by rw [q]; simp)] at e
        cases e)
    have lim2 : (hidT s.heap H).NoLimit := by
      obtain ⟨mc, h1, h2⟩ := hlim
      exact ⟨mc, nsStays h1, h2⟩
    have hM : Mod K g (hidT s.heap H) := ⟨kIn, nsStays hn, ⟨gb, nsStays hb, hbb⟩, lim2⟩
    have noB : ∀ p : Addr, p ∉ ([] : List Addr) := fun p z => nomatch z
    have e0 : Env0 P w K g (hidT s.heap H) callerA [] s H := ⟨rfl, hM, fun p o e => of_hidT e, Nat.le_of_eq (hidT_size _ _), trivial, fun p hp => absurd hp (noB p), hok, .of_eq hgens⟩
    have run := (F _ kIn (nsStays hn)).run callerA [] s H ⟨[.ref a], []⟩ [.ref a] [.ref a] _ _ hr rfl e0 (hbind s (.ref a)) (.cons rfl .nil) (hsp H hS)
    refine codeAny_mono run fun r t h => ?_
    cases r with
    | error e => exact (hCX H e t h).elim
    | ok fl =>
      cases fl with
      | ret u =>
        obtain ⟨v, H2, os, bare, un, hok2, rv, q⟩ := h
        obtain rfl : v = .bl true := q
        obtain rfl : u = Value.bool true := rv
        refine ⟨rfl, OldK.of_keep fun p o e => ?_, os, bare⟩
        cases q : H p with
        | none => exact un.keep p o e q (noB p) (noB p)
        | some u =>
          cases onlyF p with
          | inl z =>
            rw [q] at z
            cases z
          | inr z =>
            obtain ⟨ob, xs, z⟩ := z
            obtain ⟨e1, _⟩ := hok p _ z
            obtain ⟨e2, _⟩ := hok2 p _ (un.frzs p ob _ z)
            rw [e] at e1
            cases e1
            exact e2
      | next => exact h.elim
      | brk => exact h.elim
      | cont => exact h.elim
  cases hk : K.lookup a with
  | some o =>
    have e := KX a o hk
    rw [ha] at e
    cases e
    have own : SqL K (fun _ => none) a (ns.map V.int) := .inr ⟨_, ws.toArray, _, hk, rfl, rfl, rfl, by rw [List.size_toArray, lenW]; exact hl, by simpa using vals⟩
    exact key (fun _ => none) (fun _ => .inl rfl) own (fun p u z => nomatch z) (fun p z => absurd rfl z) fun z => absurd rfl z
  | none =>
    have at1 : ∀ p, (fun p => if p = a then some (HO.frz { cls := .type "list", data := .seq ws.toArray } (.lst (ns.map V.int))) else none) p = if p = a then some (HO.frz { cls := .type "list", data := .seq ws.toArray } (.lst (ns.map V.int))) else none := fun _ => rfl
    refine key (fun p => if p = a then some (HO.frz { cls := .type "list", data := .seq ws.toArray } (.lst (ns.map V.int))) else none) (fun p => ?_) (.inl (.inr ⟨_, if_pos rfl⟩)) (fun p u z => ?_) (fun p z => ?_) fun _ => hk
    · by_cases c : p = a
      · exact .inr ⟨_, _, if_pos c⟩
      · exact .inl (if_neg c)
    · by_cases c : p = a
      · have z2 := (if_pos c).symm.trans z
        cases z2
        subst c
        exact ⟨ha, by rw [List.length_map]; exact hl, ws, _, vals, ha⟩
      · have z2 := (if_neg c).symm.trans z
        cases z2
    · by_cases c : p = a
      · exact c
      · exact absurd (if_neg c) z
theorem walk_g {l : PySem.W.OpenLaw} {q : Program} {loose : List Str} {XP : (Str → Option Value) → Heap → Prop} {YP : World → Heap → Prop} {d : DefRec} {K : Params → PySem.W.Frag} (hn : l.most = some 63) (hdf : d.params.defaults = [])
    (hY : ∀ (w : World) (h : Heap), YP w h → (K w.params).In h)
    (F : ∀ (w : World) (mg : Str → Option Value) (fa : Addr) (h : Heap), (K w.params).In h → h.Ns mainGlobals mg → mg d.name = some (.ref fa) →
      ∃ fd : FuncData, (∀ (s : Shared) (u : Value), BindsTo s fd ⟨[u], []⟩ [("script", u)]) ∧ ∀ base : Heap, (K w.params).In base → base.Ns mainGlobals mg → FnG l.prog w (K w.params) mg base CX0 9 fa fd ["script"] (spLaw (K w.params))) :
    PySem.W.WalkO q loose XP YP l.row.toRowW d [] (fun f vs => PySem.call f vs) := by
  refine Att.attach_call hn hdf fun w s₀ s mg mb fa o pm cd doc a vs ns G Y ho hd hcd hmg hobj hints hlen hg => ?_
  have KX := hY w _ Y
  obtain ⟨fd, hb, hF⟩ := F w mg fa _ KX G.T.g hmg
  exact law_callG KX G.T.g G.T.b G.T.builtins G.T.nolimit hg hobj hints (Nat.le_trans hlen (by decide)) ⟨rfl, by decide, by decide⟩ hF hb (fun H hS => ⟨a, ns, rfl, hS, hlen, fun _ => rfl⟩) fun _ _ _ z => z
section
variable {K : PySem.W.Frag} {h : Heap} {mg : Str → Option Value}
theorem def_mk {x : Str} {st : Stmt} {ps : List Str} {f : Addr} {oc kV dc pm cd ct : Value} {od an : Option Addr} {sl : Array (Option Value)} (X : K.In h) (G : h.Ns mainGlobals mg)
    (a : PySem.W.nsIn K mainGlobals x = some (some (.ref f))) (l : K.lookup f = some ⟨oc, od, .func (PySem.W.fnOf x x (defArgs st) (defBody st) (defScope st) .none kV dc pm an cd ct), sl⟩) (c : PySem.W.codeIn K cd x = true) (k : PySem.W.keepIn K (.ref f) = true)
    (b : ∀ (kV doc pm : Value) (an : Option Addr) (cdv ct : Value) (us : List Value), us.length = ps.length → bindArgs (PySem.W.fnOf x x (defArgs st) (defBody st) (defScope st) .none kV doc pm an cdv ct) ⟨us, []⟩ = pure (ps.zip us)) : Def K mg x st ps :=
  ⟨f, _, fun_mk l c k, PySem.W.mg_of X G a, (fun_mk l c k).binds b⟩
theorem err_mk {x q f : Str} {st : Stmt} {C fI : Addr} {nm qq : Str} {N : Addr} {bs : List Value} {bm : List Value} {sn : List Str} {sub : List Value} {ab : Bool} {col : Option Bool} {dd : Option Addr} {m0 m1 m2 m3 m5 : Option Value}
    {oc kV dc pm cd ct : Value} {od an : Option Addr} {sl : Array (Option Value)} (X : K.In h) (G : h.Ns mainGlobals mg) (a : PySem.W.nsIn K mainGlobals x = some (some (.ref C)))
    (xl : K.lookup C = some (excClassObj nm qq C N bs bm true sn sub ab col dd m0 m1 m2 m3 m5 "ValueError.__new__")) (rv : PySem.HandSPX.refsVE bm = true) (sa : PySem.W.findIn K (.ref C) "__setattr__" = some (some (.builtin "object.__setattr__")))
    (ex : PySem.W.subIn K (.ref C) (.type "BaseException") = some true) (ty : PySem.W.typeIn K (.ref C) = some (.type "type")) (kC : PySem.W.keepIn K (.ref C) = true)
    (i : PySem.W.findIn K (.ref C) "__init__" = some (some (.ref fI))) (ti : PySem.W.typeIn K (.ref fI) = some (.type "function")) (nf : PySem.W.findIn K (.ref C) f = some none)
    (l : K.lookup fI = some ⟨oc, od, .func (PySem.W.fnOf "__init__" q (defArgs st) (defBody st) (defScope st) .none kV dc pm an cd ct), sl⟩) (c : PySem.W.codeIn K cd q = true) (k : PySem.W.keepIn K (.ref fI) = true)
    (b : ∀ (kV doc pm : Value) (an : Option Addr) (cdv ct : Value) (us : List Value), us.length = (["self", f] : List Str).length → bindArgs (PySem.W.fnOf "__init__" q (defArgs st) (defBody st) (defScope st) .none kV doc pm an cdv ct) ⟨us, []⟩ = pure ((["self", f] : List Str).zip us)) :
    ∃ fI fd, ErrD K mg x q f st C fI fd :=
  ⟨fI, _, ⟨⟨⟨_, _, _, _, _, _, _, _, _, _, _, _, _, _, _, xl, rv⟩, sa, ex, ty, kC⟩, PySem.W.mg_of X G a, i, ti, nf⟩, fun_mk l c k, (fun_mk l c k).binds b⟩
/-- which errors «except D» takes -/
theorem exm_b {C D : Addr} {b : Bool} (h1 : PySem.W.subIn K (.ref D) (.type "BaseException") = some true) (h2 : PySem.W.isClsIn K D = true) (h3 : PySem.W.typeIn K (.ref D) = some (.type "type")) (h4 : PySem.W.subIn K (.ref C) (.ref D) = some b) :
    PySem.W.exmOne K (.ref C) (.ref D) = some b := by
  have e1 : (PySem.W.subIn K (.ref D) (.type "BaseException") == some true) = true := by
    rw [h1]
    rfl
  have e2 : ((PySem.W.clsIn K D).isSome && PySem.W.typeIn K (.ref D) == some (.type "type")) = true := by
    have z : (PySem.W.clsIn K D).isSome = true := h2
    rw [z, h3]
    rfl
  show (if (PySem.W.subIn K (.ref D) (.type "BaseException") == some true) = true then (if ((PySem.W.clsIn K D).isSome && PySem.W.typeIn K (.ref D) == some (.type "type")) = true then PySem.W.subIn K (.ref C) (.ref D) else none) else none) = some b
  rw [if_pos e1, if_pos e2, h4]
end
end Hs
namespace Hs
open PySem PySem.Spec PyProof.Rows L2
/-! X4: the end -/
theorem con_str {K : PySem.W.Frag} {h : Heap} {mg : Str → Option Value} {n z : Str} {v : Value} (X : K.In h) (G : h.Ns mainGlobals mg) (e : PySem.W.nsIn K mainGlobals n = some (some v)) (q : ∃ t, v = .str z t) : ∃ t, mg n = some (.str z t) := by
  obtain ⟨t, rfl⟩ := q
  exact ⟨t, PySem.W.mg_of X G e⟩
theorem con_int {K : PySem.W.Frag} {h : Heap} {mg : Str → Option Value} {n : Str} {z : Int} {v : Value} (X : K.In h) (G : h.Ns mainGlobals mg) (e : PySem.W.nsIn K mainGlobals n = some (some v)) (q : ∃ t, v = .int z t) : ∃ t, mg n = some (.int z t) := by
  obtain ⟨t, rfl⟩ := q
  exact ⟨t, PySem.W.mg_of X G e⟩
theorem all_mk {P : Program} {w : World} {K : PySem.W.Frag} {h : Heap} {mg : Str → Option Value} {fa S CN CM CS : Addr} (X : K.In h) (G : h.Ns mainGlobals mg) (hfa : mg "law" = some (.ref fa)) (T : Txt mg) (Z : Errs K mg S CN CM CS) (E : ExF K CN CM CS)
    (D9 : Def K mg "is_whole" (top 9) ["thing"])
    (D10 : Def K mg "is_between" (top 10) ["thing", "least", "most"])
    (D11 : Def K mg "is_tuple_of" (top 11) ["thing", "least", "most"])
    (D12 : Def K mg "is_name" (top 12) ["thing"])
    (D13 : Def K mg "are_names" (top 13) ["thing", "least", "most"])
    (D14 : Def K mg "need_marks" (top 14) ["thing"])
    (D15 : Def K mg "need_number" (top 15) ["thing", "least", "most"])
    (D16 : Def K mg "are_ascending" (top 16) ["numbers"])
    (D21 : Def K mg "is_cell" (top 21) ["thing"])
    (D22 : Def K mg "has_state_form" (top 22) ["thing"])
    (D23 : Def K mg "look_at_state" (top 23) ["marks", "many", "state"])
    (D24 : Def K mg "need_state" (top 24) ["marks", "many", "state"])
    (D25 : Def K mg "cells_of" (top 25) ["state"])
    (D26 : Def K mg "state_of" (top 26) ["cells", "values"])
    (D27 : Def K mg "coming" (top 27) ["cells", "values"])
    (D28 : Def K mg "shown_part" (top 28) ["state"])
    (D29 : Def K mg "shown" (top 29) ["marks", "many", "state"])
    (D30 : Def K mg "renumbered" (top 30) ["state"])
    (D31 : Def K mg "least_form" (top 31) ["marks", "many", "state"])
    (D33 : Def K mg "_law_begun" (top 33) ["script"])
    (D34 : Def K mg "_law_next" (top 34) ["m", "many"])
    (D35 : Def K mg "_law_of" (top 35) ["m", "some"])
    (D36 : Def K mg "_law_names" (top 36) ["m", "many"])
    (D37 : Def K mg "_law_state" (top 37) ["m", "marks", "many", "most"])
    (D38 : Def K mg "_law_edge" (top 38) ["m", "marks"])
    (D39 : Def K mg "_law_wrongs" (top 39) ["m", "marks", "state"])
    (D40 : Def K mg "_law_refusal" (top 40) ["call", "marks", "many", "state"])
    {f : Addr} {oc kV dc pm cd ct : Value} {od an : Option Addr} {sl : Array (Option Value)} (a : PySem.W.nsIn K mainGlobals "law" = some (some (.ref f)))
    (l : K.lookup f = some ⟨oc, od, .func (PySem.W.fnOf "law" "law" (defArgs (top 41)) (defBody (top 41)) (defScope (top 41)) .none kV dc pm an cd ct), sl⟩) (c : PySem.W.codeIn K cd "law" = true) (k : PySem.W.keepIn K (.ref f) = true) :
    ∃ fd : FuncData, (∀ (s : Shared) (v : Value), BindsTo s fd ⟨[v], []⟩ [("script", v)]) ∧ ∀ base : Heap, K.In base → base.Ns mainGlobals mg → FnG P w K mg base CX0 9 fa fd ["script"] (spLaw K) := by
  have e := hfa.symm.trans (PySem.W.mg_of X G a)
  cases e
  refine ⟨PySem.W.fnOf "law" "law" (defArgs (top 41)) (defBody (top 41)) (defScope (top 41)) .none kV dc pm an cd ct, fun s v => .of_eq rfl, fun base _ _ => ?_⟩
  have g9 := ok_whole (P := P) (w := w) (base := base) D9 T
  have g10 := ok_between D10 T g9
  have g11 := ok_tupOf (P := P) (w := w) (base := base) D11 T
  have g12 := ok_name (P := P) (w := w) (base := base) D12 T
  have g13 := ok_names D13 T g11 g12
  have g14 := ok_marks D14 Z g13
  have g15 := ok_number D15 Z g10
  have g16 := ok_asc (P := P) (w := w) (base := base) D16 T
  have g21 := ok_cell D21 T g10 g11
  have g22 := ok_form D22 T g10 g11 g21
  have g23 := ok_look D23 T Z g22 g16
  have g24 := ok_need D24 T g14 g15 g23
  have g25 := ok_cells (P := P) (w := w) (base := base) D25
  have g26 := ok_stateOf (P := P) (w := w) (base := base) D26 T
  have g27 := ok_coming (P := P) (w := w) (base := base) D27 T
  have g28 := ok_shownPart D28 T g25 g27 g26
  have g29 := ok_shown D29 g24 g28
  have g30 := ok_renum D30 T g25 g27 g26
  have g31 := ok_least D31 g24 g30
  have g33 := ok_begun (P := P) (w := w) (base := base) D33 T
  have g34 := ok_next (P := P) (w := w) (base := base) D34 T
  have g35 := ok_of D35 T g34
  have g36 := ok_namesOf D36 T g34
  have g37 := ok_state D37 T g34 g35
  have g38 := ok_edge D38 T g34
  have g39 := ok_wrongs (P := P) (w := w) (base := base) D39 T
  have g40 := ok_refusal D40 Z E g24 g29 g31
  exact law_g (fun_mk l c k) T g33 g34 g35 g36 g37 g38 g39 g40 g24
end Hs
open PySem PySem.W PyProof.Rows in
set_option maxRecDepth 100000 in
set_option maxHeartbeats 0 in
theorem PySem.Challenge.cw_heapsight_k10_whole_states_looked_at_holds : PySem.Challenge.rw_heapsight_k10_whole_states_looked_at.Holds := by
  w_on; o_law; k_head; (case hw => w_witness2)
  k_fill
  refine Hs.walk_g (l := PySem.Challenge.rw_heapsight_k10_whole_states_looked_at) rfl rfl (fun w h Y => PySem.W.kIn_of Y) ?F
  case F =>
    intro w mg fa h KX G hmg
    have T : Hs.Txt mg := by
      refine' ⟨PySem.W.mg_none_of KX G ?n0, PySem.W.mg_none_of KX G ?n1, PySem.W.mg_none_of KX G ?n2, PySem.W.mg_none_of KX G ?n3, PySem.W.mg_none_of KX G ?n4, PySem.W.mg_none_of KX G ?n5, PySem.W.mg_none_of KX G ?n6, PySem.W.mg_none_of KX G ?n7, PySem.W.mg_none_of KX G ?n8, PySem.W.mg_none_of KX G ?n9, PySem.W.mg_none_of KX G ?n10, PySem.W.mg_none_of KX G ?n11,
        Hs.con_str KX G ?c0 ?t0, Hs.con_str KX G ?c1 ?t1, Hs.con_str KX G ?c2 ?t2, Hs.con_int KX G ?c3 ?t3, Hs.con_int KX G ?c4 ?t4, Hs.con_int KX G ?c5 ?t5⟩
      (case n0 => k_is)
      (case n1 => k_is)
      (case n2 => k_is)
      (case n3 => k_is)
      (case n4 => k_is)
      (case n5 => k_is)
      (case n6 => k_is)
      (case n7 => k_is)
      (case n8 => k_is)
      (case n9 => k_is)
      (case n10 => k_is)
      (case n11 => k_is)
      (case c0 => k_is)
      (case t0 => exact ⟨_, rfl⟩)
      (case c1 => k_is)
      (case t1 => exact ⟨_, rfl⟩)
      (case c2 => k_is)
      (case t2 => exact ⟨_, rfl⟩)
      (case c3 => k_is)
      (case t3 => exact ⟨_, rfl⟩)
      (case c4 => k_is)
      (case t4 => exact ⟨_, rfl⟩)
      (case c5 => k_is)
      (case t5 => exact ⟨_, rfl⟩)
    refine' Hs.all_mk KX G hmg T ⟨⟨PySem.W.mg_of KX G ?s1, ?s2, ?s3, ?s4⟩,
        Hs.err_mk KX G ?n1 ?n2 ?n3 ?n4 ?n5 ?n6 ?n7 ?n8 ?n9 ?n10 ?n11 ?n12 ?n13 (fun _ _ _ _ _ _ us hl => match us, hl with | [_, _], _ => rfl),
        Hs.err_mk KX G ?m1 ?m2 ?m3 ?m4 ?m5 ?m6 ?m7 ?m8 ?m9 ?m10 ?m11 ?m12 ?m13 (fun _ _ _ _ _ _ us hl => match us, hl with | [_, _], _ => rfl),
        Hs.err_mk KX G ?z1 ?z2 ?z3 ?z4 ?z5 ?z6 ?z7 ?z8 ?z9 ?z10 ?z11 ?z12 ?z13 (fun _ _ _ _ _ _ us hl => match us, hl with | [_, _], _ => rfl)⟩
      ⟨Hs.exm_b ?e1 ?e2 ?e3 ?e4, Hs.exm_b ?e5 ?e6 ?e7 ?e8, Hs.exm_b ?e9 ?e10 ?e11 ?e12, Hs.exm_b ?e13 ?e14 ?e15 ?e16, Hs.exm_b ?e17 ?e18 ?e19 ?e20, Hs.exm_b ?e21 ?e22 ?e23 ?e24, ⟨?x1, ?x2, ?x3, ?x4⟩, ⟨?x5, ?x6, ?x7, ?x8⟩, ⟨?x9, ?x10, ?x11, ?x12⟩⟩
      ?D9 ?D10 ?D11 ?D12 ?D13 ?D14 ?D15 ?D16 ?D21 ?D22 ?D23 ?D24 ?D25 ?D26 ?D27 ?D28 ?D29 ?D30 ?D31 ?D33 ?D34 ?D35 ?D36 ?D37 ?D38 ?D39 ?D40 ?a ?l ?c ?k
    (case s1 => first | k_is | rfl)
    (case n1 => first | k_is | rfl)
    (case m1 => first | k_is | rfl)
    (case z1 => first | k_is | rfl)
    (case s2 => first | k_is | rfl)
    (case s3 => first | k_is | rfl)
    (case s4 => first | k_is | rfl)
    (case n2 => first | k_is | rfl)
    (case n3 => decide +kernel)
    (case n4 => first | k_is | rfl)
    (case n5 => first | k_is | rfl)
    (case n6 => first | k_is | rfl)
    (case n7 => first | k_is | rfl)
    (case n8 => first | k_is | rfl)
    (case n9 => first | k_is | rfl)
    (case n10 => first | k_is | rfl)
    (case n11 => first | k_is | rfl)
    (case n12 => first | k_is | rfl)
    (case n13 => first | k_is | rfl)
    (case m2 => first | k_is | rfl)
    (case m3 => decide +kernel)
    (case m4 => first | k_is | rfl)
    (case m5 => first | k_is | rfl)
    (case m6 => first | k_is | rfl)
    (case m7 => first | k_is | rfl)
    (case m8 => first | k_is | rfl)
    (case m9 => first | k_is | rfl)
    (case m10 => first | k_is | rfl)
    (case m11 => first | k_is | rfl)
    (case m12 => first | k_is | rfl)
    (case m13 => first | k_is | rfl)
    (case z2 => first | k_is | rfl)
    (case z3 => decide +kernel)
    (case z4 => first | k_is | rfl)
    (case z5 => first | k_is | rfl)
    (case z6 => first | k_is | rfl)
    (case z7 => first | k_is | rfl)
    (case z8 => first | k_is | rfl)
    (case z9 => first | k_is | rfl)
    (case z10 => first | k_is | rfl)
    (case z11 => first | k_is | rfl)
    (case z12 => first | k_is | rfl)
    (case z13 => first | k_is | rfl)
    (case e1 => first | k_is | rfl)
    (case e2 => first | k_is | rfl)
    (case e3 => first | k_is | rfl)
    (case e4 => first | k_is | rfl)
    (case e5 => first | k_is | rfl)
    (case e6 => first | k_is | rfl)
    (case e7 => first | k_is | rfl)
    (case e8 => first | k_is | rfl)
    (case e9 => first | k_is | rfl)
    (case e10 => first | k_is | rfl)
    (case e11 => first | k_is | rfl)
    (case e12 => first | k_is | rfl)
    (case e13 => first | k_is | rfl)
    (case e14 => first | k_is | rfl)
    (case e15 => first | k_is | rfl)
    (case e16 => first | k_is | rfl)
    (case e17 => first | k_is | rfl)
    (case e18 => first | k_is | rfl)
    (case e19 => first | k_is | rfl)
    (case e20 => first | k_is | rfl)
    (case e21 => first | k_is | rfl)
    (case e22 => first | k_is | rfl)
    (case e23 => first | k_is | rfl)
    (case e24 => first | k_is | rfl)
    (case x1 => first | k_is | rfl)
    (case x2 => first | k_is | rfl)
    (case x3 => first | k_is | rfl)
    (case x4 => first | k_is | rfl)
    (case x5 => first | k_is | rfl)
    (case x6 => first | k_is | rfl)
    (case x7 => first | k_is | rfl)
    (case x8 => first | k_is | rfl)
    (case x9 => first | k_is | rfl)
    (case x10 => first | k_is | rfl)
    (case x11 => first | k_is | rfl)
    (case x12 => first | k_is | rfl)
    (case a => first | k_is | rfl)
    (case l => first | k_is | rfl)
    (case c => first | k_is | rfl)
    (case k => first | k_is | rfl)
    case D9 =>
      refine' Hs.def_mk KX G ?a9 ?l9 ?c9 ?k9 (fun _ _ _ _ _ _ us hl => match us, hl with | [_], _ => rfl)
      (case a9 => k_is); (case l9 => k_is); (case c9 => k_is); (case k9 => k_is)
    case D10 =>
      refine' Hs.def_mk KX G ?a10 ?l10 ?c10 ?k10 (fun _ _ _ _ _ _ us hl => match us, hl with | [_, _, _], _ => rfl)
      (case a10 => k_is); (case l10 => k_is); (case c10 => k_is); (case k10 => k_is)
    case D11 =>
      refine' Hs.def_mk KX G ?a11 ?l11 ?c11 ?k11 (fun _ _ _ _ _ _ us hl => match us, hl with | [_, _, _], _ => rfl)
      (case a11 => k_is); (case l11 => k_is); (case c11 => k_is); (case k11 => k_is)
    case D12 =>
      refine' Hs.def_mk KX G ?a12 ?l12 ?c12 ?k12 (fun _ _ _ _ _ _ us hl => match us, hl with | [_], _ => rfl)
      (case a12 => k_is); (case l12 => k_is); (case c12 => k_is); (case k12 => k_is)
    case D13 =>
      refine' Hs.def_mk KX G ?a13 ?l13 ?c13 ?k13 (fun _ _ _ _ _ _ us hl => match us, hl with | [_, _, _], _ => rfl)
      (case a13 => k_is); (case l13 => k_is); (case c13 => k_is); (case k13 => k_is)
    case D14 =>
      refine' Hs.def_mk KX G ?a14 ?l14 ?c14 ?k14 (fun _ _ _ _ _ _ us hl => match us, hl with | [_], _ => rfl)
      (case a14 => k_is); (case l14 => k_is); (case c14 => k_is); (case k14 => k_is)
    case D15 =>
      refine' Hs.def_mk KX G ?a15 ?l15 ?c15 ?k15 (fun _ _ _ _ _ _ us hl => match us, hl with | [_, _, _], _ => rfl)
      (case a15 => k_is); (case l15 => k_is); (case c15 => k_is); (case k15 => k_is)
    case D16 =>
      refine' Hs.def_mk KX G ?a16 ?l16 ?c16 ?k16 (fun _ _ _ _ _ _ us hl => match us, hl with | [_], _ => rfl)
      (case a16 => k_is); (case l16 => k_is); (case c16 => k_is); (case k16 => k_is)
    case D21 =>
      refine' Hs.def_mk KX G ?a21 ?l21 ?c21 ?k21 (fun _ _ _ _ _ _ us hl => match us, hl with | [_], _ => rfl)
      (case a21 => k_is); (case l21 => k_is); (case c21 => k_is); (case k21 => k_is)
    case D22 =>
      refine' Hs.def_mk KX G ?a22 ?l22 ?c22 ?k22 (fun _ _ _ _ _ _ us hl => match us, hl with | [_], _ => rfl)
      (case a22 => k_is); (case l22 => k_is); (case c22 => k_is); (case k22 => k_is)
    case D23 =>
      refine' Hs.def_mk KX G ?a23 ?l23 ?c23 ?k23 (fun _ _ _ _ _ _ us hl => match us, hl with | [_, _, _], _ => rfl)
      (case a23 => k_is); (case l23 => k_is); (case c23 => k_is); (case k23 => k_is)
    case D24 =>
      refine' Hs.def_mk KX G ?a24 ?l24 ?c24 ?k24 (fun _ _ _ _ _ _ us hl => match us, hl with | [_, _, _], _ => rfl)
      (case a24 => k_is); (case l24 => k_is); (case c24 => k_is); (case k24 => k_is)
    case D25 =>
      refine' Hs.def_mk KX G ?a25 ?l25 ?c25 ?k25 (fun _ _ _ _ _ _ us hl => match us, hl with | [_], _ => rfl)
      (case a25 => k_is); (case l25 => k_is); (case c25 => k_is); (case k25 => k_is)
    case D26 =>
      refine' Hs.def_mk KX G ?a26 ?l26 ?c26 ?k26 (fun _ _ _ _ _ _ us hl => match us, hl with | [_, _], _ => rfl)
      (case a26 => k_is); (case l26 => k_is); (case c26 => k_is); (case k26 => k_is)
    case D27 =>
      refine' Hs.def_mk KX G ?a27 ?l27 ?c27 ?k27 (fun _ _ _ _ _ _ us hl => match us, hl with | [_, _], _ => rfl)
      (case a27 => k_is); (case l27 => k_is); (case c27 => k_is); (case k27 => k_is)
    case D28 =>
      refine' Hs.def_mk KX G ?a28 ?l28 ?c28 ?k28 (fun _ _ _ _ _ _ us hl => match us, hl with | [_], _ => rfl)
      (case a28 => k_is); (case l28 => k_is); (case c28 => k_is); (case k28 => k_is)
    case D29 =>
      refine' Hs.def_mk KX G ?a29 ?l29 ?c29 ?k29 (fun _ _ _ _ _ _ us hl => match us, hl with | [_, _, _], _ => rfl)
      (case a29 => k_is); (case l29 => k_is); (case c29 => k_is); (case k29 => k_is)
    case D30 =>
      refine' Hs.def_mk KX G ?a30 ?l30 ?c30 ?k30 (fun _ _ _ _ _ _ us hl => match us, hl with | [_], _ => rfl)
      (case a30 => k_is); (case l30 => k_is); (case c30 => k_is); (case k30 => k_is)
    case D31 =>
      refine' Hs.def_mk KX G ?a31 ?l31 ?c31 ?k31 (fun _ _ _ _ _ _ us hl => match us, hl with | [_, _, _], _ => rfl)
      (case a31 => k_is); (case l31 => k_is); (case c31 => k_is); (case k31 => k_is)
    case D33 =>
      refine' Hs.def_mk KX G ?a33 ?l33 ?c33 ?k33 (fun _ _ _ _ _ _ us hl => match us, hl with | [_], _ => rfl)
      (case a33 => k_is); (case l33 => k_is); (case c33 => k_is); (case k33 => k_is)
    case D34 =>
      refine' Hs.def_mk KX G ?a34 ?l34 ?c34 ?k34 (fun _ _ _ _ _ _ us hl => match us, hl with | [_, _], _ => rfl)
      (case a34 => k_is); (case l34 => k_is); (case c34 => k_is); (case k34 => k_is)
    case D35 =>
      refine' Hs.def_mk KX G ?a35 ?l35 ?c35 ?k35 (fun _ _ _ _ _ _ us hl => match us, hl with | [_, _], _ => rfl)
      (case a35 => k_is); (case l35 => k_is); (case c35 => k_is); (case k35 => k_is)
    case D36 =>
      refine' Hs.def_mk KX G ?a36 ?l36 ?c36 ?k36 (fun _ _ _ _ _ _ us hl => match us, hl with | [_, _], _ => rfl)
      (case a36 => k_is); (case l36 => k_is); (case c36 => k_is); (case k36 => k_is)
    case D37 =>
      refine' Hs.def_mk KX G ?a37 ?l37 ?c37 ?k37 (fun _ _ _ _ _ _ us hl => match us, hl with | [_, _, _, _], _ => rfl)
      (case a37 => k_is); (case l37 => k_is); (case c37 => k_is); (case k37 => k_is)
    case D38 =>
      refine' Hs.def_mk KX G ?a38 ?l38 ?c38 ?k38 (fun _ _ _ _ _ _ us hl => match us, hl with | [_, _], _ => rfl)
      (case a38 => k_is); (case l38 => k_is); (case c38 => k_is); (case k38 => k_is)
    case D39 =>
      refine' Hs.def_mk KX G ?a39 ?l39 ?c39 ?k39 (fun _ _ _ _ _ _ us hl => match us, hl with | [_, _, _], _ => rfl)
      (case a39 => k_is); (case l39 => k_is); (case c39 => k_is); (case k39 => k_is)
    case D40 =>
      refine' Hs.def_mk KX G ?a40 ?l40 ?c40 ?k40 (fun _ _ _ _ _ _ us hl => match us, hl with | [_, _, _, _], _ => rfl)
      (case a40 => k_is); (case l40 => k_is); (case c40 => k_is); (case k40 => k_is)
#print axioms PySem.Challenge.cw_heapsight_k10_whole_states_looked_at_holds
