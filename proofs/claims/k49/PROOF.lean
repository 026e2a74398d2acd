import PyProof.Rows.All
import Wide.All
import OpenK.AllK
import Wide.FinOn
import HandS.ForMost
import HandS.Exc
import HandS.WordsExc
import HandS.ExcInit
import HandS.IsInst
import HandS.DictComp
import HandS.Defaults
import HandS.Property
import HandS.Flow
import HandS.TryOnly
import HandS.TryMany
import HandS.ExcOwn
import HandS.SetKeys
import HandS.TupAny
import HandS.TupMul
import HandS.Wide
import HandS.Strs
import HandS.SetFor
import HandS.Zip
import KE.KUnpack
import PyProof.CollectIter
import HandS.OwnEq
import KE.GoesEnumKw
import PyProof.StrBlock2
import HandS.Walk
import HandS.Style
import HandS.MakeKw
import KE.KDictPairs
import HandS.ListItems
import HandS.SortInts
import HandS.More
import KE.KOpsOwn
import KE.GoesNew
import KE.GoesMore
import KE.KRevSl
import KE.KDictZip
import HandS.Zip0
import PySem.Challenge.RW_sheetback_k49_what_meanwhile_allows
import KE.KIntText
import HandS.Text
set_option Elab.async false
set_option linter.all false
set_option maxRecDepth 100000
set_option maxHeartbeats 0
/-! Eng1: pure data, what denotes it, the state between the abstract heap and the pure one. -/
namespace G
open PySem PySem.Spec PyProof.Rows L2

/-- pure data: trees; ref: an object that may change (told by the store M), a class, a def -/
inductive D where
  | non | bl (b : Bool) | int (i : Int) | str (s : Str)
  | tup (xs : List D) | lst (xs : List D)
  /-- a tuple of which nothing more is known than its items -/
  | tpl (xs : List D)
  | dic (kvs : List (Key × D))
  | ins (C : Str) (fs : List (Str × D))
  | set (ks : List Key)
  | ref (a : Addr)
  | ty (n : String)
  | scr (xs : List D)
  | cls (C : Str)
  /-- an exception that is held: the object at a, its class, its own dict -/
  | exc (a : Addr) (C : Str) (dd : Option Addr) (fs : List (Str × D))

/-- objects that may change -/
inductive MO where
  | lst (xs : List D)
  | dic (kvs : List (Key × D))
  | ins (C : Str) (fs : List (Str × D))
  | set (ks : List Key)

abbrev MS := Addr → Option MO
def MS.set (M : MS) (a : Addr) (m : MO) : MS := fun b => if b = a then some m else M b
def MS.del (M : MS) (a : Addr) : MS := fun b => if b = a then none else M b
theorem MS.set_same {M : MS} {a : Addr} {m : MO} : M.set a m a = some m := if_pos rfl
theorem MS.set_ne {M : MS} {a b : Addr} {m : MO} (h : b ≠ a) : M.set a m b = M b := if_neg h
theorem MS.del_same {M : MS} {a : Addr} : M.del a a = none := if_pos rfl
theorem MS.del_ne {M : MS} {a b : Addr} (h : b ≠ a) : M.del a b = M b := if_neg h
theorem MS.set_set {M : MS} {a : Addr} {m m' : MO} : (M.set a m).set a m' = M.set a m' := by
  funext b; unfold MS.set; split <;> rfl
theorem MS.del_set {M : MS} {a : Addr} {m : MO} (h : M a = none) : (M.set a m).del a = M := by
  funext b; unfold MS.set MS.del; split
  · rename_i e; rw [e, h]
  · rename_i e; exact if_neg e

/-- a key is among these -/
def hasK (ks : List Key) (k : Key) : Bool := ks.any fun x => decide (x = k)

/-- a type: a built-in one, or a class of the text -/
inductive TyN where
  | bi (n : String) | own (C : Str)

/-- what stays fixed through a law: the written part, the classes' places -/
structure Wd where
  P : Program
  w : World
  K : PySem.W.Frag
  mg : Str → Option Value
  base : Heap
  adr : Str → Addr
  /-- the own classes that are known -/
  cls : Str → Bool
  /-- isinstance's answers by types -/
  isi : TyN → TyN → Option Bool
  /-- the class has no attribute of that name -/
  noA : Str → Str → Bool

/-- a tuple to be read, whose object has no dict of its own -/
def TupX (K : PySem.W.Frag) (F : Hp) (a : Addr) (vs : List V) : Prop := (∃ o, F a = some (.frz o (.tup vs)) ∧ o.dict = none) ∨
  ∃ (o : Obj) (its : Array Value) (n : Nat), K.lookup a = some o ∧ o.cls = .type "tuple" ∧ o.dict = none ∧ o.data = .seq its n ∧ its.size ≤ sizeLine ∧ Vals vs its.toList
section
variable (T : Wd)
mutual
inductive Den (F : Hp) : V → D → Prop
  | non : Den F .non .non
  | bl (b : Bool) : Den F (.bl b) (.bl b)
  | int (i : Int) : Den F (.int i) (.int i)
  | str (x : Str) : Den F (.str x) (.str x)
  | ref (a : Addr) : Den F (.ref a) (.ref a)
  | ty (n : String) : Den F (.ty n) (.ty n)
  | tpl {a : Addr} {vs : List V} {ds : List D} : SqT T.K F a vs → DenL F vs ds → Den F (.ref a) (.tpl ds)
  | tup {a : Addr} {vs : List V} {ds : List D} : TupX T.K F a vs → DenL F vs ds → Den F (.ref a) (.tup ds)
  | lst {a : Addr} {vs : List V} {ds : List D} : F a = some (.lst vs) → DenL F vs ds → Den F (.ref a) (.lst ds)
  | cls (C : Str) : Den F (.ref (T.adr C)) (.cls C)
  | scr {a : Addr} {vs : List V} {ds : List D} : SqL T.K F a vs → DenL F vs ds → Den F (.ref a) (.scr ds)
  | dic {a : Addr} {o : Obj} {vs : List (Key × V)} {ds : List (Key × D)} : F a = some (.frz o (.dK vs)) → DenK F vs ds → Den F (.ref a) (.dic ds)
  | ins {a dx : Addr} {C : Str} {vs : List (Str × V)} {ds : List (Str × D)} : F a = some (.ins (T.adr C) dx vs) → DenF F vs ds → Den F (.ref a) (.ins C ds)
  | set {a : Addr} {ks : List Key} : F a = some (SetK T.P T.w a (hasK ks) ks.length) → Den F (.ref a) (.set ks)
  | exc0 {a : Addr} {C : Str} : Den F (.ref a) (.exc a C none [])
  | exc {a dd : Addr} {C : Str} {vs : List (Str × V)} {ds : List (Str × D)} : F dd = some (.xd vs) → DenF F vs ds → Den F (.ref a) (.exc a C (some dd) ds)
inductive DenL (F : Hp) : List V → List D → Prop
  | nil : DenL F [] []
  | cons {v : V} {vs : List V} {d : D} {ds : List D} : Den F v d → DenL F vs ds → DenL F (v :: vs) (d :: ds)
inductive DenK (F : Hp) : List (Key × V) → List (Key × D) → Prop
  | nil : DenK F [] []
  | cons {k : Key} {v : V} {vs : List (Key × V)} {d : D} {ds : List (Key × D)} : Den F v d → DenK F vs ds → DenK F ((k, v) :: vs) ((k, d) :: ds)
inductive DenF (F : Hp) : List (Str × V) → List (Str × D) → Prop
  | nil : DenF F [] []
  | cons {k : Str} {v : V} {vs : List (Str × V)} {d : D} {ds : List (Str × D)} : Den F v d → DenF F vs ds → DenF F ((k, v) :: vs) ((k, d) :: ds)
end
end

/-- more is known -/
def Ex (F F' : Hp) : Prop := ∀ a o, F a = some o → F' a = some o
theorem Ex.refl (F : Hp) : Ex F F := fun _ _ h => h
theorem Ex.trans {F F1 F2 : Hp} (a : Ex F F1) (b : Ex F1 F2) : Ex F F2 := fun x o h => b x o (a x o h)
theorem Ex.new {F : Hp} {p : Addr} {o : HO} (h : F p = none) : Ex F (upd F p o) := fun a u e => by
  rw [upd_ne (ne_of_none e h)]; exact e
theorem Ex.rd {F F' : Hp} {a : Addr} {u : HO} (e : Ex F F') (h : Rd F a u) : Rd F' a u := by
  rcases h with h | ⟨o, h⟩
  · exact Or.inl (e a _ h)
  · exact Or.inr ⟨o, e a _ h⟩
theorem Ex.l {K : PySem.W.Frag} {F F' : Hp} {a : Addr} {xs : List V} (e : Ex F F') (h : SqL K F a xs) : SqL K F' a xs := by
  rcases h with h | h
  · exact Or.inl (e.rd h)
  · exact Or.inr h
theorem Ex.t {K : PySem.W.Frag} {F F' : Hp} {a : Addr} {xs : List V} (e : Ex F F') (h : SqT K F a xs) : SqT K F' a xs := by
  rcases h with h | h
  · exact Or.inl (e.rd h)
  · exact Or.inr h

theorem Ex.tx {K : PySem.W.Frag} {F F' : Hp} {a : Addr} {xs : List V} (e : Ex F F') (h : TupX K F a xs) : TupX K F' a xs := by
  rcases h with ⟨o, h, d⟩ | h
  · exact Or.inl ⟨o, e a _ h, d⟩
  · exact Or.inr h

section
variable {T : Wd}
mutual
theorem Den.mono {F F' : Hp} (e : Ex F F') : ∀ {v : V} {d : D}, Den T F v d → Den T F' v d
  | _, _, .non => .non
  | _, _, .bl b => .bl b
  | _, _, .int i => .int i
  | _, _, .str x => .str x
  | _, _, .ref a => .ref a
  | _, _, .ty n => .ty n
  | _, _, .tpl h l => .tpl (e.t h) (l.mono e)
  | _, _, .tup h l => .tup (e.tx h) (l.mono e)
  | _, _, .lst h l => .lst (e _ _ h) (l.mono e)
  | _, _, .scr h l => .scr (e.l h) (l.mono e)
  | _, _, .cls C => .cls C
  | _, _, .dic h l => .dic (e _ _ h) (l.mono e)
  | _, _, .ins h l => .ins (e _ _ h) (l.mono e)
  | _, _, .set h => .set (e _ _ h)
  | _, _, .exc0 => .exc0
  | _, _, .exc h l => .exc (e _ _ h) (l.mono e)
theorem DenL.mono {F F' : Hp} (e : Ex F F') : ∀ {vs : List V} {ds : List D}, DenL T F vs ds → DenL T F' vs ds
  | _, _, .nil => .nil
  | _, _, .cons h l => .cons (h.mono e) (l.mono e)
theorem DenK.mono {F F' : Hp} (e : Ex F F') : ∀ {vs : List (Key × V)} {ds : List (Key × D)}, DenK T F vs ds → DenK T F' vs ds
  | _, _, .nil => .nil
  | _, _, .cons h l => .cons (h.mono e) (l.mono e)
theorem DenF.mono {F F' : Hp} (e : Ex F F') : ∀ {vs : List (Str × V)} {ds : List (Str × D)}, DenF T F vs ds → DenF T F' vs ds
  | _, _, .nil => .nil
  | _, _, .cons h l => .cons (h.mono e) (l.mono e)
end
theorem DenL.length {F : Hp} : ∀ {vs : List V} {ds : List D}, DenL T F vs ds → vs.length = ds.length
  | _, _, .nil => rfl
  | _, _, .cons _ l => congrArg (· + 1) l.length
theorem DenL.get {F : Hp} : ∀ {vs : List V} {ds : List D} {i : Nat} {v : V}, DenL T F vs ds → vs[i]? = some v → ∃ d, ds[i]? = some d ∧ Den T F v d
  | _, _, _, _, .nil, e => by simp at e
  | _, _, 0, _, .cons h _, e => by simp at e; subst e; exact ⟨_, rfl, h⟩
  | _, _, i + 1, _, .cons _ l, e => by
    obtain ⟨d, h1, h2⟩ := DenL.get (i := i) l (by simpa using e)
    exact ⟨d, by simpa using h1, h2⟩
theorem DenL.get' {F : Hp} : ∀ {vs : List V} {ds : List D} {i : Nat} {d : D}, DenL T F vs ds → ds[i]? = some d → ∃ v, vs[i]? = some v ∧ Den T F v d
  | _, _, _, _, .nil, e => by simp at e
  | _, _, 0, _, .cons h _, e => by simp at e; subst e; exact ⟨_, rfl, h⟩
  | _, _, i + 1, _, .cons _ l, e => by
    obtain ⟨d, h1, h2⟩ := DenL.get' (i := i) l (by simpa using e)
    exact ⟨d, by simpa using h1, h2⟩
theorem DenL.append {F : Hp} : ∀ {vs us : List V} {ds es : List D}, DenL T F vs ds → DenL T F us es → DenL T F (vs ++ us) (ds ++ es)
  | _, _, _, _, .nil, l => l
  | _, _, _, _, .cons h t, l => .cons h (t.append l)
theorem DenL.take {F : Hp} : ∀ {vs : List V} {ds : List D} (n : Nat), DenL T F vs ds → DenL T F (vs.take n) (ds.take n)
  | _, _, 0, _ => .nil
  | _, _, _ + 1, .nil => .nil
  | _, _, n + 1, .cons h t => .cons h (t.take n)
theorem DenL.drop {F : Hp} : ∀ {vs : List V} {ds : List D} (n : Nat), DenL T F vs ds → DenL T F (vs.drop n) (ds.drop n)
  | _, _, 0, l => l
  | _, _, _ + 1, .nil => .nil
  | _, _, n + 1, .cons _ t => t.drop n
theorem DenL.set {F : Hp} {v : V} {d : D} (h : Den T F v d) : ∀ {vs : List V} {ds : List D} (n : Nat), DenL T F vs ds → DenL T F (vs.set n v) (ds.set n d)
  | _, _, _, .nil => .nil
  | _, _, 0, .cons _ t => .cons h t
  | _, _, n + 1, .cons q t => .cons q (DenL.set h n t)
theorem DenL.eraseIdx {F : Hp} : ∀ {vs : List V} {ds : List D} (n : Nat), DenL T F vs ds → DenL T F (vs.eraseIdx n) (ds.eraseIdx n)
  | _, _, _, .nil => .nil
  | _, _, 0, .cons _ t => t
  | _, _, n + 1, .cons q t => .cons q (t.eraseIdx n)
theorem DenL.reverse {F : Hp} : ∀ {vs : List V} {ds : List D}, DenL T F vs ds → DenL T F vs.reverse ds.reverse
  | _, _, .nil => .nil
  | _, _, .cons h t => by
    rw [List.reverse_cons, List.reverse_cons]
    exact t.reverse.append (.cons h .nil)
theorem DenL.rep {F : Hp} {v : V} {d : D} (h : Den T F v d) : ∀ n : Nat, DenL T F (List.replicate n v) (List.replicate n d)
  | 0 => .nil
  | n + 1 => .cons h (DenL.rep h n)
theorem DenL.one {F : Hp} {v : V} {d : D} (h : Den T F v d) : DenL T F [v] [d] := .cons h .nil
/-- a list of one kind's values -/
theorem DenL.ints {F : Hp} : ∀ (ns : List Int), DenL T F (ns.map V.int) (ns.map D.int)
  | [] => .nil
  | n :: r => .cons (.int n) (DenL.ints r)
theorem DenL.ints_of {F : Hp} : ∀ {vs : List V} {ns : List Int}, DenL T F vs (ns.map D.int) → vs = ns.map V.int
  | _, [], .nil => rfl
  | _, n :: r, .cons (.int _) l => by rw [List.map_cons, DenL.ints_of l]
theorem DenL.strs {F : Hp} : ∀ (ns : List Str), DenL T F (ns.map V.str) (ns.map D.str)
  | [] => .nil
  | n :: r => .cons (.str n) (DenL.strs r)
theorem DenL.strs_of {F : Hp} : ∀ {vs : List V} {ns : List Str}, DenL T F vs (ns.map D.str) → vs = ns.map V.str
  | _, [], .nil => rfl
  | _, n :: r, .cons (.str _) l => by rw [List.map_cons, DenL.strs_of l]
theorem DenL.bls_of {F : Hp} : ∀ {vs : List V} {ns : List Bool}, DenL T F vs (ns.map D.bl) → vs = ns.map V.bl
  | _, [], .nil => rfl
  | _, n :: r, .cons (.bl _) l => by rw [List.map_cons, DenL.bls_of l]
theorem DenF.lookup {F : Hp} {f : Str} : ∀ {vs : List (Str × V)} {ds : List (Str × D)} {d : D}, DenF T F vs ds → ds.lookup f = some d → ∃ v, vs.lookup f = some v ∧ Den T F v d
  | _, _, _, .nil, e => by simp at e
  | (k, v) :: vs, (_, d') :: ds, d, .cons h l, e => by
    rw [List.lookup_cons] at e
    rw [List.lookup_cons]
    cases q : f == k with
    | true => rw [q] at e; cases e; exact ⟨v, rfl, h⟩
    | false => rw [q] at e; exact DenF.lookup l e
theorem DenF.lookup_none {F : Hp} {f : Str} : ∀ {vs : List (Str × V)} {ds : List (Str × D)}, DenF T F vs ds → ds.lookup f = none → vs.lookup f = none
  | _, _, .nil, _ => rfl
  | (k, v) :: vs, (_, d') :: ds, .cons h l, e => by
    rw [List.lookup_cons] at e
    rw [List.lookup_cons]
    cases q : f == k with
    | true => rw [q] at e; cases e
    | false => rw [q] at e; exact DenF.lookup_none l e
theorem DenF.length {F : Hp} : ∀ {vs : List (Str × V)} {ds : List (Str × D)}, DenF T F vs ds → vs.length = ds.length
  | _, _, .nil => rfl
  | _, _, .cons _ l => congrArg (· + 1) l.length
def putD (f : Str) (d : D) : List (Str × D) → List (Str × D)
  | [] => [(f, d)]
  | (g, x) :: r => if g = f then (g, d) :: r else (g, x) :: putD f d r
theorem DenF.put {F : Hp} {f : Str} {v : V} {d : D} (h : Den T F v d) : ∀ {vs : List (Str × V)} {ds : List (Str × D)}, DenF T F vs ds → DenF T F (putF f v vs) (putD f d ds)
  | _, _, .nil => .cons h .nil
  | (k, _) :: _, _, .cons q l => by
    unfold putF putD
    by_cases e : k = f
    · rw [if_pos e, if_pos e]; exact .cons h l
    · rw [if_neg e, if_neg e]; exact .cons q (DenF.put h l)
end
end G

/-! EngT: new tuples whose object is known to have no dict of its own (so that their methods may be called). -/
namespace G
open PySem PySem.Spec PyProof.Rows L2

theorem TupX.sqt {K : PySem.W.Frag} {F : Hp} {a : Addr} {vs : List V} (h : TupX K F a vs) : SqT K F a vs := by
  rcases h with ⟨o, e, _⟩ | ⟨o, its, n, h1, h2, _, h3, h4, h5⟩
  · exact .inl (.inr ⟨o, e⟩)
  · exact .inr ⟨o, its, n, h1, h2, h3, h4, h5⟩
/-- a new tuple, laid with its object -/
abbrev NewT (xs : List V) (H : Hp) (Q : VK) : Prop := ∀ (p : Addr) (o : Obj), H p = none → o.dict = none → Q (.ref p) (upd H p (.frz o (.tup xs)))
section
variable {X : Cx}
theorem laid_tup {pins : List (Addr × Obj)} {σ : L2.St} {H : Hp} {s : Shared} {Q : VK} {xs : List V} {its : List Value} {tk : Nat} (I : Inv X pins σ H s) (r : Vals xs its) (hz : xs.length ≤ sizeLine) (q : NewT xs H Q) :
    EP X pins σ Q (.ref s.heap.objs.size) { s with heap := s.heap.push { cls := .type "tuple", data := .seq its.toArray }, toks := tk } :=
  ⟨.ref s.heap.objs.size, _, I.laid (t' := tk) (o := .frz { cls := .type "tuple", data := .seq its.toArray } (.tup xs)) (fun b ob e => Heap.get?_push_of_some _ e) (Nat.le_refl _)
    ⟨Heap.get?_push_size _ rfl, hz, its, r, IsTup.new _ _⟩, rfl, q _ _ (I.hok.fresh (Nat.le_refl _)) rfl⟩
def tTupX (t : TA) : TE := fun σ H Q => t σ H fun xs H1 => xs.length ≤ sizeLine ∧ NewT xs H1 Q
theorem pe_tupX {es : List Expr} {t : TA} {x1 : Nat} {pos : Pos} (h : PA X es t) : PE X (.Tuple es x1 pos) (tTupX t) := by
  refine ⟨fun pins s σ H Q I hq => ?_⟩
  refine wpAny_Tuple_spliced (thn (h.run pos pins s σ H _ I hq) fun us s1 ⟨xs, H1, I1, r, z, q⟩ => ⟨by rw [← r.length]; exact z, ?_⟩)
  exact laid_tup (tk := s1.toks) I1 r z q
def rCatX (K : PySem.W.Frag) : R2 := fun x y H Q => ∃ a b xs ys, x = .ref a ∧ y = .ref b ∧ SqT K H a xs ∧ SqT K H b ys ∧ xs.length + ys.length ≤ sizeLine ∧
  (xs = [] → Q (.ref b) H) ∧ (xs ≠ [] → ys = [] → Q (.ref a) H) ∧ (xs ≠ [] → ys ≠ [] → NewT (xs ++ ys) H Q)
theorem op_catX : OpR X (binaryOp .Add) (rCatX X.K) := by
  intro pins s σ H x y v u Q I rx ry h
  obtain ⟨a, b, xs, ys, rfl, rfl, ha, hb, hz, q0, q1, q2⟩ := h
  cases rx
  cases ry
  obtain ⟨its, r1, p1, _⟩ := I.tuple ha
  obtain ⟨its2, r2, p2, _⟩ := I.tuple hb
  by_cases hx : xs = []
  · subst hx
    cases r1
    exact cat_tup0 p1 p2 ⟨.ref b, H, I, rfl, q0 rfl⟩
  · refine HT.cat_tup p1 p2 (fun z => hx (r1.nil_iff.mp z)) (fun z => ⟨.ref a, H, I, rfl, q1 hx (r2.nil_iff.mp z)⟩) (fun z => ?_) (by rw [← r1.length, ← r2.length]; exact hz)
    exact laid_tup (tk := s.toks) I (r1.append r2) (by rw [List.length_append]; exact hz) (q2 hx fun w => z (r2.nil_iff.mpr w))
def rSlX (K : PySem.W.Frag) : V → Option Int → Option Int → Hp → VK → Prop := fun x lo hi H Q => ∃ a xs, x = .ref a ∧ SqT K H a xs ∧
  (HT.sIx xs.length 0 lo = 0 ∧ HT.sIx xs.length xs.length hi = xs.length → Q (.ref a) H) ∧ (¬ (HT.sIx xs.length 0 lo = 0 ∧ HT.sIx xs.length xs.length hi = xs.length) → NewT (cutV xs lo hi) H Q)
theorem sl_tupX : SlR X (rSlX X.K) := by
  intro pins s σ H x v vl vu lo hi sl Q I rx hs pl pu h
  obtain ⟨a, xs, rfl, hx, q1, q2⟩ := h
  cases rx
  obtain ⟨its, r, ht, hz⟩ := I.tuple hx
  have hlen : its.toArray.size = xs.length := by rw [List.size_toArray]; exact r.length.symm
  refine ⟨"tuple", _, PyProof.Rows.slot_tuple_getitem.lookup, ht.typeIs, ?_⟩
  by_cases hw : HT.sIx xs.length 0 lo = 0 ∧ HT.sIx xs.length xs.length hi = xs.length
  · exact getItem_tuple_whole ht hs pl pu (by rw [hlen]; exact hw) ⟨.ref a, H, I, rfl, q1 hw⟩
  · refine HT.getItem_tuple_cut ht hs pl pu (by rw [hlen]; exact hw) ?_ (by rw [hlen]; exact hz)
    rw [hlen]
    exact laid_tup (tk := s.toks) (its := (its.drop (HT.sIx xs.length 0 lo)).take (HT.sIx xs.length xs.length hi - HT.sIx xs.length 0 lo)) I ((r.drop _).take _) (Nat.le_trans (cutV_length xs lo hi) hz) (q2 hw)
/-- tuple(xs), tuple(t) -/
theorem call_tupleX : CallR X (.type "tuple") (fun xs H Q => ∃ p ys, xs = [.ref p] ∧ ((SqL X.K H p ys ∧ NewT ys H Q) ∨ (SqT X.K H p ys ∧ Q (.ref p) H))) := by
  intro pins s σ H xs us Q I r h
  obtain ⟨p, ys, rfl, h⟩ := h
  obtain ⟨u, rfl, rx⟩ := vals1 r
  cases rx
  rcases h with ⟨hq, q⟩ | ⟨hq, q⟩
  · obtain ⟨its, r', pl, hz⟩ := I.list hq
    have hlen := r'.length
    refine call_tuple_list pl.isList (fun h' kp => ?_) (by simp only [List.size_toArray] <;> omega)
    have I1 : Inv X pins σ H { s with heap := h' } := I.kept (t' := s.toks) kp
    exact laid_tup (tk := s.toks) I1 r' hz q
  · obtain ⟨its, r', pl, hz⟩ := I.tuple hq
    exact call_tuple_same pl ⟨.ref p, H, I, rfl, q⟩
/-- t * k -/
theorem tuple_mul1 (l : Addr) (items : Array Value) (n : Nat) (dd : Option Addr) (sl : Array (Option Value)) (u : Tok) :
    Meets (Builtin.«tuple.__mul__» ⟨[.ref l, .int 1 u], []⟩) (fun _ R s => s.heap.get? l = some { cls := .type "tuple", dict := dd, data := .seq items n, slots := sl } ∧ R (.ok (.ret (Value.ref l))) s) :=
  .of_wp fun prog w A R s h => by
    obtain ⟨hp, g, d, tk, os⟩ := s
    obtain ⟨hl, h⟩ := h
    have f1 := AutoSeq1.idx_int
    have c1 : (items.isEmpty || (1 : Int) == 1) = true := by simp
    have c0 : (decide ((1 : Int) < -(2 ^ 63)) || decide ((1 : Int) ≥ 2 ^ 63)) = false := by decide
    wp_walk using wpAny_loadPart' hl
    repeat (first
      | (refine wpAny_ite_false (decide_eq_false (by rw [c0]; exact Bool.false_ne_true)) ?_; wp_walk using wpAny_loadPart' hl)
      | (refine wpAny_ite_true (decide_eq_true (by rw [c1])) ?_; wp_walk using wpAny_loadPart' hl))
    exact ⟨_, rfl, h⟩
def rRepX (K : PySem.W.Frag) : R2 := fun x y H Q => ∃ l k xs, x = .ref l ∧ y = .int k ∧ SqT K H l xs ∧ xs ≠ [] ∧ 1 ≤ k ∧ k ≤ 1000 ∧ xs.length ≤ 1000 ∧ (k = 1 → Q (.ref l) H) ∧ (2 ≤ k → NewT (List.replicate k.toNat xs).flatten H Q)
theorem op_repX : OpR X (binaryOp .Mult) (rRepX X.K) := by
  intro pins s σ H x y v u Q I rx ry h
  obtain ⟨l, k, xs, rfl, rfl, hT, hne, h1, h2, hz, q1, q⟩ := h
  cases rx
  obtain ⟨t, rfl⟩ := ry
  obtain ⟨its, r, ⟨⟨cls, dd, data, sl⟩, ho, hc, n, hd⟩, hs⟩ := I.tuple hT
  simp only at hc hd
  subst hc hd
  by_cases hk : k = 1
  · subst hk
    refine wpAny_binaryOp_repeat_ref (T := "tuple") (U := "int") (by decide) ⟨_, ho, rfl⟩ (fun s' => typeIs_int s' 1 t) noFill_tuple_mul F.fills_int_mul F.slot_int_rmul repeat_tuple F.slot_int_index.lookup
      (call_meets F.slot_int_rmul (typeIs_int s 1 t) F.entry_int_rmul (F.args_int_rmul_2 _ _) (int_rmul_tuple 1 t l its.toArray n dd sl)
        ⟨ho, rfl, ⟨_, ho, rfl⟩, call_meets F.slot_tuple_mul ⟨_, ho, rfl⟩ F.entry_tuple_mul (F.args_tuple_mul_2 _ _) (tuple_mul1 l its.toArray n dd sl t) ⟨ho, ?_⟩⟩)
    exact ⟨.ref l, H, I, rfl, q1 rfl⟩
  · have hle : its.length = xs.length := r.length.symm
    have hi : its.toArray.isEmpty = false := by
      cases its with
      | nil => exact absurd (List.eq_nil_of_length_eq_zero hle.symm) hne
      | cons a b => rfl
    have s0 : its.toArray.size = xs.length := by rw [List.size_toArray, hle]
    have hm : ((its.toArray.size : Nat) : Int) * k ≤ 1000000 := by
      rw [s0]
      have a1 : ((xs.length : Nat) : Int) * k ≤ 1000 * k := Int.mul_le_mul_of_nonneg_right (by omega) (by omega)
      omega
    have fl : (List.replicate k.toNat its).flatten.length ≤ sizeLine := by
      rw [PyProof.Rows.lm_len_rep_flat, hle, sizeLine_eq]
      have a1 : k.toNat * xs.length ≤ 1000 * 1000 := Nat.mul_le_mul (by omega) hz
      omega
    have c0 : (decide (k < -(2 ^ 63)) || decide (k ≥ 2 ^ 63)) = false := by
      rw [decide_eq_false (by omega), decide_eq_false (by omega)] <;> rfl
    have c1 : (its.toArray.isEmpty || k == 1) = false := by
      rw [hi, Bool.false_or]
      exact beq_eq_false_iff_ne.mpr hk
    have c2 : (decide (k ≤ 0) || its.toArray.isEmpty) = false := by
      rw [hi, Bool.or_false]
      exact decide_eq_false (by omega)
    have c4 : Builtin.Tuple.tupleTooMany (((its.toArray.size : Nat) : Int) * k) = false := by
      unfold Builtin.Tuple.tupleTooMany
      rw [sizeLine_eq]
      exact decide_eq_false (by omega)
    refine wpAny_binaryOp_repeat_ref (T := "tuple") (U := "int") (by decide) ⟨_, ho, rfl⟩ (fun s' => typeIs_int s' k t) noFill_tuple_mul F.fills_int_mul F.slot_int_rmul repeat_tuple F.slot_int_index.lookup
      (call_meets F.slot_int_rmul (typeIs_int s k t) F.entry_int_rmul (F.args_int_rmul_2 _ _) (int_rmul_tuple k t l its.toArray n dd sl)
        ⟨ho, rfl, ⟨_, ho, rfl⟩, call_meets F.slot_tuple_mul ⟨_, ho, rfl⟩ F.entry_tuple_mul (F.args_tuple_mul_2 _ _) (tuple_mulW l its.toArray n dd sl k t c0 c1 c2 (by omega) c4 (by rw [size_rep, List.size_toArray]; exact fl)) ⟨ho, ?_⟩⟩)
    rw [size_rep]
    refine laid_tup (tk := s.toks) I (r.rep k.toNat) ?_ (q (by omega))
    rw [PyProof.Rows.lm_len_rep_flat, sizeLine_eq]
    have a1 : k.toNat * xs.length ≤ 1000 * 1000 := Nat.mul_le_mul (by omega) hz
    omega
end
end G

/-! Eng2: the state's relation, the readings of pure data, the judgements, expressions. -/
namespace G
open PySem PySem.Spec PyProof.Rows L2

abbrev EnvD := List (Option D)
structure Exn where
  cls : Str
  fs : List (Str × D)
abbrev EK := Exn → MS → Prop
abbrev QD := D → MS → Prop
abbrev WE := EnvD → MS → QD → EK → Prop
abbrev WT := EnvD → MS → (Bool → MS → Prop) → EK → Prop
abbrev WA := EnvD → MS → (List D → MS → Prop) → EK → Prop

section
variable (T : Wd)
/-- what an object that may change holds -/
def MDen (F H : Hp) (a : Addr) : MO → Prop
  | .lst ds => ∃ vs, H a = some (.lst vs) ∧ DenL T F vs ds
  | .dic ds => ∃ vs, H a = some (.dK vs) ∧ DenK T F vs ds
  | .ins C ds => ∃ dx vs, H a = some (.ins (T.adr C) dx vs) ∧ DenF T F vs ds
  | .set ks => H a = some (SetK T.P T.w a (hasK ks) ks.length)
/-- the abstract heap H bears: F (frozen), M (may change), G (a frame that nobody here touches) -/
structure SR (F : Hp) (M : MS) (Gh H : Hp) : Prop where
  fr : ∀ a o, F a = some o → H a = some o
  gr : ∀ a o, Gh a = some o → H a = some o ∧ F a = none
  mu : ∀ a m, M a = some m → F a = none ∧ Gh a = none ∧ MDen T F H a m
def EnvR (F : Hp) (σ : List (Option V)) (env : EnvD) : Prop := σ.length = env.length ∧ ∀ (i : Nat) (d : D), env[i]? = some (some d) → ∃ v, σ[i]? = some (some v) ∧ Den T F v d
/-- an exception: its class and its own dict -/
inductive XDen (F : Hp) : Value → Option Addr → Exn → Prop
  | own0 {C : Str} : XDen F (.ref (T.adr C)) none ⟨C, []⟩
  | own {C : Str} {dd : Addr} {vs : List (Str × V)} {ds : List (Str × D)} : F dd = some (.xd vs) → DenF T F vs ds → XDen F (.ref (T.adr C)) (some dd) ⟨C, ds⟩
/-- behind the code: what is wanted of a value, of an exception -/
def RN (F Gh : Hp) (Q : QD) (R : VK) : Prop := ∀ v H' F' d M', Ex F F' → SR T F' M' Gh H' → Den T F' v d → Q d M' → R v H'
def RT (F Gh : Hp) (Q : Bool → MS → Prop) (R : Bool → Hp → Prop) : Prop := ∀ b H' F' M', Ex F F' → SR T F' M' Gh H' → Q b M' → R b H'
def RA (F Gh : Hp) (Q : List D → MS → Prop) (R : List V → Hp → Prop) : Prop := ∀ vs H' F' ds M', Ex F F' → SR T F' M' Gh H' → DenL T F' vs ds → Q ds M' → R vs H'
def RX (F Gh : Hp) (EQ : EK) (W : WX) (σ : L2.St) : Prop := ∀ c dd H' F' x M', Ex F F' → SR T F' M' Gh H' → XDen T F' c dd x → EQ x M' → W c dd σ H'
end

section
variable {T : Wd}
theorem MDen.mono {F F' H : Hp} {a : Addr} {m : MO} (e : Ex F F') (h : MDen T F H a m) : MDen T F' H a m := by
  cases m with
  | lst ds => obtain ⟨vs, h1, h2⟩ := h; exact ⟨vs, h1, h2.mono e⟩
  | dic ds => obtain ⟨vs, h1, h2⟩ := h; exact ⟨vs, h1, h2.mono e⟩
  | ins C ds => obtain ⟨dx, vs, h1, h2⟩ := h; exact ⟨dx, vs, h1, h2.mono e⟩
  | set ks => exact h
theorem MDen.at {F H H' : Hp} {a : Addr} {m : MO} (e : H' a = H a) (h : MDen T F H a m) : MDen T F H' a m := by
  cases m with
  | lst ds => obtain ⟨vs, h1, h2⟩ := h; exact ⟨vs, e.trans h1, h2⟩
  | dic ds => obtain ⟨vs, h1, h2⟩ := h; exact ⟨vs, e.trans h1, h2⟩
  | ins C ds => obtain ⟨dx, vs, h1, h2⟩ := h; exact ⟨dx, vs, e.trans h1, h2⟩
  | set ks => exact e.trans h
theorem MDen.there {F H : Hp} {a : Addr} {m : MO} (h : MDen T F H a m) : ∃ o, H a = some o := by
  cases m with
  | lst ds => obtain ⟨vs, h1, h2⟩ := h; exact ⟨_, h1⟩
  | dic ds => obtain ⟨vs, h1, h2⟩ := h; exact ⟨_, h1⟩
  | ins C ds => obtain ⟨dx, vs, h1, h2⟩ := h; exact ⟨_, h1⟩
  | set ks => exact ⟨_, h⟩
theorem XDen.mono {F F' : Hp} {c : Value} {dd : Option Addr} {x : Exn} (e : Ex F F') (h : XDen T F c dd x) : XDen T F' c dd x := by
  cases h with
  | own0 => exact .own0
  | own h1 h2 => exact .own (e _ _ h1) (h2.mono e)
theorem EnvR.mono {F F' : Hp} {σ : L2.St} {env : EnvD} (e : Ex F F') (h : EnvR T F σ env) : EnvR T F' σ env :=
  ⟨h.1, fun i d hi => let ⟨v, h1, h2⟩ := h.2 i d hi; ⟨v, h1, h2.mono e⟩⟩
theorem EnvR.set {F : Hp} {σ : L2.St} {env : EnvD} {v : V} {d : D} (h : EnvR T F σ env) (q : Den T F v d) (i : Nat) : EnvR T F (σ.set i (some v)) (env.set i (some d)) := by
  refine ⟨by simpa using h.1, fun j d' hj => ?_⟩
  by_cases e : i = j
  · subst e
    rw [List.getElem?_set] at hj
    by_cases hl : i < env.length
    · rw [if_pos rfl, if_pos hl] at hj
      cases hj
      exact ⟨v, by rw [List.getElem?_set, if_pos rfl, if_pos (by rw [h.1]; exact hl)], q⟩
    · rw [if_pos rfl, if_neg hl] at hj; cases hj
  · rw [List.getElem?_set_ne e] at hj ⊢
    exact h.2 j d' hj
theorem RN.mono {F F1 Gh : Hp} {Q : QD} {R : VK} (h : RN T F Gh Q R) (e : Ex F F1) : RN T F1 Gh Q R := fun v H' F' d M' e' => h v H' F' d M' (e.trans e')
theorem RT.mono {F F1 Gh : Hp} {Q : Bool → MS → Prop} {R : Bool → Hp → Prop} (h : RT T F Gh Q R) (e : Ex F F1) : RT T F1 Gh Q R := fun v H' F' M' e' => h v H' F' M' (e.trans e')
theorem RA.mono {F F1 Gh : Hp} {Q : List D → MS → Prop} {R : List V → Hp → Prop} (h : RA T F Gh Q R) (e : Ex F F1) : RA T F1 Gh Q R := fun v H' F' d M' e' => h v H' F' d M' (e.trans e')
theorem RX.mono {F F1 Gh : Hp} {EQ : EK} {W : WX} {σ : L2.St} (h : RX T F Gh EQ W σ) (e : Ex F F1) : RX T F1 Gh EQ W σ := fun c d H' F' x M' e' => h c d H' F' x M' (e.trans e')
theorem RX.no {F Gh : Hp} {W : WX} {σ : L2.St} : RX T F Gh (fun _ _ => False) W σ := fun _ _ _ _ _ _ _ _ _ q => q.elim

section
variable {F Gh H : Hp} {M : MS} {p a : Addr} {o : HO} {m : MO}
theorem SR.freeF (s : SR T F M Gh H) (h : H p = none) : F p = none := by
  cases q : F p with
  | none => rfl
  | some o => rw [s.fr p o q] at h; cases h
theorem SR.freeG (s : SR T F M Gh H) (h : H p = none) : Gh p = none := by
  cases q : Gh p with
  | none => rfl
  | some o => rw [(s.gr p o q).1] at h; cases h
theorem SR.freeM (s : SR T F M Gh H) (h : H p = none) : M p = none := by
  cases q : M p with
  | none => rfl
  | some m => obtain ⟨o, e⟩ := (s.mu p m q).2.2.there; rw [e] at h; cases h
/-- a new object, known for good -/
theorem SR.new (s : SR T F M Gh H) (h : H p = none) : SR T (upd F p o) M Gh (upd H p o) := by
  have hF := s.freeF h
  refine ⟨fun a u e => ?_, fun a u e => ?_, fun a m e => ?_⟩
  · by_cases hp : a = p
    · subst hp; rw [upd_same] at e ⊢; exact e
    · rw [upd_ne hp] at e ⊢; exact s.fr a u e
  · obtain ⟨h1, h2⟩ := s.gr a u e
    have hp : a ≠ p := ne_of_none h1 h
    rw [upd_ne hp, upd_ne hp]; exact ⟨h1, h2⟩
  · obtain ⟨h1, h2, h3⟩ := s.mu a m e
    have hp : a ≠ p := by obtain ⟨u, q⟩ := h3.there; exact ne_of_none q h
    exact ⟨by rw [upd_ne hp]; exact h1, h2, (h3.mono (Ex.new hF)).at (upd_ne hp)⟩
/-- a new object that may change -/
theorem SR.newM (s : SR T F M Gh H) (h : H p = none) (hm : MDen T F (upd H p o) p m) : SR T F (M.set p m) Gh (upd H p o) := by
  refine ⟨fun a u e => ?_, fun a u e => ?_, fun a m' e => ?_⟩
  · have h1 := s.fr a u e
    rw [upd_ne (ne_of_none h1 h)]; exact h1
  · obtain ⟨h1, h2⟩ := s.gr a u e
    rw [upd_ne (ne_of_none h1 h)]; exact ⟨h1, h2⟩
  · by_cases hp : a = p
    · subst hp
      rw [MS.set_same] at e; cases e
      exact ⟨s.freeF h, s.freeG h, hm⟩
    · rw [MS.set_ne hp] at e
      obtain ⟨h1, h2, h3⟩ := s.mu a m' e
      exact ⟨h1, h2, h3.at (upd_ne hp)⟩
/-- a new object for the frame -/
theorem SR.newG (s : SR T F M Gh H) (h : H p = none) : SR T F M (upd Gh p o) (upd H p o) := by
  refine ⟨fun a u e => ?_, fun a u e => ?_, fun a m' e => ?_⟩
  · have h1 := s.fr a u e
    rw [upd_ne (ne_of_none h1 h)]; exact h1
  · by_cases hp : a = p
    · subst hp; rw [upd_same] at e ⊢; exact ⟨e, s.freeF h⟩
    · rw [upd_ne hp] at e ⊢; exact s.gr a u e
  · obtain ⟨h1, h2, h3⟩ := s.mu a m' e
    have hp : a ≠ p := by obtain ⟨u, q⟩ := h3.there; exact ne_of_none q h
    exact ⟨h1, by rw [upd_ne hp]; exact h2, h3.at (upd_ne hp)⟩
theorem SR.setG {o0 : HO} (s : SR T F M Gh H) (h : Gh p = some o0) : SR T F M (upd Gh p o) (upd H p o) := by
  have hF := (s.gr p o0 h).2
  refine ⟨fun a u e => ?_, fun a u e => ?_, fun a m' e => ?_⟩
  · rw [upd_ne (ne_of_none e hF)]; exact s.fr a u e
  · by_cases hp : a = p
    · subst hp; rw [upd_same] at e ⊢; exact ⟨e, hF⟩
    · rw [upd_ne hp] at e ⊢; exact s.gr a u e
  · obtain ⟨h1, h2, h3⟩ := s.mu a m' e
    have hp : a ≠ p := fun z => by rw [z, h] at h2; cases h2
    exact ⟨h1, by rw [upd_ne hp]; exact h2, h3.at (upd_ne hp)⟩
/-- the frame's object is let go -/
theorem SR.dropG {G' : Hp} (s : SR T F M Gh H) (h : ∀ a o, G' a = some o → Gh a = some o) : SR T F M G' H := by
  refine ⟨s.fr, fun a u e => s.gr a u (h a u e), fun a m e => ?_⟩
  obtain ⟨h1, h2, h3⟩ := s.mu a m e
  refine ⟨h1, ?_, h3⟩
  cases q : G' a with
  | none => rfl
  | some u => rw [h a u q] at h2; cases h2
/-- .. and known for good -/
theorem SR.fixG (s : SR T F M (upd Gh p o) H) (h : Gh p = none) : SR T (upd F p o) M Gh H := by
  obtain ⟨hH, hF⟩ := s.gr p o upd_same
  refine ⟨fun a u e => ?_, fun a u e => ?_, fun a m e => ?_⟩
  · by_cases hp : a = p
    · subst hp; rw [upd_same] at e; cases e; exact hH
    · rw [upd_ne hp] at e; exact s.fr a u e
  · have hp : a ≠ p := ne_of_none e h
    rw [upd_ne hp]
    exact s.gr a u (by rw [upd_ne hp]; exact e)
  · obtain ⟨h1, h2, h3⟩ := s.mu a m e
    have hp : a ≠ p := fun z => by rw [z, upd_same] at h2; cases h2
    rw [upd_ne hp] at h2 ⊢
    exact ⟨h1, h2, h3.mono (Ex.new hF)⟩
/-- .. or that may change -/
theorem SR.mutG (s : SR T F M (upd Gh p o) H) (h : Gh p = none) (hm : MDen T F H p m) : SR T F (M.set p m) Gh H := by
  obtain ⟨hH, hF⟩ := s.gr p o upd_same
  refine ⟨s.fr, fun a u e => ?_, fun a m' e => ?_⟩
  · have hp : a ≠ p := ne_of_none e h
    exact s.gr a u (by rw [upd_ne hp]; exact e)
  · by_cases hp : a = p
    · subst hp; rw [MS.set_same] at e; cases e; exact ⟨hF, h, hm⟩
    · rw [MS.set_ne hp] at e
      obtain ⟨h1, h2, h3⟩ := s.mu a m' e
      rw [upd_ne hp] at h2
      exact ⟨h1, h2, h3⟩
/-- an object that may change is changed -/
theorem SR.setM {m0 : MO} (s : SR T F M Gh H) (h : M a = some m0) (hm : MDen T F (upd H a o) a m) : SR T F (M.set a m) Gh (upd H a o) := by
  obtain ⟨hF, hG, h3⟩ := s.mu a m0 h
  refine ⟨fun b u e => ?_, fun b u e => ?_, fun b m' e => ?_⟩
  · rw [upd_ne (ne_of_none e hF)]; exact s.fr b u e
  · rw [upd_ne (ne_of_none e hG)]; exact s.gr b u e
  · by_cases hb : b = a
    · subst hb; rw [MS.set_same] at e; cases e; exact ⟨hF, hG, hm⟩
    · rw [MS.set_ne hb] at e
      obtain ⟨h1, h2, h4⟩ := s.mu b m' e
      exact ⟨h1, h2, h4.at (upd_ne hb)⟩
/-- fewer objects that may change -/
theorem SR.sub {M' : MS} (s : SR T F M Gh H) (h : ∀ a m, M' a = some m → M a = some m) : SR T F M' Gh H :=
  ⟨s.fr, s.gr, fun a m e => s.mu a m (h a m e)⟩
/-- an object that may change is frozen -/
theorem SR.freeze {o : HO} (s : SR T F M Gh H) (h : M a = some m) (ho : H a = some o) : Ex F (upd F a o) ∧ SR T (upd F a o) (M.del a) Gh H := by
  obtain ⟨hF, hG, h3⟩ := s.mu a m h
  refine ⟨Ex.new hF, fun b u e => ?_, fun b u e => ?_, fun b m' e => ?_⟩
  · by_cases hb : b = a
    · subst hb; rw [upd_same] at e; cases e; exact ho
    · rw [upd_ne hb] at e; exact s.fr b u e
  · have hb : b ≠ a := ne_of_none e hG
    rw [upd_ne hb]; exact s.gr b u e
  · by_cases hb : b = a
    · subst hb; rw [MS.del_same] at e; cases e
    · rw [MS.del_ne hb] at e
      obtain ⟨h1, h2, h4⟩ := s.mu b m' e
      exact ⟨by rw [upd_ne hb]; exact h1, h2, h4.mono (Ex.new hF)⟩
end

/-! ### the judgements -/
variable (T) in
def Ev (W : WX) (t : TE) (w : WE) : Prop := ∀ (σ : L2.St) (H F Gh : Hp) (env : EnvD) (M : MS) Q EQ (R : VK), SR T F M Gh H → EnvR T F σ env → w env M Q EQ → RN T F Gh Q R → RX T F Gh EQ W σ → t σ H R
variable (T) in
def EvT (W : WX) (t : TT) (w : WT) : Prop := ∀ (σ : L2.St) (H F Gh : Hp) (env : EnvD) (M : MS) Q EQ (R : Bool → Hp → Prop), SR T F M Gh H → EnvR T F σ env → w env M Q EQ → RT T F Gh Q R → RX T F Gh EQ W σ → t σ H R
variable (T) in
def EvA (W : WX) (t : TA) (w : WA) : Prop := ∀ (σ : L2.St) (H F Gh : Hp) (env : EnvD) (M : MS) Q EQ (R : List V → Hp → Prop), SR T F M Gh H → EnvR T F σ env → w env M Q EQ → RA T F Gh Q R → RX T F Gh EQ W σ → t σ H R

/-! ### names, constants -/
def getE (env : EnvD) (i : Nat) : Option D := (env[i]?).getD none
def wVar (i : Nat) : WE := fun env M Q _ => match getE env i with
  | some d => Q d M
  | none => False
theorem ev_var {W : WX} {i : Nat} : Ev T W (tVar i) (wVar i) := by
  intro σ H F Gh env M Q EQ R sr er hw rn rx
  unfold wVar getE at hw
  cases e : env[i]? with
  | none => rw [e] at hw; exact hw.elim
  | some od =>
    cases od with
    | none => rw [e] at hw; exact hw.elim
    | some d =>
      rw [e] at hw
      obtain ⟨v, h1, h2⟩ := er.2 i d e
      exact ⟨v, h1, rn v H F d M (Ex.refl F) sr h2 hw⟩
def wC (d : D) : WE := fun _ M Q _ => Q d M
theorem ev_c {W : WX} {v : V} {d : D} (h : ∀ F, Den T F v d) : Ev T W (tC v) (wC d) := fun σ H F Gh env M Q EQ R sr er hw rn rx =>
  rn v H F d M (Ex.refl F) sr (h F) hw

/-! ### operations on values -/
variable (T) in
def Op2 (r : R2) (o : D → D → MS → QD → Prop) : Prop := ∀ F Gh M H x y dx dy Q (R : VK), SR T F M Gh H → Den T F x dx → Den T F y dy → o dx dy M Q → RN T F Gh Q R → r x y H R
variable (T) in
def Op1 (r : V → Hp → VK → Prop) (o : D → MS → QD → Prop) : Prop := ∀ F Gh M H x dx Q (R : VK), SR T F M Gh H → Den T F x dx → o dx M Q → RN T F Gh Q R → r x H R
variable (T) in
def OpN (r : List V → Hp → VK → Prop) (o : List D → MS → QD → Prop) : Prop := ∀ F Gh M H xs dxs Q (R : VK), SR T F M Gh H → DenL T F xs dxs → o dxs M Q → RN T F Gh Q R → r xs H R
def wBin (o : D → D → MS → QD → Prop) (wa wb : WE) : WE := fun env M Q EQ => wa env M (fun x M1 => wb env M1 (fun y M2 => o x y M2 Q) EQ) EQ
theorem ev_bin {W : WX} {r : R2} {o : D → D → MS → QD → Prop} {ta tb : TE} {wa wb : WE} (ho : Op2 T r o) (ha : Ev T W ta wa) (hb : Ev T W tb wb) : Ev T W (tOp r ta tb) (wBin o wa wb) := by
  intro σ H F Gh env M Q EQ R sr er hw rn rx
  refine ha σ H F Gh env M _ EQ _ sr er hw (fun v H1 F1 d M1 e1 sr1 dn q => ?_) rx
  refine hb σ H1 F1 Gh env M1 _ EQ _ sr1 (er.mono e1) q (fun v2 H2 F2 d2 M2 e2 sr2 dn2 q2 => ?_) (rx.mono e1)
  exact ho F2 Gh M2 H2 v v2 d d2 Q R sr2 (dn.mono e2) dn2 q2 (rn.mono (e1.trans e2))
def wUn (o : D → MS → QD → Prop) (wa : WE) : WE := fun env M Q EQ => wa env M (fun x M1 => o x M1 Q) EQ
theorem ev_un {W : WX} {r : V → Hp → VK → Prop} {o : D → MS → QD → Prop} {ta : TE} {wa : WE} (ho : Op1 T r o) (ha : Ev T W ta wa) : Ev T W (tUn r ta) (wUn o wa) := by
  intro σ H F Gh env M Q EQ R sr er hw rn rx
  refine ha σ H F Gh env M _ EQ _ sr er hw (fun v H1 F1 d M1 e1 sr1 dn q => ?_) rx
  exact ho F1 Gh M1 H1 v d Q R sr1 dn q (rn.mono e1)
theorem Op2.or {r1 r2 : R2} {o1 o2 : D → D → MS → QD → Prop} (h1 : Op2 T r1 o1) (h2 : Op2 T r2 o2) : Op2 T (fun x y H Q => r1 x y H Q ∨ r2 x y H Q) (fun x y M Q => o1 x y M Q ∨ o2 x y M Q) :=
  fun F Gh M H x y dx dy Q R sr hx hy q rn => q.elim (fun q => .inl (h1 F Gh M H x y dx dy Q R sr hx hy q rn)) fun q => .inr (h2 F Gh M H x y dx dy Q R sr hx hy q rn)
theorem opR_or {X : Cx} {f : Value → Value → Sem Value} {r1 r2 : R2} (h1 : OpR X f r1) (h2 : OpR X f r2) : OpR X f (fun x y H Q => r1 x y H Q ∨ r2 x y H Q) :=
  fun pins s σ H x y v u Q I rx ry h => h.elim (fun h => h1 pins s σ H x y v u Q I rx ry h) fun h => h2 pins s σ H x y v u Q I rx ry h
theorem Op2.imp {r : R2} {o o' : D → D → MS → QD → Prop} (h : Op2 T r o) (w : ∀ x y M Q, o' x y M Q → o x y M Q) : Op2 T r o' :=
  fun F Gh M H x y dx dy Q R sr hx hy q rn => h F Gh M H x y dx dy Q R sr hx hy (w _ _ _ _ q) rn

/-! ### arguments -/
def wNil : WA := fun _ M Q _ => Q [] M
def wCons (wa : WE) (wr : WA) : WA := fun env M Q EQ => wa env M (fun x M1 => wr env M1 (fun xs M2 => Q (x :: xs) M2) EQ) EQ
theorem ea_nil {W : WX} : EvA T W tNil wNil := fun σ H F Gh env M Q EQ R sr er hw rn rx => rn [] H F [] M (Ex.refl F) sr .nil hw
theorem ea_cons {W : WX} {ta : TE} {tr : TA} {wa : WE} {wr : WA} (ha : Ev T W ta wa) (hr : EvA T W tr wr) : EvA T W (tCons ta tr) (wCons wa wr) := by
  intro σ H F Gh env M Q EQ R sr er hw rn rx
  refine ha σ H F Gh env M _ EQ _ sr er hw (fun v H1 F1 d M1 e1 sr1 dn q => ?_) rx
  refine hr σ H1 F1 Gh env M1 _ EQ _ sr1 (er.mono e1) q (fun vs H2 F2 ds M2 e2 sr2 dn2 q2 => ?_) (rx.mono e1)
  exact rn (v :: vs) H2 F2 (d :: ds) M2 (e1.trans e2) sr2 (.cons (dn.mono e2) dn2) q2
/-- a call of a built-in on values -/
def wCall (o : List D → MS → QD → Prop) (wa : WA) : WE := fun env M Q EQ => wa env M (fun xs M1 => o xs M1 Q) EQ
theorem ev_cb {W : WX} {r : List V → Hp → VK → Prop} {o : List D → MS → QD → Prop} {ta : TA} {wa : WA} (ho : OpN T r o) (ha : EvA T W ta wa) : Ev T W (tCB r ta) (wCall o wa) := by
  intro σ H F Gh env M Q EQ R sr er hw rn rx
  refine ha σ H F Gh env M _ EQ _ sr er hw (fun vs H1 F1 ds M1 e1 sr1 dn q => ?_) rx
  exact ho F1 Gh M1 H1 vs ds Q R sr1 dn q (rn.mono e1)
/-- displays -/
def wTup (wa : WA) : WE := fun env M Q EQ => wa env M (fun xs M1 => xs.length ≤ sizeLine ∧ Q (.tup xs) M1) EQ
def wLst (wa : WA) : WE := fun env M Q EQ => wa env M (fun xs M1 => xs.length ≤ sizeLine ∧ Q (.lst xs) M1) EQ
theorem ev_tup {W : WX} {ta : TA} {wa : WA} (ha : EvA T W ta wa) : Ev T W (tTupX ta) (wTup wa) := by
  intro σ H F Gh env M Q EQ R sr er hw rn rx
  refine ha σ H F Gh env M _ EQ _ sr er hw (fun vs H1 F1 ds M1 e1 sr1 dn q => ?_) rx
  refine ⟨by rw [dn.length]; exact q.1, fun p o hp ho => ?_⟩
  have ex := Ex.new (o := .frz o (.tup vs)) (sr1.freeF hp)
  exact rn (.ref p) _ _ (.tup ds) M1 (e1.trans ex) (sr1.new hp) (.tup (.inl ⟨o, upd_same, ho⟩) (dn.mono ex)) q.2
theorem ev_lst {W : WX} {ta : TA} {wa : WA} (ha : EvA T W ta wa) : Ev T W (tLst ta) (wLst wa) := by
  intro σ H F Gh env M Q EQ R sr er hw rn rx
  refine ha σ H F Gh env M _ EQ _ sr er hw (fun vs H1 F1 ds M1 e1 sr1 dn q => ?_) rx
  refine ⟨by rw [dn.length]; exact q.1, fun p hp => ?_⟩
  have ex := Ex.new (o := .lst vs) (sr1.freeF hp)
  exact rn (.ref p) _ _ (.lst ds) M1 (e1.trans ex) (sr1.new hp) (.lst upd_same (dn.mono ex)) q.2

/-! ### tests -/
def wTest (w : WE) : WT := fun env M Q EQ => w env M (fun d M1 => match d with
  | .bl b => Q b M1
  | _ => False) EQ
theorem et_test {W : WX} {te : TE} {w : WE} (h : Ev T W te w) : EvT T W (tTest te) (wTest w) := by
  intro σ H F Gh env M Q EQ R sr er hw rn rx
  refine h σ H F Gh env M _ EQ _ sr er hw (fun v H1 F1 d M1 e1 sr1 dn q => ?_) rx
  cases dn with
  | bl b => exact ⟨b, rfl, rn b H1 F1 M1 e1 sr1 q⟩
  | _ => exact q.elim
theorem et_B {W : WX} {te : TE} {w : WE} (h : Ev T W te w) : EvT T W (tB te) (wTest w) := by
  intro σ H F Gh env M Q EQ R sr er hw rn rx
  refine h σ H F Gh env M _ EQ _ sr er hw (fun v H1 F1 d M1 e1 sr1 dn q => ?_) rx
  cases dn with
  | bl b => exact ⟨b, rfl, rn b H1 F1 M1 e1 sr1 q⟩
  | _ => exact q.elim
def wAndT (a b : WT) : WT := fun env M Q EQ => a env M (fun c M1 => if c = true then b env M1 Q EQ else Q false M1) EQ
def wOrT (a b : WT) : WT := fun env M Q EQ => a env M (fun c M1 => if c = true then Q true M1 else b env M1 Q EQ) EQ
def wNotT (a : WT) : WT := fun env M Q EQ => a env M (fun c M1 => Q (!c) M1) EQ
theorem et_and {W : WX} {t u : TT} {a b : WT} (h1 : EvT T W t a) (h2 : EvT T W u b) : EvT T W (tAnd t u) (wAndT a b) := by
  intro σ H F Gh env M Q EQ R sr er hw rn rx
  refine h1 σ H F Gh env M _ EQ _ sr er hw (fun c H1 F1 M1 e1 sr1 q => ?_) rx
  cases c with
  | true =>
    show u σ H1 R
    exact h2 σ H1 F1 Gh env M1 Q EQ R sr1 (er.mono e1) q (rn.mono e1) (rx.mono e1)
  | false => exact rn false H1 F1 M1 e1 sr1 q
theorem et_or {W : WX} {t u : TT} {a b : WT} (h1 : EvT T W t a) (h2 : EvT T W u b) : EvT T W (tOr t u) (wOrT a b) := by
  intro σ H F Gh env M Q EQ R sr er hw rn rx
  refine h1 σ H F Gh env M _ EQ _ sr er hw (fun c H1 F1 M1 e1 sr1 q => ?_) rx
  cases c with
  | false =>
    show u σ H1 R
    exact h2 σ H1 F1 Gh env M1 Q EQ R sr1 (er.mono e1) q (rn.mono e1) (rx.mono e1)
  | true => exact rn true H1 F1 M1 e1 sr1 q
theorem et_not {W : WX} {t : TT} {a : WT} (h1 : EvT T W t a) : EvT T W (tNot t) (wNotT a) := by
  intro σ H F Gh env M Q EQ R sr er hw rn rx
  exact h1 σ H F Gh env M _ EQ _ sr er hw (fun c H1 F1 M1 e1 sr1 q => rn (!c) H1 F1 M1 e1 sr1 q) rx
def wIfE (c : WT) (a b : WE) : WE := fun env M Q EQ => c env M (fun k M1 => if k = true then a env M1 Q EQ else b env M1 Q EQ) EQ
theorem ev_if {W : WX} {t : TT} {ta tb : TE} {c : WT} {a b : WE} (hc : EvT T W t c) (ha : Ev T W ta a) (hb : Ev T W tb b) : Ev T W (tIf t ta tb) (wIfE c a b) := by
  intro σ H F Gh env M Q EQ R sr er hw rn rx
  refine hc σ H F Gh env M _ EQ _ sr er hw (fun k H1 F1 M1 e1 sr1 q => ?_) rx
  cases k with
  | true =>
    show ta σ H1 R
    exact ha σ H1 F1 Gh env M1 Q EQ R sr1 (er.mono e1) q (rn.mono e1) (rx.mono e1)
  | false =>
    show tb σ H1 R
    exact hb σ H1 F1 Gh env M1 Q EQ R sr1 (er.mono e1) q (rn.mono e1) (rx.mono e1)
end
end G

/-! Eng3: statements, calls, what a def promises. -/
namespace G
open PySem PySem.Spec PyProof.Rows L2

/-- what is wanted behind a statement -/
structure KD where
  nx : EnvD → MS → Prop
  rt : QD
  bk : EnvD → MS → Prop := fun _ _ => False
  ct : EnvD → MS → Prop := fun _ _ => False
  ex : Exn → EnvD → MS → Prop
abbrev WS := EnvD → MS → KD → Prop
abbrev WG := D → EnvD → MS → (EnvD → MS → Prop) → EK → Prop
abbrev WGs := List D → EnvD → MS → (EnvD → MS → Prop) → EK → Prop

section
variable {T : Wd}
variable (T) in
def RS (F Gh : Hp) (Q : EnvD → MS → Prop) (R : L2.St → Hp → Prop) : Prop := ∀ (σ' : L2.St) H' F' env' M', Ex F F' → SR T F' M' Gh H' → EnvR T F' σ' env' → Q env' M' → R σ' H'
variable (T) in
def RXS (F Gh : Hp) (EQ : Exn → EnvD → MS → Prop) (W : WX) : Prop := ∀ c dd (σ' : L2.St) H' F' x env' M', Ex F F' → SR T F' M' Gh H' → EnvR T F' σ' env' → XDen T F' c dd x → EQ x env' M' → W c dd σ' H'
variable (T) in
structure RK (F Gh : Hp) (K : KD) (De : Ends) (W : WX) : Prop where
  nx : RS T F Gh K.nx De.nx
  rt : RN T F Gh K.rt De.rt
  bk : RS T F Gh K.bk De.bk
  ct : RS T F Gh K.ct De.ct
  ex : RXS T F Gh K.ex W
variable (T) in
def EvS (W : WX) (t : TS) (w : WS) : Prop := ∀ (σ : L2.St) (H F Gh : Hp) (env : EnvD) (M : MS) (K : KD) (De : Ends), SR T F M Gh H → EnvR T F σ env → w env M K → RK T F Gh K De W → t De σ H
variable (T) in
def EvG (W : WX) (g : TG) (w : WG) : Prop := ∀ (σ : L2.St) (H F Gh : Hp) (env : EnvD) (M : MS) (v : V) (d : D) Q EQ (R : L2.St → Hp → Prop), SR T F M Gh H → EnvR T F σ env → Den T F v d → w d env M Q EQ → RS T F Gh Q R → RX T F Gh EQ W σ → g v σ H R
variable (T) in
def EvGs (W : WX) (g : TGs) (w : WGs) : Prop := ∀ (σ : L2.St) (H F Gh : Hp) (env : EnvD) (M : MS) (vs : List V) (ds : List D) Q (R : L2.St → Hp → Prop), SR T F M Gh H → EnvR T F σ env → DenL T F vs ds → w ds env M Q (fun _ _ => False) → RS T F Gh Q R → g vs σ H R

theorem RS.mono {F F1 Gh : Hp} {Q : EnvD → MS → Prop} {R : L2.St → Hp → Prop} (h : RS T F Gh Q R) (e : Ex F F1) : RS T F1 Gh Q R := fun σ' H' F' env' M' e' => h σ' H' F' env' M' (e.trans e')
theorem RXS.mono {F F1 Gh : Hp} {EQ : Exn → EnvD → MS → Prop} {W : WX} (h : RXS T F Gh EQ W) (e : Ex F F1) : RXS T F1 Gh EQ W := fun c d σ' H' F' x env' M' e' => h c d σ' H' F' x env' M' (e.trans e')
theorem RK.mono {F F1 Gh : Hp} {K : KD} {De : Ends} {W : WX} (h : RK T F Gh K De W) (e : Ex F F1) : RK T F1 Gh K De W := ⟨h.nx.mono e, h.rt.mono e, h.bk.mono e, h.ct.mono e, h.ex.mono e⟩
theorem RXS.at {F Gh : Hp} {EQ : Exn → EnvD → MS → Prop} {W : WX} {σ : L2.St} {env : EnvD} (h : RXS T F Gh EQ W) (er : EnvR T F σ env) : RX T F Gh (fun x M => EQ x env M) W σ :=
  fun c dd H' F' x M' e sr xd q => h c dd σ H' F' x env M' e sr (er.mono e) xd q

/-! ### statements -/
def wNext : WS := fun env M K => K.nx env M
def wSeq (a b : WS) : WS := fun env M K => a env M { K with nx := fun env1 M1 => b env1 M1 K }
theorem es_next {W : WX} : EvS T W tNext wNext := fun σ H F Gh env M K De sr er hw rk => rk.nx σ H F env M (Ex.refl F) sr er hw
theorem es_seq {W : WX} {t u : TS} {a b : WS} (h1 : EvS T W t a) (h2 : EvS T W u b) : EvS T W (tSeq t u) (wSeq a b) := by
  intro σ H F Gh env M K De sr er hw rk
  refine h1 σ H F Gh env M _ { De with nx := u De } sr er hw ⟨fun σ' H' F' env' M' e sr' er' q => ?_, rk.rt, rk.bk, rk.ct, rk.ex⟩
  exact h2 σ' H' F' Gh env' M' K De sr' er' q (rk.mono e)
def wNever : WS := fun _ _ _ => False
theorem es_never {W : WX} : EvS T W tNever wNever := fun σ H F Gh env M K De sr er hw rk => hw
def wBreak : WS := fun env M K => K.bk env M
def wCont : WS := fun env M K => K.ct env M
theorem es_break {W : WX} : EvS T W tBreak wBreak := fun σ H F Gh env M K De sr er hw rk => rk.bk σ H F env M (Ex.refl F) sr er hw
theorem es_cont {W : WX} : EvS T W tCont wCont := fun σ H F Gh env M K De sr er hw rk => rk.ct σ H F env M (Ex.refl F) sr er hw
def wDrop (w : WE) : WS := fun env M K => w env M (fun _ M1 => K.nx env M1) (fun x M1 => K.ex x env M1)
theorem es_drop {W : WX} {te : TE} {w : WE} (h : Ev T W te w) : EvS T W (tDrop te) (wDrop w) := by
  intro σ H F Gh env M K De sr er hw rk
  exact h σ H F Gh env M _ _ _ sr er hw (fun v H1 F1 d M1 e1 sr1 dn q => rk.nx σ H1 F1 env M1 e1 sr1 (er.mono e1) q) (rk.ex.at er)
def wRet (w : WE) : WS := fun env M K => w env M K.rt (fun x M1 => K.ex x env M1)
theorem es_ret {W : WX} {te : TE} {w : WE} (h : Ev T W te w) : EvS T W (tRet te) (wRet w) := by
  intro σ H F Gh env M K De sr er hw rk
  exact h σ H F Gh env M _ _ _ sr er hw rk.rt (rk.ex.at er)
def wRetN : WS := fun env M K => K.rt .non M
theorem es_retN {W : WX} : EvS T W tRetN wRetN := fun σ H F Gh env M K De sr er hw rk => rk.rt .non H F .non M (Ex.refl F) sr .non hw
def wIf (c : WT) (a b : WS) : WS := fun env M K => c env M (fun k M1 => if k = true then a env M1 K else b env M1 K) (fun x M1 => K.ex x env M1)
theorem es_if {W : WX} {tc : TT} {t u : TS} {c : WT} {a b : WS} (hc : EvT T W tc c) (h1 : EvS T W t a) (h2 : EvS T W u b) : EvS T W (tIfS tc t u) (wIf c a b) := by
  intro σ H F Gh env M K De sr er hw rk
  refine hc σ H F Gh env M _ _ _ sr er hw (fun k H1 F1 M1 e1 sr1 q => ?_) (rk.ex.at er)
  cases k with
  | true =>
    show t De σ H1
    exact h1 σ H1 F1 Gh env M1 K De sr1 (er.mono e1) q (rk.mono e1)
  | false =>
    show u De σ H1
    exact h2 σ H1 F1 Gh env M1 K De sr1 (er.mono e1) q (rk.mono e1)

/-! ### targets -/
def wgName (i : Nat) : WG := fun d env M Q _ => Q (env.set i (some d)) M
theorem eg_name {W : WX} {i : Nat} : EvG T W (gName i) (wgName i) := fun σ H F Gh env M v d Q EQ R sr er dn hw rs rx => rs _ H F _ M (Ex.refl F) sr (er.set dn i) hw
def wgNil : WGs := fun ds env M Q _ => match ds with
  | [] => Q env M
  | _ => False
def wgCons (w : WG) (r : WGs) : WGs := fun ds env M Q EQ => match ds with
  | d :: ds' => w d env M (fun env1 M1 => r ds' env1 M1 Q EQ) EQ
  | [] => False
theorem egs_nil {W : WX} : EvGs T W gNil wgNil := by
  intro σ H F Gh env M vs ds Q R sr er dn hw rs
  cases dn with
  | nil => exact ⟨rfl, rs σ H F env M (Ex.refl F) sr er hw⟩
  | cons _ _ => exact hw.elim
theorem egs_cons {W : WX} {g : TG} {gr : TGs} {w : WG} {r : WGs} (h1 : EvG T W g w) (h2 : EvGs T W gr r) : EvGs T W (gCons g gr) (wgCons w r) := by
  intro σ H F Gh env M vs ds Q R sr er dn hw rs
  cases dn with
  | nil => exact hw.elim
  | cons h t =>
    refine ⟨_, _, rfl, ?_⟩
    refine h1 σ H F Gh env M _ _ _ _ _ sr er h hw (fun σ' H' F' env' M' e sr' er' q => ?_) RX.no
    exact h2 σ' H' F' Gh env' M' _ _ Q R sr' er' (t.mono e) q (rs.mono e)
/-- the items of a value that is taken apart -/
def asT : D → Option (List D)
  | .tup xs => some xs
  | .tpl xs => some xs
  | _ => none
def lstMO : Option MO → Option (List D)
  | some (.lst xs) => some xs
  | _ => none
def asL (M : MS) : D → Option (List D)
  | .lst xs => some xs
  | .ref a => lstMO (M a)
  | _ => none
theorem asT_den {F : Hp} {v : V} {d : D} {xs : List D} (h : Den T F v d) (e : asT d = some xs) : ∃ a vs, v = .ref a ∧ SqT T.K F a vs ∧ DenL T F vs xs := by
  cases h with
  | tup h l => cases e; exact ⟨_, _, rfl, h.sqt, l⟩
  | tpl h l => cases e; exact ⟨_, _, rfl, h, l⟩
  | _ => cases e
theorem asL_den {F Gh H : Hp} {M : MS} {v : V} {d : D} {xs : List D} (sr : SR T F M Gh H) (h : Den T F v d) (e : asL M d = some xs) : ∃ a vs, v = .ref a ∧ H a = some (.lst vs) ∧ DenL T F vs xs := by
  cases h with
  | lst h l => cases e; exact ⟨_, _, rfl, sr.fr _ _ h, l⟩
  | ref a =>
    have e : lstMO (M a) = some xs := e
    cases q : M a with
    | none => rw [q] at e; cases e
    | some m =>
      rw [q] at e
      cases m with
      | lst ys => cases e; obtain ⟨_, _, vs, h1, h2⟩ := sr.mu a _ q; exact ⟨a, vs, rfl, h1, h2⟩
      | dic _ => cases e
      | ins _ _ => cases e
      | set _ => cases e
  | _ => cases e
def wgTup (n : Nat) (r : WGs) : WG := fun d env M Q EQ => match asT d with
  | some xs => xs.length = n ∧ r xs env M Q (fun _ _ => False)
  | none => False
theorem eg_tup {W : WX} {n : Nat} {gr : TGs} {r : WGs} (h : EvGs T W gr r) : EvG T W (gTup T.K n gr) (wgTup n r) := by
  intro σ H F Gh env M v d Q EQ R sr er dn hw rs rx
  unfold wgTup at hw
  cases e : asT d with
  | none => rw [e] at hw; exact hw.elim
  | some xs =>
    rw [e] at hw
    obtain ⟨a, vs, rfl, hs, dl⟩ := asT_den dn e
    refine ⟨a, vs, rfl, (show Ex F H from sr.fr).t hs, by rw [dl.length]; exact hw.1, ?_⟩
    exact h σ H F Gh env M vs xs Q R sr er dl hw.2 rs
def wAsg (w : WE) (g : WG) : WS := fun env M K => w env M (fun d M1 => g d env M1 K.nx (fun x M2 => K.ex x env M2)) (fun x M1 => K.ex x env M1)
theorem es_asg {W : WX} {te : TE} {g : TG} {w : WE} {wg : WG} (h : Ev T W te w) (hg : EvG T W g wg) : EvS T W (tAsg te g) (wAsg w wg) := by
  intro σ H F Gh env M K De sr er hw rk
  refine h σ H F Gh env M _ _ _ sr er hw (fun v H1 F1 d M1 e1 sr1 dn q => ?_) (rk.ex.at er)
  exact hg σ H1 F1 Gh env M1 v d _ _ _ sr1 (er.mono e1) dn q (rk.nx.mono e1) ((rk.ex.mono e1).at (er.mono e1))
def wPar (i j : Nat) (wa : WA) : WS := fun env M K => wa env M (fun ds M1 => match ds with
  | [d, e] => K.nx ((env.set i (some d)).set j (some e)) M1
  | _ => False) (fun x M1 => K.ex x env M1)
theorem es_par {W : WX} {i j : Nat} {ta : TA} {wa : WA} (h : EvA T W ta wa) : EvS T W (tPar i j ta) (wPar i j wa) := by
  intro σ H F Gh env M K De sr er hw rk
  refine h σ H F Gh env M _ _ _ sr er hw (fun vs H1 F1 ds M1 e1 sr1 dn q => ?_) (rk.ex.at er)
  match ds, dn, q with
  | [d, e], .cons h1 (.cons h2 .nil), q => exact ⟨_, _, rfl, rk.nx _ H1 F1 _ M1 e1 sr1 (((er.mono e1).set h1 i).set h2 j) q⟩
  | [], _, q => exact q.elim
  | [_], _, q => exact q.elim
  | _ :: _ :: _ :: _, _, q => exact q.elim

/-! ### a ghost step: what a slot holds is frozen -/
def frzMO : MO → D
  | .lst xs => .lst xs
  | .dic xs => .dic xs
  | .ins C xs => .ins C xs
  | .set ks => .set ks
def notDic : MO → Bool
  | .dic _ => false
  | _ => true
def frzD (M : MS) : D → Option (D × MS)
  | .ref a => (M a).bind fun m => if notDic m = true then some (frzMO m, M.del a) else none
  | _ => none
theorem frz_den {F Gh H : Hp} {M M' : MS} {v : V} {d d' : D} (sr : SR T F M Gh H) (h : Den T F v d) (e : frzD M d = some (d', M')) : ∃ F', Ex F F' ∧ SR T F' M' Gh H ∧ Den T F' v d' := by
  cases h with
  | ref a =>
    have e : (M a).bind (fun m => if notDic m = true then some (frzMO m, M.del a) else none) = some (d', M') := e
    cases q : M a with
    | none => rw [q] at e; cases e
    | some m =>
      rw [q] at e
      cases m with
      | lst ys =>
        cases e
        obtain ⟨_, _, vs, h1, h2⟩ := sr.mu a _ q
        obtain ⟨ex, sr'⟩ := sr.freeze q h1
        exact ⟨_, ex, sr', .lst upd_same (h2.mono ex)⟩
      | dic ys => cases e
      | ins C ys =>
        cases e
        obtain ⟨_, _, dx, vs, h1, h2⟩ := sr.mu a _ q
        obtain ⟨ex, sr'⟩ := sr.freeze q h1
        exact ⟨_, ex, sr', .ins upd_same (h2.mono ex)⟩
      | set ys =>
        cases e
        obtain ⟨_, _, h1⟩ := sr.mu a _ q
        obtain ⟨ex, sr'⟩ := sr.freeze q h1
        exact ⟨_, ex, sr', .set upd_same⟩
  | _ => cases e
def wFrz (i : Nat) (s : WS) : WS := fun env M K => match getE env i with
  | some d => match frzD M d with
    | some (d', M') => s (env.set i (some d')) M' K
    | none => False
  | none => False
theorem EnvR.get {F : Hp} {σ : List (Option V)} {env : EnvD} {i : Nat} {d : D} (er : EnvR T F σ env) (h : getE env i = some d) : env[i]? = some (some d) := by
  unfold getE at h
  cases e : env[i]? with
  | none => rw [e] at h; cases h
  | some o => rw [e] at h; rw [show o = some d from h]
theorem set_self {α : Type} : ∀ {l : List α} {i : Nat} {x : α}, l[i]? = some x → l.set i x = l
  | [], _, _, h => by simp at h
  | a :: l, 0, x, h => by simp at h; subst h; rfl
  | a :: l, i + 1, x, h => by
    have q := set_self (l := l) (i := i) (x := x) (by simpa using h)
    show a :: l.set i x = a :: l
    rw [q]
theorem es_frz {W : WX} {i : Nat} {t : TS} {s : WS} (h : EvS T W t s) : EvS T W t (wFrz i s) := by
  intro σ H F Gh env M K De sr er hw rk
  unfold wFrz at hw
  cases e : getE env i with
  | none => rw [e] at hw; exact hw.elim
  | some d =>
    rw [e] at hw
    cases q : frzD M d with
    | none => simp only [q] at hw
    | some p =>
      obtain ⟨d', M'⟩ := p
      simp only [q] at hw
      obtain ⟨v, h1, h2⟩ := er.2 i d (er.get e)
      obtain ⟨F', ex, sr', dn'⟩ := frz_den sr h2 q
      have er' : EnvR T F' σ (env.set i (some d')) := by
        have z := (er.mono ex).set dn' i
        have hs : σ.set i (some v) = σ := set_self h1
        rw [hs] at z; exact z
      exact h σ H F' Gh _ M' K De sr' er' hw (rk.mono ex)

/-! ### what a def promises -/
abbrev DSp := List D → MS → QD → EK → Prop
variable (T) in
def lift (n : Nat) (d : DSp) : Sp := fun vs H Q E => ∃ F M Gh ds QD EQ, vs.length = n ∧ SR T F M Gh H ∧ DenL T F vs ds ∧ d ds M QD EQ ∧ RN T F Gh QD Q ∧
  ∀ c dd H' F' x M', Ex F F' → SR T F' M' Gh H' → XDen T F' c dd x → EQ x M' → E c dd H'
variable (T) in
abbrev FnD (k : Nat) (f : Addr) (fd : FuncData) (ps : List Str) (d : DSp) : Prop := FnOk T.P T.w T.K T.mg T.base (L2.CX T.P T.w) k f fd ps (lift T ps.length d)
/-- one value read as another: freezing, forgetting -/
def Cv (T : Wd) (d : D) (M : MS) (d' : D) (M' : MS) : Prop := ∀ F Gh H v, SR T F M Gh H → Den T F v d → ∃ F', Ex F F' ∧ SR T F' M' Gh H ∧ Den T F' v d'
theorem Cv.refl {d : D} {M : MS} : Cv T d M d M := fun F Gh H v sr dn => ⟨F, Ex.refl F, sr, dn⟩
theorem Cv.drop {d : D} {M M' : MS} (h : ∀ a m, M' a = some m → M a = some m) : Cv T d M d M' := fun F Gh H v sr dn => ⟨F, Ex.refl F, sr.sub h, dn⟩
theorem Cv.trans {d d1 d2 : D} {M M1 M2 : MS} (h1 : Cv T d M d1 M1) (h2 : Cv T d1 M1 d2 M2) : Cv T d M d2 M2 := fun F Gh H v sr dn => by
  obtain ⟨F1, e1, sr1, dn1⟩ := h1 F Gh H v sr dn
  obtain ⟨F2, e2, sr2, dn2⟩ := h2 F1 Gh H v sr1 dn1
  exact ⟨F2, e1.trans e2, sr2, dn2⟩
theorem Cv.frz {d d' : D} {M M' : MS} (h : frzD M d = some (d', M')) : Cv T d M d' M' := fun F Gh H v sr dn => frz_den sr dn h
def startD (n : Nat) (ds : List D) : EnvD := ds.map some ++ List.replicate (n - ds.length) none
theorem start_rel {F : Hp} {N : List Str} {vs : List V} {ds : List D} (h : DenL T F vs ds) : EnvR T F (start N vs) (startD N.length ds) := by
  have hl := h.length
  unfold L2.start startD
  refine ⟨by simp [hl], fun i d hi => ?_⟩
  by_cases hlt : i < ds.length
  · rw [List.getElem?_append_left (by simpa using hlt), List.getElem?_map] at hi
    cases e : ds[i]? with
    | none => rw [e] at hi; cases hi
    | some d' =>
      rw [e] at hi
      cases hi
      obtain ⟨v, h1, h2⟩ := h.get' e
      exact ⟨v, by rw [List.getElem?_append_left (by simpa [hl] using hlt), List.getElem?_map, h1]; rfl, h2⟩
  · rw [List.getElem?_append_right (by simpa using hlt), List.getElem?_replicate] at hi
    split at hi <;> cases hi
/-- the ends of a def's body -/
def endsD (T : Wd) (Q : QD) (EQ : EK) : KD := { nx := fun _ M => ∃ M', (∀ a m, M' a = some m → M a = some m) ∧ Q .non M', rt := fun d M => ∃ d' M', Cv T d M d' M' ∧ Q d' M', ex := fun x _ M => ∃ M', (∀ a m, M' a = some m → M a = some m) ∧ EQ x M' }
/-- THE RULE of a def -/
theorem fn_rule {x qual : Str} {st : Stmt} {f : Addr} {fd : FuncData} {N ps : List Str} {k : Nat} {d : DSp} (Fn : Fun T.K x qual st f fd) (S : FnScope N ps (defScope st))
    (hb : ∀ (X : Cx) (W : WX), X.prog = T.P → X.w = T.w → X.K = T.K → X.mg = T.mg → X.base = T.base → X.N = N → X.env.scope = defScope st → X.calm = true → (∀ y, X.fn y = true) → Room k X.A → X.stack = X.env :: X.outer → X.env.frame = some X.env.locals → PassesOwn (model X.prog X.w) X.A X.env X.xe → Takes X W →
      ∃ t w, PSs X (defBody st) t ∧ EvS T W t w ∧ ∀ ds M Q EQ, ds.length = ps.length → d ds M Q EQ → w (startD N.length ds) M (endsD T Q EQ)) : FnD T (k + 1) f fd ps d := by
  refine Fn.okX S (fun vs H Q E h => ?_) (fun cdv A outer s H vs Q E hr h => ?_)
  · obtain ⟨_, _, _, _, _, _, hl, _⟩ := h
    exact hl
  · obtain ⟨F, M, Gh, ds, QD, EQ, hl, sr, dn, hd, rn, rx⟩ := h
    obtain ⟨t, w, h1, h2, h3⟩ := hb (cxOf (L2.CX T.P T.w) T.P T.w T.K T.mg T.base N qual (defScope st) f cdv A outer s H E) (fun cls d _ H => E cls d H) rfl rfl rfl rfl rfl rfl rfl rfl (fun _ => rfl) hr rfl rfl PassesOwn.leaving
      (takes_of rfl rfl rfl rfl)
    refine ⟨t, h1, h2 _ H F Gh _ M (endsD T QD EQ) _ sr (start_rel dn) (h3 ds M QD EQ (by rw [← dn.length, hl]) hd) ⟨fun σ' H' F' env' M' e sr' er' q => ?_, fun v H' F' d' M' e sr' dn' q => ?_, fun σ' H' F' env' M' e sr' er' q => q.elim, fun σ' H' F' env' M' e sr' er' q => q.elim, fun c dd σ' H' F' x env' M' e sr' er' xd q => ?_⟩⟩
    · obtain ⟨M2, hs, q⟩ := q
      exact rn .non H' F' .non M2 e (sr'.sub hs) .non q
    · obtain ⟨d2, M2, cv, q⟩ := q
      obtain ⟨F2, e2, sr2, dn2⟩ := cv F' Gh H' v sr' dn'
      exact rn v H' F2 d2 M2 (e.trans e2) sr2 dn2 q
    · obtain ⟨M2, hs, q⟩ := q
      exact rx c dd H' F' x M2 e (sr'.sub hs) xd q
end
end G

/-! Eng4: operations on pure data: arithmetic, comparisons, items, slices. -/
namespace G
open PySem PySem.Spec PyProof.Rows L2

section
variable {T : Wd}
theorem Ex.of_sr {F Gh H : Hp} {M : MS} (sr : SR T F M Gh H) : Ex F H := sr.fr
/-- what a new list | tuple | dict is -/
theorem fin_tup {F Gh H : Hp} {M : MS} {vs : List V} {xs : List D} {Q : QD} {R : VK} (sr : SR T F M Gh H) (l : DenL T F vs xs) (q : Q (.tup xs) M) (rn : RN T F Gh Q R) : NewT vs H R := fun p o hp ho => by
  have ex := Ex.new (o := .frz o (.tup vs)) (sr.freeF hp)
  exact rn (.ref p) _ _ _ M ex (sr.new hp) (.tup (.inl ⟨o, upd_same, ho⟩) (l.mono ex)) q
theorem fin_tpl {F Gh H : Hp} {M : MS} {vs : List V} {xs : List D} {Q : QD} {R : VK} (sr : SR T F M Gh H) (l : DenL T F vs xs) (q : Q (.tpl xs) M) (rn : RN T F Gh Q R) : ∀ p, H p = none → R (.ref p) (upd H p (.tup vs)) := fun p hp => by
  have ex := Ex.new (o := .tup vs) (sr.freeF hp)
  exact rn (.ref p) _ _ _ M ex (sr.new hp) (.tpl (.inl (.inl upd_same)) (l.mono ex)) q
theorem fin_lst {F Gh H : Hp} {M : MS} {vs : List V} {xs : List D} {Q : QD} {R : VK} (sr : SR T F M Gh H) (l : DenL T F vs xs) (q : Q (.lst xs) M) (rn : RN T F Gh Q R) : ∀ p, H p = none → R (.ref p) (upd H p (.lst vs)) := fun p hp => by
  have ex := Ex.new (o := .lst vs) (sr.freeF hp)
  exact rn (.ref p) _ _ _ M ex (sr.new hp) (.lst upd_same (l.mono ex)) q
theorem fin_v {F Gh H : Hp} {M : MS} {v : V} {d : D} {Q : QD} {R : VK} (sr : SR T F M Gh H) (dn : Den T F v d) (q : Q d M) (rn : RN T F Gh Q R) : R v H := rn v H F d M (Ex.refl F) sr dn q

/-! ### intsO -/
def intsO (C : Int → Int → Prop) (g : Int → Int → D) (x y : D) (M : MS) (Q : QD) : Prop :=
  match x, y with
  | .int i, .int j => C i j ∧ Q (g i j) M
  | _, _ => False
theorem op2_I {C : Int → Int → Prop} {g : Int → Int → V} {gd : Int → Int → D} (hg : ∀ F i j, Den T F (g i j) (gd i j)) : Op2 T (rI C g) (intsO C gd) := by
  intro F Gh M H x y dx dy Q R sr hx hy q rn
  cases hx <;> cases hy <;> first
    | exact False.elim q
    | exact ⟨_, _, rfl, rfl, q.1, fin_v sr (hg F _ _) q.2 rn⟩
def CYes (_ _ : Int) : Prop := True
theorem opR_I0 {X : Cx} {f : Value → Value → Sem Value} {g : Int → Int → V} (h : OpR X f (rI0 g)) : OpR X f (rI CYes g) := fun pins s σ H x y v u Q I rx ry ⟨i, j, e1, e2, _, q⟩ => h pins s σ H x y v u Q I rx ry ⟨i, j, e1, e2, q⟩

def subO := intsO CYes fun i j => .int (i - j)
def modO := intsO (fun _ j => 0 < j) fun i j => .int (i % j)
def fdivO := intsO CDivW fun i j => .int (i / j)
def CPowW (i j : Int) : Prop := 0 ≤ j ∧ (Builtin.Int.intBits i : Int) * j ≤ 2 ^ 27
def powO := intsO CPowW fun i j => .int (i ^ j.toNat)
def ltO := intsO CYes fun i j => .bl (decide (i < j))
def leO := intsO CYes fun i j => .bl (decide (i ≤ j))
def gtO := intsO CYes fun i j => .bl (decide (j < i))
def geO := intsO CYes fun i j => .bl (decide (j ≤ i))
theorem opR_sub {X : Cx} : OpR X (binaryOp .Sub) (rI CYes fun i j => .int (i - j)) := opR_I0 op_sub
theorem opR_powW {X : Cx} : OpR X (binaryOp .Pow) (rI CPowW fun i j => .int (i ^ j.toNat)) := opI fun _ _ _ _ _ _ _ hc q => pow_int hc.1 hc.2 q
theorem opR_lt {X : Cx} : OpR X (compareOp .Lt) (rI CYes fun i j => .bl (decide (i < j))) := opR_I0 op_lt
theorem opR_le {X : Cx} : OpR X (compareOp .LtE) (rI CYes fun i j => .bl (decide (i ≤ j))) := opR_I0 op_le
theorem opR_gt {X : Cx} : OpR X (compareOp .Gt) (rI CYes fun i j => .bl (decide (j < i))) := opR_I0 op_gt
theorem opR_ge {X : Cx} : OpR X (compareOp .GtE) (rI CYes fun i j => .bl (decide (j ≤ i))) := opR_I0 op_ge
theorem op2_sub : Op2 T (rI CYes fun i j => .int (i - j)) subO := op2_I fun _ _ _ => .int _
theorem op2_mod : Op2 T (rI (fun _ j => 0 < j) fun i j => .int (i % j)) modO := op2_I fun _ _ _ => .int _
theorem op2_fdiv : Op2 T (rI CDivW fun i j => .int (i / j)) fdivO := op2_I fun _ _ _ => .int _
theorem op2_pow : Op2 T (rI CPowW fun i j => .int (i ^ j.toNat)) powO := op2_I fun _ _ _ => .int _
theorem op2_lt : Op2 T (rI CYes fun i j => .bl (decide (i < j))) ltO := op2_I fun _ _ _ => .bl _
theorem op2_le : Op2 T (rI CYes fun i j => .bl (decide (i ≤ j))) leO := op2_I fun _ _ _ => .bl _
theorem op2_gt : Op2 T (rI CYes fun i j => .bl (decide (j < i))) gtO := op2_I fun _ _ _ => .bl _
theorem op2_ge : Op2 T (rI CYes fun i j => .bl (decide (j ≤ i))) geO := op2_I fun _ _ _ => .bl _
def negO (x : D) (M : MS) (Q : QD) : Prop := match x with
  | .int i => Q (.int (-i)) M
  | _ => False
theorem op1_neg : Op1 T (rU fun i => .int (-i)) negO := by
  intro F Gh M H x dx Q R sr hx q rn
  cases hx <;> first
    | exact False.elim q
    | exact ⟨_, rfl, fin_v sr (.int _) q rn⟩

/-! ### + -/
def addO (x y : D) (M : MS) (Q : QD) : Prop :=
  match x, y with
  | .int i, .int j => Q (.int (i + j)) M
  | .str a, .str b => a.length + b.length ≤ sizeLine ∧ Q (.str (a ++ b)) M
  | .tup xs, .tup ys => xs.length + ys.length ≤ sizeLine ∧ Q (.tup (xs ++ ys)) M
  | x, y => match asL M x, asL M y with
    | some xs, some ys => xs.length + ys.length ≤ sizeLine ∧ Q (.lst (xs ++ ys)) M
    | _, _ => False
def rAddI : R2 := rI0 fun i j => .int (i + j)
def rAddS2 : R2 := fun x y H Q => ∃ i j, x = .str i ∧ y = .str j ∧ i.length + j.length ≤ sizeLine ∧ Q (.str (i ++ j)) H
def rAddAny (K : PySem.W.Frag) : R2 := fun x y H Q => rAddI x y H Q ∨ rAddS2 x y H Q ∨ rCatX K x y H Q ∨ rCat x y H Q
theorem opR_add {X : Cx} : OpR X (binaryOp .Add) (rAddAny X.K) := opR_or op_add (opR_or op_add_str (opR_or op_catX op_cat))
theorem op2_addL {F Gh H : Hp} {M : MS} {x y : V} {dx dy : D} {Q : QD} {R : VK} (sr : SR T F M Gh H) (hx : Den T F x dx) (hy : Den T F y dy)
    (q : match asL M dx, asL M dy with
    | some xs, some ys => xs.length + ys.length ≤ sizeLine ∧ Q (.lst (xs ++ ys)) M
    | _, _ => False) (rn : RN T F Gh Q R) : rAddAny T.K x y H R := by
  cases ex : asL M dx with
  | none => rw [ex] at q; exact q.elim
  | some xs =>
    cases ey : asL M dy with
    | none => rw [ex, ey] at q; exact q.elim
    | some ys =>
      rw [ex, ey] at q
      obtain ⟨a, vs, rfl, h1, l1⟩ := asL_den sr hx ex
      obtain ⟨b, ws, rfl, h2, l2⟩ := asL_den sr hy ey
      exact .inr (.inr (.inr ⟨a, b, vs, ws, rfl, rfl, h1, h2, by rw [l1.length, l2.length]; exact q.1, fin_lst sr (l1.append l2) q.2 rn⟩))
theorem op2_add : Op2 T (rAddAny T.K) addO := by
  intro F Gh M H x y dx dy Q R sr hx hy q rn
  by_cases h1 : ∃ i j, dx = .int i ∧ dy = .int j
  · obtain ⟨i, j, rfl, rfl⟩ := h1
    cases hx; cases hy
    exact .inl ⟨i, j, rfl, rfl, fin_v sr (.int _) q rn⟩
  · by_cases h2 : ∃ i j, dx = .str i ∧ dy = .str j
    · obtain ⟨i, j, rfl, rfl⟩ := h2
      cases hx; cases hy
      exact .inr (.inl ⟨i, j, rfl, rfl, q.1, fin_v sr (.str _) q.2 rn⟩)
    · by_cases h3 : ∃ i j, dx = .tup i ∧ dy = .tup j
      · obtain ⟨xs, ys, rfl, rfl⟩ := h3
        cases hx with
        | tup hx lx =>
          cases hy with
          | tup hy ly =>
            have e := Ex.of_sr sr
            refine .inr (.inr (.inl ⟨_, _, _, _, rfl, rfl, (e.tx hx).sqt, (e.tx hy).sqt, by rw [lx.length, ly.length]; exact q.1, fun z => ?_, fun z1 z2 => ?_, fun _ _ => fin_tup sr (lx.append ly) q.2 rn⟩))
            · subst z
              cases lx
              exact fin_v sr (.tup hy ly) q.2 rn
            · subst z2
              cases ly
              have q2 := q.2
              rw [List.append_nil] at q2
              exact fin_v sr (.tup hx lx) q2 rn
      · refine op2_addL sr hx hy ?_ rn
        revert q
        unfold addO
        split
        · intro _; exact (h1 ⟨_, _, rfl, rfl⟩).elim
        · intro _; exact (h2 ⟨_, _, rfl, rfl⟩).elim
        · intro _; exact (h3 ⟨_, _, rfl, rfl⟩).elim
        · intro q; exact q

/-! ### * -/
def mulI (x : D) (k : Int) (M : MS) (Q : QD) : Prop :=
  match x with
  | .int i => i.natAbs.log2 + k.natAbs.log2 < 1000000 ∧ Q (.int (i * k)) M
  | .tup xs => xs ≠ [] ∧ 1 ≤ k ∧ k ≤ 1000 ∧ xs.length ≤ 1000 ∧ Q (.tup (List.replicate k.toNat xs).flatten) M
  | x => match asL M x with
    | some xs => -(2 ^ 63) ≤ k ∧ k < 2 ^ 63 ∧ xs.length * k.toNat ≤ sizeLine ∧ Q (.lst (List.replicate k.toNat xs).flatten) M
    | none => False
def mulO (x y : D) (M : MS) (Q : QD) : Prop :=
  match y with
  | .int k => mulI x k M Q
  | _ => False
def rMulAny (K : PySem.W.Frag) : R2 := fun x y H Q => rI CMulW (fun i j => .int (i * j)) x y H Q ∨ rRepX K x y H Q ∨ rRep x y H Q
theorem opR_mul {X : Cx} : OpR X (binaryOp .Mult) (rMulAny X.K) := opR_or op_mulW (opR_or op_repX op_rep)
theorem DenL.reps {F : Hp} {vs : List V} {ds : List D} (h : DenL T F vs ds) : ∀ n : Nat, DenL T F (List.replicate n vs).flatten (List.replicate n ds).flatten
  | 0 => .nil
  | n + 1 => by
    rw [List.replicate_succ, List.replicate_succ, List.flatten_cons, List.flatten_cons]
    exact h.append (DenL.reps h n)
theorem op2_mul : Op2 T (rMulAny T.K) mulO := by
  intro F Gh M H x y dx dy Q R sr hx hy q rn
  cases hy with
  | int k =>
    by_cases h1 : ∃ i, dx = .int i
    · obtain ⟨i, rfl⟩ := h1
      cases hx
      exact .inl ⟨i, k, rfl, rfl, q.1, fin_v sr (.int _) q.2 rn⟩
    · by_cases h2 : ∃ xs, dx = .tup xs
      · obtain ⟨xs, rfl⟩ := h2
        cases hx with
        | tup hx lx =>
          obtain ⟨q1, q2, q3, q4, q5⟩ := q
          refine .inr (.inl ⟨_, k, _, rfl, rfl, ((Ex.of_sr sr).tx hx).sqt, fun z => ?_, q2, q3, by rw [lx.length]; exact q4, fun z => ?_, fun _ => fin_tup sr (lx.reps _) q5 rn⟩)
          · subst z; cases lx; exact q1 rfl
          · subst z
            have q5 : Q (.tup (List.replicate 1 xs).flatten) M := q5
            rw [show (List.replicate 1 xs).flatten = xs by simp] at q5
            exact fin_v sr (.tup hx lx) q5 rn
      · have q' : match asL M dx with
          | some xs => -(2 ^ 63) ≤ k ∧ k < 2 ^ 63 ∧ xs.length * k.toNat ≤ sizeLine ∧ Q (.lst (List.replicate k.toNat xs).flatten) M
          | none => False := by
          have q : mulI dx k M Q := q
          revert q
          unfold mulI
          split
          · intro _; exact (h1 ⟨_, rfl⟩).elim
          · intro _; exact (h2 ⟨_, rfl⟩).elim
          · intro q; exact q
        cases ex : asL M dx with
        | none => rw [ex] at q'; exact q'.elim
        | some xs =>
          rw [ex] at q'
          obtain ⟨q1, q2, q3, q4⟩ := q'
          obtain ⟨a, vs, rfl, h1, l1⟩ := asL_den sr hx ex
          exact .inr (.inr ⟨a, k, vs, rfl, rfl, h1, q1, q2, by rw [l1.length]; exact q3, fin_lst sr (l1.reps _) q4 rn⟩)
  | _ => exact False.elim q

/-! ### == -/
mutual
def toP : D → Option PyData
  | .non => some .none
  | .bl b => some (.bool b)
  | .int i => some (.int i)
  | .str s => some (.str s)
  | .tup xs => (toPL xs).map .tuple
  | .tpl xs => (toPL xs).map .tuple
  | .lst xs => (toPL xs).map .list
  | _ => none
def toPL : List D → Option (List PyData)
  | [] => some []
  | x :: r => match toP x, toPL r with
    | some p, some ps => some (p :: ps)
    | _, _ => none
end
mutual
theorem toP_den {F H : Hp} (e : Ex F H) : ∀ {v : V} {d : D} {p : PyData}, Den T F v d → toP d = some p → Dp T.K H v p
  | _, _, _, .non, h => by cases h; exact .non
  | _, _, _, .bl b, h => by cases h; exact .bl b
  | _, _, _, .int b, h => by cases h; exact .int b
  | _, _, _, .str b, h => by cases h; exact .str b
  | _, _, _, .tup (ds := ds) q l, h => by
    unfold toP at h
    cases z : toPL ds with
    | none => rw [z] at h; cases h
    | some ps => rw [z] at h; cases h; exact .tup (e.tx q).sqt (toPL_den e l z)
  | _, _, _, .tpl (ds := ds) q l, h => by
    unfold toP at h
    cases z : toPL ds with
    | none => rw [z] at h; cases h
    | some ps => rw [z] at h; cases h; exact .tup (e.t q) (toPL_den e l z)
  | _, _, _, .lst (ds := ds) q l, h => by
    unfold toP at h
    cases z : toPL ds with
    | none => rw [z] at h; cases h
    | some ps => rw [z] at h; cases h; exact .lst (.inl (.inl (e _ _ q))) (toPL_den e l z)
  | _, _, _, .ref a, h => by cases h
  | _, _, _, .ty a, h => by cases h
  | _, _, _, .scr _ _, h => by cases h
  | _, _, _, .cls _, h => by cases h
  | _, _, _, .dic _ _, h => by cases h
  | _, _, _, .ins _ _, h => by cases h
  | _, _, _, .set _, h => by cases h
  | _, _, _, .exc0, h => by cases h
  | _, _, _, .exc _ _, h => by cases h
theorem toPL_den {F H : Hp} (e : Ex F H) : ∀ {vs : List V} {ds : List D} {ps : List PyData}, DenL T F vs ds → toPL ds = some ps → DpAll T.K H vs ps
  | _, _, _, .nil, h => by cases h; exact .nil
  | _, _, _, .cons (d := d) (ds := ds) q l, h => by
    unfold toPL at h
    cases z1 : toP d with
    | none => rw [z1] at h; cases h
    | some p =>
      cases z2 : toPL ds with
      | none => rw [z1, z2] at h; cases h
      | some ps => rw [z1, z2] at h; cases h; exact .cons (toP_den e q z1) (toPL_den e l z2)
end
/-- also an object that may change, at the top -/
def topP (M : MS) (d : D) : Option PyData := match d with
  | .ref a => match lstMO (M a) with
    | some xs => (toPL xs).map .list
    | none => none
  | d => toP d
theorem topP_den {F Gh H : Hp} {M : MS} {v : V} {d : D} {p : PyData} (sr : SR T F M Gh H) (h : Den T F v d) (e : topP M d = some p) : Dp T.K H v p := by
  by_cases z : ∃ a, d = .ref a
  · obtain ⟨a, rfl⟩ := z
    have e : (match lstMO (M a) with
      | some xs => (toPL xs).map .list
      | none => none) = some p := e
    cases q : lstMO (M a) with
    | none => rw [q] at e; cases e
    | some xs =>
      rw [q] at e
      obtain ⟨b, vs, rfl, h1, l1⟩ := asL_den (xs := xs) sr h q
      have e : (toPL xs).map PyData.list = some p := e
      cases z2 : toPL xs with
      | none => rw [z2] at e; cases e
      | some ps => rw [z2] at e; cases e; exact .lst (.inl (.inl h1)) (toPL_den (Ex.of_sr sr) l1 z2)
  · have e' : toP d = some p := by
      unfold topP at e
      split at e
      · exact (z ⟨_, rfl⟩).elim
      · exact e
    exact toP_den (Ex.of_sr sr) h e'
/-- two scalars -/
def scalD : D → D → Option Bool
  | .non, .non => some true | .non, .int _ => some false | .int _, .non => some false | .non, .bl _ => some false | .bl _, .non => some false | .non, .str _ => some false | .str _, .non => some false
  | .int i, .int j => some (decide (i = j)) | .bl i, .bl j => some (decide (i = j)) | .str i, .str j => some (decide (i = j))
  | .int _, .str _ => some false | .str _, .int _ => some false | .bl _, .str _ => some false | .str _, .bl _ => some false
  | _, _ => none
theorem scalD_den {F : Hp} {x y : V} {dx dy : D} {b : Bool} (hx : Den T F x dx) (hy : Den T F y dy) (e : scalD dx dy = some b) : scal x y = true ∧ decide (x = y) = b := by
  cases hx <;> cases hy <;> first
    | (cases e; fail)
    | (cases e; exact ⟨rfl, by simp⟩)
    | (cases e; exact ⟨rfl, by rfl⟩)
    | (cases e)
def eqO (x y : D) (M : MS) (Q : QD) : Prop := match scalD x y with
  | some b => Q (.bl b) M
  | none => match topP M x, topP M y with
    | some p, some q => SeqAt.shaped p = true ∧ SeqAt.shaped q = true ∧ Q (.bl (PyData.eqv p q)) M
    | _, _ => False
def neO (x y : D) (M : MS) (Q : QD) : Prop := match scalD x y with
  | some b => Q (.bl (!b)) M
  | none => match topP M x, topP M y with
    | some p, some q => SeqAt.shaped p = true ∧ SeqAt.shaped q = true ∧ Q (.bl (!PyData.eqv p q)) M
    | _, _ => False
def rEqAny (K : PySem.W.Frag) : R2 := fun x y H Q => rEq x y H Q ∨ rEqD K x y H Q
def rNeAny (K : PySem.W.Frag) : R2 := fun x y H Q => rNe x y H Q ∨ rNeD K x y H Q
theorem opR_eq {X : Cx} (hu : X.A.units + 64 < cLine) : OpR X (compareOp .Eq) (rEqAny X.K) := opR_or op_eq (op_eqD hu)
theorem opR_ne {X : Cx} (hu : X.A.units + 64 < cLine) : OpR X (compareOp .NotEq) (rNeAny X.K) := opR_or op_ne (op_neD hu)
theorem op2_eq : Op2 T (rEqAny T.K) eqO := by
  intro F Gh M H x y dx dy Q R sr hx hy q rn
  unfold eqO at q
  cases e : scalD dx dy with
  | some b =>
    rw [e] at q
    obtain ⟨h1, h2⟩ := scalD_den hx hy e
    refine .inl ⟨h1, ?_⟩
    rw [h2]
    exact fin_v sr (.bl b) q rn
  | none =>
    rw [e] at q
    cases e1 : topP M dx with
    | none => rw [e1] at q; exact q.elim
    | some p =>
      cases e2 : topP M dy with
      | none => rw [e1, e2] at q; exact q.elim
      | some p2 =>
        rw [e1, e2] at q
        exact .inr ⟨p, p2, topP_den sr hx e1, topP_den sr hy e2, q.1, q.2.1, fin_v sr (.bl _) q.2.2 rn⟩
theorem op2_ne : Op2 T (rNeAny T.K) neO := by
  intro F Gh M H x y dx dy Q R sr hx hy q rn
  unfold neO at q
  cases e : scalD dx dy with
  | some b =>
    rw [e] at q
    obtain ⟨h1, h2⟩ := scalD_den hx hy e
    refine .inl ⟨h1, ?_⟩
    rw [h2]
    exact fin_v sr (.bl _) q rn
  | none =>
    rw [e] at q
    cases e1 : topP M dx with
    | none => rw [e1] at q; exact q.elim
    | some p =>
      cases e2 : topP M dy with
      | none => rw [e1, e2] at q; exact q.elim
      | some p2 =>
        rw [e1, e2] at q
        exact .inr ⟨p, p2, topP_den sr hx e1, topP_den sr hy e2, q.1, q.2.1, fin_v sr (.bl _) q.2.2 rn⟩

/-! ### is None -/
def isND : D → Bool
  | .non => true
  | _ => false
def isNO (x y : D) (M : MS) (Q : QD) : Prop := match y with
  | .non => Q (.bl (isND x)) M
  | _ => False
def notNO (x y : D) (M : MS) (Q : QD) : Prop := match y with
  | .non => Q (.bl (!isND x)) M
  | _ => False
theorem isND_den {F : Hp} {x : V} {dx : D} (hx : Den T F x dx) : decide (x = .non) = isND dx := by
  cases hx <;> first | rfl | (exact decide_eq_false (fun z => nomatch z))
theorem op2_isN : Op2 T (fun x y H Q => y = .non ∧ Q (.bl (decide (x = .non))) H) isNO := by
  intro F Gh M H x y dx dy Q R sr hx hy q rn
  cases hy <;> first
    | exact False.elim q
    | (refine ⟨rfl, ?_⟩; rw [isND_den hx]; exact fin_v sr (.bl _) q rn)
theorem op2_notN : Op2 T (fun x y H Q => y = .non ∧ Q (.bl (!decide (x = .non))) H) notNO := by
  intro F Gh M H x y dx dy Q R sr hx hy q rn
  cases hy <;> first
    | exact False.elim q
    | (refine ⟨rfl, ?_⟩; rw [isND_den hx]; exact fin_v sr (.bl _) q rn)
end
end G

/-! Eng5: membership, items, slices, built-in calls and methods. -/
namespace G
open PySem PySem.Spec PyProof.Rows L2

section
variable {T : Wd}
/-! ### flat values, in -/
def flatD : D → Bool
  | .non => true
  | .bl _ => true
  | .int _ => true
  | .str _ => true
  | _ => false
def eqF : D → D → Bool
  | .non, .non => true
  | .bl a, .bl b => a == b
  | .bl a, .int b => (if a then 1 else 0) == b
  | .int a, .bl b => a == (if b then 1 else 0)
  | .int a, .int b => a == b
  | .str a, .str b => a == b
  | _, _ => false
def inF (x : D) (xs : List D) : Bool := xs.any fun y => eqF y x
theorem flatD_den {F : Hp} {v : V} {d : D} (h : Den T F v d) (e : flatD d = true) : flatV v = true := by
  cases h <;> first | rfl | (cases e)
theorem eqF_den {F : Hp} {x y : V} {dx dy : D} (hx : Den T F x dx) (hy : Den T F y dy) (e : flatD dx = true) (e' : flatD dy = true) : eqV x y = eqF dx dy := by
  cases hx <;> (first | (cases e; done) | (cases hy <;> first | rfl | (cases e'; done)))
theorem flatL_den {F : Hp} : ∀ {vs : List V} {ds : List D}, DenL T F vs ds → ds.all flatD = true → vs.all flatV = true
  | _, _, .nil, _ => rfl
  | _, _, .cons h l, e => by
    rw [List.all_cons, Bool.and_eq_true] at e ⊢
    exact ⟨flatD_den h e.1, flatL_den l e.2⟩
theorem inF_den {F : Hp} {x : V} {dx : D} (hx : Den T F x dx) (e : flatD dx = true) : ∀ {vs : List V} {ds : List D}, DenL T F vs ds → ds.all flatD = true → inV x vs = inF dx ds
  | _, _, .nil, _ => rfl
  | _, _, .cons h l, ea => by
    rw [List.all_cons, Bool.and_eq_true] at ea
    unfold inV inF
    rw [List.any_cons, List.any_cons, eqF_den h hx ea.1 e]
    have ih := inF_den hx e l ea.2
    unfold inV inF at ih
    rw [ih]
def keyD : D → Option Key
  | .int i => some (.inl i)
  | .str s => some (.inr s)
  | _ => none
theorem keyD_den {F : Hp} {v : V} {d : D} {k : Key} (h : Den T F v d) (e : keyD d = some k) : v = kV k := by
  cases h <;> first | (cases e; rfl) | (cases e; done)
def valD (kvs : List (Key × D)) (k : Key) : Option D := (kvs.find? fun kv => decide (kv.1 = k)).map (·.2)
theorem valD_den {F : Hp} {k : Key} : ∀ {vs : List (Key × V)} {ds : List (Key × D)}, DenK T F vs ds → (valD ds k = none ∧ valV vs k = none) ∨ ∃ d v, valD ds k = some d ∧ valV vs k = some v ∧ Den T F v d
  | _, _, .nil => .inl ⟨rfl, rfl⟩
  | (k', v) :: vs, (_, d) :: ds, .cons h l => by
    by_cases e : k' = k
    · refine .inr ⟨d, v, ?_, ?_, h⟩
      · simp [valD, e]
      · simp [valV, e]
    · have ih := valD_den (k := k) l
      have e1 : valD ((k', d) :: ds) k = valD ds k := by simp [valD, List.find?_cons, e]
      have e2 : valV ((k', v) :: vs) k = valV vs k := by simp [valV, List.find?_cons, e]
      rw [e1, e2]
      exact ih
def dicMO : Option MO → Option (List (Key × D))
  | some (.dic xs) => some xs
  | _ => none
def asD (M : MS) : D → Option (List (Key × D))
  | .dic xs => some xs
  | .ref a => dicMO (M a)
  | _ => none
theorem asD_den {F Gh H : Hp} {M : MS} {v : V} {d : D} {xs : List (Key × D)} (sr : SR T F M Gh H) (h : Den T F v d) (e : asD M d = some xs) : ∃ a vs, v = .ref a ∧ Rd H a (.dK vs) ∧ DenK T F vs xs := by
  cases h with
  | dic h l => cases e; exact ⟨_, _, rfl, .inr ⟨_, sr.fr _ _ h⟩, l⟩
  | ref a =>
    have e : dicMO (M a) = some xs := e
    cases q : M a with
    | none => rw [q] at e; cases e
    | some m =>
      rw [q] at e
      cases m with
      | dic ys => cases e; obtain ⟨_, _, vs, h1, h2⟩ := sr.mu a _ q; exact ⟨a, vs, rfl, .inl h1, h2⟩
      | lst _ => cases e
      | ins _ _ => cases e
      | set _ => cases e
  | _ => cases e
/-- any list (also the script's) -/
def asS (M : MS) : D → Option (List D)
  | .scr xs => some xs
  | d => asL M d
theorem asS_den {F Gh H : Hp} {M : MS} {v : V} {d : D} {xs : List D} (sr : SR T F M Gh H) (h : Den T F v d) (e : asS M d = some xs) : ∃ a vs, v = .ref a ∧ SqL T.K H a vs ∧ DenL T F vs xs := by
  by_cases z : ∃ ys, d = .scr ys
  · obtain ⟨ys, rfl⟩ := z
    cases e
    cases h with
    | scr h l => exact ⟨_, _, rfl, (Ex.of_sr sr).l h, l⟩
  · have e' : asL M d = some xs := by
      unfold asS at e
      split at e
      · exact (z ⟨_, rfl⟩).elim
      · exact e
    obtain ⟨a, vs, e1, h1, l1⟩ := asL_den sr h e'
    exact ⟨a, vs, e1, .inl (.inl h1), l1⟩
def oneSign (s : Str) : Option Nat := match s.cps.toList with
  | [c] => some c
  | _ => none
theorem oneSign_eq {s : Str} {c : Nat} (h : oneSign s = some c) : s = ⟨#[c]⟩ := by
  obtain ⟨a⟩ := s
  unfold oneSign at h
  split at h
  · rename_i c' e
    cases h
    congr 1
    exact Array.ext' e
  · cases h
def strIn (s t : Str) : Bool := match oneSign s with
  | some c => decide (c ∈ t.cps.toList)
  | none => !(Builtin.Str.occurrences t s 0 t.length 1).isEmpty
def inS (neg : Bool) (x : D) (t : Str) (M : MS) (Q : QD) : Prop := match x with
  | .str s => Q (.bl (if neg then !strIn s t else strIn s t)) M
  | _ => False
def inO (neg : Bool) (x y : D) (M : MS) (Q : QD) : Prop :=
  match y with
  | .str t => inS neg x t M Q
  | y => match asD M y with
    | some kvs => match keyD x with
      | some k => Q (.bl (if neg then !(valD kvs k).isSome else (valD kvs k).isSome)) M
      | none => False
    | none => match (asT y).or (asS M y) with
      | some xs => flatD x = true ∧ xs.all flatD = true ∧ Q (.bl (if neg then !inF x xs else inF x xs)) M
      | none => False
def rInD (neg : Bool) : R2 := fun x y H Q => ∃ a o, y = .ref a ∧ DGet H a x o ∧ Q (.bl (if neg then !o.isSome else o.isSome)) H
def rInSg (neg : Bool) : R2 := fun x y H Q => ∃ (c : Nat) (z : Str), x = .str ⟨#[c]⟩ ∧ y = .str z ∧ Q (.bl (if neg then !decide (c ∈ z.cps.toList) else decide (c ∈ z.cps.toList))) H
def rInSt (neg : Bool) : R2 := fun x y H Q => ∃ i j, x = .str i ∧ y = .str j ∧ Q (.bl (if neg then !(!(Builtin.Str.occurrences j i 0 j.length 1).isEmpty) else !(Builtin.Str.occurrences j i 0 j.length 1).isEmpty)) H
def rInAny (K : PySem.W.Frag) (neg : Bool) : R2 := fun x y H Q => rIn K neg x y H Q ∨ rInD neg x y H Q ∨ rInSg neg x y H Q ∨ rInSt neg x y H Q
theorem opR_inD {X : Cx} (hu : X.A.units + 1 < cLine) : OpR X (compareOp .In) (rInD false) := by
  intro pins s σ H x y v u Q I rx ry h
  obtain ⟨a, o, rfl, g, q⟩ := h
  obtain rfl : u = Value.ref a := ry
  exact d_in hu I g rx fun s3 I3 => ⟨.bl o.isSome, H, I3, rfl, q⟩
theorem opR_notInD {X : Cx} (hu : X.A.units + 1 < cLine) : OpR X (compareOp .NotIn) (rInD true) := by
  intro pins s σ H x y v u Q I rx ry h
  obtain ⟨a, o, rfl, g, q⟩ := h
  obtain rfl : u = Value.ref a := ry
  exact d_notIn hu I g rx fun s3 I3 => ⟨.bl (!o.isSome), H, I3, rfl, q⟩
theorem opR_in {X : Cx} (hu : X.A.units + 1 < cLine) : OpR X (compareOp .In) (rInAny X.K false) := opR_or op_in_seq (opR_or (opR_inD hu) (opR_or op_in_sign op_in_str))
theorem opR_notIn {X : Cx} (hu : X.A.units + 1 < cLine) : OpR X (compareOp .NotIn) (rInAny X.K true) := opR_or op_notIn_seq (opR_or (opR_notInD hu) (opR_or op_notIn_sign op_notin_str))
theorem asT_or_den {F Gh H : Hp} {M : MS} {v : V} {d : D} {xs : List D} (sr : SR T F M Gh H) (h : Den T F v d) (e : (asT d).or (asS M d) = some xs) : ∃ a vs, v = .ref a ∧ (SqL T.K H a vs ∨ SqT T.K H a vs) ∧ DenL T F vs xs := by
  cases q : asT d with
  | some ys =>
    rw [q] at e
    cases e
    obtain ⟨a, vs, e1, h1, l1⟩ := asT_den h q
    exact ⟨a, vs, e1, .inr ((Ex.of_sr sr).t h1), l1⟩
  | none =>
    rw [q] at e
    obtain ⟨a, vs, e1, h1, l1⟩ := asS_den sr h e
    exact ⟨a, vs, e1, .inl h1, l1⟩
theorem op2_in (neg : Bool) : Op2 T (rInAny T.K neg) (inO neg) := by
  intro F Gh M H x y dx dy Q R sr hx hy q rn
  by_cases hs : ∃ t, dy = .str t
  · obtain ⟨t, rfl⟩ := hs
    cases hy
    have q : inS neg dx t M Q := q
    cases hx with
    | str s =>
      have q : Q (.bl (if neg then !strIn s t else strIn s t)) M := q
      unfold strIn at q
      cases e : oneSign s with
      | some c =>
        rw [e] at q
        refine .inr (.inr (.inl ⟨c, t, by rw [oneSign_eq e], rfl, fin_v sr (.bl _) q rn⟩))
      | none =>
        rw [e] at q
        exact .inr (.inr (.inr ⟨s, t, rfl, rfl, fin_v sr (.bl _) q rn⟩))
    | _ => exact False.elim q
  · have q' : match asD M dy with
      | some kvs => match keyD dx with
        | some k => Q (.bl (if neg then !(valD kvs k).isSome else (valD kvs k).isSome)) M
        | none => False
      | none => match (asT dy).or (asS M dy) with
        | some xs => flatD dx = true ∧ xs.all flatD = true ∧ Q (.bl (if neg then !inF dx xs else inF dx xs)) M
        | none => False := by
      revert q
      unfold inO
      split
      · intro _; exact (hs ⟨_, rfl⟩).elim
      · intro q; exact q
    cases e : asD M dy with
    | some kvs =>
      rw [e] at q'
      obtain ⟨a, vs, rfl, h1, l1⟩ := asD_den sr hy e
      cases ek : keyD dx with
      | none => simp only [ek] at q'
      | some k =>
        simp only [ek] at q'
        have ex := keyD_den hx ek
        subst ex
        refine .inr (.inl ⟨a, valV vs k, rfl, .inl ⟨_, _, h1, rfl, rfl⟩, ?_⟩)
        have e2 : (valV vs k).isSome = (valD kvs k).isSome := by
          rcases valD_den (k := k) l1 with ⟨h1, h2⟩ | ⟨d, v, h1, h2, _⟩ <;> rw [h1, h2] <;> rfl
        rw [e2]
        exact fin_v sr (.bl _) q' rn
    | none =>
      rw [e] at q'
      cases e2 : (asT dy).or (asS M dy) with
      | none => simp only [e2] at q'
      | some xs =>
        simp only [e2] at q'
        obtain ⟨q1, q2, q3⟩ := q'
        obtain ⟨a, vs, rfl, h1, l1⟩ := asT_or_den sr hy e2
        refine .inl ⟨a, vs, rfl, h1, flatD_den hx q1, flatL_den l1 q2, ?_⟩
        rw [inF_den hx q1 l1 q2]
        exact fin_v sr (.bl _) q3 rn

/-! ### items -/
def itemO (x y : D) (M : MS) (Q : QD) : Prop :=
  match asD M x with
  | some kvs => match keyD y with
    | some k => match valD kvs k with
      | some d => Q d M
      | none => False
    | none => False
  | none => match y with
    | .int i => match x with
      | .str z => z.length ≤ sizeLine ∧ match atI z.cps.toList i with
        | some c => Q (.str ⟨#[c]⟩) M
        | none => False
      | x => match (asT x).or (asS M x) with
        | some xs => match atI xs i with
          | some d => Q d M
          | none => False
        | none => False
    | _ => False
def rIxD : R2 := fun x y H Q => ∃ a v, x = .ref a ∧ DGet H a y (some v) ∧ Q v H
theorem ix_dict {X : Cx} (hu : X.A.units + 1 < cLine) : IxR X rIxD := by
  intro value slice pins s σ H x y v u Q I rx ry h hs
  obtain ⟨a, z, rfl, g, q⟩ := h
  obtain rfl : v = Value.ref a := rx
  exact tail_any (dict_typeIs I g) PySem.F.slot_dict_getitem.lookup (d_getItem hu I g ry fun w' s3 I3 rw' => ⟨z, H, I3, rw', q⟩) hs
def rIxAny (K : PySem.W.Frag) : R2 := fun x y H Q => rIx K x y H Q ∨ rIxD x y H Q
theorem ixR_any {X : Cx} (hu : X.A.units + 1 < cLine) : IxR X (rIxAny X.K) := IxR.or ix_seq (ix_dict hu)
theorem atI_den {F : Hp} {vs : List V} {ds : List D} {i : Int} {d : D} (l : DenL T F vs ds) (h : atI ds i = some d) : ∃ v, atI vs i = some v ∧ Den T F v d := by
  unfold atI at h ⊢
  rw [l.length]
  cases e : ixN ds.length i with
  | none => rw [e] at h; cases h
  | some j =>
    rw [e] at h
    exact l.get' h
theorem op2_item : Op2 T (rIxAny T.K) itemO := by
  intro F Gh M H x y dx dy Q R sr hx hy q rn
  unfold itemO at q
  cases e : asD M dx with
  | some kvs =>
    rw [e] at q
    obtain ⟨a, vs, rfl, h1, l1⟩ := asD_den sr hx e
    cases ek : keyD dy with
    | none => simp only [ek] at q
    | some k =>
      simp only [ek] at q
      have ey := keyD_den hy ek
      subst ey
      rcases valD_den (k := k) l1 with ⟨h2, h3⟩ | ⟨d, v, h2, h3, h4⟩
      · simp only [h2] at q
      · simp only [h2] at q
        exact .inr ⟨a, v, rfl, by rw [← h3]; exact .inl ⟨_, _, h1, rfl, rfl⟩, fin_v sr h4 q rn⟩
  | none =>
    rw [e] at q
    cases hy with
    | int i =>
      by_cases hs : ∃ z, dx = .str z
      · obtain ⟨z, rfl⟩ := hs
        cases hx
        obtain ⟨q1, q2⟩ := q
        cases e2 : atI z.cps.toList i with
        | none => rw [e2] at q2; exact q2.elim
        | some c =>
          rw [e2] at q2
          exact .inl (.inr (.inr ⟨z, i, c, rfl, rfl, q1, e2, fin_v sr (.str _) q2 rn⟩))
      · have q' : match (asT dx).or (asS M dx) with
          | some xs => match atI xs i with
            | some d => Q d M
            | none => False
          | none => False := by
          revert q
          simp only
          split
          · intro _; exact (hs ⟨_, rfl⟩).elim
          · intro q; exact q
        cases e2 : (asT dx).or (asS M dx) with
        | none => rw [e2] at q'; exact q'.elim
        | some xs =>
          simp only [e2] at q'
          obtain ⟨a, vs, rfl, h1, l1⟩ := asT_or_den sr hx e2
          cases e3 : atI xs i with
          | none => rw [e3] at q'; exact q'.elim
          | some d =>
            rw [e3] at q'
            obtain ⟨v, h2, h3⟩ := atI_den l1 e3
            rcases h1 with h1 | h1
            · exact .inl (.inl ⟨a, vs, i, v, rfl, rfl, h1, h2, fin_v sr h3 q' rn⟩)
            · exact .inl (.inr (.inl ⟨a, vs, i, v, rfl, rfl, h1, h2, fin_v sr h3 q' rn⟩))
    | _ => exact False.elim q

/-! ### slices -/
abbrev WO := EnvD → MS → (Option Int → MS → Prop) → EK → Prop
variable (T) in
def EvO (W : WX) (t : TO) (w : WO) : Prop := ∀ (σ : L2.St) (H F Gh : Hp) (env : EnvD) (M : MS) Q EQ (R : Option Int → Hp → Prop), SR T F M Gh H → EnvR T F σ env → w env M Q EQ →
  (∀ o H' F' M', Ex F F' → SR T F' M' Gh H' → Q o M' → R o H') → RX T F Gh EQ W σ → t σ H R
def wNoPart : WO := fun _ M Q _ => Q none M
def wPart (w : WE) : WO := fun env M Q EQ => w env M (fun d M1 => match d with
  | .int i => Q (some i) M1
  | _ => False) EQ
theorem eo_none {W : WX} : EvO T W tNoPart wNoPart := fun σ H F Gh env M Q EQ R sr er hw rn rx => rn none H F M (Ex.refl F) sr hw
theorem eo_some {W : WX} {t : TE} {w : WE} (h : Ev T W t w) : EvO T W (tPart t) (wPart w) := by
  intro σ H F Gh env M Q EQ R sr er hw rn rx
  refine h σ H F Gh env M _ EQ _ sr er hw (fun v H1 F1 d M1 e1 sr1 dn q => ?_) rx
  cases dn with
  | int i => exact ⟨i, rfl, rn (some i) H1 F1 M1 e1 sr1 q⟩
  | _ => exact q.elim
def cutD (xs : List D) (lo hi : Option Int) : List D := (xs.drop (HT.sIx xs.length 0 lo)).take (HT.sIx xs.length xs.length hi - HT.sIx xs.length 0 lo)
theorem cutD_den {F : Hp} {vs : List V} {ds : List D} (l : DenL T F vs ds) (lo hi : Option Int) : DenL T F (cutV vs lo hi) (cutD ds lo hi) := by
  unfold cutV cutD
  rw [l.length]
  exact (l.drop _).take _
def sliceO (x : D) (lo hi : Option Int) (M : MS) (Q : QD) : Prop :=
  match x with
  | .str z => z.length ≤ sizeLine ∧ Q (.str (cutS z lo hi)) M
  | .tup xs => Q (.tup (cutD xs lo hi)) M
  | x => match asS M x with
    | some xs => Q (.lst (cutD xs lo hi)) M
    | none => False
def rSlXny (K : PySem.W.Frag) : V → Option Int → Option Int → Hp → VK → Prop := fun x lo hi H Q => rSlL K x lo hi H Q ∨ rSlX K x lo hi H Q ∨ rSlS x lo hi H Q
theorem slR_any {X : Cx} : SlR X (rSlXny X.K) := SlR.or sl_list (SlR.or sl_tupX sl_str)
theorem cutD_whole {xs : List D} {lo hi : Option Int} (h : HT.sIx xs.length 0 lo = 0 ∧ HT.sIx xs.length xs.length hi = xs.length) : cutD xs lo hi = xs := by
  unfold cutD
  rw [h.1, h.2]
  simp
def wSl (w : WE) (l u : WO) : WE := fun env M Q EQ => w env M (fun x M1 => l env M1 (fun lo M2 => u env M2 (fun hi M3 => sliceO x lo hi M3 Q) EQ) EQ) EQ
theorem slice_den {F Gh H : Hp} {M : MS} {x : V} {dx : D} {lo hi : Option Int} {Q : QD} {R : VK} (sr : SR T F M Gh H) (hx : Den T F x dx) (q : sliceO dx lo hi M Q) (rn : RN T F Gh Q R) : rSlXny T.K x lo hi H R := by
  by_cases h1 : ∃ z, dx = .str z
  · obtain ⟨z, rfl⟩ := h1
    cases hx
    exact .inr (.inr ⟨z, rfl, q.1, fin_v sr (.str _) q.2 rn⟩)
  · by_cases h2 : ∃ xs, dx = .tup xs
    · obtain ⟨xs, rfl⟩ := h2
      cases hx with
      | tup hx l =>
        refine .inr (.inl ⟨_, _, rfl, ((Ex.of_sr sr).tx hx).sqt, fun z => ?_, fun z => fin_tup sr (cutD_den l lo hi) q rn⟩)
        have q : Q (.tup (cutD xs lo hi)) M := q
        rw [l.length] at z
        rw [cutD_whole z] at q
        exact fin_v sr (.tup hx l) q rn
    · have q' : match asS M dx with
        | some xs => Q (.lst (cutD xs lo hi)) M
        | none => False := by
        revert q
        unfold sliceO
        split
        · intro _; exact (h1 ⟨_, rfl⟩).elim
        · intro _; exact (h2 ⟨_, rfl⟩).elim
        · intro q; exact q
      cases e : asS M dx with
      | none => rw [e] at q'; exact q'.elim
      | some xs =>
        rw [e] at q'
        obtain ⟨a, vs, rfl, h1, l1⟩ := asS_den sr hx e
        exact .inl ⟨a, vs, rfl, h1, fin_lst sr (cutD_den l1 lo hi) q' rn⟩
theorem ev_sl {W : WX} {te : TE} {tl th : TO} {w : WE} {l u : WO} (h : Ev T W te w) (hl : EvO T W tl l) (hu : EvO T W th u) : Ev T W (tSl (rSlXny T.K) te tl th) (wSl w l u) := by
  intro σ H F Gh env M Q EQ R sr er hw rn rx
  refine h σ H F Gh env M _ EQ _ sr er hw (fun v H1 F1 d M1 e1 sr1 dn q => ?_) rx
  refine hl σ H1 F1 Gh env M1 _ EQ _ sr1 (er.mono e1) q (fun lo H2 F2 M2 e2 sr2 q2 => ?_) (rx.mono e1)
  refine hu σ H2 F2 Gh env M2 _ EQ _ sr2 (er.mono (e1.trans e2)) q2 (fun hi H3 F3 M3 e3 sr3 q3 => ?_) (rx.mono (e1.trans e2))
  exact slice_den sr3 (dn.mono (e2.trans e3)) q3 (rn.mono ((e1.trans e2).trans e3))
end
end G

/-! Eng6: a set made of a list or tuple of keys, and its length. -/
namespace G
open PySem PySem.Spec PyProof.Rows L2

/-- the keys as a set takes them in: the first of equal ones stays -/
def addKey (ks : List Key) (k : Key) : List Key := if hasK ks k = true then ks else ks ++ [k]
def uniq (ks : List Key) : List Key := ks.foldl addKey []
theorem hasK_add (ks : List Key) (k j : Key) : hasK (addKey ks k) j = (hasK ks j || decide (j = k)) := by
  unfold addKey
  by_cases h : hasK ks k = true
  · rw [if_pos h]
    by_cases e : j = k
    · subst e; rw [h]; simp
    · simp [e]
  · rw [if_neg h]
    unfold hasK
    rw [List.any_append]
    by_cases e : j = k
    · subst e; simp
    · have : ¬ k = j := fun z => e z.symm
      simp [e, this]
theorem len_add (ks : List Key) (k : Key) : (addKey ks k).length = if hasK ks k = true then ks.length else ks.length + 1 := by
  unfold addKey
  split <;> simp
theorem uniq_step {ks : List Key} {i : Nat} {k : Key} (h : ks[i]? = some k) : uniq (ks.take (i + 1)) = addKey (uniq (ks.take i)) k := by
  unfold uniq
  rw [List.take_add_one, h]
  simp [List.foldl_append]

theorem setOf_same {P : Program} {w : World} {h : Heap} {a : Addr} {S S' : Key → Bool} {n n' : Nat} (hS : h.SetOf (mixKind P w) a S n) (e : ∀ k, S k = S' k) (en : n = n') : h.SetOf (mixKind P w) a S' n' := by
  have z : S = S' := funext e
  subst z en
  exact hS
section
variable {P : Program} {w : World} {A : Around} {E : Value → Shared → Prop} {s : Shared}
/-- the loop of set.update over keys -/
theorem keys_update {It : Addr} {fp wr : List Addr} {Gn : Array GenState → Array GenState → Prop} {n : Nat} {Pv : Nat → Value → Prop} {Stt : Nat → Shared → Prop} {R : Result → Shared → Prop}
    (W : WalksS P w A.in1 It fp wr Gn n Pv Stt) (So : Addr) (hSf : So ∉ fp) (ks : List Key) (hn : n = ks.length) (hb : ks.length + 1 < scanBound) (hval : ∀ i v, Pv i v → ∃ k, ks[i]? = some k ∧ keyIs k v = true) :
    ∀ (m i : Nat) (s : Shared), n - i = m → i ≤ n → Stt i s → (uniq (ks.take i)).length ≤ i → s.heap.SetOf (mixKind P w) So (hasK (uniq (ks.take i))) (uniq (ks.take i)).length →
      (∀ s', Moved (So :: wr) Gn s s' → s'.heap.SetOf (mixKind P w) So (hasK (uniq ks)) (uniq ks).length → R (.ok (.ret .none)) s') →
      codeAny (model P w) A (.builtin "set.update.loop" ⟨[.ref So, .ref It], []⟩) R s := by
  have hSw : So ∉ wr := fun h => hSf (W.sub _ h)
  have more : ∀ b ∈ wr, b ∈ So :: wr := fun b hb => List.mem_cons_of_mem _ hb
  intro m
  induction m with
  | zero =>
    intro i s hm hi hst hlen hS hR
    obtain rfl : i = n := by omega
    refine codeAny_builtin F.entry_set_update_loop ?_
    rw [Around.under_plainId F.plain_set_update_loop _]
    show wpAny _ A.in1 (pyNext (.ref It) >>= _) _ _ s
    refine wpAny_bind (W.done s _ _ hst fun s' mv => ?_)
    show wpAny _ A.in1 (ret Value.none) _ _ s'
    have e : ks.take i = ks := List.take_of_length_le (by omega)
    rw [e] at hS
    exact wpAny_pure (hR s' (mv.mono more) (setOf_at hS fun o q => mv.heap So o hSw q))
  | succ m ih =>
    intro i s hm hi hst hlen hS hR
    have hlt : i < n := by omega
    refine codeAny_builtin F.entry_set_update_loop ?_
    rw [Around.under_plainId F.plain_set_update_loop _]
    show wpAny _ A.in1 (pyNext (.ref It) >>= _) _ _ s
    refine wpAny_bind (W.item i s _ _ hlt hst fun v s' hP hst' mv => ?_)
    obtain ⟨k, hk, hkey⟩ := hval i v hP
    have hS' := setOf_at hS fun o q => mv.heap So o hSw q
    have hsc : v.scannable = true := by
      rcases keyIs_shape hkey with ⟨z, t, rfl, rfl⟩ | ⟨z, t, rfl, rfl⟩ <;> rfl
    show wpAny _ A.in1 (holding [v] (setAdd So v) >>= _) _ _ s'
    refine wpAny_bind (wpAny_holding ?_)
    unfold setAdd
    refine wpAny_holding ?_
    refine wpAny_bind ((mixKind P w).pyHash (k := k) hkey ?_)
    have e2 := uniq_step hk
    refine wpAny_setAddHashed_of (knd := mixKind P w) (s := { s' with toks := s'.toks + 1 }) hkey hsc hS' (by omega) fun h' sb hS2 => ?_
    have hS3 : h'.SetOf (mixKind P w) So (hasK (uniq (ks.take (i + 1)))) (uniq (ks.take (i + 1))).length := by
      rw [e2]
      exact setOf_same hS2 (fun j => (hasK_add _ _ j).symm) (len_add _ _).symm
    have hl3 : (uniq (ks.take (i + 1))).length ≤ i + 1 := by
      rw [e2, len_add]
      split <;> omega
    refine wpAny_pure ⟨plainId_quiet F.plain_set_update_loop _, ih (i + 1) _ (by omega) hlt (W.frame _ s' _ _ hst' (Nat.le_succ _) fun b hb o e => ?_) hl3 hS3 fun s'' mv' hS'' => ?_⟩
    · rw [sb.2 b (fun z : b = So => hSf (z ▸ hb))]; exact e
    · refine hR s'' (Moved.trans W.gtrans ((mv.mono more).then_heap (Nat.le_succ _) fun b o hb e => ?_) mv') hS''
      rw [sb.2 b (fun z : b = So => hb (by rw [z]; exact List.mem_cons_self))]; exact e

abbrev setObj (led : Bool) : Obj := { cls := .type "set", dict := none, data := .set #[] 0 (.fresh 0 0 led) }
theorem set_begin {h : Heap} {led : Bool} (ks : List Key) (ob : Obj) : ((h.push (setObj led)).push ob).SetOf (mixKind P w) h.objs.size (hasK (uniq (ks.take 0))) (uniq (ks.take 0)).length :=
  ⟨_, #[], 0, _, Heap.get?_push_of_some _ (Heap.get?_push_size _ rfl), ⟨rfl, rfl, rfl⟩, rfl, (fun e he => by simp at he), (fun k => by simp [uniq, hasK]), (by decide), (by rfl), rfl⟩
theorem set_last {led : Bool} {ks : List Key} (ob : Obj) (s' : Shared) (mv : Moved (s.heap.objs.size :: [(s.heap.push (setObj led)).objs.size]) (fun g g' => g' = g) { s with heap := (s.heap.push (setObj led)).push ob } s') (hS' : s'.heap.SetOf (mixKind P w) s.heap.objs.size (hasK (uniq ks)) (uniq ks).length) :
    ∃ h' tk, s' = { s with heap := h', toks := tk } ∧ h'.SetOf (mixKind P w) s.heap.objs.size (hasK (uniq ks)) (uniq ks).length ∧ ∀ b o, s.heap.get? b = some o → h'.get? b = some o := by
  obtain ⟨h', g', d', tk', os'⟩ := s'
  obtain rfl : g' = s.gens := mv.gens
  obtain rfl : d' = s.drawn := mv.drawn
  obtain rfl : os' = s.os := mv.os
  refine ⟨h', tk', rfl, hS', fun b o e => ?_⟩
  have lt := Heap.lt_size e
  refine mv.heap b o ?_ (Heap.get?_push_of_some _ (Heap.get?_push_of_some _ e))
  rw [Heap.size_push]
  simp only [List.mem_cons, List.mem_singleton, List.not_mem_nil, or_false, not_or]
  exact ⟨Nat.ne_of_lt lt, Nat.ne_of_lt (Nat.lt_succ_of_lt lt)⟩
structure KeysIn (items : Array Value) (ks : List Key) : Prop where
  sz : items.size = ks.length
  it : ∀ (i : Nat) (v : Value), items[i]? = some v → ∃ k : Key, ks[i]? = some k ∧ keyIs k v = true
  fits : ks.length + 1 < scanBound
structure Lt2 (a b : Nat) : Prop where
  lt : a < b
set_option maxHeartbeats 6400000 in
/-- set(xs) of a tuple | a list of keys -/
theorem call_set_keys {l : Addr} {items : Array Value} (ks : List Key) {Q : Value → Shared → Prop} (hh : A.handled = none) (hl : s.heap.IsTuple l items ∨ s.heap.IsList l items) (hk : KeysIn items ks)
    (h : ∀ (h' : Heap) (tk : Nat), h'.SetOf (mixKind P w) s.heap.objs.size (hasK (uniq ks)) (uniq ks).length → (∀ b o, s.heap.get? b = some o → h'.get? b = some o) → Q (.ref s.heap.objs.size) { s with heap := h', toks := tk }) :
    wpAny (model P w) A (call (.type "set") [.ref l]) Q E s := by
  obtain ⟨c, tl, hmro⟩ := F.called_set.mro
  have hmade := F.called_set.made
  have hsub := F.called_set.sub
  refine wpAny_call (codeAny_of_tree ?_)
  show wpAny _ _ (callAny (.type "set") _) _ _ _
  refine wpAny_pure ⟨Code.quiet_builtin _ (by decide +kernel), codeAny_builtin F.entry_type_call ?_⟩
  rw [Around.under_plain (weight_type_call_type "set" [.ref l] []) rfl]
  have f1 := F.called_set.notType
  have f2 := F.called_set.canCreate
  have f3 := F.typeCall_set_1 (.ref l)
  repeat (any_goals (first | assumption | wp_step))
  refine codeAny_mono (code_set_new_1 (.ref l) (E := E) (Q₁ := fun ob s₁ => ∃ led : Bool, ob = .ref s.heap.objs.size ∧ s₁ = { s with heap := s.heap.push (setObj led) }) fun led => ⟨led, rfl, rfl⟩) fun r s₁ hr => ?_
  cases r with
  | error e => exact hr
  | ok fl =>
    cases fl with
    | next => exact hr.elim
    | brk => exact hr.elim
    | cont => exact hr.elim
    | ret ob =>
      obtain ⟨led, rfl, rfl⟩ := hr
      have g0 : (s.heap.push (setObj led)).get? s.heap.objs.size = some (setObj led) := Heap.get?_push_size _ rfl
      have gT : Shared.TypeIs { s with heap := s.heap.push (setObj led) } (.ref s.heap.objs.size) "set" := ⟨_, g0, rfl⟩
      have f4 := F.called_set.init.lookup
      have f5 := F.called_set.init.bind (.ref s.heap.objs.size)
      repeat (any_goals (first | assumption | wp_step))
      refine codeAny_mono (codeAny_call_builtin (R := wants (fun r s₂ => r = .none ∧ ∃ h' tk, s₂ = { s with heap := h', toks := tk } ∧ h'.SetOf (mixKind P w) s.heap.objs.size (hasK (uniq ks)) (uniq ks).length ∧
          (∀ b o, s.heap.get? b = some o → h'.get? b = some o)) E) F.called_set.init.plain F.entry_set_init (check_set_init_1 gT ?_)) fun r₂ s₂ hr₂ => ?_
      · have lS : Lt2 l s.heap.objs.size := by
          rcases hl with ⟨o, e, _⟩ | ⟨o, e, _⟩ <;> exact ⟨Heap.lt_size e⟩
        clear h f1 f2 f3 f4 f5 hmro hmade hsub
        rcases hl with hl | hl
        · obtain ⟨⟨ocls, odict, odata, oslots⟩, hol, hcl, nl, hdl⟩ := hl
          simp only at hcl hdl
          subst hcl hdl
          have hol' := Heap.get?_push_of_some (setObj led) hol
          have k1 := F.sub_tuple_set
          have k2 := F.sub_tuple_frozenset
          have k3 : (Value.type "tuple" == Value.type "dict") = false := by decide
          have hl1 : (s.heap.push (setObj led)).IsTuple l items := ⟨_, hol', rfl, nl, rfl⟩
          unfold Builtin.«set.__init__» noKeywords Builtin.Frozenset.updateFrom
          generalize hPI : pyIter = PI
          wp_walk
          subst hPI
          have lS := lS.lt
          have h3 : A.in1.in1.in1.handled = none := by simp [hh]
          have neI : l ≠ (s.heap.push (setObj led)).objs.size := by rw [Heap.size_push]; exact Nat.ne_of_lt (Nat.lt_succ_of_lt lS)
          have nSf : s.heap.objs.size ∉ [(s.heap.push (setObj led)).objs.size, l] := by
            rw [Heap.size_push]
            simp only [List.mem_cons, List.mem_singleton, List.not_mem_nil, or_false, not_or]
            exact ⟨Nat.ne_of_lt (Nat.lt_succ_self _), Nat.ne_of_gt lS⟩
          refine wpAny_pyIter_tuple hl1 ?_
          refine wpAny_bind (wpAny_runValue ?_)
          refine keys_update ((Walks.tuple h3 _ l neI items).toS) s.heap.objs.size nSf ks hk.sz hk.fits hk.it (items.size - 0) 0 _ (by omega) (Nat.zero_le _)
            ⟨⟨_, Heap.get?_push_size _ rfl, rfl, rfl⟩, (hl1.push _)⟩ (Nat.le_refl _) (set_begin ks _) fun s' mv hS' => ?_
          obtain ⟨h', tk, rfl, q1, q2⟩ := set_last _ s' mv hS'
          show wpAny _ _ _ _ _ _
          refine wpAny_pure ?_
          show wpAny _ _ (ret Value.none) _ _ _
          exact wpAny_pure ⟨rfl, h', tk, rfl, q1, q2⟩
        · obtain ⟨⟨ocls, odict, odata, oslots⟩, hol, hcl, nl, hdl⟩ := hl
          simp only at hcl hdl
          subst hcl hdl
          have hol' := Heap.get?_push_of_some (setObj led) hol
          have k1 := F.sub_list_set
          have k2 := F.sub_list_frozenset
          have k3 : (Value.type "list" == Value.type "dict") = false := by decide
          have hl1 : (s.heap.push (setObj led)).IsList l items := ⟨_, hol', rfl, nl, rfl⟩
          unfold Builtin.«set.__init__» noKeywords Builtin.Frozenset.updateFrom
          generalize hPI : pyIter = PI
          wp_walk
          subst hPI
          have lS := lS.lt
          have h3 : A.in1.in1.in1.handled = none := by simp [hh]
          have neI : l ≠ (s.heap.push (setObj led)).objs.size := by rw [Heap.size_push]; exact Nat.ne_of_lt (Nat.lt_succ_of_lt lS)
          have nSf : s.heap.objs.size ∉ [(s.heap.push (setObj led)).objs.size, l] := by
            rw [Heap.size_push]
            simp only [List.mem_cons, List.mem_singleton, List.not_mem_nil, or_false, not_or]
            exact ⟨Nat.ne_of_lt (Nat.lt_succ_self _), Nat.ne_of_gt lS⟩
          refine wpAny_pyIter_list hl1 ?_
          refine wpAny_bind (wpAny_runValue ?_)
          refine keys_update ((Walks.list h3 _ l neI items).toS) s.heap.objs.size nSf ks hk.sz hk.fits hk.it (items.size - 0) 0 _ (by omega) (Nat.zero_le _)
            ⟨⟨_, Heap.get?_push_size _ rfl, rfl, rfl⟩, (hl1.push _)⟩ (Nat.le_refl _) (set_begin ks _) fun s' mv hS' => ?_
          obtain ⟨h', tk, rfl, q1, q2⟩ := set_last _ s' mv hS'
          show wpAny _ _ _ _ _ _
          refine wpAny_pure ?_
          show wpAny _ _ (ret Value.none) _ _ _
          exact wpAny_pure ⟨rfl, h', tk, rfl, q1, q2⟩
      · cases r₂ with
        | error e => exact hr₂
        | ok fl₂ =>
          cases fl₂ with
          | next => exact hr₂.elim
          | brk => exact hr₂.elim
          | cont => exact hr₂.elim
          | ret r =>
            obtain ⟨rfl, h', tk, rfl, hS', hk'⟩ := hr₂
            repeat (any_goals (first | assumption | wp_step))
            exact h _ _ hS' hk'
end
end G

/-! Eng7: built-in calls. -/
namespace G
open PySem PySem.Spec PyProof.Rows L2

structure ClsX (K : PySem.W.Frag) (C : Addr) : Prop where
  cl : Cls K C
  ha : PySem.W.findIn K (.ref C) "__class__" = some (some (.builtin "object.__class__"))
  hn : PySem.W.specialIn K (.builtin "object.__class__") "__get__" = some (some (.builtin "getset_descriptor.__get__"))
  htk : PySem.W.takesIn K (.builtin "object.__class__") = some true
  hm : PySem.W.mroIn K C (.type "object") = some true
def tvT (T : Wd) : TyN → Value
  | .bi n => .type n
  | .own C => .ref (T.adr C)
structure WdOk (T : Wd) : Prop where
  isi : ∀ t c b, T.isi t c = some b → PySem.W.kitOne T.K (tvT T t) (tvT T c) = some b
  cls : ∀ C, T.cls C = true → ClsX T.K (T.adr C)
  noA : ∀ C f, T.noA C f = true → NoAttr T.K (T.adr C) f

section
variable {T : Wd}
/-! ### isinstance -/
def tyMO : Option MO → Option TyN
  | some (.lst _) => some (.bi "list")
  | some (.dic _) => some (.bi "dict")
  | some (.ins C _) => some (.own C)
  | some (.set _) => none
  | none => none
def tyD (M : MS) : D → Option TyN
  | .non => some (.bi "NoneType")
  | .bl _ => some (.bi "bool")
  | .int _ => some (.bi "int")
  | .str _ => some (.bi "str")
  | .tup _ => some (.bi "tuple")
  | .tpl _ => some (.bi "tuple")
  | .lst _ => some (.bi "list")
  | .dic _ => some (.bi "dict")
  | .ins C _ => some (.own C)
  | .ref a => tyMO (M a)
  | _ => none
def ownOk (T : Wd) : TyN → Bool
  | .bi _ => true
  | .own C => T.cls C
theorem tyD_den {F Gh H : Hp} {M : MS} {v : V} {d : D} {t : TyN} (ok : WdOk T) (sr : SR T F M Gh H) (h : Den T F v d) (e : tyD M d = some t) (ho : ownOk T t = true) : TyX T.K H v (tvT T t) := by
  have ex := Ex.of_sr sr
  cases h with
  | non => cases e; exact .base .non
  | bl b => cases e; exact .base (.bl b)
  | int b => cases e; exact .base (.int b)
  | str b => cases e; exact .base (.str b)
  | tup h l =>
    cases e
    rcases h with ⟨o, h, _⟩ | ⟨o, its, n, h1, h2, _⟩
    · exact .fTuple (ex _ _ h)
    · exact .kTuple h1 h2
  | tpl h l =>
    cases e
    rcases h with (h | ⟨o, h⟩) | ⟨o, its, n, h1, h2, _⟩
    · exact .base (.tup (ex _ _ h))
    · exact .fTuple (ex _ _ h)
    · exact .kTuple h1 h2
  | lst h l => cases e; exact .base (.lst (ex _ _ h))
  | dic h l => cases e; exact .fDict (ex _ _ h)
  | ins h l =>
    cases e
    have c := ok.cls _ ho
    exact .base (.ins (ex _ _ h) c.cl c.ha c.hn c.htk c.hm)
  | ref a =>
    have e : tyMO (M a) = some t := e
    cases q : M a with
    | none => rw [q] at e; cases e
    | some m =>
      rw [q] at e
      obtain ⟨_, _, hm⟩ := sr.mu a m q
      cases m with
      | lst xs => cases e; obtain ⟨vs, h1, _⟩ := hm; exact .base (.lst h1)
      | dic xs => cases e; obtain ⟨vs, h1, _⟩ := hm; exact .base (.dK h1)
      | ins C xs =>
        cases e
        obtain ⟨dx, vs, h1, _⟩ := hm
        have c := ok.cls _ ho
        exact .base (.ins h1 c.cl c.ha c.hn c.htk c.hm)
      | set _ => cases e
  | _ => cases e
/-- a class as a value -/
def clsD : D → Option TyN
  | .ty n => some (.bi n)
  | .cls C => some (.own C)
  | _ => none
theorem clsD_den {F : Hp} {v : V} {d : D} {t : TyN} (h : Den T F v d) (e : clsD d = some t) : ClsV v (tvT T t) := by
  cases h <;> first | (cases e; exact .ty _) | (cases e; exact .own _) | (cases e; done)
def clsL : List D → Option (List TyN)
  | [] => some []
  | d :: r => match clsD d, clsL r with
    | some t, some ts => some (t :: ts)
    | _, _ => none
theorem clsL_den {F : Hp} : ∀ {vs : List V} {ds : List D} {ts : List TyN}, DenL T F vs ds → clsL ds = some ts → Paired ClsV vs (ts.map (tvT T))
  | _, _, _, .nil, e => by cases e; exact .nil
  | _, _, _, .cons (d := d) (ds := ds) h l, e => by
    unfold clsL at e
    cases e1 : clsD d with
    | none => rw [e1] at e; cases e
    | some t =>
      cases e2 : clsL ds with
      | none => rw [e1, e2] at e; cases e
      | some ts => rw [e1, e2] at e; cases e; exact .cons (clsD_den h e1) (clsL_den l e2)
def isiAny (T : Wd) (t : TyN) : List TyN → Option Bool
  | [] => some false
  | c :: r => match T.isi t c with
    | some true => some true
    | some false => isiAny T t r
    | none => none
theorem isiAny_ok (ok : WdOk T) {t : TyN} : ∀ {cs : List TyN} {b : Bool}, isiAny T t cs = some b → PySem.W.kitAny T.K (tvT T t) (cs.map (tvT T)) = some b
  | [], b, e => by cases e; rfl
  | c :: r, b, e => by
    unfold isiAny at e
    show (match PySem.W.kitOne T.K (tvT T t) (tvT T c) with
      | some true => some true
      | some false => PySem.W.kitAny T.K (tvT T t) (r.map (tvT T))
      | none => none) = some b
    cases q : T.isi t c with
    | none => rw [q] at e; cases e
    | some z =>
      rw [q] at e
      rw [ok.isi t c z q]
      cases z with
      | true => exact e
      | false => exact isiAny_ok ok e
/-- isinstance's answer -/
def isiD (T : Wd) (M : MS) (x c : D) : Option Bool := match tyD M x with
  | some t => if ownOk T t = true then (match c with
    | .tup cs => match clsL cs with
      | some ts => isiAny T t ts
      | none => none
    | c => match clsD c with
      | some u => T.isi t u
      | none => none) else none
  | none => none
def isiO (T : Wd) (xs : List D) (M : MS) (Q : QD) : Prop := match xs with
  | [x, c] => match isiD T M x c with
    | some b => Q (.bl b) M
    | none => False
  | _ => False
def rIsiX (K : PySem.W.Frag) : List V → Hp → VK → Prop := fun xs H Q => ∃ (x : V) (tp : Addr) (o : Obj) (cs : List V) (t : Value) (us : List Value) (b : Bool), xs = [x, .ref tp] ∧ H tp = some (.frz o (.tup cs)) ∧ Paired ClsV cs us ∧ TyX K H x t ∧ PySem.W.kitAny K t us = some b ∧ Q (.bl b) H
theorem call_isiX {X : Cx} : CallR X (.builtin "isinstance") (rIsiX X.K) := by
  intro pins s σ H xs us Q I r h
  obtain ⟨x, tp, ob, cs, t, ws, b, rfl, hT, k, ty, e, q⟩ := h
  obtain ⟨u1, u2, rfl, r1, r2⟩ := vals2 r
  cases (show u2 = Value.ref tp from r2)
  obtain ⟨P, Z, p, hx⟩ := kit_of I r1 ty
  obtain ⟨_, _, its, rv, o, h1, h2, n, h3⟩ := (show ObjOk X.prog X.w H s.heap tp (.frz ob (.tup cs)) from I.hok tp _ hT)
  have e3 := ClsV.all k rv
  subst e3
  obtain ⟨oc, od, dt, sl⟩ := o
  simp only at h2 h3
  subst h2 h3
  exact PySem.W.kia_tup Z I.kIn p h1 e hx fun tk => ⟨.bl b, H, I.tok tk, rfl, q⟩
def rIsiAny (K : PySem.W.Frag) : List V → Hp → VK → Prop := fun xs H Q => rIsi K xs H Q ∨ rIsiX K xs H Q ∨ rIsiK K xs H Q
theorem callR_isi {X : Cx} : CallR X (.builtin "isinstance") (rIsiAny X.K) := CallR.or call_isi (CallR.or call_isiX call_isiK)
theorem DenL.two {F : Hp} {vs : List V} {a b : D} (h : DenL T F vs [a, b]) : ∃ x y, vs = [x, y] ∧ Den T F x a ∧ Den T F y b := by
  cases h with
  | cons h1 t => cases t with
    | cons h2 t => cases t; exact ⟨_, _, rfl, h1, h2⟩
theorem DenL.one' {F : Hp} {vs : List V} {a : D} (h : DenL T F vs [a]) : ∃ x, vs = [x] ∧ Den T F x a := by
  cases h with
  | cons h1 t => cases t; exact ⟨_, rfl, h1⟩
theorem opN_isi (ok : WdOk T) : OpN T (rIsiAny T.K) (isiO T) := by
  intro F Gh M H vs ds Q R sr hd q rn
  match ds, q with
  | [x, c], q =>
    obtain ⟨vx, vc, rfl, hx, hc⟩ := hd.two
    have q : match isiD T M x c with
      | some b => Q (.bl b) M
      | none => False := q
    cases e : isiD T M x c with
    | none => rw [e] at q; exact q.elim
    | some b =>
      rw [e] at q
      have q3 : Q (.bl b) M := q
      unfold isiD at e
      cases et : tyD M x with
      | none => rw [et] at e; cases e
      | some t =>
        rw [et] at e
        by_cases ho : ownOk T t = true
        · simp only [if_pos ho] at e
          have ty := tyD_den ok sr hx et ho
          by_cases hz : ∃ cs, c = .tup cs
          · obtain ⟨cs, rfl⟩ := hz
            simp only at e
            cases e1 : clsL cs with
            | none => rw [e1] at e; cases e
            | some ts =>
              rw [e1] at e
              have e : isiAny T t ts = some b := e
              cases hc with
              | tup hc l =>
                rcases hc with ⟨o, hc, _⟩ | ⟨o, its, n, k1, k2, k3, k4, k5, k6⟩
                · exact .inr (.inl ⟨vx, _, o, _, _, _, b, rfl, sr.fr _ _ hc, clsL_den l e1, ty, isiAny_ok ok e, fin_v sr (.bl b) q3 rn⟩)
                · have e3 := ClsV.all (clsL_den l e1) k6
                  obtain ⟨oc, od, dt, sl⟩ := o
                  simp only at k2 k3 k4
                  subst k2 k3 k4
                  refine .inr (.inr ⟨vx, _, none, ts.map (tvT T), n, sl, _, b, rfl, ?_, ty, isiAny_ok ok e, fin_v sr (.bl b) q3 rn⟩)
                  rw [k1, ← e3]
          · have e' : (match clsD c with
              | some u => T.isi t u
              | none => none) = some b := by
              revert e
              split
              · intro _; exact (hz ⟨_, rfl⟩).elim
              · exact fun e => e
            cases e1 : clsD c with
            | none => rw [e1] at e'; cases e'
            | some u =>
              rw [e1] at e'
              exact .inl ⟨vx, vc, _, _, b, rfl, clsD_den hc e1, ty, ok.isi _ _ _ e', fin_v sr (.bl b) q3 rn⟩
        · simp only [if_neg ho] at e; cases e
  | [], q => exact q.elim
  | [_], q => exact q.elim
  | _ :: _ :: _ :: _, q => exact q.elim
/-! ### len -/
def lenO (xs : List D) (M : MS) (Q : QD) : Prop := match xs with
  | [.str z] => z.length ≤ sizeLine ∧ Q (.int z.length) M
  | [.set ks] => Q (.int ks.length) M
  | [x] => match asD M x with
    | some kvs => Q (.int kvs.length) M
    | none => match (asT x).or (asS M x) with
      | some ys => Q (.int ys.length) M
      | none => False
  | _ => False
def rLenK (P : Program) (w : World) : List V → Hp → VK → Prop := fun xs H Q => ∃ a S n, xs = [V.ref a] ∧ H a = some (SetK P w a S n) ∧ Q (.int (n : Nat)) H
theorem call_lenK {X : Cx} : CallR X (.builtin "len") (rLenK X.prog X.w) := by
  intro pins s σ H xs us Q I r h
  obtain ⟨a, S, n, rfl, ha, q⟩ := h
  obtain ⟨u, rfl, ru⟩ := vals1 r
  cases ru
  obtain ⟨o, es, ep, t, ho, hex, hd, _, _, hb, hf, rfl⟩ := setK_get I ha
  refine call_len_set ho hex hd hf (by unfold scanBound at hb; omega) ?_
  exact ⟨.int _, H, (I.tok _).tok _, ⟨_, rfl⟩, q⟩
def rLenS : List V → Hp → VK → Prop := fun xs H Q => ∃ z, xs = [.str z] ∧ z.length ≤ sizeLine ∧ Q (.int z.length) H
def rLenQ (K : PySem.W.Frag) : List V → Hp → VK → Prop := fun xs H Q => ∃ p ys, xs = [.ref p] ∧ (SqL K H p ys ∨ SqT K H p ys) ∧ Q (.int ys.length) H
def rLenD : List V → Hp → VK → Prop := fun xs H Q => ∃ a kvs, xs = [V.ref a] ∧ Rd H a (.dK kvs) ∧ Q (.int kvs.length) H
theorem call_lenDR {X : Cx} : CallR X (.builtin "len") rLenD := by
  intro pins s σ H xs us Q I r h
  obtain ⟨a, kvs, rfl, ha, q⟩ := h
  obtain ⟨u, rfl, ru⟩ := vals1 r
  cases ru
  exact d_len I ha fun t s' I' => ⟨.int kvs.length, H, I', ⟨t, rfl⟩, q⟩
def rLenAny (K : PySem.W.Frag) (P : Program) (w : World) : List V → Hp → VK → Prop := fun xs H Q => rLenS xs H Q ∨ rLenQ K xs H Q ∨ rLenD xs H Q ∨ rLenK P w xs H Q
theorem callR_len {X : Cx} : CallR X (.builtin "len") (rLenAny X.K X.prog X.w) := CallR.or call_len_str (CallR.or call_len_seq (CallR.or call_lenDR call_lenK))
theorem DenK.length {F : Hp} : ∀ {vs : List (Key × V)} {ds : List (Key × D)}, DenK T F vs ds → vs.length = ds.length
  | _, _, .nil => rfl
  | _, _, .cons _ l => congrArg (· + 1) l.length
theorem opN_len : OpN T (rLenAny T.K T.P T.w) lenO := by
  intro F Gh M H vs ds Q R sr hd q rn
  match ds, q with
  | [x], q =>
    obtain ⟨v, rfl, hx⟩ := hd.one'
    by_cases h1 : ∃ z, x = .str z
    · obtain ⟨z, rfl⟩ := h1
      cases hx
      have q : z.length ≤ sizeLine ∧ Q (.int z.length) M := q
      exact .inl ⟨z, rfl, q.1, fin_v sr (.int _) q.2 rn⟩
    · by_cases h2 : ∃ ks, x = .set ks
      · obtain ⟨ks, rfl⟩ := h2
        have q : Q (.int ks.length) M := q
        cases hx with
        | set h => exact .inr (.inr (.inr ⟨_, _, _, rfl, sr.fr _ _ h, fin_v sr (.int _) q rn⟩))
      · have q' : match asD M x with
          | some kvs => Q (.int kvs.length) M
          | none => match (asT x).or (asS M x) with
            | some ys => Q (.int ys.length) M
            | none => False := by
          revert q
          unfold lenO
          split
          · rename_i e; cases e; intro _; exact (h1 ⟨_, rfl⟩).elim
          · rename_i e; cases e; intro _; exact (h2 ⟨_, rfl⟩).elim
          · rename_i e; cases e; intro q; exact q
          · rename_i e1 e2 e3; exact (e3 _ rfl).elim
        cases e : asD M x with
        | some kvs =>
          simp only [e] at q'
          obtain ⟨a, ws, rfl, h3, l⟩ := asD_den sr hx e
          refine .inr (.inr (.inl ⟨a, ws, rfl, h3, ?_⟩))
          rw [l.length]
          exact fin_v sr (.int _) q' rn
        | none =>
          simp only [e] at q'
          cases e2 : (asT x).or (asS M x) with
          | none => simp only [e2] at q'
          | some ys =>
            simp only [e2] at q'
            obtain ⟨a, ws, rfl, h3, l⟩ := asT_or_den sr hx e2
            refine .inr (.inl ⟨a, ws, rfl, h3, ?_⟩)
            rw [l.length]
            exact fin_v sr (.int _) q' rn
  | [], q => exact q.elim
  | _ :: _ :: _, q => exact False.elim (by revert q; unfold lenO; split <;> simp_all)

/-! ### all, any, tuple, list, int, str, abs, max, min, set -/
def blsD : List D → Option (List Bool)
  | [] => some []
  | .bl b :: r => (blsD r).map (b :: ·)
  | _ => none
theorem blsD_eq : ∀ {ds : List D} {bs : List Bool}, blsD ds = some bs → ds = bs.map D.bl
  | [], bs, e => by cases e; rfl
  | .bl b :: r, bs, e => by
    have e : (blsD r).map (b :: ·) = some bs := e
    cases q : blsD r with
    | none => rw [q] at e; cases e
    | some cs => rw [q] at e; cases e; rw [blsD_eq q]; rfl
  | .non :: _, _, e | .int _ :: _, _, e | .str _ :: _, _, e | .tup _ :: _, _, e | .tpl _ :: _, _, e | .lst _ :: _, _, e | .dic _ :: _, _, e | .ins _ _ :: _, _, e | .set _ :: _, _, e | .ref _ :: _, _, e | .ty _ :: _, _, e | .scr _ :: _, _, e | .cls _ :: _, _, e => by cases e
def strsD : List D → Option (List Str)
  | [] => some []
  | .str b :: r => (strsD r).map (b :: ·)
  | _ => none
theorem strsD_eq : ∀ {ds : List D} {bs : List Str}, strsD ds = some bs → ds = bs.map D.str
  | [], bs, e => by cases e; rfl
  | .str b :: r, bs, e => by
    have e : (strsD r).map (b :: ·) = some bs := e
    cases q : strsD r with
    | none => rw [q] at e; cases e
    | some cs => rw [q] at e; cases e; rw [strsD_eq q]; rfl
  | .non :: _, _, e | .int _ :: _, _, e | .bl _ :: _, _, e | .tup _ :: _, _, e | .tpl _ :: _, _, e | .lst _ :: _, _, e | .dic _ :: _, _, e | .ins _ _ :: _, _, e | .set _ :: _, _, e | .ref _ :: _, _, e | .ty _ :: _, _, e | .scr _ :: _, _, e | .cls _ :: _, _, e => by cases e
def boolsO (g : List Bool → Bool) (xs : List D) (M : MS) (Q : QD) : Prop := match xs with
  | [x] => match (asL M x).bind blsD with
    | some bs => Q (.bl (g bs)) M
    | none => False
  | _ => False
def allO := boolsO fun bs => bs.all id
def anyO := boolsO fun bs => bs.any id
def rBools (K : PySem.W.Frag) (g : List Bool → Bool) : List V → Hp → VK → Prop := fun vs H Q => ∃ (a : Addr) (bs : List Bool), vs = [V.ref a] ∧ SqL K H a (bs.map V.bl) ∧ Q (.bl (g bs)) H
theorem opN_bools (g : List Bool → Bool) : OpN T (rBools T.K g) (boolsO g) := by
  intro F Gh M H vs ds Q R sr hd q rn
  match ds, q with
  | [x], q =>
    obtain ⟨v, rfl, hx⟩ := hd.one'
    have q : match (asL M x).bind blsD with
      | some bs => Q (.bl (g bs)) M
      | none => False := q
    cases e : asL M x with
    | none => rw [e] at q; exact False.elim q
    | some xs =>
      rw [e] at q
      cases e2 : blsD xs with
      | none => simp only [Option.bind, e2] at q
      | some bs =>
        simp only [Option.bind, e2] at q
        obtain ⟨a, ws, rfl, h, l⟩ := asL_den sr hx e
        rw [blsD_eq e2] at l
        rw [DenL.bls_of l] at h
        exact ⟨a, bs, rfl, .inl (.inl h), fin_v sr (.bl _) q rn⟩
  | [], q => exact q.elim
  | _ :: _ :: _, q => exact q.elim
def tupleO (xs : List D) (M : MS) (Q : QD) : Prop := match xs with
  | [.tup ys] => Q (.tup ys) M
  | [x] => match asS M x with
    | some ys => Q (.tup ys) M
    | none => False
  | _ => False
def rTupC (K : PySem.W.Frag) : List V → Hp → VK → Prop := fun xs H Q => ∃ p ys, xs = [.ref p] ∧ ((SqL K H p ys ∧ NewT ys H Q) ∨ (SqT K H p ys ∧ Q (.ref p) H))
theorem opN_tuple : OpN T (rTupC T.K) tupleO := by
  intro F Gh M H vs ds Q R sr hd q rn
  match ds, q with
  | [x], q =>
    obtain ⟨v, rfl, hx⟩ := hd.one'
    by_cases h1 : ∃ ys, x = .tup ys
    · obtain ⟨ys, rfl⟩ := h1
      have q : Q (.tup ys) M := q
      cases hx with
      | tup h l => exact ⟨_, _, rfl, .inr ⟨((Ex.of_sr sr).tx h).sqt, fin_v sr (.tup h l) q rn⟩⟩
    · have q' : match asS M x with
        | some ys => Q (.tup ys) M
        | none => False := by
        revert q
        unfold tupleO
        split
        · rename_i e; cases e; intro _; exact (h1 ⟨_, rfl⟩).elim
        · rename_i e; cases e; intro q; exact q
        · rename_i e1 e2; exact (e2 _ rfl).elim
      cases e : asS M x with
      | none => rw [e] at q'; exact q'.elim
      | some ys =>
        rw [e] at q'
        obtain ⟨a, ws, rfl, h, l⟩ := asS_den sr hx e
        exact ⟨a, ws, rfl, .inl ⟨h, fin_tup sr l q' rn⟩⟩
  | [], q => exact q.elim
  | _ :: _ :: _, q => exact False.elim (by revert q; unfold tupleO; split <;> simp_all)
/-- a new list (what it holds: for list(x) as a value, and for a list that may change) -/
def listI (M : MS) (x : D) : Option (List D) := (asT x).or (asS M x)
def listO (xs : List D) (M : MS) (Q : QD) : Prop := match xs with
  | [x] => match listI M x with
    | some ys => Q (.lst ys) M
    | none => False
  | _ => False
def rListC (K : PySem.W.Frag) : List V → Hp → VK → Prop := fun xs H Q => ∃ p ys, xs = [.ref p] ∧ (SqL K H p ys ∨ SqT K H p ys) ∧ ∀ l, H l = none → Q (.ref l) (upd H l (.lst ys))
theorem opN_list : OpN T (rListC T.K) listO := by
  intro F Gh M H vs ds Q R sr hd q rn
  match ds, q with
  | [x], q =>
    obtain ⟨v, rfl, hx⟩ := hd.one'
    have q : match listI M x with
      | some ys => Q (.lst ys) M
      | none => False := q
    cases e : listI M x with
    | none => rw [e] at q; exact q.elim
    | some ys =>
      rw [e] at q
      obtain ⟨a, ws, rfl, h, l⟩ := asT_or_den sr hx e
      exact ⟨a, ws, rfl, h, fin_lst sr l q rn⟩
  | [], q => exact q.elim
  | _ :: _ :: _, q => exact q.elim
def intC (xs : List D) (M : MS) (Q : QD) : Prop := match xs with
  | [.int i] => Q (.int i) M
  | [.bl k] => Q (.int (if k then 1 else 0)) M
  | [.str a] => match PySem.intText? a with
    | some n => a.length ≤ 640 ∧ Q (.int n) M
    | none => False
  | _ => False
def rIntC : List V → Hp → VK → Prop := fun xs H Q => ((∃ i, xs = [.int i] ∧ Q (.int i) H) ∨ ∃ k, xs = [.bl k] ∧ Q (.int (if k then 1 else 0)) H) ∨ ∃ a n, xs = [.str a] ∧ PySem.intText? a = some n ∧ a.length ≤ 640 ∧ Q (.int n) H
theorem callR_int {X : Cx} : CallR X (.type "int") rIntC := CallR.or call_int1 call_int_str
theorem opN_int : OpN T rIntC intC := by
  intro F Gh M H vs ds Q R sr hd q rn
  match ds, q with
  | [x], q =>
    obtain ⟨v, rfl, hx⟩ := hd.one'
    cases hx with
    | int i => exact .inl (.inl ⟨i, rfl, fin_v sr (.int _) q rn⟩)
    | bl b => exact .inl (.inr ⟨b, rfl, fin_v sr (.int _) q rn⟩)
    | str a =>
      have q : match PySem.intText? a with
        | some n => a.length ≤ 640 ∧ Q (.int n) M
        | none => False := q
      cases e : PySem.intText? a with
      | none => rw [e] at q; exact q.elim
      | some n => rw [e] at q; exact .inr ⟨a, n, rfl, e, q.1, fin_v sr (.int _) q.2 rn⟩
    | _ => exact False.elim q
  | [], q => exact q.elim
  | _ :: _ :: _, q => exact False.elim (by revert q; unfold intC; split <;> simp_all)
def strC (xs : List D) (M : MS) (Q : QD) : Prop := match xs with
  | [.int i] => i.natAbs.log2 < 1920 ∧ Q (.str (toString i)) M
  | _ => False
def rStrC : List V → Hp → VK → Prop := fun xs H Q => ∃ i, xs = [.int i] ∧ i.natAbs.log2 < 1920 ∧ Q (.str (toString i)) H
theorem opN_str : OpN T rStrC strC := by
  intro F Gh M H vs ds Q R sr hd q rn
  match ds, q with
  | [x], q =>
    obtain ⟨v, rfl, hx⟩ := hd.one'
    cases hx with
    | int i => exact ⟨i, rfl, q.1, fin_v sr (.str _) q.2 rn⟩
    | _ => exact False.elim q
  | [], q => exact q.elim
  | _ :: _ :: _, q => exact False.elim (by revert q; unfold strC; split <;> simp_all)
def absC (xs : List D) (M : MS) (Q : QD) : Prop := match xs with
  | [.int i] => Q (.int (if i < 0 then -i else i)) M
  | _ => False
def rAbsC : List V → Hp → VK → Prop := fun xs H Q => ∃ i, xs = [.int i] ∧ Q (.int (if i < 0 then -i else i)) H
theorem opN_abs : OpN T rAbsC absC := by
  intro F Gh M H vs ds Q R sr hd q rn
  match ds, q with
  | [x], q =>
    obtain ⟨v, rfl, hx⟩ := hd.one'
    cases hx with
    | int i => exact ⟨i, rfl, fin_v sr (.int _) q rn⟩
    | _ => exact False.elim q
  | [], q => exact q.elim
  | _ :: _ :: _, q => exact False.elim (by revert q; unfold absC; split <;> simp_all)
def max2C (xs : List D) (M : MS) (Q : QD) : Prop := match xs with
  | [.int i, .int j] => Q (.int (if j > i then j else i)) M
  | _ => False
def min2C (xs : List D) (M : MS) (Q : QD) : Prop := match xs with
  | [.int i, .int j] => Q (.int (if j < i then j else i)) M
  | _ => False
def rMax2C : List V → Hp → VK → Prop := fun xs H Q => ∃ i j, xs = [.int i, .int j] ∧ Q (.int (if j > i then j else i)) H
def rMin2C : List V → Hp → VK → Prop := fun xs H Q => ∃ i j, xs = [.int i, .int j] ∧ Q (.int (if j < i then j else i)) H
theorem opN_max2 : OpN T rMax2C max2C := by
  intro F Gh M H vs ds Q R sr hd q rn
  unfold max2C at q
  split at q
  · obtain ⟨a, b, rfl, h1, h2⟩ := hd.two
    cases h1; cases h2
    exact ⟨_, _, rfl, fin_v sr (.int _) q rn⟩
  · exact q.elim
theorem opN_min2 : OpN T rMin2C min2C := by
  intro F Gh M H vs ds Q R sr hd q rn
  unfold min2C at q
  split at q
  · obtain ⟨a, b, rfl, h1, h2⟩ := hd.two
    cases h1; cases h2
    exact ⟨_, _, rfl, fin_v sr (.int _) q rn⟩
  · exact q.elim
/-- set(xs) of a list or tuple of keys -/
def keysD : List D → Option (List Key)
  | [] => some []
  | d :: r => match keyD d, keysD r with
    | some k, some ks => some (k :: ks)
    | _, _ => none
theorem keysD_den {F : Hp} : ∀ {vs : List V} {ds : List D} {ks : List Key}, DenL T F vs ds → keysD ds = some ks → vs = ks.map kV
  | _, _, _, .nil, e => by cases e; rfl
  | _, _, _, .cons (d := d) (ds := ds) h l, e => by
    unfold keysD at e
    cases e1 : keyD d with
    | none => rw [e1] at e; cases e
    | some k =>
      cases e2 : keysD ds with
      | none => rw [e1, e2] at e; cases e
      | some ks => rw [e1, e2] at e; cases e; rw [List.map_cons, keyD_den h e1, keysD_den l e2]
def setC (xs : List D) (M : MS) (Q : QD) : Prop := match xs with
  | [x] => match (listI M x).bind keysD with
    | some ks => ks.length ≤ 1000 ∧ Q (.set (uniq ks)) M
    | none => False
  | _ => False
def rSetC (K : PySem.W.Frag) (P : Program) (w : World) : List V → Hp → VK → Prop := fun xs H Q => ∃ p ks, xs = [V.ref p] ∧ (SqL K H p (ks.map kV) ∨ SqT K H p (ks.map kV)) ∧ ks.length ≤ 1000 ∧ ∀ a, H a = none → Q (.ref a) (upd H a (SetK P w a (hasK (uniq ks)) (uniq ks).length))
theorem keyIs_of {k : Key} {u : Value} (r : RelV (kV k) u) : keyIs k u = true := by
  cases k with
  | inl i => obtain ⟨t, rfl⟩ := r; exact keyIs_int i t
  | inr x => obtain ⟨t, rfl⟩ := r; exact keyIs_str x t
theorem keyIs_at {ks : List Key} {its : List Value} (r : Vals (ks.map kV) its) (i : Nat) (v : Value) (h : its.toArray[i]? = some v) : ∃ k : Key, ks[i]? = some k ∧ keyIs k v = true := by
  have hi : i < its.length := by
    have := (Array.getElem?_eq_some_iff.mp h).1
    simpa using this
  have hl := r.length
  rw [List.length_map] at hl
  have hk : i < ks.length := by omega
  obtain ⟨u, h1, h2⟩ := r.get (i := i) (x := kV ks[i]) (by rw [List.getElem?_map, List.getElem?_eq_getElem hk]; rfl)
  have e : u = v := by
    have h' : its[i]? = some v := by simpa using h
    rw [h1] at h'
    exact Option.some.inj h'
  subst e
  exact ⟨ks[i], List.getElem?_eq_getElem hk, keyIs_of h2⟩
theorem callR_set {X : Cx} (hc : X.calm = true) : CallR X (.type "set") (rSetC X.K X.prog X.w) := by
  intro pins s σ H xs us Q I r h
  obtain ⟨p, ks, rfl, hp, hz, q⟩ := h
  obtain ⟨u, rfl, ru⟩ := vals1 r
  cases ru
  have hb : ks.length + 1 < scanBound := by unfold scanBound; omega
  have fin : ∀ (h' : Heap) (tk : Nat), h'.SetOf (mixKind X.prog X.w) s.heap.objs.size (hasK (uniq ks)) (uniq ks).length → (∀ b o, s.heap.get? b = some o → h'.get? b = some o) → EP X pins σ Q (.ref s.heap.objs.size) { s with heap := h', toks := tk } := fun h' tk hS hk =>
    ⟨.ref _, _, I.laid (t' := tk) hk (Nat.le_refl _) (setK_new hS), rfl, q _ (I.hok.fresh (Nat.le_refl _))⟩
  rcases hp with hp | hp
  · obtain ⟨its, rv, pl, _⟩ := I.list hp
    exact call_set_keys (items := its.toArray) ks (I.ok.hd hc) (.inr pl.isList) ⟨by have := rv.length; simp at this ⊢; omega, keyIs_at rv, hb⟩ fin
  · obtain ⟨its, rv, pl, _⟩ := I.tuple hp
    exact call_set_keys (items := its.toArray) ks (I.ok.hd hc) (.inl (show s.heap.IsTuple p its.toArray from pl)) ⟨by have := rv.length; simp at this ⊢; omega, keyIs_at rv, hb⟩ fin
theorem opN_set : OpN T (rSetC T.K T.P T.w) setC := by
  intro F Gh M H vs ds Q R sr hd q rn
  match ds, q with
  | [x], q =>
    obtain ⟨v, rfl, hx⟩ := hd.one'
    have q : match (listI M x).bind keysD with
      | some ks => ks.length ≤ 1000 ∧ Q (.set (uniq ks)) M
      | none => False := q
    cases e : listI M x with
    | none => rw [e] at q; exact False.elim q
    | some ys =>
      rw [e] at q
      cases e2 : keysD ys with
      | none => simp only [Option.bind, e2] at q
      | some ks =>
        simp only [Option.bind, e2] at q
        obtain ⟨a, ws, rfl, h, l⟩ := asT_or_den sr hx e
        have ew := keysD_den l e2
        subst ew
        refine ⟨a, ks, rfl, h, q.1, fun p hp => ?_⟩
        have ex := Ex.new (o := SetK T.P T.w p (hasK (uniq ks)) (uniq ks).length) (sr.freeF hp)
        exact rn (.ref p) _ _ _ M ex (sr.new hp) (.set upd_same) q.2
  | [], q => exact q.elim
  | _ :: _ :: _, q => exact q.elim
end
end G

/-! Eng8: calls of the text's own defs, methods, classes; attributes. -/
namespace G
open PySem PySem.Spec PyProof.Rows L2

/-! ### the context of a body, in the proof's own terms -/
structure Cok (T : Wd) (lv : Nat) (N : List Str) (sc : Scope) (fn : Str → Bool) (cm : Bool) (xc : Option (Addr × Value × Option Addr)) (X : Cx) : Prop where
  P : X.prog = T.P
  w : X.w = T.w
  K : X.K = T.K
  mg : X.mg = T.mg
  base : X.base = T.base
  hN : X.N = N
  hsc : X.env.scope = sc
  nd : N.Nodup
  calm : cm = true → X.calm = true
  fnC : ∀ x, fn x = true → X.fn x = true
  room : cm = true → Room lv X.A
  un : X.A.units + 64 < cLine
  pass : PassesOwn (model X.prog X.w) X.A X.env X.xe
  exc : ∀ a c d, xc = some (a, c, d) → ∃ oe, (a, oe) ∈ X.pn ∧ Zc c d oe ∧ ∃ vs, oe.data = .fields vs

theorem C_K {T : Wd} {lv : Nat} {N : List Str} {sc : Scope} {fn : Str → Bool} {cm : Bool} {xc : Option (Addr × Value × Option Addr)} {X : Cx} (C : Cok T lv N sc fn cm xc X) : X.K = T.K := C.K
/-- a def, a class as it is called: so many values, keywords of these names; d: the promise for the values, then the keywords' values -/
structure Callee (T : Wd) where
  f : Addr
  k : Nat
  np : Nat
  ks : List Str
  d : DSp
  kp : PySem.W.keepIn T.K (.ref f) = true
  run : ∀ {X : Cx} {W : WX} {lv : Nat} {N : List Str} {sc : Scope} {fn : Str → Bool} {pins : List (Addr × Obj)} {σ : L2.St} {H : Hp} {s : Shared} {Q : VK} {us ws : List Value} {vs zs : List V}, Cok T lv N sc fn true none X → Takes X W → k ≤ lv → Inv X pins σ H s → Vals vs us → Vals zs ws →
    vs.length = np → zs.length = ks.length → lift T (np + ks.length) d (vs ++ zs) H Q (L2.WE W σ) → wpAny (model X.prog X.w) X.A (call (.ref f) us (ks.zip ws)) (EP X pins σ Q) X.xe s
section
variable {T : Wd}
/-- the defaults are known data -/
def ConstsD (T : Wd) (vs : List V) (ds : List D) : Prop := ∀ F, DenL T F vs ds
theorem lift_more {n m : Nat} {d : DSp} {vs dvs : List V} {dds : List D} {H : Hp} {Q : VK} {E : XK} (hc : ConstsD T dvs dds) (hl : n + dvs.length = m) (h : lift T n (fun ds M Q E => d (ds ++ dds) M Q E) vs H Q E) : lift T m d (vs ++ dvs) H Q E := by
  obtain ⟨F, M, Gh, ds, QD, EQ, h1, sr, dn, hd, rn, rx⟩ := h
  exact ⟨F, M, Gh, ds ++ dds, QD, EQ, by rw [List.length_append, h1]; exact hl, sr, dn.append (hc F), hd, rn, rx⟩
theorem run_def {X : Cx} {W : WX} {lv : Nat} {N : List Str} {sc : Scope} {fn : Str → Bool} {pins : List (Addr × Obj)} {σ : L2.St} {H : Hp} {s : Shared} {Q : VK} {k : Nat} {f : Addr} {fd : FuncData} {ps : List Str} {d : DSp} {us : List Value} {vs : List V} {args : Args} (F : FnD T k f fd ps d) (C : Cok T lv N sc fn true none X) (tk : Takes X W) (hk : k ≤ lv)
    (I : Inv X pins σ H s) (hb : BindsTo s fd args (ps.zip us)) (r : Vals vs us) (h : lift T ps.length d vs H Q (L2.WE W σ)) : codeAny (model X.prog X.w) X.A (.call (.ref f) args) (fun r s' => match r with
      | .ok (.ret u) => EP X pins σ Q u s'
      | .ok _ => False
      | .error e => X.xe e s') s := by
  have e0 := I.env0
  rw [C.P, C.w, C.K, C.mg, C.base] at e0
  have hx := passAt tk σ pins H s
  have af := fun u s' => I.after (Q := Q) (u := u) (s' := s')
  rw [C.P, C.w] at hx af ⊢
  refine codeAny_mono (F.run X.A X.stack s H args us vs Q (L2.WE W σ) ((C.room rfl).mono hk) e0 hb r h) fun r s' hq => ?_
  cases r with
  | error e => exact hx e s' I hq
  | ok fl =>
    cases fl with
    | ret u => exact af u s' hq
    | next => exact False.elim hq
    | brk => exact False.elim hq
    | cont => exact False.elim hq
theorem call_of {X : Cx} {A : Around} {s : Shared} {g : Value} {us : List Value} {kw : List (Str × Value)} {Q E : Value → Shared → Prop} (h : codeAny (model X.prog X.w) A (.call g ⟨us, kw⟩) (fun r s' => match r with
      | .ok (.ret u) => Q u s'
      | .ok _ => False
      | .error e => E e s') s) : wpAny (model X.prog X.w) A (call g us kw) Q E s := by
  refine wpAny_call (codeAny_mono h fun r s' hq => ?_)
  cases r with
  | error e => exact hq
  | ok fl =>
    cases fl with
    | ret u => exact hq
    | next => exact False.elim hq
    | brk => exact False.elim hq
    | cont => exact False.elim hq
/-- called by position, the last ones left out -/
def Callee.pos {k : Nat} {f : Addr} {fd : FuncData} {ps : List Str} {d : DSp} (F : FnD T k f fd ps d) (kp : PySem.W.keepIn T.K (.ref f) = true) (np : Nat) {dvs : List V} {dds : List D}
    (hb : ∃ ds, Vals dvs ds ∧ Binds T.K fd ps ds) (hc : ConstsD T dvs dds) (hl : np + dvs.length = ps.length) : Callee T where
  f := f
  k := k
  np := np
  ks := []
  d := fun ds M Q E => d (ds ++ dds) M Q E
  kp := kp
  run := fun {_ _ _ _ _ _ _ _ _ s _ us ws vs zs} C tk hk I r rz l1 l2 h => by
    obtain ⟨dv, hd, hb⟩ := hb
    have z0 : zs = [] := List.eq_nil_of_length_eq_zero l2
    subst z0
    cases rz
    rw [List.append_nil] at h
    have kin := I.kIn
    rw [C.K] at kin
    have r2 : Vals (vs ++ dvs) (us ++ dv) := r.append hd
    have hlen : (us ++ dv).length = ps.length := by rw [← r2.length, List.length_append, l1]; exact hl
    exact call_of (run_def F C tk hk I (hb s us kin hlen) r2 (lift_more hc hl h))
def Callee.all {k : Nat} {f : Addr} {fd : FuncData} {ps : List Str} {d : DSp} (F : FnD T k f fd ps d) (kp : PySem.W.keepIn T.K (.ref f) = true) (hb : Binds T.K fd ps []) : Callee T where
  f := f
  k := k
  np := ps.length
  ks := []
  d := d
  kp := kp
  run := fun {_ _ _ _ _ _ _ _ _ s _ us ws vs zs} C tk hk I r rz l1 l2 h => by
    have z0 : zs = [] := List.eq_nil_of_length_eq_zero l2
    subst z0
    cases rz
    rw [List.append_nil] at h
    have kin := I.kIn
    rw [C.K] at kin
    have b := hb s us kin (by rw [List.append_nil, ← r.length]; exact l1)
    rw [List.append_nil] at b
    exact call_of (run_def F C tk hk I b r h)
/-- called with keywords -/
def Callee.kw {k : Nat} {f : Addr} {fd : FuncData} {ps ks : List Str} {d : DSp} (F : FnD T k f fd ps d) (kp : PySem.W.keepIn T.K (.ref f) = true) (np : Nat) {g : List Value → List Value → List Value} {gV : List V → List V → List V} {gD : List D → List D}
    (hb : KBn T.K fd ps np ks g gV) (hg : ∀ (F : Hp) (vs zs : List V) (ds : List D), vs.length = np → zs.length = ks.length → DenL T F (vs ++ zs) ds → DenL T F (gV vs zs) (gD ds)) (hl : ∀ vs zs : List V, vs.length = np → zs.length = ks.length → (gV vs zs).length = ps.length) : Callee T where
  f := f
  k := k
  np := np
  ks := ks
  d := fun ds M Q E => d (gD ds) M Q E
  kp := kp
  run := fun {_ _ _ _ _ _ _ _ _ s _ us ws vs zs} C tk hk I r rz l1 l2 h => by
    have kin := I.kIn
    rw [C.K] at kin
    obtain ⟨F', M, Gh, ds, QD, EQ, h1, sr, dn, hd, rn, rx⟩ := h
    exact call_of (run_def F C tk hk I (hb.to s us ws kin (r.length.symm.trans l1) (rz.length.symm.trans l2)) (hb.rel r rz)
      ⟨F', M, Gh, gD ds, QD, EQ, hl vs zs l1 l2, sr, hg F' vs zs ds l1 l2 dn, hd, rn, rx⟩)
/-! ### classes -/
/-- what a class's __init__ makes of a new instance -/
def newD (C : Str) (d : DSp) : DSp := fun ds M Q E => ∀ a, M a = none → d (.ref a :: ds) (M.set a (.ins C [])) (fun v M2 => v = .non ∧ Q (.ref a) M2) E
theorem lift_new {n : Nat} {C : Str} {d : DSp} {vs : List V} {H : Hp} {Q : VK} {E : XK} (h : lift T n (newD C d) vs H Q E) {x dx : Addr} (hx : H x = none) (hdx : H dx = none) (ne : dx ≠ x) :
    lift T (n + 1) d (.ref x :: vs) (upd (upd H dx (.own x)) x (.ins (T.adr C) dx [])) (fun v H2 => v = .non ∧ Q (.ref x) H2) E := by
  obtain ⟨F, M, Gh, ds, QD, EQ, h1, sr, dn, hd, rn, rx⟩ := h
  have e1 : Ex F (upd F dx (.own x)) := Ex.new (sr.freeF hdx)
  have sr1 := sr.new (o := .own x) hdx
  have hx1 : upd H dx (.own x) x = none := by rw [upd_ne (Ne.symm ne)]; exact hx
  have sr2 := sr1.newM (m := .ins C []) (o := .ins (T.adr C) dx []) hx1 ⟨dx, [], upd_same, .nil⟩
  refine ⟨_, _, Gh, .ref x :: ds, _, EQ, by rw [← h1]; rfl, sr2, .cons (.ref x) (dn.mono e1), hd x (sr.freeM hx), fun v H' F' d' M' e s' dn' q => ?_, fun c dd H' F' y M' e s' xd q => rx c dd H' F' y M' (e1.trans e) s' xd q⟩
  obtain ⟨q1, q2⟩ := q
  subst q1
  cases dn'
  exact ⟨rfl, rn (.ref x) H' F' (.ref x) M' (e1.trans e) s' (.ref x) q2⟩
theorem run_new {X : Cx} {W : WX} {lv : Nat} {N : List Str} {sc : Scope} {fn : Str → Bool} {pins : List (Addr × Obj)} {σ : L2.St} {H : Hp} {s : Shared} {Q : VK} {k : Nat} {f : Addr} {fd : FuncData} {ps : List Str} {C : Str} {d : DSp} {us us2 : List Value} {vs : List V} {kw : List (Str × Value)} {n : Nat} (Mk0 : Mk T.K (T.adr C) f) (F : FnD T k f fd ps d) (Ck : Cok T lv N sc fn true none X) (tk : Takes X W) (hk : k + 1 ≤ lv)
    (I : Inv X pins σ H s) (hb : ∀ (x : Addr) (s2 : Shared), T.K.In s2.heap → BindsTo s2 fd ⟨.ref x :: us, kw⟩ (ps.zip (.ref x :: us2))) (r : Vals vs us2) (hn : n + 1 = ps.length) (h : lift T n (newD C d) vs H Q (L2.WE W σ)) :
    wpAny (model X.prog X.w) X.A (call (.ref (T.adr C)) us kw) (EP X pins σ Q) X.xe s := by
  have hq := lift_new h (x := s.heap.objs.size + 1) (dx := s.heap.objs.size) (I.hok.fresh (Nat.le_succ _)) (I.hok.fresh (Nat.le_refl _)) (Nat.ne_of_lt (Nat.lt_succ_self _))
  have I2 := Inv.made (C := T.adr C) I
  have r2 : Vals (V.ref (s.heap.objs.size + 1) :: vs) (Value.ref (s.heap.objs.size + 1) :: us2) := .cons rfl r
  have ki := I.kIn
  have k2 := I2.kIn
  rw [C_K Ck] at ki k2
  have e0 := I2.env0
  rw [Ck.P, Ck.w, Ck.K, Ck.mg, Ck.base] at e0
  have hx := fun e s' => passAt tk σ pins (upd (upd H s.heap.objs.size (.own (s.heap.objs.size + 1))) (s.heap.objs.size + 1) (.ins (T.adr C) s.heap.objs.size [])) _ e s' I2
  have af := fun u s' => I2.after (Q := fun v H2 => v = .non ∧ Q (.ref (s.heap.objs.size + 1)) H2) (u := u) (s' := s')
  rw [Ck.P, Ck.w] at hx af ⊢
  rw [hn] at hq
  refine wpAny_call (make_map (f := f) ki Mk0.makes Mk0.init (beq_iff_eq.mp Mk0.fn) (codeAny_mono (F.run _ X.stack _ _ ⟨Value.ref (s.heap.objs.size + 1) :: us, kw⟩ (Value.ref (s.heap.objs.size + 1) :: us2) _ _ _ (((Ck.room rfl).mono hk).make (T.adr C) us kw)
    (e0.make (T.adr C) us kw) (hb _ _ k2) r2 hq) fun r s' hq' => ?_))
  cases r with
  | error e => exact hx e s' hq'
  | ok fl =>
    cases fl with
    | ret u =>
      obtain ⟨v, H', I3, rv, ev, q3⟩ := af u s' hq'
      subst ev
      exact ⟨rv, ⟨V.ref (s.heap.objs.size + 1), H', I3, rfl, q3⟩⟩
    | next => exact False.elim hq'
    | brk => exact False.elim hq'
    | cont => exact False.elim hq'
/-- C(..) by position -/
def Callee.new {k : Nat} {f : Addr} {fd : FuncData} {ps : List Str} {C : Str} {d : DSp} (Mk0 : Mk T.K (T.adr C) f) (F : FnD T k f fd ps d) (np : Nat) {dvs : List V} {dds : List D}
    (hb : ∃ ds, Vals dvs ds ∧ Binds T.K fd ps ds) (hc : ConstsD T dvs dds) (hl : np + dvs.length + 1 = ps.length) : Callee T where
  f := T.adr C
  k := k + 1
  np := np
  ks := []
  d := fun ds M Q E => newD C d (ds ++ dds) M Q E
  kp := Mk0.kp
  run := fun {_ _ _ _ _ _ _ _ _ s _ us ws vs zs} Ck tk hk I r rz l1 l2 h => by
    obtain ⟨dv, hd, hb⟩ := hb
    have z0 : zs = [] := List.eq_nil_of_length_eq_zero l2
    subst z0
    cases rz
    rw [List.append_nil] at h
    have r2 : Vals (vs ++ dvs) (us ++ dv) := r.append hd
    have hlen : (us ++ dv).length + 1 = ps.length := by rw [← r2.length, List.length_append, l1]; exact hl
    exact run_new Mk0 F Ck tk hk I (fun x s2 ki => hb s2 (.ref x :: us) ki (by simpa using hlen)) r2 hl (lift_more (d := newD C d) hc rfl h)
def Callee.newAll {k : Nat} {f : Addr} {fd : FuncData} {ps : List Str} {C : Str} {d : DSp} (Mk0 : Mk T.K (T.adr C) f) (F : FnD T k f fd ps d) (hb : Binds T.K fd ps []) (np : Nat) (hl : np + 1 = ps.length) : Callee T where
  f := T.adr C
  k := k + 1
  np := np
  ks := []
  d := newD C d
  kp := Mk0.kp
  run := fun {_ _ _ _ _ _ _ _ _ s _ us ws vs zs} Ck tk hk I r rz l1 l2 h => by
    have z0 : zs = [] := List.eq_nil_of_length_eq_zero l2
    subst z0
    cases rz
    rw [List.append_nil] at h
    refine run_new Mk0 F Ck tk hk I (fun x s2 ki => ?_) r hl h
    have b := hb s2 (.ref x :: us) ki (by rw [List.append_nil]; show us.length + 1 = ps.length; rw [← r.length, l1]; exact hl)
    rw [List.append_nil] at b
    exact b
def Callee.newKw {k : Nat} {f : Addr} {fd : FuncData} {ps ks : List Str} {C : Str} {d : DSp} (Mk0 : Mk T.K (T.adr C) f) (F : FnD T k f fd ps d) (np : Nat) {g : List Value → List Value → List Value} {gV : List V → List V → List V} {g0 : List Value → List Value → List Value} {g0V : List V → List V → List V} {gD : List D → List D} {n : Nat}
    (hb : KBn T.K fd ps (np + 1) ks g gV) (h0 : ∀ (x : Value) us ws, g (x :: us) ws = x :: g0 us ws) (h0r : ∀ {vs zs : List V} {us ws : List Value}, Vals vs us → Vals zs ws → Vals (g0V vs zs) (g0 us ws)) (hg : ∀ (F : Hp) (vs zs : List V) (ds : List D), vs.length = np → zs.length = ks.length → DenL T F (vs ++ zs) ds → DenL T F (g0V vs zs) (gD ds)) (hl : ∀ vs zs : List V, vs.length = np → zs.length = ks.length → (g0V vs zs).length = n) (hn : n + 1 = ps.length) : Callee T where
  f := T.adr C
  k := k + 1
  np := np
  ks := ks
  d := fun ds M Q E => newD C d (gD ds) M Q E
  kp := Mk0.kp
  run := fun {_ _ _ _ _ _ _ _ _ s _ us ws vs zs} Ck tk hk I r rz l1 l2 h => by
    refine run_new (n := n) Mk0 F Ck tk hk I (fun x s2 ki => ?_) (h0r r rz) hn ?_
    · have b := hb.to s2 (.ref x :: us) ws ki (by show us.length + 1 = np + 1; rw [← r.length, l1]) (rz.length.symm.trans l2)
      rw [h0] at b
      exact b
    · obtain ⟨F', M, Gh, ds, QD, EQ, h1, sr, dn, hd, rn, rx⟩ := h
      exact ⟨F', M, Gh, gD ds, QD, EQ, hl vs zs l1 l2, sr, hg F' vs zs ds l1 l2 dn, hd, rn, rx⟩
section
variable {X : Cx} {W : WX} {lv : Nat} {N : List Str} {sc : Scope} {fn : Str → Bool}
/-- the values, the keywords' values, then the def; fv: what stands before them -/
def tCal0 (T : Wd) (c : Callee T) (W : WX) (fv : List V) (t tk : TA) : TE := fun σ H Q => t σ H fun vs H1 => tk σ H1 fun zs H2 => fv.length + vs.length = c.np ∧ zs.length = c.ks.length ∧ lift T (c.np + c.ks.length) c.d ((fv ++ vs) ++ zs) H2 Q (L2.WE W σ)
def wCal0 (d : DSp) (np nk : Nat) (fd : List D) (wa wk : WA) : WE := fun env M Q EQ => wa env M (fun ds M1 => wk env M1 (fun es M2 => fd.length + ds.length = np ∧ es.length = nk ∧ d ((fd ++ ds) ++ es) M2 Q EQ) EQ) EQ
theorem ev_cal0 {c : Callee T} {ta tk : TA} {wa wk : WA} (ha : EvA T W ta wa) (hk : EvA T W tk wk) {fv : List V} {fd : List D} {σ : L2.St} {H F Gh : Hp} {env : EnvD} {M : MS} {Q : QD} {EQ : EK} {R : VK} (sr : SR T F M Gh H) (er : EnvR T F σ env) (df : DenL T F fv fd)
    (hw : wCal0 c.d c.np c.ks.length fd wa wk env M Q EQ) (rn : RN T F Gh Q R) (rx : RX T F Gh EQ W σ) : tCal0 T c W fv ta tk σ H R := by
  refine ha σ H F Gh env M _ EQ _ sr er hw (fun vs H1 F1 ds M1 e1 sr1 dn q => ?_) rx
  refine hk σ H1 F1 Gh env M1 _ EQ _ sr1 (er.mono e1) q (fun zs H2 F2 es M2 e2 sr2 dn2 q2 => ?_) (rx.mono e1)
  obtain ⟨l1, l2, q2⟩ := q2
  exact ⟨by rw [df.length, dn.length]; exact l1, by rw [dn2.length]; exact l2, F2, M2, Gh, (fd ++ ds) ++ es, Q, EQ, by rw [List.length_append, List.length_append, df.length, dn.length, dn2.length, l1, l2], sr2, (((df.mono e1).append dn).mono e2).append dn2, q2, rn.mono (e1.trans e2), rx.mono (e1.trans e2)⟩
def tCal (T : Wd) (c : Callee T) (W : WX) (t tk : TA) : TE := tCal0 T c W [] t tk
def wCal (d : DSp) (np nk : Nat) (wa wk : WA) : WE := wCal0 d np nk [] wa wk
theorem ev_cal {c : Callee T} {ta tk : TA} {wa wk : WA} (ha : EvA T W ta wa) (hk : EvA T W tk wk) : Ev T W (tCal T c W ta tk) (wCal c.d c.np c.ks.length wa wk) :=
  fun σ H F Gh env M Q EQ R sr er hw rn rx => ev_cal0 ha hk sr er .nil hw rn rx
/-- no star among the arguments -/
def noStar : List Expr → Bool
  | [] => true
  | .Starred _ _ :: _ => false
  | _ :: r => noStar r
theorem starEach_cons {e : Expr} {r : List Expr} {env : Env} (h : noStar (e :: r) = true) : starEach (e :: r) env = (false, eval e env) :: starEach r env := by
  cases e <;> first | rfl | (cases h)
theorem noStar_tail {e : Expr} {r : List Expr} (h : noStar (e :: r) = true) : noStar r = true := by
  cases e <;> first | exact h | (cases h)
theorem noStar_any {pos : Pos} {env : Env} : ∀ {r : List Expr}, noStar r = true → (backTo pos (starEach r env)).any (·.1) = false
  | [], _ => rfl
  | e :: r, h => by
    rw [starEach_cons h]
    show (false || (backTo pos (starEach r env)).any (·.1)) = false
    rw [noStar_any (noStar_tail h)]
    rfl
/-- the keywords have names -/
def kwNames : List Keyword → Option (List Str)
  | [] => some []
  | ⟨some n, _, _⟩ :: r => (kwNames r).map (n :: ·)
  | ⟨none, _, _⟩ :: _ => none
theorem kw_ok {pos : Pos} {env : Env} : ∀ {kws : List Keyword} {ks : List Str}, kwNames kws = some ks → (backToKw pos (keywordEach kws env)).all (·.1.isSome) = true ∧ (backToKw pos (keywordEach kws env)).filterMap (·.1) = ks ∧ (backToKw pos (keywordEach kws env)).any (·.1.isNone) = false
  | [], ks, h => by cases h; exact ⟨rfl, rfl, rfl⟩
  | ⟨some n, v, p⟩ :: r, ks, h => by
    have h : (kwNames r).map (n :: ·) = some ks := h
    cases q : kwNames r with
    | none => rw [q] at h; cases h
    | some l =>
      rw [q] at h
      cases h
      obtain ⟨h1, h2, h3⟩ := kw_ok (pos := pos) (env := env) q
      refine ⟨?_, ?_, ?_⟩
      · show (true && (backToKw pos (keywordEach r env)).all (·.1.isSome)) = true
        rw [h1]; rfl
      · show n :: (backToKw pos (keywordEach r env)).filterMap (·.1) = n :: l
        rw [h2]
      · show (false || (backToKw pos (keywordEach r env)).any (·.1.isNone)) = false
        rw [h3]; rfl
  | ⟨none, v, p⟩ :: r, ks, h => by cases h
/-- an argument list: empty, or with its reading -/
def ArgsT (X : Cx) (es : List Expr) (t : TA) : Prop := (es = [] ∧ t = tNil) ∨ (∃ e r, es = e :: r ∧ PA X es t)
def KwsT (X : Cx) (kws : List Keyword) (t : TA) : Prop := (kws = [] ∧ t = tNil) ∨ (∃ e r, kws = e :: r ∧ PK X kws t)
theorem cw_any {pos : Pos} {es : List Expr} {kws : List Keyword} {ta tkk : TA} {pins : List (Addr × Obj)} {σ : L2.St} {H : Hp} {s : Shared} {Q : VK} (C : Cok T lv N sc fn true none X) (tk : Takes X W) (c : Callee T) (hk : c.k ≤ lv) (ha : ArgsT X es ta) (hkw : KwsT X kws tkk) (hs : noStar es = true) (hn : kwNames kws = some c.ks) (I : Inv X pins σ H s) {first : List Value} {fv : List V} (rf : Vals fv first)
    (h : tCal0 T c W fv ta tkk σ H Q) :
    wpAny (model X.prog X.w) X.A (callWith pos (.ref c.f) first (backTo pos (starEach es X.env)) (backToKw pos (keywordEach kws X.env))) (EP X pins σ Q) X.xe s := by
  have kp : PySem.W.keepIn X.K (.ref c.f) = true := by rw [C.K]; exact c.kp
  obtain ⟨k1, k2, k3⟩ := kw_ok (pos := pos) (env := X.env) hn
  rcases ha with ⟨rfl, rfl⟩ | ⟨e, r, rfl, ha⟩
  · rcases hkw with ⟨rfl, rfl⟩ | ⟨e, r, rfl, hkw⟩
    · refine PySem.W.callWith_K0 I.kIn kp ?_
      have e0 : c.ks = [] := (Option.some.inj hn).symm
      obtain ⟨h1, h2, h3⟩ := h
      rw [List.append_nil, List.append_nil] at h3
      have z := c.run (ws := []) (zs := []) C tk hk I rf .nil (by simpa using h1) h2 (by rw [List.append_nil]; exact h3)
      rw [e0] at z
      rw [List.append_nil]
      exact z
    · refine PySem.W.callWith_KW0 (h₀ := X.base) I.ok.mod.kin kp k1 (thn (hkw.run pos pins s σ H _ I h) fun ws s2 ⟨zs, H2, I2, rz, l1, l2, q2⟩ => ⟨I2.kIn, ?_⟩) (by rw [k3]; rfl)
      rw [k2, List.append_nil]
      rw [List.append_nil] at q2
      exact c.run C tk hk I2 rf rz (by simpa using l1) l2 q2
  · rcases hkw with ⟨rfl, rfl⟩ | ⟨e2, r2, rfl, hkw⟩
    · have e0 : c.ks = [] := (Option.some.inj hn).symm
      refine PySem.W.callWith_K (h₀ := X.base) I.ok.mod.kin kp (thn (ha.run pos pins s σ H _ I h) fun us s1 ⟨vs, H1, I1, r1, l1, l2, q⟩ => ⟨I1.kIn, ?_⟩) (starEach_cons hs) (noStar_any (noStar_tail hs))
      have z := c.run (ws := []) (zs := []) C tk hk I1 (rf.append r1) .nil (by rw [List.length_append]; exact l1) l2 q
      rw [e0] at z
      exact z
    · refine PySem.W.callWith_KW (h₀ := X.base) I.ok.mod.kin kp k1 (thn (ha.run pos pins s σ H _ I h) fun us s1 ⟨vs, H1, I1, r1, q⟩ => ?_) (by rw [noStar_any hs, k3]; rfl) (starEach_cons hs)
      refine thn (hkw.run pos pins s1 σ H1 _ I1 q) fun ws s2 ⟨zs, H2, I2, rz, l1, l2, q2⟩ => ⟨I2.kIn, ?_⟩
      rw [k2]
      exact c.run C tk hk I2 (rf.append r1) rz (by rw [List.length_append]; exact l1) l2 q2
end
end
/-! ### THE JUDGEMENTS: a piece of text and what it means, in every context of a body -/
/-- a body: the world, the level (calls go below it), the slots' names, the scope -/
structure Bd where
  T : Wd
  lv : Nat
  N : List Str
  sc : Scope
  fn : Str → Bool
  /-- nothing is being handled -/
  cm : Bool
  /-- what is held: the exception, its class, its own dict -/
  xc : Option (Addr × Value × Option Addr)
abbrev Bd.In (B : Bd) (X : Cx) : Prop := Cok B.T B.lv B.N B.sc B.fn B.cm B.xc X
theorem Bd.In.calmed {B : Bd} {X : Cx} (c : B.In X) (h : B.cm = true) : Cok B.T B.lv B.N B.sc B.fn true none X := by
  have c : Cok B.T B.lv B.N B.sc B.fn B.cm B.xc X := c
  exact ⟨c.P, c.w, c.K, c.mg, c.base, c.hN, c.hsc, c.nd, fun _ => c.calm h, c.fnC, fun _ => c.room h, c.un, c.pass, fun _ _ _ z => nomatch z⟩
def JE (B : Bd) (e : Expr) (w : WE) : Prop := ∀ W : WX, ∃ t : TE, (∀ X, B.In X → Takes X W → PE X e t) ∧ Ev B.T W t w
def JT (B : Bd) (e : Expr) (w : WT) : Prop := ∀ W : WX, ∃ t : TT, (∀ X, B.In X → Takes X W → PT X e t) ∧ EvT B.T W t w
def JA (B : Bd) (es : List Expr) (w : WA) : Prop := ∀ W : WX, ∃ t : TA, (∀ X, B.In X → Takes X W → PA X es t) ∧ (es = [] → t = tNil) ∧ EvA B.T W t w
def JK (B : Bd) (es : List Keyword) (w : WA) : Prop := ∀ W : WX, ∃ t : TA, (∀ X, B.In X → Takes X W → PK X es t) ∧ (es = [] → t = tNil) ∧ EvA B.T W t w
section
variable {B : Bd}
theorem ja_nil : JA B [] wNil := fun W => ⟨tNil, fun X _ _ => pa_nil, fun _ => rfl, ea_nil⟩
theorem ja_cons {e : Expr} {es : List Expr} {w : WE} {wr : WA} (h : JE B e w) (hr : JA B es wr) (hs : noStar (e :: es) = true) : JA B (e :: es) (wCons w wr) := fun W => by
  obtain ⟨t, h1, h2⟩ := h W
  obtain ⟨tr, r1, _, r2⟩ := hr W
  exact ⟨_, fun X c tk => pa_cons (h1 X c tk) (r1 X c tk) (starEach_cons hs), (fun z => nomatch z), ea_cons h2 r2⟩
theorem jk_nil : JK B [] wNil := fun W => ⟨tNil, fun X _ _ => pk_nil, fun _ => rfl, ea_nil⟩
theorem jk_cons {n : Str} {p : Pos} {e : Expr} {es : List Keyword} {w : WE} {wr : WA} (h : JE B e w) (hr : JK B es wr) : JK B (⟨some n, e, p⟩ :: es) (wCons w wr) := fun W => by
  obtain ⟨t, h1, h2⟩ := h W
  obtain ⟨tr, r1, _, r2⟩ := hr W
  exact ⟨_, fun X c tk => pk_cons (h1 X c tk) (r1 X c tk), (fun z => nomatch z), ea_cons h2 r2⟩
theorem argsT {X : Cx} {es : List Expr} {t : TA} (h : PA X es t) (h0 : es = [] → t = tNil) : ArgsT X es t := by
  cases es with
  | nil => exact .inl ⟨rfl, h0 rfl⟩
  | cons e r => exact .inr ⟨e, r, rfl, h⟩
theorem kwsT {X : Cx} {es : List Keyword} {t : TA} (h : PK X es t) (h0 : es = [] → t = tNil) : KwsT X es t := by
  cases es with
  | nil => exact .inl ⟨rfl, h0 rfl⟩
  | cons e r => exact .inr ⟨e, r, rfl, h⟩
/-- a global name of the body -/
def glB (sc : Scope) (x : Str) : Bool := sc.names.lookup x == some NameKind.globalImplicit && !(x == ("__debug__" : Str))
theorem gl_of {X : Cx} {x : Str} (c : B.In X) (h : glB B.sc x = true) : Gl X x ∧ (x == ("__debug__" : Str)) = false := by
  unfold glB at h
  rw [Bool.and_eq_true] at h
  refine ⟨?_, by simpa using h.2⟩
  have h1 := beq_iff_eq.mp h.1
  show X.env.scope.names.lookup x = _
  rw [c.hsc]
  exact h1
/-! ### names, constants -/
def visB (sc : Scope) (x : Str) : Bool := (sc.names.lookup x == some NameKind.local || sc.names.lookup x == some NameKind.cell || sc.names.lookup x == some NameKind.free) && !(x == ("__debug__" : Str)) && !(x == ("__classdict__" : Str))
def varB (B : Bd) (i : Nat) (x : Str) : Bool := visB B.sc x && decide (B.N[i]? = some x)
theorem je_var {i : Nat} {x : Str} {pos : Pos} (h : varB B i x = true) : JE B (.Name x pos) (wVar i) := fun W => by
  unfold varB visB at h
  simp only [Bool.and_eq_true, Bool.or_eq_true, beq_iff_eq, decide_eq_true_eq, Bool.not_eq_true'] at h
  obtain ⟨⟨⟨h1, h2⟩, h3⟩, h4⟩ := h
  refine ⟨tVar i, fun X c tk => pe_var (by rw [c.hN]; exact h4) ?_ h2 h3, ev_var⟩
  unfold Vis
  rw [c.hsc, ← or_assoc]
  exact h1
theorem je_glob {x : Str} {v : V} {u : Value} {d : D} {pos : Pos} (hg : glB B.sc x = true) (hm : B.T.mg x = some u) (r : RelV v u) (hd : ∀ F, Den B.T F v d) : JE B (.Name x pos) (wC d) := fun W =>
  ⟨tC v, fun X c tk => pe_glob (gl_of c hg).1 (by rw [c.mg]; exact hm) r (gl_of c hg).2, ev_c hd⟩
theorem je_ty {x : Str} {n : String} {pos : Pos} (hg : glB B.sc x = true) (hm : B.T.mg x = none) (hv : bootBuiltins x = some (.type n)) (hn : x ≠ "__name__") : JE B (.Name x pos) (wC (.ty n)) := fun W =>
  ⟨tC (.ty n), fun X c tk => pe_bltn (gl_of c hg).1 (by rw [c.mg]; exact hm) hv rfl hn (gl_of c hg).2, ev_c fun F => .ty n⟩
theorem je_int {i : Int} {j : Nat} {pos : Pos} : JE B (.Constant (.int i) j pos) (wC (.int i)) := fun W => ⟨_, fun X c tk => pe_int, ev_c fun F => .int i⟩
theorem je_bl {i : Bool} {j : Nat} {pos : Pos} : JE B (.Constant (.bool i) j pos) (wC (.bl i)) := fun W => ⟨_, fun X c tk => pe_bl, ev_c fun F => .bl i⟩
theorem je_non {j : Nat} {pos : Pos} : JE B (.Constant .none j pos) (wC .non) := fun W => ⟨_, fun X c tk => pe_non, ev_c fun F => .non⟩
theorem je_str {i : Str} {j : Nat} {pos : Pos} : JE B (.Constant (.str i) j pos) (wC (.str i)) := fun W => ⟨_, fun X c tk => pe_str, ev_c fun F => .str i⟩
/-- f(..) of the text -/
theorem je_call {x : Str} {p pos : Pos} {es : List Expr} {kws : List Keyword} {wa wk : WA} (c : Callee B.T) (hk : c.k ≤ B.lv) (hg : glB B.sc x = true) (hm : B.T.mg x = some (.ref c.f)) (ha : JA B es wa) (hkw : JK B kws wk)
    (hs : noStar es = true) (hn : kwNames kws = some c.ks) (hcm : B.cm = true := by rfl) : JE B (.Call (.Name x p) es kws pos) (wCal c.d c.np c.ks.length wa wk) := fun W => by
  obtain ⟨ta, a1, a0, a2⟩ := ha W
  obtain ⟨tkk, b1, b0, b2⟩ := hkw W
  refine ⟨_, fun X C tk => ⟨fun pins s σ H Q I h => ?_⟩, ev_cal (c := c) a2 b2⟩
  have hm' : X.mg x = some (.ref c.f) := by rw [C.mg]; exact hm
  obtain ⟨g1, g2⟩ := gl_of C hg
  exact wpAny_Call_Name_kw (ld_glob I g1 hm' (cw_any (Bd.In.calmed C hcm) tk c hk (argsT (a1 X C tk) a0) (kwsT (b1 X C tk) b0) hs hn I .nil h) g2)
end
end G

/-! Eng9: methods of own classes, attributes. -/
namespace G
open PySem PySem.Spec PyProof.Rows L2

section
variable {T : Wd}
/-- an instance: its class, its attributes -/
def insMO : Option MO → Option (Str × List (Str × D))
  | some (.ins C fs) => some (C, fs)
  | _ => none
def insD (M : MS) : D → Option (Str × List (Str × D))
  | .ins C fs => some (C, fs)
  | .ref a => insMO (M a)
  | _ => none
theorem insD_den {F Gh H : Hp} {M : MS} {v : V} {d : D} {C : Str} {fs : List (Str × D)} (sr : SR T F M Gh H) (h : Den T F v d) (e : insD M d = some (C, fs)) : ∃ a dx vs, v = .ref a ∧ H a = some (.ins (T.adr C) dx vs) ∧ DenF T F vs fs := by
  cases h with
  | ins h l => cases e; exact ⟨_, _, _, rfl, sr.fr _ _ h, l⟩
  | ref a =>
    have e : insMO (M a) = some (C, fs) := e
    cases q : M a with
    | none => rw [q] at e; cases e
    | some m =>
      rw [q] at e
      cases m with
      | lst xs => cases e
      | dic xs => cases e
      | set _ => cases e
      | ins C' xs =>
        cases e
        obtain ⟨_, _, dx, vs, h1, h2⟩ := sr.mu a _ q
        exact ⟨a, dx, vs, rfl, h1, h2⟩
  | _ => cases e
/-- the attribute's value -/
def fldV : Option (Str × List (Str × D)) → Str → Option D
  | some (_, fs), f => fs.lookup f
  | none, _ => none
def clsOf (M : MS) (d : D) : Option Str := (insD M d).map (·.1)
/-- e.f -/
def fldO (T : Wd) (f : Str) (d : D) (M : MS) (Q : QD) : Prop := match insD M d with
  | some (C, fs) => T.cls C = true ∧ T.noA C f = true ∧ (match fs.lookup f with
    | some v => Q v M
    | none => False)
  | none => False
def wFld (T : Wd) (f : Str) (w : WE) : WE := wUn (fldO T f) w
theorem ev_fld' {W : WX} {f : Str} {ta : TE} {w : WE} (ok : WdOk T) (h : Ev T W ta w) : Ev T W (tFld T.K ta f) (wFld T f w) := by
  intro σ H F Gh env M Q EQ R sr er hw rn rx
  refine h σ H F Gh env M _ EQ _ sr er hw (fun v H1 F1 d M1 e1 sr1 dn q => ?_) rx
  unfold fldO at q
  cases e : insD M1 d with
  | none => rw [e] at q; exact q.elim
  | some p =>
    obtain ⟨C, fs⟩ := p
    rw [e] at q
    obtain ⟨q1, q2, q⟩ := q
    obtain ⟨a, dx, vs, rfl, ha, df⟩ := insD_den sr1 dn e
    cases l : fs.lookup f with
    | none => simp only [l] at q
    | some d' =>
      simp only [l] at q
      obtain ⟨v', l', dn'⟩ := df.lookup l
      exact ⟨a, T.adr C, dx, vs, v', rfl, ha, (ok.cls C q1).cl, ok.noA C f q2, l', rn v' H1 F1 d' M1 e1 sr1 dn' q⟩
/-- e.f = v: the object may change -/
def stFld (T : Wd) (f : Str) (d v : D) (M : MS) (Q : MS → Prop) : Prop := match d with
  | .ref a => (match M a with
    | some (.ins C fs) => T.cls C = true ∧ T.noA C f = true ∧ fs.length < 1000 ∧ Q (M.set a (.ins C (putD f v fs)))
    | _ => False)
  | _ => False
def wSetFld (T : Wd) (f : Str) (wa wv : WE) : WS := fun env M K => wv env M (fun v M1 => wa env M1 (fun d M2 => stFld T f d v M2 (fun M3 => K.nx env M3)) (fun x M2 => K.ex x env M2)) (fun x M1 => K.ex x env M1)
theorem es_fld {W : WX} {f : Str} {ta tv : TE} {wa wv : WE} (ok : WdOk T) (ha : Ev T W ta wa) (hv : Ev T W tv wv) : EvS T W (sFld T.K ta tv f) (wSetFld T f wa wv) := by
  intro σ H F Gh env M K De sr er hw rk
  refine hv σ H F Gh env M _ _ _ sr er hw (fun v H1 F1 dv M1 e1 sr1 dn1 q => ?_) (rk.ex.at er)
  refine ha σ H1 F1 Gh env M1 _ _ _ sr1 (er.mono e1) q (fun u H2 F2 d M2 e2 sr2 dn2 q2 => ?_) ((rk.ex.mono e1).at (er.mono e1))
  cases dn2 with
  | ref a =>
    have q2 : (match M2 a with
      | some (.ins C fs) => T.cls C = true ∧ T.noA C f = true ∧ fs.length < 1000 ∧ K.nx env (M2.set a (.ins C (putD f dv fs)))
      | _ => False) := q2
    cases e : M2 a with
    | none => rw [e] at q2; exact q2.elim
    | some m =>
      rw [e] at q2
      cases m with
      | lst _ => exact q2.elim
      | dic _ => exact q2.elim
      | set _ => exact q2.elim
      | ins C fs =>
        obtain ⟨q3, q4, q5, q6⟩ := q2
        obtain ⟨_, _, dx, vs, h1, h2⟩ := sr2.mu a _ e
        refine ⟨a, T.adr C, dx, vs, rfl, h1, (ok.cls C q3).cl, ok.noA C f q4, by rw [h2.length]; exact q5, ?_⟩
        exact rk.nx σ _ F2 env _ (e1.trans e2) (sr2.setM (m := .ins C (putD f dv fs)) e ⟨dx, _, upd_same, h2.put (dn1.mono e2)⟩) (er.mono (e1.trans e2)) q6
  | _ => exact q2.elim

/-! ### methods -/
/-- the classes' methods of that name -/
structure MAlt (T : Wd) (m : Str) (C : Str) (c : Callee T) : Prop where
  cl : Cls T.K (T.adr C)
  me : Meth T.K (T.adr C) m c.f
def tMethX (T : Wd) (alts : Str → Option (Callee T)) (m : Str) (W : WX) (ta : TE) (t tk : TA) : TE := fun σ H Q => ta σ H fun x H1 => ∃ a C dx fs c, x = .ref a ∧ H1 a = some (.ins (T.adr C) dx fs) ∧ alts C = some c ∧ fs.lookup m = none ∧ tCal0 T c W [x] t tk σ H1 Q
def methO (T : Wd) (alts : Str → Option (Callee T)) (m : Str) (wa wk : WA) (env : EnvD) (Q : QD) (EQ : EK) (d : D) (M : MS) : Prop := match insD M d with
  | some (C, fs) => fs.lookup m = none ∧ (match alts C with
    | some c => wCal0 c.d c.np c.ks.length [d] wa wk env M Q EQ
    | none => False)
  | none => False
def wMeth (T : Wd) (alts : Str → Option (Callee T)) (m : Str) (w : WE) (wa wk : WA) : WE := fun env M Q EQ => w env M (methO T alts m wa wk env Q EQ) EQ
theorem ev_meth {W : WX} {alts : Str → Option (Callee T)} {m : Str} {to : TE} {ta tk : TA} {w : WE} {wa wk : WA} (ho : Ev T W to w) (ha : EvA T W ta wa) (hk : EvA T W tk wk) : Ev T W (tMethX T alts m W to ta tk) (wMeth T alts m w wa wk) := by
  intro σ H F Gh env M Q EQ R sr er hw rn rx
  refine ho σ H F Gh env M _ EQ _ sr er hw (fun v H1 F1 d M1 e1 sr1 dn q => ?_) rx
  unfold methO at q
  cases e : insD M1 d with
  | none => rw [e] at q; exact q.elim
  | some p =>
    obtain ⟨C, fs⟩ := p
    rw [e] at q
    obtain ⟨l, q⟩ := q
    obtain ⟨a, dx, vs, rfl, h1, df⟩ := insD_den sr1 dn e
    cases z : alts C with
    | none => simp only [z] at q
    | some c =>
      simp only [z] at q
      exact ⟨a, C, dx, vs, c, rfl, h1, z, df.lookup_none l, ev_cal0 (c := c) ha hk sr1 (er.mono e1) (.cons dn .nil) q (rn.mono e1) (rx.mono e1)⟩
section
variable {B : Bd}
/-- the tree of a method call -/
def MTree (e : Expr) (m : Str) (apos : Pos) (es : List Expr) (kws : List Keyword) (pos : Pos) : Prop := ∃ pl : Env → Sem Bool, ∀ env : Env, eval (.Call (.Attribute e m apos) es kws pos) env = (do
      let ov ← eval e env
      standAt apos.atName
      let (f, first) ← holding [ov] (getMethod ov m (pl env))
      callWith pos f first (backTo pos (starEach es env)) (backToKw pos (keywordEach kws env)))
/-- e.m(..) -/
theorem je_meth {e : Expr} {m : Str} {apos pos : Pos} {es : List Expr} {kws : List Keyword} {w : WE} {wa wk : WA} (alts : Str → Option (Callee B.T)) (hal : ∀ D c, alts D = some c → MAlt B.T m D c ∧ c.k ≤ B.lv ∧ kwNames kws = some c.ks) (ho : JE B e w) (ha : JA B es wa) (hkw : JK B kws wk)
    (hs : noStar es = true) (ht : MTree e m apos es kws pos) (hcm : B.cm = true := by rfl) : JE B (.Call (.Attribute e m apos) es kws pos) (wMeth B.T alts m w wa wk) := fun W => by
  obtain ⟨pl, ht⟩ := ht
  obtain ⟨to, o1, o2⟩ := ho W
  obtain ⟨ta, a1, a0, a2⟩ := ha W
  obtain ⟨tkk, b1, b0, b2⟩ := hkw W
  refine ⟨_, fun X C tk => ⟨fun pins s σ H Q I h => ?_⟩, ev_meth o2 a2 b2⟩
  refine PySem.W.methodCall_KW (pl := pl X.env) (thn ((o1 X C tk).run pins s σ H _ I h) fun u s1 ⟨x, H1, I1, rx, a, D, dx, fs, c, ex, ea, al, l, q⟩ => ?_) (ht X.env)
  subst ex
  obtain rfl : u = Value.ref a := rx
  obtain ⟨q1, q2, q3⟩ := hal D c al
  refine getmeth_ok I1 ea (by rw [C.K]; exact q1.cl) (by rw [C.K]; exact q1.me) l ?_
  exact cw_any (Bd.In.calmed C hcm) tk c q2 (argsT (a1 X C tk) a0) (kwsT (b1 X C tk) b0) hs q3 I1 (first := [.ref a]) (fv := [.ref a]) (.cons rfl .nil) q
/-- no super -/
def ABase (e : Expr) (f : Str) : Prop := ∀ env : Env, attributeBase e f env (eval e env) = eval e env
/-- e.f -/
theorem je_fld {e : Expr} {f : Str} {pos : Pos} {w : WE} (ok : WdOk B.T) (h : JE B e w) (hb : ABase e f) : JE B (.Attribute e f pos) (wFld B.T f w) := fun W => by
  obtain ⟨t, h1, h2⟩ := h W
  refine ⟨tFld B.T.K t f, fun X C tk => ?_, ?_⟩
  · have z := pe_fld (f := f) (pos := pos) (h1 X C tk) (hb X.env)
    rw [C.K] at z
    exact z
  · intro σ H F Gh env M Q EQ R sr er hw rn rx
    exact ev_fld' ok h2 σ H F Gh env M Q EQ R sr er hw rn rx
end
end
end G

/-! Eng10: methods of the built-in types; stores to items. -/
namespace G
open PySem PySem.Spec PyProof.Rows L2

section
variable {T : Wd}
/-- the built-in type of a receiver -/
def bmMO : Option MO → Option String
  | some (.lst _) => some "list"
  | some (.dic _) => some "dict"
  | _ => none
def bmTy (M : MS) : D → Option String
  | .str _ => some "str"
  | .lst _ => some "list"
  | .ref a => bmMO (M a)
  | _ => none
theorem bmTy_den {F Gh H : Hp} {M : MS} {v : V} {d : D} {ty : String} (sr : SR T F M Gh H) (h : Den T F v d) (e : bmTy M d = some ty) : tyV T.K ty v H := by
  cases h with
  | str _ => cases e; rfl
  | lst h l => cases e; exact .inl ⟨rfl, _, .inl (.inl (sr.fr _ _ h))⟩
  | ref a =>
    have e : bmMO (M a) = some ty := e
    cases q : M a with
    | none => rw [q] at e; cases e
    | some m =>
      rw [q] at e
      obtain ⟨_, _, h3⟩ := sr.mu a _ q
      cases m with
      | lst xs => cases e; obtain ⟨vs, h1, _⟩ := h3; exact .inl ⟨rfl, _, .inl (.inl h1)⟩
      | dic xs => cases e; obtain ⟨vs, h1, _⟩ := h3; exact .inr (.inr (.inl ⟨rfl, .inl ⟨_, h1⟩⟩))
      | set ks => cases e
      | ins C xs => cases e
  | _ => cases e
variable (T) in
def OpM (r : V → List V → Hp → VK → Prop) (o : D → List D → MS → QD → Prop) : Prop := ∀ F Gh M H x xs dx dxs Q (R : VK), SR T F M Gh H → Den T F x dx → DenL T F xs dxs → o dx dxs M Q → RN T F Gh Q R → r x xs H R
theorem OpM.or {r1 r2 : V → List V → Hp → VK → Prop} {o1 o2 : D → List D → MS → QD → Prop} (h1 : OpM T r1 o1) (h2 : OpM T r2 o2) : OpM T (fun x xs H Q => r1 x xs H Q ∨ r2 x xs H Q) (fun x xs M Q => o1 x xs M Q ∨ o2 x xs M Q) :=
  fun F Gh M H x xs dx dxs Q R sr h l q rn => q.elim (fun q => .inl (h1 F Gh M H x xs dx dxs Q R sr h l q rn)) fun q => .inr (h2 F Gh M H x xs dx dxs Q R sr h l q rn)
/-- e.name(..) of a built-in type -/
def wBM (ty : String) (o : D → List D → MS → QD → Prop) (w : WE) (wa : WA) : WE := fun env M Q EQ => w env M (fun d M1 => bmTy M1 d = some ty ∧ wa env M1 (fun ds M2 => o d ds M2 Q) EQ) EQ
theorem ev_bm {W : WX} {ty : String} {r : V → List V → Hp → VK → Prop} {o : D → List D → MS → QD → Prop} {to : TE} {ta : TA} {w : WE} {wa : WA} (hr : OpM T r o) (ho : Ev T W to w) (ha : EvA T W ta wa) : Ev T W (tBM T.K ty r to ta) (wBM ty o w wa) := by
  intro σ H F Gh env M Q EQ R sr er hw rn rx
  refine ho σ H F Gh env M _ EQ _ sr er hw (fun v H1 F1 d M1 e1 sr1 dn q => ?_) rx
  obtain ⟨q1, q⟩ := q
  refine ⟨bmTy_den sr1 dn q1, ?_⟩
  exact ha σ H1 F1 Gh env M1 _ EQ _ sr1 (er.mono e1) q (fun vs H2 F2 ds M2 e2 sr2 dn2 q2 => hr F2 Gh M2 H2 v vs d ds Q R sr2 (dn.mono e2) dn2 q2 (rn.mono (e1.trans e2))) (rx.mono e1)
end
section
variable {B : Bd}
theorem noStar_all {pos : Pos} {env : Env} : ∀ {r : List Expr}, noStar r = true → (backTo pos (starEach r env)).all (fun x => !x.1) = true
  | [], _ => rfl
  | e :: r, h => by
    rw [starEach_cons h]
    show (!false && (backTo pos (starEach r env)).all (fun x => !x.1)) = true
    rw [noStar_all (noStar_tail h)]
    rfl
theorem je_bm {ty id : String} {name : Str} {e e1 : Expr} {es : List Expr} {apos cpos : Pos} {r : V → List V → Hp → VK → Prop} {o : D → List D → MS → QD → Prop} {w : WE} {wa : WA} (pa : PlainAttrs ty) (slot : Slot ty name id) (hty : typeOf (.builtin id) = pure (.type "method_descriptor")) (hm : ∀ X, B.In X → MtR X id r) (hr : OpM B.T r o)
    (ho : JE B e w) (ha : JA B (e1 :: es) wa) (hs : noStar (e1 :: es) = true) (hbase : ABase e name) (hlen : (e1 :: es).length < 30) (hline : (apos.endLine == cpos.line) = true) :
    JE B (.Call (.Attribute e name apos) (e1 :: es) [] cpos) (wBM ty o w wa) := fun W => by
  obtain ⟨to, h1, h2⟩ := ho W
  obtain ⟨ta, a1, _, a2⟩ := ha W
  refine ⟨tBM B.T.K ty r to ta, fun X C tk => ?_, ev_bm hr h2 a2⟩
  have z := pe_bm (name := name) (apos := apos) (cpos := cpos) pa slot hty (hm X C) (h1 X C tk) (a1 X C tk) (hbase X.env) (by
    rw [Bool.and_eq_true, Bool.and_eq_true]
    exact ⟨⟨noStar_all hs, rfl⟩, decide_eq_true (by simpa using hlen)⟩) hline (starEach_cons hs) (noStar_any (noStar_tail hs))
  rw [C.K] at z
  exact z
theorem je_bm0 {ty id : String} {name : Str} {e : Expr} {apos cpos : Pos} {r : V → List V → Hp → VK → Prop} {o : D → List D → MS → QD → Prop} {w : WE} (pa : PlainAttrs ty) (slot : Slot ty name id) (hty : typeOf (.builtin id) = pure (.type "method_descriptor")) (hm : ∀ X, B.In X → MtR X id r) (hr : OpM B.T r o)
    (ho : JE B e w) (hbase : ABase e name) (hline : (apos.endLine == cpos.line) = true) :
    JE B (.Call (.Attribute e name apos) [] [] cpos) (wBM ty o w wNil) := fun W => by
  obtain ⟨to, h1, h2⟩ := ho W
  refine ⟨tBM0 B.T.K ty r to, fun X C tk => ?_, ev_bm (ta := tNil) hr h2 ea_nil⟩
  have z := pe_bm0 (name := name) (apos := apos) (cpos := cpos) pa slot hty (hm X C) (h1 X C tk) (hbase X.env) hline
  rw [C.K] at z
  exact z
end
section
variable {T : Wd}
/-! ### lists -/
theorem SR.lst {F Gh H : Hp} {M : MS} {a : Addr} {xs : List D} (sr : SR T F M Gh H) (h : M a = some (.lst xs)) : ∃ vs, H a = some (.lst vs) ∧ DenL T F vs xs := (sr.mu a _ h).2.2
theorem SR.dic {F Gh H : Hp} {M : MS} {a : Addr} {xs : List (Key × D)} (sr : SR T F M Gh H) (h : M a = some (.dic xs)) : ∃ vs, H a = some (.dK vs) ∧ DenK T F vs xs := (sr.mu a _ h).2.2
def appendO (d : D) (ds : List D) (M : MS) (Q : QD) : Prop := ∃ a xs y, d = .ref a ∧ ds = [y] ∧ M a = some (.lst xs) ∧ xs.length < sizeLine ∧ Q .non (M.set a (.lst (xs ++ [y])))
theorem opm_append : OpM T rAppend appendO := by
  rintro F Gh M H x vs dx dxs Q R sr hx hv ⟨a, xs, y, rfl, rfl, hM, hl, q⟩ rn
  cases hx
  obtain ⟨us, h1, h2⟩ := sr.lst hM
  cases hv with
  | cons h t =>
    cases t
    refine ⟨a, us, _, rfl, rfl, h1, by rw [h2.length]; exact hl, ?_⟩
    exact rn .non _ F .non _ (Ex.refl F) (sr.setM (m := .lst (xs ++ [y])) hM ⟨_, upd_same, h2.append (.one h)⟩) .non q
def extendO (d : D) (ds : List D) (M : MS) (Q : QD) : Prop := ∃ a xs y zs, d = .ref a ∧ ds = [y] ∧ M a = some (.lst xs) ∧ asL M y = some zs ∧ xs.length + zs.length ≤ sizeLine ∧ Q .non (M.set a (.lst (xs ++ zs)))
theorem opm_extend : OpM T rExtend extendO := by
  rintro F Gh M H x vs dx dxs Q R sr hx hv ⟨a, xs, y, zs, rfl, rfl, hM, hz, hl, q⟩ rn
  cases hx
  obtain ⟨us, h1, h2⟩ := sr.lst hM
  cases hv with
  | cons h t =>
    cases t
    obtain ⟨b, ws, rfl, hb, dl⟩ := asL_den sr h hz
    refine ⟨a, b, us, ws, rfl, rfl, h1, hb, by rw [h2.length, dl.length]; exact hl, ?_⟩
    exact rn .non _ F .non _ (Ex.refl F) (sr.setM (m := .lst (xs ++ zs)) hM ⟨_, upd_same, h2.append dl⟩) .non q
theorem DenL.dropLast {F : Hp} : ∀ {vs : List V} {ds : List D}, DenL T F vs ds → DenL T F vs.dropLast ds.dropLast
  | _, _, .nil => .nil
  | _, _, .cons _ .nil => .nil
  | _, _, .cons h (.cons h2 t) => .cons h (DenL.dropLast (.cons h2 t))
def popO (d : D) (ds : List D) (M : MS) (Q : QD) : Prop := ∃ a xs y, d = .ref a ∧ ds = [] ∧ M a = some (.lst xs) ∧ xs[xs.length - 1]? = some y ∧ Q y (M.set a (.lst xs.dropLast))
theorem opm_pop : OpM T rPop popO := by
  rintro F Gh M H x vs dx dxs Q R sr hx hv ⟨a, xs, y, rfl, rfl, hM, hl, q⟩ rn
  cases hx
  cases hv
  obtain ⟨us, h1, h2⟩ := sr.lst hM
  obtain ⟨v, hv, dv⟩ := h2.get' hl
  refine ⟨a, us, v, rfl, rfl, h1, by rw [h2.length]; exact hv, ?_⟩
  exact rn v _ F y _ (Ex.refl F) (sr.setM (m := .lst xs.dropLast) hM ⟨_, upd_same, h2.dropLast⟩) dv q
def popAtO (d : D) (ds : List D) (M : MS) (Q : QD) : Prop := ∃ a xs i k y, d = .ref a ∧ ds = [.int i] ∧ M a = some (.lst xs) ∧ -(2 ^ 63) ≤ i ∧ i < 2 ^ 63 ∧ seqIndex? i xs.length = some k ∧ xs[k]? = some y ∧ Q y (M.set a (.lst (xs.eraseIdx k)))
theorem opm_popAt : OpM T rPopAt popAtO := by
  rintro F Gh M H x vs dx dxs Q R sr hx hv ⟨a, xs, i, k, y, rfl, rfl, hM, h1', h2', hk, hl, q⟩ rn
  cases hx
  cases hv with
  | cons h t =>
    cases t
    cases h
    obtain ⟨us, h1, h2⟩ := sr.lst hM
    obtain ⟨v, hv, dv⟩ := h2.get' hl
    refine ⟨a, us, i, k, v, rfl, rfl, h1, h1', h2', by rw [h2.length]; exact hk, hv, ?_⟩
    exact rn v _ F y _ (Ex.refl F) (sr.setM (m := .lst (xs.eraseIdx k)) hM ⟨_, upd_same, h2.eraseIdx k⟩) dv q
/-! ### texts -/
/-- a list of texts, a tuple of texts -/
def strsOf : List D → Option (List Str)
  | [] => some []
  | .str x :: r => (strsOf r).map (x :: ·)
  | _ :: _ => none
theorem strsOf_eq : ∀ {ds : List D} {xs : List Str}, strsOf ds = some xs → ds = xs.map D.str
  | [], xs, h => by cases h; rfl
  | .str x :: r, xs, h => by
    have h : (strsOf r).map (x :: ·) = some xs := h
    cases q : strsOf r with
    | none => rw [q] at h; cases h
    | some l => rw [q] at h; cases h; rw [strsOf_eq q]; rfl
  | .non :: r, xs, h => by cases h
  | .bl _ :: r, xs, h => by cases h
  | .int _ :: r, xs, h => by cases h
  | .tup _ :: r, xs, h => by cases h
  | .lst _ :: r, xs, h => by cases h
  | .tpl _ :: r, xs, h => by cases h
  | .dic _ :: r, xs, h => by cases h
  | .ins _ _ :: r, xs, h => by cases h
  | .set _ :: r, xs, h => by cases h
  | .ref _ :: r, xs, h => by cases h
  | .ty _ :: r, xs, h => by cases h
  | .scr _ :: r, xs, h => by cases h
  | .cls _ :: r, xs, h => by cases h
theorem strsOf_map {xs : List Str} : strsOf (xs.map D.str) = some xs := by
  induction xs with
  | nil => rfl
  | cons x r ih => show (strsOf (r.map D.str)).map (x :: ·) = _; rw [ih]; rfl
/-- the items of a list or a tuple -/
def seqOf (M : MS) (d : D) : Option (List D) := match asL M d with
  | some xs => some xs
  | none => asT d
theorem seqOf_den {F Gh H : Hp} {M : MS} {v : V} {d : D} {xs : List D} (sr : SR T F M Gh H) (h : Den T F v d) (e : seqOf M d = some xs) : ∃ a vs, v = .ref a ∧ (SqL T.K H a vs ∨ SqT T.K H a vs) ∧ DenL T F vs xs := by
  unfold seqOf at e
  cases q : asL M d with
  | some ys =>
    rw [q] at e; cases e
    obtain ⟨a, vs, h1, h2, h3⟩ := asL_den sr h q
    exact ⟨a, vs, h1, .inl (.inl (.inl h2)), h3⟩
  | none =>
    rw [q] at e
    obtain ⟨a, vs, h1, h2, h3⟩ := asT_den h e
    exact ⟨a, vs, h1, .inr ((Ex.of_sr sr).t h2), h3⟩
def joinO (d : D) (ds : List D) (M : MS) (Q : QD) : Prop := ∃ s y xs, d = .str s ∧ ds = [y] ∧ seqOf M y = some (xs.map D.str) ∧ (xs.map (·.length)).sum + xs.length * s.length ≤ 16777216 ∧ Q (.str (Txt.join s xs)) M
def rJoin (K : PySem.W.Frag) : V → List V → Hp → VK → Prop := fun x xs H Q => ∃ a p, ∃ ys : List Str, x = .str a ∧ xs = [.ref p] ∧ (SqL K H p (ys.map V.str) ∨ SqT K H p (ys.map V.str)) ∧
    (ys.map (·.length)).sum + ys.length * a.length ≤ 16777216 ∧ Q (.str (Txt.join a ys)) H
theorem opm_join : OpM T (rJoin T.K) joinO := by
  rintro F Gh M H x vs dx dxs Q R sr hx hv ⟨s, y, xs, rfl, rfl, hy, hl, q⟩ rn
  cases hx
  cases hv with
  | cons h t =>
    cases t
    obtain ⟨a, ws, rfl, hq, dl⟩ := seqOf_den sr h hy
    have e := dl.strs_of
    subst e
    exact ⟨s, a, xs, rfl, rfl, hq, hl, rn _ H F _ M (Ex.refl F) sr (.str _) q⟩
def splitO (d : D) (ds : List D) (M : MS) (Q : QD) : Prop := ∃ s b, d = .str s ∧ ds = [.str b] ∧ (b.length == 0) = false ∧ s.length + 2 ≤ sizeLine ∧ Q (.lst ((Txt.split s b).map D.str)) M
def rSplit : V → List V → Hp → VK → Prop := fun x xs H Q => ∃ a b, x = .str a ∧ xs = [.str b] ∧ (b.length == 0) = false ∧ a.length + 2 ≤ sizeLine ∧ rNewStrs (Txt.split a b) H Q
theorem opm_split : OpM T rSplit splitO := by
  rintro F Gh M H x vs dx dxs Q R sr hx hv ⟨s, b, rfl, rfl, h1, h2, q⟩ rn
  cases hx
  cases hv with
  | cons h t =>
    cases t
    cases h
    refine ⟨s, b, rfl, rfl, h1, h2, fun p hp => ?_⟩
    have ex := Ex.new (o := .lst ((Txt.split s b).map V.str)) (sr.freeF hp)
    exact rn (.ref p) _ _ _ M ex (sr.new hp) (.lst upd_same (DenL.strs _)) q
/-! ### stores -/
def putKD (kvs : List (Key × D)) (k : Key) (v : D) : List (Key × D) :=
  if (kvs.any fun kv => decide (kv.1 = k)) = true then kvs.map (fun kv => if kv.1 = k then (kv.1, v) else kv) else kvs ++ [(k, v)]
def dropKD (kvs : List (Key × D)) (k : Key) : List (Key × D) := kvs.filter fun kv => decide (kv.1 ≠ k)
theorem DenK.append {F : Hp} : ∀ {vs us : List (Key × V)} {ds es : List (Key × D)}, DenK T F vs ds → DenK T F us es → DenK T F (vs ++ us) (ds ++ es)
  | _, _, _, _, .nil, h => h
  | _, _, _, _, .cons q l, h => .cons q (l.append h)
theorem DenK.any {F : Hp} {k : Key} : ∀ {vs : List (Key × V)} {ds : List (Key × D)}, DenK T F vs ds → (vs.any fun kv => decide (kv.1 = k)) = (ds.any fun kv => decide (kv.1 = k))
  | _, _, .nil => rfl
  | _, _, .cons _ l => by rw [List.any_cons, List.any_cons, l.any]
theorem DenK.over {F : Hp} {k : Key} {v : V} {d : D} (h : Den T F v d) : ∀ {vs : List (Key × V)} {ds : List (Key × D)}, DenK T F vs ds → DenK T F (vs.map fun kv => if kv.1 = k then (kv.1, v) else kv) (ds.map fun kv => if kv.1 = k then (kv.1, d) else kv)
  | _, _, .nil => .nil
  | (k0, _) :: _, _, .cons q l => by
    rw [List.map_cons, List.map_cons]
    by_cases e : k0 = k
    · simp only [e, if_true]; exact .cons h (DenK.over h l)
    · simp only [e, if_false]; exact .cons q (DenK.over h l)
theorem DenK.put {F : Hp} {k : Key} {v : V} {d : D} (h : Den T F v d) {vs : List (Key × V)} {ds : List (Key × D)} (l : DenK T F vs ds) : DenK T F (putK vs k v) (putKD ds k d) := by
  unfold putK putKD
  rw [l.any (k := k)]
  split
  · exact l.over h
  · exact l.append (.cons h .nil)
def setItO (d i v : D) (M : MS) (Q : MS → Prop) : Prop := ∃ a, d = .ref a ∧ ((∃ xs k j, M a = some (.lst xs) ∧ i = .int k ∧ ixN xs.length k = some j ∧ Q (M.set a (.lst (xs.set j v)))) ∨
  (∃ xs k, M a = some (.dic xs) ∧ keyD i = some k ∧ xs.length < sizeLine ∧ Q (M.set a (.dic (putKD xs k v)))))
def rSetIt : TSet := fun o i v H Q => rSetL o i v H Q ∨ ∃ a H4, o = .ref a ∧ DPut H a i v H4 ∧ Q H4
theorem set_it {X : Cx} (hu : X.A.units + 1 < cLine) : PSet X rSetIt := by
  intro pins s σ H o i v ov iv u Q I ro ri rv h
  rcases h with h | ⟨a, H4, rfl, h, q⟩
  · exact set_list pins s σ H o i v ov iv u Q I ro ri rv h
  · cases ro
    exact d_setItem hu I h ri rv fun s4 I4 => ⟨H4, I4, q⟩
theorem setIt_den {F Gh H : Hp} {M : MS} {o i v : V} {d di dv : D} {Q : MS → Prop} {R : Hp → Prop} (sr : SR T F M Gh H) (ho : Den T F o d) (hi : Den T F i di) (hv : Den T F v dv) (h : setItO d di dv M Q) (k : ∀ H' M', SR T F M' Gh H' → Q M' → R H') : rSetIt o i v H R := by
  obtain ⟨a, rfl, h⟩ := h
  cases ho
  rcases h with ⟨xs, n, j, hM, rfl, hj, q⟩ | ⟨xs, n, hM, hk, hl, q⟩
  · cases hi
    obtain ⟨us, h1, h2⟩ := sr.lst hM
    exact .inl ⟨a, us, n, j, rfl, rfl, h1, by rw [h2.length]; exact hj, k _ _ (sr.setM (m := .lst (xs.set j dv)) hM ⟨_, upd_same, h2.set hv j⟩) q⟩
  · obtain ⟨us, h1, h2⟩ := sr.dic hM
    have e := keyD_den hi hk
    subst e
    exact .inr ⟨a, _, rfl, .inl ⟨us, n, h1, rfl, by rw [h2.length]; exact hl, rfl⟩, k _ _ (sr.setM (m := .dic (putKD xs n dv)) hM ⟨_, upd_same, h2.put hv⟩) q⟩
/-- o[i] = v -/
def wgSub (wo wi : WE) : WG := fun v env M Q EQ => wo env M (fun d M1 => wi env M1 (fun i M2 => setItO d i v M2 (fun M3 => Q env M3)) EQ) EQ
theorem eg_sub {W : WX} {to ti : TE} {wo wi : WE} (ho : Ev T W to wo) (hi : Ev T W ti wi) : EvG T W (gSub to ti rSetIt) (wgSub wo wi) := by
  intro σ H F Gh env M v d Q EQ R sr er dn hw rs rx
  refine ho σ H F Gh env M _ EQ _ sr er hw (fun o H1 F1 d1 M1 e1 sr1 dn1 q => ?_) rx
  refine hi σ H1 F1 Gh env M1 _ EQ _ sr1 (er.mono e1) q (fun i H2 F2 d2 M2 e2 sr2 dn2 q2 => ?_) (rx.mono e1)
  exact setIt_den sr2 (dn1.mono e2) dn2 (dn.mono (e1.trans e2)) q2 fun H' M' sr' q' => rs σ H' F2 env M' (e1.trans e2) sr' (er.mono (e1.trans e2)) q'
/-- del xs[i] -/
def delO (d i : D) (M : MS) (Q : MS → Prop) : Prop := ∃ a xs k j, d = .ref a ∧ M a = some (.lst xs) ∧ i = .int k ∧ -(2 ^ 63) ≤ k ∧ k < 2 ^ 63 ∧ seqIndex? k xs.length = some j ∧ Q (M.set a (.lst (xs.eraseIdx j)))
def wDel (wo wi : WE) : WS := fun env M K => wo env M (fun d M1 => wi env M1 (fun i M2 => delO d i M2 (fun M3 => K.nx env M3)) (fun x M2 => K.ex x env M2)) (fun x M1 => K.ex x env M1)
theorem es_del {W : WX} {to ti : TE} {wo wi : WE} (ho : Ev T W to wo) (hi : Ev T W ti wi) : EvS T W (tDelL to ti) (wDel wo wi) := by
  intro σ H F Gh env M K De sr er hw rk
  refine ho σ H F Gh env M _ _ _ sr er hw (fun v H1 F1 d M1 e1 sr1 dn1 q => ?_) (rk.ex.at er)
  refine hi σ H1 F1 Gh env M1 _ _ _ sr1 (er.mono e1) q (fun u H2 F2 d2 M2 e2 sr2 dn2 q2 => ?_) ((rk.ex.mono e1).at (er.mono e1))
  obtain ⟨a, xs, k, j, rfl, hM, rfl, h1, h2, hj, q2⟩ := q2
  cases dn1
  cases dn2
  obtain ⟨us, g1, g2⟩ := sr2.lst hM
  exact ⟨a, us, k, j, rfl, rfl, g1, h1, h2, by rw [g2.length]; exact hj, rk.nx σ _ F2 env _ (e1.trans e2) (sr2.setM (m := .lst (xs.eraseIdx j)) hM ⟨_, upd_same, g2.eraseIdx j⟩) (er.mono (e1.trans e2)) q2⟩
end
end G

/-! Eng11: the judgements' rules for expressions. -/
namespace G
open PySem PySem.Spec PyProof.Rows L2

section
variable {B : Bd}
/-- an operation on two values -/
def JOp (B : Bd) (f : Value → Value → Sem Value) (o : D → D → MS → QD → Prop) : Prop := ∃ r, (∀ X, B.In X → OpR X f r) ∧ Op2 B.T r o
theorem je_bin {op : Operator} {a b : Expr} {pos : Pos} {o : D → D → MS → QD → Prop} {wa wb : WE} (h : JOp B (binaryOp op) o) (ha : JE B a wa) (hb : JE B b wb) : JE B (.BinOp a op b pos) (wBin o wa wb) := fun W => by
  obtain ⟨r, r1, r2⟩ := h
  obtain ⟨ta, a1, a2⟩ := ha W
  obtain ⟨tb, b1, b2⟩ := hb W
  exact ⟨_, fun X c tk => pe_op (r1 X c) (a1 X c tk) (b1 X c tk), ev_bin r2 a2 b2⟩
theorem je_cmp {op : CmpOp} {a b : Expr} {pos : Pos} {o : D → D → MS → QD → Prop} {wa wb : WE} (h : JOp B (compareOp op) o) (ha : JE B a wa) (hb : JE B b wb) (hm : behindInMarks op b = false) : JE B (.Compare a [op] [b] pos) (wBin o wa wb) := fun W => by
  obtain ⟨r, r1, r2⟩ := h
  obtain ⟨ta, a1, a2⟩ := ha W
  obtain ⟨tb, b1, b2⟩ := hb W
  exact ⟨_, fun X c tk => pe_cmpR (r1 X c) (a1 X c tk) (b1 X c tk) hm, ev_bin r2 a2 b2⟩
theorem jt_cmp {op : CmpOp} {a b : Expr} {pos : Pos} {o : D → D → MS → QD → Prop} {wa wb : WE} (h : JOp B (compareOp op) o) (ha : JE B a wa) (hb : JE B b wb) (hm : behindInMarks op b = false) : JT B (.Compare a [op] [b] pos) (wTest (wBin o wa wb)) := fun W => by
  obtain ⟨r, r1, r2⟩ := h
  obtain ⟨ta, a1, a2⟩ := ha W
  obtain ⟨tb, b1, b2⟩ := hb W
  exact ⟨_, fun X c tk => pt_cmpR (r1 X c) (a1 X c tk) (b1 X c tk) hm, et_test (ev_bin r2 a2 b2)⟩
def chainK (o' : D → D → MS → QD → Prop) (wc : WE) (env : EnvD) (Q : QD) (EQ : EK) (y z : D) (M : MS) : Prop := match z with
  | .bl true => wc env M (fun w M4 => o' y w M4 Q) EQ
  | .bl false => Q (.bl false) M
  | _ => False
/-- a < b < c -/
def wChain (o o' : D → D → MS → QD → Prop) (wa wb wc : WE) : WE := fun env M Q EQ => wa env M (fun x M1 => wb env M1 (fun y M2 => o x y M2 (chainK o' wc env Q EQ y)) EQ) EQ
theorem ev_chain {T : Wd} {W : WX} {r r' : R2} {o o' : D → D → MS → QD → Prop} {ta tb tc : TE} {wa wb wc : WE} (ho : Op2 T r o) (ho' : Op2 T r' o') (ha : Ev T W ta wa) (hb : Ev T W tb wb) (hc : Ev T W tc wc) : Ev T W (tChain r r' ta tb tc) (wChain o o' wa wb wc) := by
  intro σ H F Gh env M Q EQ R sr er hw rn rx
  refine ha σ H F Gh env M _ EQ _ sr er hw (fun v H1 F1 d M1 e1 sr1 dn q => ?_) rx
  refine hb σ H1 F1 Gh env M1 _ EQ _ sr1 (er.mono e1) q (fun v2 H2 F2 d2 M2 e2 sr2 dn2 q2 => ?_) (rx.mono e1)
  refine ho F2 Gh M2 H2 v v2 d d2 _ _ sr2 (dn.mono e2) dn2 q2 fun z H3 F3 dz M3 e3 sr3 dn3 q3 => ?_
  cases dn3 with
  | bl k =>
    cases k with
    | true =>
      refine ⟨true, rfl, ?_⟩
      show tc σ H3 _
      exact hc σ H3 F3 Gh env M3 _ EQ _ sr3 (er.mono ((e1.trans e2).trans e3)) q3 (fun w H4 F4 dw M4 e4 sr4 dn4 q4 => ho' F4 Gh M4 H4 v2 w d2 dw Q R sr4 ((dn2.mono e3).mono e4) dn4 q4 (rn.mono (((e1.trans e2).trans e3).trans e4))) (rx.mono ((e1.trans e2).trans e3))
    | false => exact ⟨false, rfl, rn (.bl false) H3 F3 (.bl false) M3 ((e1.trans e2).trans e3) sr3 (.bl false) q3⟩
  | _ => exact q3.elim
theorem je_chain {op op' : CmpOp} {a b c : Expr} {pos : Pos} {o o' : D → D → MS → QD → Prop} {wa wb wc : WE} (h : JOp B (compareOp op) o) (h' : JOp B (compareOp op') o') (ha : JE B a wa) (hb : JE B b wb) (hc : JE B c wc) (hm : lastMarks [op, op'] [b, c] = false) :
    JE B (.Compare a [op, op'] [b, c] pos) (wChain o o' wa wb wc) := fun W => by
  obtain ⟨r, r1, r2⟩ := h
  obtain ⟨r', r1', r2'⟩ := h'
  obtain ⟨ta, a1, a2⟩ := ha W
  obtain ⟨tb, b1, b2⟩ := hb W
  obtain ⟨tc, c1, c2⟩ := hc W
  exact ⟨_, fun X c tk => pe_chain (r1 X c) (r1' X c) (a1 X c tk) (b1 X c tk) (c1 X c tk) hm, ev_chain r2 r2' a2 b2 c2⟩
theorem jt_chain {op op' : CmpOp} {a b c : Expr} {pos : Pos} {o o' : D → D → MS → QD → Prop} {wa wb wc : WE} (h : JOp B (compareOp op) o) (h' : JOp B (compareOp op') o') (ha : JE B a wa) (hb : JE B b wb) (hc : JE B c wc) (hm : lastMarks [op, op'] [b, c] = false) :
    JT B (.Compare a [op, op'] [b, c] pos) (wTest (wChain o o' wa wb wc)) := fun W => by
  obtain ⟨r, r1, r2⟩ := h
  obtain ⟨r', r1', r2'⟩ := h'
  obtain ⟨ta, a1, a2⟩ := ha W
  obtain ⟨tb, b1, b2⟩ := hb W
  obtain ⟨tc, c1, c2⟩ := hc W
  exact ⟨_, fun X c tk => pt_chain (r1 X c) (r1' X c) (a1 X c tk) (b1 X c tk) (c1 X c tk) hm, et_test (ev_chain r2 r2' a2 b2 c2)⟩
/-! ### tests -/
def PlainT (e : Expr) : Prop := ∀ (env : Env) whole, isTrue e env whole = (do let v ← whole; standAt e.pos; holding [v] (truthy v))
theorem jt_val {e : Expr} {w : WE} (h : JE B e w) (he : PlainT e) : JT B e (wTest w) := fun W => by
  obtain ⟨t, h1, h2⟩ := h W
  exact ⟨_, fun X c tk => pt_val (h1 X c tk) (he X.env), et_B h2⟩
theorem jt_not {e : Expr} {pos : Pos} {w : WT} (h : JT B e w) : JT B (.UnaryOp .Not e pos) (wNotT w) := fun W => by
  obtain ⟨t, h1, h2⟩ := h W
  exact ⟨_, fun X c tk => pt_not (h1 X c tk), et_not h2⟩
def JW (B : Bd) (e : Expr) (w : WT) : Prop := ∀ W : WX, ∃ t : TT, (∀ X, B.In X → Takes X W → PW X e t) ∧ EvT B.T W t w
theorem JW.jt {e : Expr} {w : WT} (h : JW B e w) : JT B e w := fun W => by
  obtain ⟨t, h1, h2⟩ := h W
  exact ⟨t, fun X c tk => (h1 X c tk).pt, h2⟩
theorem jw_and1 {e : Expr} {pos : Pos} {w : WT} (h : JT B e w) : JW B (.BoolOp .And [e] pos) w := fun W => by
  obtain ⟨t, h1, h2⟩ := h W
  exact ⟨t, fun X c tk => pw_and1 (h1 X c tk), h2⟩
theorem jw_or1 {e : Expr} {pos : Pos} {w : WT} (h : JT B e w) : JW B (.BoolOp .Or [e] pos) w := fun W => by
  obtain ⟨t, h1, h2⟩ := h W
  exact ⟨t, fun X c tk => pw_or1 (h1 X c tk), h2⟩
theorem jw_and {a b : Expr} {rest : List Expr} {pos : Pos} {w u : WT} (h : JT B a w) (h' : JW B (.BoolOp .And (b :: rest) pos) u) : JW B (.BoolOp .And (a :: b :: rest) pos) (wAndT w u) := fun W => by
  obtain ⟨t, h1, h2⟩ := h W
  obtain ⟨t', h1', h2'⟩ := h' W
  exact ⟨_, fun X c tk => pw_and (h1 X c tk) (h1' X c tk), et_and h2 h2'⟩
theorem jw_or {a b : Expr} {rest : List Expr} {pos : Pos} {w u : WT} (h : JT B a w) (h' : JW B (.BoolOp .Or (b :: rest) pos) u) : JW B (.BoolOp .Or (a :: b :: rest) pos) (wOrT w u) := fun W => by
  obtain ⟨t, h1, h2⟩ := h W
  obtain ⟨t', h1', h2'⟩ := h' W
  exact ⟨_, fun X c tk => pw_or (h1 X c tk) (h1' X c tk), et_or h2 h2'⟩
/-- as values: bools -/
def wAndV (a b : WE) : WE := fun env M Q EQ => wTest a env M (fun c M1 => if c = true then b env M1 Q EQ else Q (.bl false) M1) EQ
def wOrV (a b : WE) : WE := fun env M Q EQ => wTest a env M (fun c M1 => if c = true then Q (.bl true) M1 else b env M1 Q EQ) EQ
def wNotV (a : WE) : WE := fun env M Q EQ => wTest a env M (fun c M1 => Q (.bl (!c)) M1) EQ
theorem je_one {op : BoolOp} {e : Expr} {pos : Pos} {w : WE} (h : JE B e w) : JE B (.BoolOp op [e] pos) w := fun W => by
  obtain ⟨t, h1, h2⟩ := h W
  exact ⟨t, fun X c tk => pe_one (h1 X c tk), h2⟩
theorem je_and {a b : Expr} {rest : List Expr} {pos : Pos} {w u : WE} (h : JE B a w) (h' : JE B (.BoolOp .And (b :: rest) pos) u) : JE B (.BoolOp .And (a :: b :: rest) pos) (wAndV w u) := fun W => by
  obtain ⟨t, h1, h2⟩ := h W
  obtain ⟨t', h1', h2'⟩ := h' W
  refine ⟨tAndV t t', fun X c tk => pe_and (h1 X c tk) (h1' X c tk), fun σ H F Gh env M Q EQ R sr er hw rn rx => ?_⟩
  exact et_B h2 σ H F Gh env M _ EQ _ sr er hw (fun c H1 F1 M1 e1 sr1 q => by
    cases c with
    | true => exact h2' σ H1 F1 Gh env M1 Q EQ R sr1 (er.mono e1) q (rn.mono e1) (rx.mono e1)
    | false => exact rn (.bl false) H1 F1 (.bl false) M1 e1 sr1 (.bl false) q) rx
theorem je_or {a b : Expr} {rest : List Expr} {pos : Pos} {w u : WE} (h : JE B a w) (h' : JE B (.BoolOp .Or (b :: rest) pos) u) : JE B (.BoolOp .Or (a :: b :: rest) pos) (wOrV w u) := fun W => by
  obtain ⟨t, h1, h2⟩ := h W
  obtain ⟨t', h1', h2'⟩ := h' W
  refine ⟨tOrV t t', fun X c tk => pe_or (h1 X c tk) (h1' X c tk), fun σ H F Gh env M Q EQ R sr er hw rn rx => ?_⟩
  exact et_B h2 σ H F Gh env M _ EQ _ sr er hw (fun c H1 F1 M1 e1 sr1 q => by
    cases c with
    | false => exact h2' σ H1 F1 Gh env M1 Q EQ R sr1 (er.mono e1) q (rn.mono e1) (rx.mono e1)
    | true => exact rn (.bl true) H1 F1 (.bl true) M1 e1 sr1 (.bl true) q) rx
theorem je_not {a : Expr} {pos : Pos} {w : WE} (h : JE B a w) : JE B (.UnaryOp .Not a pos) (wNotV w) := fun W => by
  obtain ⟨t, h1, h2⟩ := h W
  refine ⟨tNotV t, fun X c tk => pe_not (h1 X c tk), fun σ H F Gh env M Q EQ R sr er hw rn rx => ?_⟩
  exact et_B h2 σ H F Gh env M _ EQ _ sr er hw (fun c H1 F1 M1 e1 sr1 q => rn (.bl (!c)) H1 F1 (.bl (!c)) M1 e1 sr1 (.bl _) q) rx
theorem je_if {c a b : Expr} {pos : Pos} {wc : WT} {wa wb : WE} (hc : JT B c wc) (ha : JE B a wa) (hb : JE B b wb) : JE B (.IfExp c a b pos) (wIfE wc wa wb) := fun W => by
  obtain ⟨tc, c1, c2⟩ := hc W
  obtain ⟨ta, a1, a2⟩ := ha W
  obtain ⟨tb, b1, b2⟩ := hb W
  exact ⟨_, fun X c tk => pe_ifExp (c1 X c tk) (a1 X c tk) (b1 X c tk), ev_if c2 a2 b2⟩
theorem je_neg {a : Expr} {pos : Pos} {w : WE} (h : JE B a w) : JE B (.UnaryOp .USub a pos) (wUn negO w) := fun W => by
  obtain ⟨t, h1, h2⟩ := h W
  exact ⟨_, fun X c tk => pe_un un_neg (h1 X c tk), ev_un op1_neg h2⟩
/-! ### displays -/
theorem je_tup {es : List Expr} {k : Nat} {pos : Pos} {w : WA} (h : JA B es w) : JE B (.Tuple es k pos) (wTup w) := fun W => by
  obtain ⟨t, h1, _, h2⟩ := h W
  exact ⟨_, fun X c tk => pe_tupX (h1 X c tk), ev_tup h2⟩
theorem je_lst {es : List Expr} {pos : Pos} {w : WA} (h : JA B es w) : JE B (.List es pos) (wLst w) := fun W => by
  obtain ⟨t, h1, _, h2⟩ := h W
  exact ⟨_, fun X c tk => pe_lst (h1 X c tk), ev_lst h2⟩
/-- .. that may change -/
def wLstM (wa : WA) : WE := fun env M Q EQ => wa env M (fun xs M1 => xs.length ≤ sizeLine ∧ ∀ a, M1 a = none → Q (.ref a) (M1.set a (.lst xs))) EQ
theorem je_lstM {es : List Expr} {pos : Pos} {w : WA} (h : JA B es w) : JE B (.List es pos) (wLstM w) := fun W => by
  obtain ⟨t, h1, _, h2⟩ := h W
  refine ⟨_, fun X c tk => pe_lst (h1 X c tk), fun σ H F Gh env M Q EQ R sr er hw rn rx => ?_⟩
  refine h2 σ H F Gh env M _ EQ _ sr er hw (fun vs H1 F1 ds M1 e1 sr1 dn q => ?_) rx
  refine ⟨by rw [dn.length]; exact q.1, fun p hp => ?_⟩
  exact rn (.ref p) _ F1 (.ref p) _ e1 (sr1.newM (m := .lst ds) hp ⟨_, upd_same, dn⟩) (.ref p) (q.2 p (sr1.freeM hp))
/-! ### calls of the built-ins -/
def bltB (B : Bd) (x : Str) (v : Value) : Prop := glB B.sc x = true ∧ B.T.mg x = none ∧ bootBuiltins x = some v ∧ x ≠ "__name__"
theorem je_bi {x : Str} {id : String} {e : Expr} {es : List Expr} {p pos : Pos} {r : List V → Hp → VK → Prop} {o : List D → MS → QD → Prop} {w : WA} (hx : bltB B x (.builtin id)) (hc : ∀ X, B.In X → CallR X (.builtin id) r) (ho : OpN B.T r o) (ha : JA B (e :: es) w) (hs : noStar (e :: es) = true) :
    JE B (.Call (.Name x p) (e :: es) [] pos) (wCall o w) := fun W => by
  obtain ⟨t, h1, _, h2⟩ := ha W
  exact ⟨_, fun X c tk => pe_callB (hc X c) (gl_of c hx.1).1 (by rw [c.mg]; exact hx.2.1) hx.2.2.1 (h1 X c tk) hx.2.2.2 (gl_of c hx.1).2 (starEach_cons hs) (noStar_any (noStar_tail hs)), ev_cb ho h2⟩
theorem je_bt {x : Str} {id : String} {e : Expr} {es : List Expr} {p pos : Pos} {r : List V → Hp → VK → Prop} {o : List D → MS → QD → Prop} {w : WA} (hx : bltB B x (.type id)) (hc : ∀ X, B.In X → CallR X (.type id) r) (ho : OpN B.T r o) (ha : JA B (e :: es) w) (hs : noStar (e :: es) = true) :
    JE B (.Call (.Name x p) (e :: es) [] pos) (wCall o w) := fun W => by
  obtain ⟨t, h1, _, h2⟩ := ha W
  exact ⟨_, fun X c tk => pe_callTy (hc X c) (gl_of c hx.1).1 (by rw [c.mg]; exact hx.2.1) hx.2.2.1 (h1 X c tk) hx.2.2.2 (gl_of c hx.1).2 (starEach_cons hs) (noStar_any (noStar_tail hs)), ev_cb ho h2⟩
/-! ### subscripts -/
theorem je_ix {a b : Expr} {pos : Pos} {wa wb : WE} (ha : JE B a wa) (hb : JE B b wb) (hs : PlainIx b) : JE B (.Subscript a b pos) (wBin itemO wa wb) := fun W => by
  obtain ⟨ta, a1, a2⟩ := ha W
  obtain ⟨tb, b1, b2⟩ := hb W
  refine ⟨tOp (rIxAny B.T.K) ta tb, fun X c tk => ?_, ev_bin op2_item a2 b2⟩
  have z := pe_ix (pos := pos) (ixR_any (X := X) (by have := c.un; omega)) (a1 X c tk) (b1 X c tk) hs
  rw [c.K] at z
  exact z
def JO (B : Bd) (e : Option Expr) (w : WO) : Prop := ∀ W : WX, ∃ t : TO, (∀ X, B.In X → Takes X W → PO X e t) ∧ EvO B.T W t w
theorem jo_none : JO B none wNoPart := fun W => ⟨_, fun X c tk => po_none, fun σ H F Gh env M Q EQ R sr er hw rn rx => rn none H F M (Ex.refl F) sr hw⟩
end
end G

/-! Eng12: operations and calls by name; targets; statements. -/
namespace G
open PySem PySem.Spec PyProof.Rows L2

theorem boot_len : bootBuiltins "len" = some (.builtin "len") := by decide +kernel
theorem boot_all : bootBuiltins "all" = some (.builtin "all") := by decide +kernel
theorem boot_any : bootBuiltins "any" = some (.builtin "any") := by decide +kernel
theorem one30 {e : Expr} : [e].length < 30 := by show 1 < 30; decide
section
variable {B : Bd}
/-! ### the operators -/
theorem jop_add : JOp B (binaryOp .Add) addO := ⟨rAddAny B.T.K, fun X c => by rw [← c.K]; exact opR_add, op2_add⟩
theorem jop_sub : JOp B (binaryOp .Sub) subO := ⟨_, fun X c => opR_sub, op2_sub⟩
theorem jop_mul : JOp B (binaryOp .Mult) mulO := ⟨rMulAny B.T.K, fun X c => by rw [← c.K]; exact opR_mul, op2_mul⟩
theorem jop_mod : JOp B (binaryOp .Mod) modO := ⟨_, fun X c => op_mod, op2_mod⟩
theorem jop_fdiv : JOp B (binaryOp .FloorDiv) fdivO := ⟨_, fun X c => op_fdivW, op2_fdiv⟩
theorem jop_pow : JOp B (binaryOp .Pow) powO := ⟨_, fun X c => opR_powW, op2_pow⟩
theorem jop_lt : JOp B (compareOp .Lt) ltO := ⟨_, fun X c => opR_lt, op2_lt⟩
theorem jop_le : JOp B (compareOp .LtE) leO := ⟨_, fun X c => opR_le, op2_le⟩
theorem jop_gt : JOp B (compareOp .Gt) gtO := ⟨_, fun X c => opR_gt, op2_gt⟩
theorem jop_ge : JOp B (compareOp .GtE) geO := ⟨_, fun X c => opR_ge, op2_ge⟩
theorem jop_eq : JOp B (compareOp .Eq) eqO := ⟨rEqAny B.T.K, fun X c => by rw [← c.K]; exact opR_eq c.un, op2_eq⟩
theorem jop_ne : JOp B (compareOp .NotEq) neO := ⟨rNeAny B.T.K, fun X c => by rw [← c.K]; exact opR_ne c.un, op2_ne⟩
theorem jop_is : JOp B (compareOp .Is) isNO := ⟨_, fun X c => op_isN, op2_isN⟩
theorem jop_isnot : JOp B (compareOp .IsNot) notNO := ⟨_, fun X c => op_notN, op2_notN⟩
theorem jop_in : JOp B (compareOp .In) (inO false) := ⟨rInAny B.T.K false, fun X c => by rw [← c.K]; exact opR_in (by have := c.un; omega), op2_in false⟩
theorem jop_notin : JOp B (compareOp .NotIn) (inO true) := ⟨rInAny B.T.K true, fun X c => by rw [← c.K]; exact opR_notIn (by have := c.un; omega), op2_in true⟩
/-! ### the built-in calls -/
section
variable {e : Expr} {es : List Expr} {p pos : Pos} {w : WA}
theorem je_isinstance (ok : WdOk B.T) (hx : glB B.sc "isinstance" = true ∧ B.T.mg "isinstance" = none) (ha : JA B (e :: es) w) (hs : noStar (e :: es) = true) : JE B (.Call (.Name "isinstance" p) (e :: es) [] pos) (wCall (isiO B.T) w) :=
  je_bi ⟨hx.1, hx.2, boot_isinstance, by decide⟩ (r := rIsiAny B.T.K) (fun X c => by rw [← c.K]; exact callR_isi) (opN_isi ok) ha hs
theorem je_len (hx : glB B.sc "len" = true ∧ B.T.mg "len" = none) (ha : JA B (e :: es) w) (hs : noStar (e :: es) = true) : JE B (.Call (.Name "len" p) (e :: es) [] pos) (wCall lenO w) :=
  je_bi ⟨hx.1, hx.2, boot_len, by decide⟩ (r := rLenAny B.T.K B.T.P B.T.w) (fun X c => by rw [← c.K, ← c.P, ← c.w]; exact callR_len) opN_len ha hs
theorem je_all (hx : glB B.sc "all" = true ∧ B.T.mg "all" = none) (ha : JA B (e :: es) w) (hs : noStar (e :: es) = true) (hcm : B.cm = true := by rfl) : JE B (.Call (.Name "all" p) (e :: es) [] pos) (wCall allO w) :=
  je_bi ⟨hx.1, hx.2, boot_all, by decide⟩ (r := rBools B.T.K fun bs => bs.all id) (fun X c => by rw [← c.K]; exact cr_all (c.calm hcm)) (opN_bools _) ha hs
theorem je_any (hx : glB B.sc "any" = true ∧ B.T.mg "any" = none) (ha : JA B (e :: es) w) (hs : noStar (e :: es) = true) (hcm : B.cm = true := by rfl) : JE B (.Call (.Name "any" p) (e :: es) [] pos) (wCall anyO w) :=
  je_bi ⟨hx.1, hx.2, boot_any, by decide⟩ (r := rBools B.T.K fun bs => bs.any id) (fun X c => by rw [← c.K]; exact cr_any (c.calm hcm)) (opN_bools _) ha hs
theorem je_abs (hx : glB B.sc "abs" = true ∧ B.T.mg "abs" = none) (ha : JA B (e :: es) w) (hs : noStar (e :: es) = true) : JE B (.Call (.Name "abs" p) (e :: es) [] pos) (wCall absC w) :=
  je_bi ⟨hx.1, hx.2, boot_abs, by decide⟩ (r := rAbsC) (fun X c => call_abs) opN_abs ha hs
theorem je_max (hx : glB B.sc "max" = true ∧ B.T.mg "max" = none) (ha : JA B (e :: es) w) (hs : noStar (e :: es) = true) (hcm : B.cm = true := by rfl) : JE B (.Call (.Name "max" p) (e :: es) [] pos) (wCall max2C w) :=
  je_bi ⟨hx.1, hx.2, boot_max, by decide⟩ (r := rMax2C) (fun X c => call_max2 (c.calm hcm)) opN_max2 ha hs
theorem je_min (hx : glB B.sc "min" = true ∧ B.T.mg "min" = none) (ha : JA B (e :: es) w) (hs : noStar (e :: es) = true) (hcm : B.cm = true := by rfl) : JE B (.Call (.Name "min" p) (e :: es) [] pos) (wCall min2C w) :=
  je_bi ⟨hx.1, hx.2, boot_min, by decide⟩ (r := rMin2C) (fun X c => call_min2 (c.calm hcm)) opN_min2 ha hs
theorem je_intC (hx : glB B.sc "int" = true ∧ B.T.mg "int" = none) (ha : JA B (e :: es) w) (hs : noStar (e :: es) = true) : JE B (.Call (.Name "int" p) (e :: es) [] pos) (wCall intC w) :=
  je_bt ⟨hx.1, hx.2, boot_int, by decide⟩ (r := rIntC) (fun X c => callR_int) opN_int ha hs
theorem je_strC (hx : glB B.sc "str" = true ∧ B.T.mg "str" = none) (ha : JA B (e :: es) w) (hs : noStar (e :: es) = true) : JE B (.Call (.Name "str" p) (e :: es) [] pos) (wCall strC w) :=
  je_bt ⟨hx.1, hx.2, boot_str, by decide⟩ (r := rStrC) (fun X c => call_str_int) opN_str ha hs
theorem je_tupleC (hx : glB B.sc "tuple" = true ∧ B.T.mg "tuple" = none) (ha : JA B (e :: es) w) (hs : noStar (e :: es) = true) : JE B (.Call (.Name "tuple" p) (e :: es) [] pos) (wCall tupleO w) :=
  je_bt ⟨hx.1, hx.2, boot_tuple, by decide⟩ (r := rTupC B.T.K) (fun X c => by rw [← c.K]; exact call_tupleX) opN_tuple ha hs
theorem je_listC (hx : glB B.sc "list" = true ∧ B.T.mg "list" = none) (ha : JA B (e :: es) w) (hs : noStar (e :: es) = true) : JE B (.Call (.Name "list" p) (e :: es) [] pos) (wCall listO w) :=
  je_bt ⟨hx.1, hx.2, boot_list, by decide⟩ (r := rListC B.T.K) (fun X c => by rw [← c.K]; exact call_list_of) opN_list ha hs
theorem je_setC (hx : glB B.sc "set" = true ∧ B.T.mg "set" = none) (ha : JA B (e :: es) w) (hs : noStar (e :: es) = true) (hcm : B.cm = true := by rfl) : JE B (.Call (.Name "set" p) (e :: es) [] pos) (wCall setC w) :=
  je_bt ⟨hx.1, hx.2, boot_set, by decide⟩ (r := rSetC B.T.K B.T.P B.T.w) (fun X c => by rw [← c.K, ← c.P, ← c.w]; exact callR_set (c.calm hcm)) opN_set ha hs
end
/-! ### methods of the built-in types -/
section
variable {o e : Expr} {es : List Expr} {apos pos : Pos} {w : WE} {wa : WA}
theorem je_append (ho : JE B o w) (ha : JA B [e] wa) (hs : noStar [e] = true) (hb : ABase o "append") (hl : (apos.endLine == pos.line) = true) : JE B (.Call (.Attribute o "append" apos) [e] [] pos) (wBM "list" appendO w wa) :=
  je_bm PySem.F.plainAttrs_list PySem.F.slot_list_append PySem.F.type_list_append (fun X c => mt_append) opm_append ho ha hs hb one30 hl
theorem je_extend (ho : JE B o w) (ha : JA B [e] wa) (hs : noStar [e] = true) (hb : ABase o "extend") (hl : (apos.endLine == pos.line) = true) : JE B (.Call (.Attribute o "extend" apos) [e] [] pos) (wBM "list" extendO w wa) :=
  je_bm PySem.F.plainAttrs_list PySem.F.slot_list_extend PySem.F.type_list_extend (fun X c => mt_extend) opm_extend ho ha hs hb one30 hl
theorem je_popAt (ho : JE B o w) (ha : JA B [e] wa) (hs : noStar [e] = true) (hb : ABase o "pop") (hl : (apos.endLine == pos.line) = true) : JE B (.Call (.Attribute o "pop" apos) [e] [] pos) (wBM "list" popAtO w wa) :=
  je_bm PySem.F.plainAttrs_list PySem.F.slot_list_pop PySem.F.type_list_pop (fun X c => mt_popAt) opm_popAt ho ha hs hb one30 hl
theorem je_pop (ho : JE B o w) (hb : ABase o "pop") (hl : (apos.endLine == pos.line) = true) : JE B (.Call (.Attribute o "pop" apos) [] [] pos) (wBM "list" popO w wNil) :=
  je_bm0 PySem.F.plainAttrs_list PySem.F.slot_list_pop PySem.F.type_list_pop (fun X c => mt_pop) opm_pop ho hb hl
theorem je_join (ho : JE B o w) (ha : JA B [e] wa) (hs : noStar [e] = true) (hb : ABase o "join") (hl : (apos.endLine == pos.line) = true) : JE B (.Call (.Attribute o "join" apos) [e] [] pos) (wBM "str" joinO w wa) :=
  je_bm PySem.F.plainAttrs_str PySem.F.slot_str_join PySem.F.type_str_join (r := rJoin B.T.K) (fun X c => by rw [← c.K]; exact mt_join) opm_join ho ha hs hb one30 hl
theorem je_split (ho : JE B o w) (ha : JA B [e] wa) (hs : noStar [e] = true) (hb : ABase o "split") (hl : (apos.endLine == pos.line) = true) : JE B (.Call (.Attribute o "split" apos) [e] [] pos) (wBM "str" splitO w wa) :=
  je_bm PySem.F.plainAttrs_str PySem.F.slot_str_split PySem.F.type_str_split (r := rSplit) (fun X c => mt_split) opm_split ho ha hs hb one30 hl
end
/-! ### slices -/
theorem jo_some {e : Expr} {w : WE} (h : JE B e w) : JO B (some e) (wPart w) := fun W => by
  obtain ⟨t, h1, h2⟩ := h W
  exact ⟨_, fun X c tk => po_some (h1 X c tk), eo_some h2⟩
theorem je_sl {e : Expr} {lo hi : Option Expr} {p2 pos : Pos} {w : WE} {l u : WO} (h : JE B e w) (hl : JO B lo l) (hu : JO B hi u) : JE B (.Subscript e (.Slice lo hi none p2) pos) (wSl w l u) := fun W => by
  obtain ⟨t, h1, h2⟩ := h W
  obtain ⟨tl, l1, l2⟩ := hl W
  obtain ⟨tu, u1, u2⟩ := hu W
  refine ⟨tSl (rSlXny B.T.K) t tl tu, fun X c tk => ?_, ev_sl h2 l2 u2⟩
  have z := pe_slice (p2 := p2) (pos := pos) (slR_any (X := X)) (h1 X c tk) (l1 X c tk) (u1 X c tk)
  rw [c.K] at z
  exact z
/-! ### targets -/
def JG (B : Bd) (tg : Expr) (w : WG) : Prop := ∀ W : WX, ∃ g : TG, (∀ X, B.In X → Takes X W → PG X tg g) ∧ EvG B.T W g w
def JGs (B : Bd) (es : List Expr) (w : WGs) : Prop := ∀ W : WX, ∃ g : TGs, (∀ X, B.In X → Takes X W → PGs X es g) ∧ EvGs B.T W g w
def locB (B : Bd) (i : Nat) (x : Str) : Bool := (B.sc.names.lookup x == some NameKind.local || (B.sc.names.lookup x == some NameKind.cell && B.fn x)) && decide (B.N[i]? = some x)
theorem loc_of {X : Cx} {i : Nat} {x : Str} (c : B.In X) (h : locB B i x = true) : X.N[i]? = some x ∧ L2.Loc X.env.scope x ∧ (X.fn x = true ∨ X.env.scope.names.lookup x = some .local) := by
  unfold locB at h
  simp only [Bool.and_eq_true, Bool.or_eq_true, beq_iff_eq, decide_eq_true_eq] at h
  obtain ⟨h1, h2⟩ := h
  refine ⟨by rw [c.hN]; exact h2, ?_, ?_⟩
  · unfold L2.Loc
    rw [c.hsc]
    exact h1.imp id fun z => z.1
  · rw [c.hsc]
    rcases h1 with h1 | h1
    · exact .inr h1
    · exact .inl (c.fnC x h1.2)
theorem jg_name {i : Nat} {x : Str} {pos : Pos} (h : locB B i x = true) : JG B (.Name x pos) (wgName i) := fun W =>
  ⟨gName i, fun X c tk => pg_name (by rw [c.hN]; exact c.nd) (loc_of c h).1 (loc_of c h).2.1 (loc_of c h).2.2, eg_name⟩
theorem jgs_nil : JGs B [] wgNil := fun W => ⟨gNil, fun X c tk => pgs_nil, egs_nil⟩
/-- each item is stored by itself -/
def plainTgs : List Expr → Bool
  | [] => true
  | .Starred _ _ :: _ => false
  | _ :: r => plainTgs r
theorem assignEach_cons {e : Expr} {r : List Expr} {env : Env} (h : plainTgs (e :: r) = true) : assignEach (e :: r) env = (false, assign e env) :: assignEach r env := by
  cases e <;> first | rfl | (cases h)
theorem plainTgs_tail {e : Expr} {r : List Expr} (h : plainTgs (e :: r) = true) : plainTgs r = true := by
  cases e <;> first | exact h | (cases h)
theorem plainTgs_len {env : Env} : ∀ {r : List Expr}, plainTgs r = true → (assignEach r env).length = r.length
  | [], _ => rfl
  | e :: r, h => by rw [assignEach_cons h, List.length_cons, List.length_cons, plainTgs_len (plainTgs_tail h)]
theorem plainTgs_find {env : Env} : ∀ {r : List Expr}, plainTgs r = true → (assignEach r env).findIdx? (·.1) = none
  | [], _ => rfl
  | e :: r, h => by
    rw [assignEach_cons h, List.findIdx?_cons, plainTgs_find (plainTgs_tail h)]
    rfl
theorem jgs_cons {e : Expr} {es : List Expr} {w : WG} {wr : WGs} (h : JG B e w) (hr : JGs B es wr) (hs : plainTgs (e :: es) = true) : JGs B (e :: es) (wgCons w wr) := fun W => by
  obtain ⟨g, h1, h2⟩ := h W
  obtain ⟨gr, r1, r2⟩ := hr W
  exact ⟨_, fun X c tk => pgs_cons (h1 X c tk) (r1 X c tk) (by rw [assignEach_cons hs]; rfl), egs_cons h2 r2⟩
theorem jg_tup {es : List Expr} {k : Nat} {pos : Pos} {w : WGs} (h : JGs B es w) (hs : plainTgs es = true) (hcm : B.cm = true := by rfl) : JG B (.Tuple es k pos) (wgTup es.length w) := fun W => by
  obtain ⟨g, h1, h2⟩ := h W
  refine ⟨gTup B.T.K es.length g, fun X c tk => ?_, eg_tup h2⟩
  have z := pg_tup (k := k) (pos := pos) (c.calm hcm) (h1 X c tk) (plainTgs_len hs) (plainTgs_find hs)
  rw [c.K] at z
  exact z
theorem jg_sub {o i : Expr} {pos : Pos} {wo wi : WE} (ho : JE B o wo) (hi : JE B i wi) (ha : ∀ (env : Env) v, assign (.Subscript o i pos) env v = (do
      let ov ← holding [v] (eval o env)
      let iv ← holding [v, ov] (eval i env)
      standAt pos
      holding [v, ov, iv] (setItem ov iv v)
      release [v, ov, iv] [])) : JG B (.Subscript o i pos) (wgSub wo wi) := fun W => by
  obtain ⟨to, o1, o2⟩ := ho W
  obtain ⟨ti, i1, i2⟩ := hi W
  exact ⟨_, fun X c tk => pg_sub (o1 X c tk) (i1 X c tk) (set_it (by have := c.un; omega)) (ha X.env), eg_sub o2 i2⟩
/-! ### statements -/
/-- the body itself (no block within it) -/
abbrev Bd.InS (B : Bd) (X : Cx) : Prop := B.In X ∧ X.stack = X.env :: X.outer ∧ X.env.frame = some X.env.locals
def JS (B : Bd) (st : Stmt) (w : WS) : Prop := ∀ W : WX, ∃ t : TS, (∀ X, B.InS X → Takes X W → PS X st t) ∧ EvS B.T W t w
def JSs (B : Bd) (ss : List Stmt) (w : WS) : Prop := ∀ W : WX, ∃ t : TS, (∀ X, B.InS X → Takes X W → PSs X ss t) ∧ EvS B.T W t w
theorem js_nil : JSs B [] wNext := fun W => ⟨_, fun X c tk => pss_nil, es_next⟩
theorem js_cons {s : Stmt} {r : List Stmt} {w u : WS} (h : JS B s w) (h' : JSs B r u) : JSs B (s :: r) (wSeq w u) := fun W => by
  obtain ⟨t, h1, h2⟩ := h W
  obtain ⟨t', h1', h2'⟩ := h' W
  exact ⟨_, fun X c tk => pss_cons (h1 X c tk) (h1' X c tk), es_seq h2 h2'⟩
theorem js_one {s : Stmt} {w : WS} (h : JS B s w) : JSs B [s] w := fun W => by
  obtain ⟨t, h1, h2⟩ := h W
  exact ⟨_, fun X c tk => pss_one (h1 X c tk), h2⟩
theorem js_pass {pos : Pos} : JS B (.Pass pos) wNext := fun W => ⟨_, fun X c tk => ps_pass, es_next⟩
theorem js_break {pos : Pos} : JS B (.Break pos) wBreak := fun W => ⟨_, fun X c tk => ps_break, es_break⟩
theorem js_continue {pos : Pos} : JS B (.Continue pos) wCont := fun W => ⟨_, fun X c tk => ps_continue, es_cont⟩
theorem js_ret {e : Expr} {pos : Pos} {w : WE} (h : JE B e w) : JS B (.Return (some e) pos) (wRet w) := fun W => by
  obtain ⟨t, h1, h2⟩ := h W
  exact ⟨_, fun X c tk => ps_ret (h1 X c.1 tk), es_ret h2⟩
theorem js_retN {pos : Pos} : JS B (.Return none pos) wRetN := fun W => ⟨_, fun X c tk => ps_retN, es_retN⟩
def noComp : Expr → Bool
  | .ListComp .. => false
  | .SetComp .. => false
  | .DictComp .. => false
  | _ => true
theorem noComp_swap {e : Expr} {t : Option Expr} {n : Nat} {env : Env} (h : noComp e = true) : swapsWith e t n env = pure false := by
  cases e <;> first | rfl | (cases h)
theorem js_expr {e : Expr} {pos : Pos} {w : WE} (h : JE B e w) (hc : noComp e = true) : JS B (.Expr e pos) (wDrop w) := fun W => by
  obtain ⟨t, h1, h2⟩ := h W
  exact ⟨_, fun X c tk => ps_expr (h1 X c.1 tk) (noComp_swap hc), es_drop h2⟩
theorem js_if {c : Expr} {a b : List Stmt} {pos : Pos} {wc : WT} {wa wb : WS} (hc : JT B c wc) (ha : JSs B a wa) (hb : JSs B b wb) : JS B (.If c a b pos) (wIf wc wa wb) := fun W => by
  obtain ⟨tc, c1, c2⟩ := hc W
  obtain ⟨ta, a1, a2⟩ := ha W
  obtain ⟨tb, b1, b2⟩ := hb W
  exact ⟨_, fun X c tk => ps_if (c1 X c.1 tk) (a1 X c tk) (b1 X c tk), es_if c2 a2 b2⟩
/-- no stores in another order -/
def noSwap : Expr → Expr → Bool
  | .Tuple .., .Tuple .. => false
  | .List .., .Tuple .. => false
  | .Starred .., _ => false
  | _, _ => true
theorem noSwap_ok {tg e : Expr} {env : Env} (h : noSwap tg e = true) : swappedStores [tg] e env = pure none := by
  cases tg <;> cases e <;> first | rfl | (cases h)
theorem js_asg {tg e : Expr} {pos : Pos} {w : WE} {g : WG} (h : JE B e w) (hg : JG B tg g) (hc : noComp e = true) (hn : noSwap tg e = true) (hp : plainTgs [tg] = true) : JS B (.Assign [tg] e pos) (wAsg w g) := fun W => by
  obtain ⟨t, h1, h2⟩ := h W
  obtain ⟨tg', g1, g2⟩ := hg W
  exact ⟨_, fun X c tk => ps_asg (h1 X c.1 tk) (g1 X c.1 tk) (noComp_swap hc) (noSwap_ok hn) (by rw [assignEach_cons hp]; rfl), es_asg h2 g2⟩
/-- x, y = a, b -/
def isStarred : Expr → Bool
  | .Starred .. => true
  | _ => false
def swap2 (B : Bd) (i j : Nat) (x y : Str) (px py : Pos) (a b : Expr) : Bool :=
  B.sc.kind == .function && B.sc.names.lookup x == some NameKind.local && B.sc.names.lookup y == some NameKind.local && px.line == py.line && !(x == y) && !isStarred a && !isStarred b && !([a, b].all (foldedForSure 8)) && !([a, b].all (constantsAlone 8)) && decide (B.N[i]? = some x) && decide (B.N[j]? = some y) && !(i == j)
theorem swap2_ok {X : Cx} {i j : Nat} {x y : Str} {px py pt pt2 : Pos} {a b : Expr} {kt k2 : Nat} (c : B.In X) (h : swap2 B i j x y px py a b = true) : swappedStores [.Tuple [.Name x px, .Name y py] kt pt] (.Tuple [a, b] k2 pt2) X.env = pure (some [x, y]) := by
  unfold swap2 at h
  simp only [Bool.and_eq_true, Bool.not_eq_true', decide_eq_true_eq] at h
  obtain ⟨⟨⟨⟨⟨⟨⟨⟨⟨⟨⟨h1, h2⟩, h3⟩, h4⟩, h5⟩, h6⟩, h7⟩, h8⟩, h9⟩, _⟩, _⟩, _⟩ := h
  have e1 : X.env.scope.kind = .function := by rw [c.hsc]; exact beq_iff_eq.mp h1
  have k1 : X.env.kindOf x = some .local := by show X.env.scope.names.lookup x = _; rw [c.hsc]; exact beq_iff_eq.mp h2
  have k2' : X.env.kindOf y = some .local := by show X.env.scope.names.lookup y = _; rw [c.hsc]; exact beq_iff_eq.mp h3
  have ek : X.env.blockKind = .function := by unfold Env.blockKind; rw [e1]; rfl
  have hl : py.line = px.line := (beq_iff_eq.mp h4).symm
  have hxy : (y == x) = false := by
    rw [beq_eq_false_iff_ne] at h5 ⊢
    exact fun z => h5 z.symm
  have ha : (match (generalizing := false) a with | .Starred .. => true | _ => false) = false := h6
  have hb : (match (generalizing := false) b with | .Starred .. => true | _ => false) = false := h7
  have p1 : (Expr.Name x px).pos = px := rfl
  have p2 : (Expr.Name y py).pos = py := rfl
  have p3 : (Expr.Name x px).pos.line = px.line := rfl
  unfold swappedStores
  simp [ek, ha, hb, k1, k2', hl, hxy, h8, h9, p1, p2, List.filterMap_cons, List.eraseDups_cons]
  intro h
  rcases h with h | h
  · exact absurd (h6.symm.trans (show isStarred a = true from h)) (by decide)
  · exact absurd (h7.symm.trans (show isStarred b = true from h)) (by decide)
theorem js_par {i j : Nat} {x y : Str} {px py pt pt2 pos : Pos} {a b : Expr} {kt k2 : Nat} {wa : WA} (h : swap2 B i j x y px py a b = true) (ha : JA B [a, b] wa) (hcm : B.cm = true := by rfl) : JS B (.Assign [.Tuple [.Name x px, .Name y py] kt pt] (.Tuple [a, b] k2 pt2) pos) (wPar i j wa) := fun W => by
  obtain ⟨t, h1, _, h2⟩ := ha W
  refine ⟨_, fun X c tk => ?_, es_par h2⟩
  have hw := swap2_ok (pt := pt) (pt2 := pt2) (kt := kt) (k2 := k2) c.1 h
  unfold swap2 at h
  simp only [Bool.and_eq_true, Bool.not_eq_true', decide_eq_true_eq] at h
  obtain ⟨⟨⟨⟨⟨⟨⟨⟨⟨⟨⟨_, h2⟩, h3⟩, _⟩, _⟩, _⟩, _⟩, _⟩, _⟩, g1⟩, g2⟩, g3⟩ := h
  exact ps_par (c.1.calm hcm) (by rw [c.1.hN]; exact c.1.nd) (by rw [c.1.hN]; exact g1) (by rw [c.1.hN]; exact g2) (by simpa using g3) (by rw [c.1.hsc]; exact beq_iff_eq.mp h2) (by rw [c.1.hsc]; exact beq_iff_eq.mp h3) (h1 X c.1 tk) hw
/-- e.f = v -/
theorem js_fld {o e : Expr} {f : Str} {p pos : Pos} {wo w : WE} (ok : WdOk B.T) (ho : JE B o wo) (h : JE B e w) (hc : noComp e = true) : JS B (.Assign [.Attribute o f p] e pos) (wSetFld B.T f wo w) := fun W => by
  obtain ⟨t, h1, h2⟩ := h W
  obtain ⟨to, o1, o2⟩ := ho W
  refine ⟨sFld B.T.K to t f, fun X c tk => ?_, es_fld ok o2 h2⟩
  have z := ps_fld (f := f) (pos' := p) (pos := pos) (o1 X c.1 tk) (h1 X c.1 tk) (noComp_swap hc)
  rw [c.1.K] at z
  exact z
theorem js_del {o i : Expr} {p pos : Pos} {wo wi : WE} (ho : JE B o wo) (hi : JE B i wi) : JS B (.Delete [.Subscript o i p] pos) (wDel wo wi) := fun W => by
  obtain ⟨to, o1, o2⟩ := ho W
  obtain ⟨ti, i1, i2⟩ := hi W
  exact ⟨_, fun X c tk => ps_delL (o1 X c.1 tk) (i1 X c.1 tk), es_del o2 i2⟩
/-- a ghost step -/
theorem js_frz {s : Stmt} {w : WS} (i : Nat) (h : JS B s w) : JS B s (wFrz i w) := fun W => by
  obtain ⟨t, h1, h2⟩ := h W
  exact ⟨t, h1, es_frz h2⟩
end
end G

/-! Eng13: what is walked; for; list comprehensions. -/
namespace G
open PySem PySem.Spec PyProof.Rows L2

section
variable {T : Wd}
/-- what an iterator gives: xs, as long as Kp stands -/
def ItOk (T : Wd) (F : Hp) (J : It) (Kp : MS → Prop) (xs : List D) : Prop :=
  ∀ F' M Gh H, Ex F F' → SR T F' M Gh H → Kp M → (∀ i, i < xs.length → J.go i H) ∧ (∀ i, xs.length ≤ i → J.stop i H) ∧
    ∀ i x H', i < xs.length → J.yld i H x H' → ∃ F'' d, Ex F' F'' ∧ SR T F'' M Gh H' ∧ Den T F'' x d ∧ xs[i]? = some d
abbrev WI := EnvD → MS → ((MS → Prop) → List D → MS → Prop) → EK → Prop
variable (T) in
def EvI (W : WX) (t : TI) (w : WI) : Prop := ∀ (σ : L2.St) (H F Gh : Hp) (env : EnvD) (M : MS) Q EQ (R : It → Hp → Prop), SR T F M Gh H → EnvR T F σ env → w env M Q EQ →
  (∀ J H' F' Kp xs M', Ex F F' → SR T F' M' Gh H' → ItOk T F' J Kp xs → Kp M' → Q Kp xs M' → R J H') → RX T F Gh EQ W σ → t σ H R
/-! ### for -/
def forD (wg : WG) (wb : WS) (K : KD) (Kp : MS → Prop) : List D → EnvD → MS → Prop
  | [], env, M => K.nx env M
  | x :: xs, env, M => wg x env M (fun env1 M1 => wb env1 M1 { K with nx := fun e2 M2 => Kp M2 ∧ forD wg wb K Kp xs e2 M2, ct := fun e2 M2 => Kp M2 ∧ forD wg wb K Kp xs e2 M2, bk := K.nx }) (fun y M1 => K.ex y env M1)
def wFor (wi : WI) (wg : WG) (wb : WS) : WS := fun env M K => wi env M (fun Kp xs M1 => forD wg wb K Kp xs env M1) (fun y M1 => K.ex y env M1)
theorem drop_get {α : Type} {xs : List α} {i : Nat} {d : α} (h : xs[i]? = some d) : xs.drop i = d :: xs.drop (i + 1) := by
  obtain ⟨hl, e⟩ := List.getElem?_eq_some_iff.mp h
  rw [List.drop_eq_getElem_cons hl, e]
theorem es_for {W : WX} {wi : TI} {wI : WI} {g : TG} {wg : WG} {tb : TS} {wb : WS} (hi : EvI T W wi wI) (hg : EvG T W g wg) (hb : EvS T W tb wb) : EvS T W (tFor wi g tb) (wFor wI wg wb) := by
  intro σ H F Gh env M K De sr er hw rk
  refine hi σ H F Gh env M _ _ _ sr er hw (fun J H1 F1 Kp xs M1 e1 sr1 ok k1 q => ?_) (rk.ex.at er)
  refine ⟨fun i m σ' H' => ∃ F' M' env', Ex F1 F' ∧ SR T F' M' Gh H' ∧ EnvR T F' σ' env' ∧ Kp M' ∧ m = xs.length - i ∧ i ≤ xs.length ∧ forD wg wb K Kp (xs.drop i) env' M', ⟨xs.length, F1, M1, env, Ex.refl _, sr1, er.mono e1, k1, rfl, Nat.zero_le _, q⟩, ?_⟩
  rintro i m σ2 H2 ⟨F2, M2, env2, e2, sr2, er2, k2, rfl, hle, q2⟩
  obtain ⟨h1, h2, h3⟩ := ok F2 M2 Gh H2 e2 sr2 k2
  by_cases hlt : i < xs.length
  · refine .inr ⟨h1 i hlt, fun σ' H' => ∃ F' M' env', Ex F1 F' ∧ SR T F' M' Gh H' ∧ EnvR T F' σ' env' ∧ Kp M' ∧ forD wg wb K Kp (xs.drop (i + 1)) env' M', ?_, ?_⟩
    · rintro σ' H' ⟨F', M', env', a, b, c, d, e⟩
      exact ⟨_, by omega, F', M', env', a, b, c, d, rfl, hlt, e⟩
    · intro x H' y
      obtain ⟨F3, d, e3, sr3, dn, hd⟩ := h3 i x H' hlt y
      rw [drop_get hd] at q2
      have q2 : wg d env2 M2 _ _ := q2
      have e13 : Ex F F3 := (e1.trans e2).trans e3
      refine hg σ2 H' F3 Gh env2 M2 x d _ _ _ sr3 (er2.mono e3) dn q2 (fun σ4 H4 F4 env4 M4 e4 sr4 er4 q4 => ?_) ((rk.ex.mono e13).at (er2.mono e3))
      refine hb σ4 H4 F4 Gh env4 M4 _ _ sr4 er4 q4 ⟨?_, (rk.mono (e13.trans e4)).rt, (rk.mono (e13.trans e4)).nx, ?_, (rk.mono (e13.trans e4)).ex⟩
      · exact fun σ5 H5 F5 env5 M5 e5 sr5 er5 ⟨k5, q5⟩ => ⟨F5, M5, env5, ((e2.trans e3).trans e4).trans e5, sr5, er5, k5, q5⟩
      · exact fun σ5 H5 F5 env5 M5 e5 sr5 er5 ⟨k5, q5⟩ => ⟨F5, M5, env5, ((e2.trans e3).trans e4).trans e5, sr5, er5, k5, q5⟩
  · have hi' : i = xs.length := by omega
    refine .inl ⟨h2 i (by omega), ?_⟩
    rw [hi', List.drop_length] at q2
    exact rk.nx σ2 H2 F2 env2 M2 (e1.trans e2) sr2 er2 q2
/-! ### list comprehensions -/
def wipeD (env : EnvD) : List Nat → EnvD
  | [] => env
  | v :: vs => (wipeD env vs).set v none
theorem EnvR.wipe {F : Hp} {σ : L2.St} {env : EnvD} (h : EnvR T F σ env) : ∀ vs : List Nat, EnvR T F (wipe σ vs) (wipeD env vs)
  | [] => h
  | v :: vs => by
    have ih := EnvR.wipe h vs
    show EnvR T F ((L2.wipe σ vs).set v none) ((wipeD env vs).set v none)
    refine ⟨by rw [List.length_set, List.length_set]; exact ih.1, fun j d hj => ?_⟩
    by_cases e : v = j
    · subst e
      rw [List.getElem?_set] at hj
      split at hj
      · split at hj <;> cases hj
      · rename_i z; exact (z rfl).elim
    · rw [List.getElem?_set_ne e] at hj ⊢
      exact ih.2 j d hj
variable (T) in
/-- a store to the block's own names -/
def EvGc (W : WX) (vs : List Nat) (g : TG) (w : WG) : Prop := ∀ (σ : L2.St) (H F Gh : Hp) (env : EnvD) (M : MS) (v : V) (d : D) Q (R : L2.St → Hp → Prop), SR T F M Gh H → EnvR T F σ env → Den T F v d → w d env M Q (fun _ _ => False) →
  (∀ σ' H' F' env' M', Ex F F' → SR T F' M' Gh H' → EnvR T F' σ' env' → wipe σ' vs = wipe σ vs → Q env' M' → R σ' H') → g v σ H R
variable (T) in
def EvGsc (W : WX) (vs : List Nat) (g : TGs) (w : WGs) : Prop := ∀ (σ : L2.St) (H F Gh : Hp) (env : EnvD) (M : MS) (us : List V) (ds : List D) Q (R : L2.St → Hp → Prop), SR T F M Gh H → EnvR T F σ env → DenL T F us ds → w ds env M Q (fun _ _ => False) →
  (∀ σ' H' F' env' M', Ex F F' → SR T F' M' Gh H' → EnvR T F' σ' env' → wipe σ' vs = wipe σ vs → Q env' M' → R σ' H') → g us σ H R
theorem wipe_comm {σ : L2.St} {v : Option V} {i : Nat} : ∀ {us : List Nat}, i ∉ us → wipe (σ.set i v) us = (wipe σ us).set i v
  | [], _ => rfl
  | u :: us, hn => by
    rw [List.mem_cons, not_or] at hn
    unfold wipe
    rw [wipe_comm hn.2, List.set_comm _ _ hn.1]
theorem wipe_set {σ : L2.St} {v : Option V} : ∀ {vs : List Nat} {i : Nat}, i ∈ vs → wipe (σ.set i v) vs = wipe σ vs
  | [], i, h => by cases h
  | w :: vs, i, h => by
    unfold wipe
    by_cases e : i ∈ vs
    · rw [wipe_set e]
    · have hw : i = w := by
        rcases List.mem_cons.mp h with z | z
        · exact z
        · exact (e z).elim
      subst hw
      rw [wipe_comm e, List.set_set]
theorem wipe_wipe {σ : L2.St} : ∀ {vs : List Nat}, wipe (wipe σ vs) vs = wipe σ vs
  | [] => rfl
  | v :: vs => by
    show (wipe ((wipe σ vs).set v none) vs).set v none = (wipe σ vs).set v none
    by_cases e : v ∈ vs
    · rw [wipe_set e, wipe_wipe]
    · rw [wipe_comm e, wipe_wipe, List.set_set]
theorem eg_namec {W : WX} {vs : List Nat} {i : Nat} (h : i ∈ vs) : EvGc T W vs (gName i) (wgName i) := fun σ H F Gh env M v d Q R sr er dn hw rs => rs _ H F _ M (Ex.refl F) sr (er.set dn i) (wipe_set h) hw
theorem egs_nilc {W : WX} {vs : List Nat} : EvGsc T W vs gNil wgNil := by
  intro σ H F Gh env M us ds Q R sr er dn hw rs
  cases dn with
  | nil => exact ⟨rfl, rs σ H F env M (Ex.refl F) sr er rfl hw⟩
  | cons _ _ => exact hw.elim
theorem egs_consc {W : WX} {vs : List Nat} {g : TG} {gr : TGs} {w : WG} {r : WGs} (h1 : EvGc T W vs g w) (h2 : EvGsc T W vs gr r) : EvGsc T W vs (gCons g gr) (wgCons w r) := by
  intro σ H F Gh env M us ds Q R sr er dn hw rs
  cases dn with
  | nil => exact hw.elim
  | cons h t =>
    refine ⟨_, _, rfl, ?_⟩
    refine h1 σ H F Gh env M _ _ _ _ sr er h hw (fun σ' H' F' env' M' e sr' er' hz q => ?_)
    exact h2 σ' H' F' Gh env' M' _ _ Q R sr' er' (t.mono e) q fun σ2 H2 F2 env2 M2 e2 sr2 er2 hz2 q2 => rs σ2 H2 F2 env2 M2 (e.trans e2) sr2 er2 (hz2.trans hz) q2
theorem eg_tupc {W : WX} {vs : List Nat} {n : Nat} {gr : TGs} {r : WGs} (h : EvGsc T W vs gr r) : EvGc T W vs (gTup T.K n gr) (wgTup n r) := by
  intro σ H F Gh env M v d Q R sr er dn hw rs
  unfold wgTup at hw
  cases e : asT d with
  | none => rw [e] at hw; exact hw.elim
  | some xs =>
    rw [e] at hw
    obtain ⟨a, us, rfl, hs, dl⟩ := asT_den dn e
    refine ⟨a, us, rfl, (show Ex F H from sr.fr).t hs, by rw [dl.length]; exact hw.1, ?_⟩
    exact h σ H F Gh env M us xs Q R sr er dl hw.2 rs
def noE : EK := fun _ _ => False
def lcD (wg : WG) (wt : WT) (we : WE) (Kp : MS → Prop) (env : EnvD) (Q : List D → MS → Prop) : List D → List D → MS → Prop
  | [], acc, M => Q acc M
  | x :: xs, acc, M => wg x env M (fun env1 M1 => wt env1 M1 (fun b M2 => if b = true then we env1 M2 (fun y M3 => acc.length < sizeLine ∧ Kp M3 ∧ lcD wg wt we Kp env Q xs (acc ++ [y]) M3) noE else Kp M2 ∧ lcD wg wt we Kp env Q xs acc M2) noE) noE
/-- [we for wg in wi if wt]: known for good -/
def wLc (wi : WI) (wg : WG) (wt : WT) (we : WE) (vs : List Nat) : WE := fun env M Q EQ => wi env M (fun Kp xs M1 => lcD wg wt we Kp (wipeD env vs) (fun ys M2 => Q (.lst ys) M2) xs [] M1) EQ
/-- .. that may change -/
def wLcM (wi : WI) (wg : WG) (wt : WT) (we : WE) (vs : List Nat) : WE := fun env M Q EQ => wi env M (fun Kp xs M1 => lcD wg wt we Kp (wipeD env vs) (fun ys M2 => ∀ a, M2 a = none → Q (.ref a) (M2.set a (.lst ys))) xs [] M1) EQ
theorem lc_main {W : WX} {wi : TI} {wI : WI} {g : TG} {wg : WG} {tt : TT} {wt : WT} {te : TE} {we : WE} {vs : List Nat} (hi : EvI T W wi wI) (hg : EvGc T (fun _ _ _ _ => False) vs g wg) (ht : EvT T (fun _ _ _ _ => False) tt wt) (he : Ev T (fun _ _ _ _ => False) te we)
    {σ : L2.St} {H F Gh : Hp} {env : EnvD} {M : MS} {Q : List D → MS → Prop} {EQ : EK} {R : VK} (sr : SR T F M Gh H) (er : EnvR T F σ env) (hw : wI env M (fun Kp xs M1 => lcD wg wt we Kp (wipeD env vs) Q xs [] M1) EQ) (rx : RX T F Gh EQ W σ)
    (hR : ∀ L H' F' ys us M', Ex F F' → Gh L = none → M' L = none → SR T F' M' (upd Gh L (.lst us)) H' → DenL T F' us ys → Q ys M' → R (.ref L) H') : tLc wi g tt te vs σ H R := by
  refine hi σ H F Gh env M _ _ _ sr er hw (fun J H1 F1 Kp xs M1 e1 sr1 ok k1 q => ?_) rx
  intro L hL
  have gL := sr1.freeG hL
  have er1 := (er.mono e1).wipe vs
  refine ⟨fun i m H' => ∃ F' M' us ds, Ex F1 F' ∧ SR T F' M' (upd Gh L (.lst us)) H' ∧ DenL T F' us ds ∧ Kp M' ∧ m = xs.length - i ∧ i ≤ xs.length ∧ lcD wg wt we Kp (wipeD env vs) Q (xs.drop i) ds M', ⟨xs.length, F1, M1, [], [], Ex.refl _, sr1.newG hL, .nil, k1, rfl, Nat.zero_le _, q⟩, ?_⟩
  rintro i m H2 ⟨F2, M2, us, ds, e2, sr2, dl, k2, rfl, hle, q2⟩
  obtain ⟨h1, h2, h3⟩ := ok F2 M2 _ H2 e2 sr2 k2
  by_cases hlt : i < xs.length
  · refine .inr ⟨h1 i hlt, fun H' => ∃ F' M' us ds, Ex F1 F' ∧ SR T F' M' (upd Gh L (.lst us)) H' ∧ DenL T F' us ds ∧ Kp M' ∧ lcD wg wt we Kp (wipeD env vs) Q (xs.drop (i + 1)) ds M', ?_, ?_⟩
    · rintro H' ⟨F', M', us', ds', a, b, c, d, e⟩
      exact ⟨_, by omega, F', M', us', ds', a, b, c, d, rfl, hlt, e⟩
    · intro x H' y
      obtain ⟨F3, d, e3, sr3, dn, hd⟩ := h3 i x H' hlt y
      rw [drop_get hd] at q2
      have q2 : wg d (wipeD env vs) M2 _ noE := q2
      have dl3 := dl.mono e3
      refine hg _ H' F3 _ _ M2 x d _ _ sr3 ((er1.mono e2).mono e3) dn q2 (fun σ4 H4 F4 env4 M4 e4 sr4 er4 hz q4 => ⟨hz.trans wipe_wipe, ?_⟩)
      refine ht σ4 H4 F4 _ env4 M4 _ noE _ sr4 er4 q4 (fun b H5 F5 M5 e5 sr5 q5 => ?_) RX.no
      have e15 : Ex F1 F5 := ((e2.trans e3).trans e4).trans e5
      cases b with
      | false =>
        obtain ⟨k5, q5⟩ := q5
        exact ⟨F5, M5, us, ds, e15, sr5, (dl3.mono e4).mono e5, k5, q5⟩
      | true =>
        refine he σ4 H5 F5 _ env4 M5 _ noE _ sr5 (er4.mono e5) q5 (fun v H6 F6 dv M6 e6 sr6 dn6 q6 => ?_) RX.no
        obtain ⟨hl, k6, q6⟩ := q6
        refine ⟨us, (sr6.gr L _ upd_same).1, by rw [dl.length]; exact hl, F6, M6, us ++ [v], ds ++ [dv], e15.trans e6, ?_, (((dl3.mono e4).mono e5).mono e6).append (.one dn6), k6, q6⟩
        have z := sr6.setG (o := .lst (us ++ [v])) (o0 := .lst us) upd_same
        rw [upd_upd] at z
        exact z
  · have hi' : i = xs.length := by omega
    refine .inl ⟨h2 i (by omega), ?_⟩
    rw [hi', List.drop_length] at q2
    refine hR L H2 F2 ds us M2 (e1.trans e2) gL ?_ sr2 dl q2
    cases z : M2 L with
    | none => rfl
    | some m =>
      have z2 := (sr2.mu L m z).2.1
      rw [upd_same] at z2
      cases z2
theorem ev_lc {W : WX} {wi : TI} {wI : WI} {g : TG} {wg : WG} {tt : TT} {wt : WT} {te : TE} {we : WE} {vs : List Nat} (hi : EvI T W wi wI) (hg : EvGc T (fun _ _ _ _ => False) vs g wg) (ht : EvT T (fun _ _ _ _ => False) tt wt) (he : Ev T (fun _ _ _ _ => False) te we) : Ev T W (tLc wi g tt te vs) (wLc wI wg wt we vs) :=
  fun σ H F Gh env M Q EQ R sr er hw rn rx => lc_main hi hg ht he sr er hw rx fun L H' F' ys us M' e gL mL sr' dl q => by
    have ex : Ex F' (upd F' L (.lst us)) := Ex.new (sr'.gr L _ upd_same).2
    exact rn (.ref L) H' _ (.lst ys) M' (e.trans ex) (sr'.fixG gL) (.lst upd_same (dl.mono ex)) q
theorem ev_lcM {W : WX} {wi : TI} {wI : WI} {g : TG} {wg : WG} {tt : TT} {wt : WT} {te : TE} {we : WE} {vs : List Nat} (hi : EvI T W wi wI) (hg : EvGc T (fun _ _ _ _ => False) vs g wg) (ht : EvT T (fun _ _ _ _ => False) tt wt) (he : Ev T (fun _ _ _ _ => False) te we) : Ev T W (tLc wi g tt te vs) (wLcM wI wg wt we vs) :=
  fun σ H F Gh env M Q EQ R sr er hw rn rx => lc_main hi hg ht he sr er hw rx fun L H' F' ys us M' e gL mL sr' dl q =>
    rn (.ref L) H' F' (.ref L) _ e (sr'.mutG gL (m := .lst ys) ⟨us, (sr'.gr L _ upd_same).1, dl⟩) (.ref L) (q L mL)
end
end G

/-! Eng14: the iterables; the rules of for and of list comprehensions. -/
namespace G
open PySem PySem.Spec PyProof.Rows L2 RZ

/-- the signs of a text -/
def signsD (s : Str) : List D := s.cps.toList.map fun c => .str ⟨#[c]⟩
section
variable {T : Wd}
def iSeqT (K : PySem.W.Frag) (te : TE) : TI := fun σ H R => te σ H fun x H1 => (∃ a, x = .ref a ∧ (∃ xs, SqL K H1 a xs) ∧ R (Itl K a) H1) ∨ (∃ a, x = .ref a ∧ (∃ xs, SqT K H1 a xs) ∧ R (Itt K a) H1) ∨ (∃ s, x = .str s ∧ R (Its s) H1)
theorem pi_seq {X : Cx} {tg e : Expr} {te : TE} (he : PE X e te) : PI X tg e (iSeqT X.K te) := by
  refine ⟨fun pins s σ H R I h => thn (he.run pins s σ H _ I h) fun v s1 ⟨x, H1, I1, r1, q1⟩ => ?_⟩
  have one : ∀ {it b : Addr} {q : List Addr}, b ∈ [it] → b = it := fun h => by simpa using h
  rcases q1 with ⟨a, rfl, ⟨xs, hq⟩, q⟩ | ⟨a, rfl, ⟨xs, hq⟩, q⟩ | ⟨z, rfl, q⟩
  · cases r1
    obtain ⟨its, rv, p, hz⟩ := I1.list hq
    exact wpAny_pyIter_list p.isList (pi_one (tk := s1.toks) I1 _ (turn_list a _) ⟨_, Heap.get?_push_size _ rfl, rfl, rfl⟩ q)
  · cases r1
    obtain ⟨its, rv, p, hz⟩ := I1.tuple hq
    exact wpAny_pyIter_tuple (show s1.heap.IsTuple a its.toArray from p) (pi_one (tk := s1.toks) I1 _ (turn_tuple a _) ⟨_, Heap.get?_push_size _ rfl, rfl, rfl⟩ q)
  · obtain ⟨t, rfl⟩ := r1
    cases ha : z.cps.all (· < 128)
    · exact wpAny_pyIter_wide ha (pi_one (tk := s1.toks) I1 _ (turn_str _ z t "str_iterator" (.inr rfl)) ⟨_, Heap.get?_push_size _ rfl, rfl, rfl⟩ q)
    · exact wpAny_pyIter_ascii ha (pi_one (tk := s1.toks) I1 _ (turn_str _ z t "str_ascii_iterator" (.inl rfl)) ⟨_, Heap.get?_push_size _ rfl, rfl, rfl⟩ q)
def seqI (d : D) (M : MS) (Q : (MS → Prop) → List D → MS → Prop) : Prop := match d with
  | .str s => Q (fun _ => True) (signsD s) M
  | d => match asS M d with
    | some xs => Q (fun M' => asS M' d = some xs) xs M
    | none => match asT d with
      | some xs => Q (fun _ => True) xs M
      | none => False
theorem itok_list {F : Hp} {a : Addr} {d : D} {xs : List D} (dn : Den T F (.ref a) d) : ItOk T F (Itl T.K a) (fun M => asS M d = some xs) xs := by
  intro F' M Gh H e sr k
  obtain ⟨b, vs, eb, hs, dl⟩ := asS_den sr (dn.mono e) k
  cases eb
  refine ⟨fun i hi => ?_, fun i hi => ⟨vs, hs, by rw [dl.length]; exact hi⟩, fun i x H' hi ⟨e2, hx⟩ => ?_⟩
  · have hl : i < vs.length := by rw [dl.length]; exact hi
    exact ⟨vs, vs[i], hs, List.getElem?_eq_getElem hl⟩
  · subst e2
    obtain ⟨d', h1, h2⟩ := dl.get (hx vs hs)
    exact ⟨F', d', Ex.refl _, sr, h2, h1⟩
theorem itok_tup {F : Hp} {a : Addr} {vs : List V} {xs : List D} (hs : SqT T.K F a vs) (dl : DenL T F vs xs) : ItOk T F (Itt T.K a) (fun _ => True) xs := by
  intro F' M Gh H e sr k
  have hs' := (e.trans sr.fr).t hs
  have dl' := dl.mono e
  refine ⟨fun i hi => ?_, fun i hi => ⟨vs, hs', by rw [dl.length]; exact hi⟩, fun i x H' hi ⟨e2, hx⟩ => ?_⟩
  · have hl : i < vs.length := by rw [dl.length]; exact hi
    exact ⟨vs, vs[i], hs', List.getElem?_eq_getElem hl⟩
  · subst e2
    obtain ⟨d', h1, h2⟩ := dl'.get (hx vs hs')
    exact ⟨F', d', Ex.refl _, sr, h2, h1⟩
theorem itok_str {F : Hp} {s : Str} : ItOk T F (Its s) (fun _ => True) (signsD s) := by
  have hl : (signsD s).length = s.cps.size := by unfold signsD; rw [List.length_map, Array.length_toList]
  intro F' M Gh H e sr k
  refine ⟨fun i hi => by rw [hl] at hi; exact hi, fun i hi => by rw [hl] at hi; exact hi, fun i x H' hi ⟨e2, c, hc, hx⟩ => ?_⟩
  subst e2 hx
  refine ⟨F', .str ⟨#[c]⟩, Ex.refl _, sr, .str _, ?_⟩
  unfold signsD
  rw [List.getElem?_map, Array.getElem?_toList, hc]
  rfl
def wIt (w : WE) : WI := fun env M Q EQ => w env M (fun d M1 => seqI d M1 Q) EQ
theorem ei_seq {W : WX} {te : TE} {w : WE} (h : Ev T W te w) : EvI T W (iSeqT T.K te) (wIt w) := by
  intro σ H F Gh env M Q EQ R sr er hw rn rx
  refine h σ H F Gh env M _ EQ _ sr er hw (fun v H1 F1 d M1 e1 sr1 dn q => ?_) rx
  by_cases z : ∃ s, d = .str s
  · obtain ⟨s, rfl⟩ := z
    cases dn
    exact .inr (.inr ⟨s, rfl, rn _ H1 F1 _ _ M1 e1 sr1 itok_str True.intro q⟩)
  · have q : match asS M1 d with
        | some xs => Q (fun M' => asS M' d = some xs) xs M1
        | none => match asT d with
          | some xs => Q (fun _ => True) xs M1
          | none => False := by
      unfold seqI at q
      split at q
      · exact (z ⟨_, rfl⟩).elim
      · exact q
    cases e : asS M1 d with
    | some xs =>
      rw [e] at q
      obtain ⟨a, vs, rfl, hs, dl⟩ := asS_den sr1 dn e
      exact .inl ⟨a, rfl, ⟨vs, hs⟩, rn _ H1 F1 _ xs M1 e1 sr1 (itok_list dn) e q⟩
    | none =>
      rw [e] at q
      cases e2 : asT d with
      | none => simp only [e2] at q
      | some xs =>
        simp only [e2] at q
        obtain ⟨a, vs, rfl, hs, dl⟩ := asT_den dn e2
        exact .inr (.inl ⟨a, rfl, ⟨vs, (Ex.of_sr sr1).t hs⟩, rn _ H1 F1 _ xs M1 e1 sr1 (itok_tup hs dl) True.intro q⟩)
/-! ### range -/
def rangeD (lo : Int) (n : Nat) : List D := (List.range n).map fun i => .int (lo + (i : Nat))
theorem itok_range {F : Hp} {lo : Int} {n : Nat} : ItOk T F (Itr lo n) (fun _ => True) (rangeD lo n) := by
  have hl : (rangeD lo n).length = n := by unfold rangeD; rw [List.length_map, List.length_range]
  intro F' M Gh H e sr k
  refine ⟨fun i hi => by rw [hl] at hi; exact hi, fun i hi => by rw [hl] at hi; exact hi, fun i x H' hi ⟨e2, hx⟩ => ?_⟩
  subst e2 hx
  refine ⟨F', .int (lo + i), Ex.refl _, sr, .int _, ?_⟩
  rw [hl] at hi
  unfold rangeD
  rw [List.getElem?_map, List.getElem?_range hi]
  rfl
def rng1 (ds : List D) (M : MS) (Q : (MS → Prop) → List D → MS → Prop) : Prop := ∃ j : Int, ds = [.int j] ∧ -(2 ^ 62) ≤ j ∧ j < 2 ^ 62 ∧ Q (fun _ => True) (rangeD 0 j.toNat) M
def rng2 (ds : List D) (M : MS) (Q : (MS → Prop) → List D → MS → Prop) : Prop := ∃ i j : Int, ds = [.int i, .int j] ∧ (-(2 ^ 62) ≤ i ∧ i < 2 ^ 62 ∧ -(2 ^ 62) ≤ j ∧ j < 2 ^ 62) ∧ Q (fun _ => True) (rangeD i (j - i).toNat) M
def wRng (o : List D → MS → ((MS → Prop) → List D → MS → Prop) → Prop) (wa : WA) : WI := fun env M Q EQ => wa env M (fun ds M1 => o ds M1 Q) EQ
theorem ei_rng1 {W : WX} {ta : TA} {wa : WA} (h : EvA T W ta wa) : EvI T W (iRng1 ta) (wRng rng1 wa) := by
  intro σ H F Gh env M Q EQ R sr er hw rn rx
  refine h σ H F Gh env M _ EQ _ sr er hw (fun vs H1 F1 ds M1 e1 sr1 dn q => ?_) rx
  obtain ⟨j, rfl, h1, h2, q⟩ := q
  cases dn with
  | cons d t =>
    cases t
    cases d
    exact ⟨j, rfl, h1, h2, rn _ H1 F1 _ _ M1 e1 sr1 itok_range True.intro q⟩
theorem ei_rng2 {W : WX} {ta : TA} {wa : WA} (h : EvA T W ta wa) : EvI T W (iRng2 ta) (wRng rng2 wa) := by
  intro σ H F Gh env M Q EQ R sr er hw rn rx
  refine h σ H F Gh env M _ EQ _ sr er hw (fun vs H1 F1 ds M1 e1 sr1 dn q => ?_) rx
  obtain ⟨i, j, rfl, h1, q⟩ := q
  cases dn with
  | cons d t =>
    cases t with
    | cons d2 t =>
      cases t
      cases d
      cases d2
      exact ⟨i, j, rfl, h1, rn _ H1 F1 _ _ M1 e1 sr1 itok_range True.intro q⟩
/-! ### zip, enumerate -/
def zipD (xs ys : List D) : List D := (xs.zip ys).map fun p => .tpl [p.1, p.2]
theorem zipD_get {xs ys : List D} {i : Nat} {x y : D} (h1 : xs[i]? = some x) (h2 : ys[i]? = some y) : (zipD xs ys)[i]? = some (.tpl [x, y]) := by
  unfold zipD
  rw [List.getElem?_map, List.zip, List.getElem?_zipWith, h1, h2]
  rfl
theorem zipD_len {xs ys : List D} : (zipD xs ys).length = min xs.length ys.length := by unfold zipD; rw [List.length_map, List.length_zip]
theorem new_pair {F Gh H : Hp} {M : MS} {x y : V} {dx dy : D} {p : Addr} (sr : SR T F M Gh H) (hp : H p = none) (hx : Den T F x dx) (hy : Den T F y dy) : ∃ F'' d, Ex F F'' ∧ SR T F'' M Gh (upd H p (.tup [x, y])) ∧ Den T F'' (.ref p) d ∧ d = .tpl [dx, dy] := by
  have ex : Ex F (upd F p (.tup [x, y])) := Ex.new (sr.freeF hp)
  exact ⟨_, _, ex, sr.new hp, .tpl (.inl (.inl upd_same)) (.cons (hx.mono ex) (.one (hy.mono ex))), rfl⟩
theorem itok_zip {F : Hp} {a b : Addr} {d1 d2 : D} {xs ys : List D} (dn1 : Den T F (.ref a) d1) (dn2 : Den T F (.ref b) d2) : ItOk T F (Itz T.K a b) (fun M => asS M d1 = some xs ∧ asS M d2 = some ys) (zipD xs ys) := by
  intro F' M Gh H e sr k
  obtain ⟨a', us, ea, hs1, dl1⟩ := asS_den sr (dn1.mono e) k.1
  cases ea
  obtain ⟨b', vs, eb, hs2, dl2⟩ := asS_den sr (dn2.mono e) k.2
  cases eb
  rw [zipD_len]
  refine ⟨fun i hi => ?_, fun i hi => ⟨us, vs, hs1, hs2, by rw [dl1.length, dl2.length]; omega⟩, fun i x H' hi ⟨p, x1, y1, ex, hp, eH, g1, g2⟩ => ?_⟩
  · have hl1 : i < us.length := by rw [dl1.length]; omega
    have hl2 : i < vs.length := by rw [dl2.length]; omega
    exact ⟨us, vs, us[i], vs[i], hs1, hs2, List.getElem?_eq_getElem hl1, List.getElem?_eq_getElem hl2⟩
  · subst ex eH
    obtain ⟨dx, h1, h2⟩ := dl1.get (g1 us hs1)
    obtain ⟨dy, h3, h4⟩ := dl2.get (g2 vs hs2)
    obtain ⟨F'', d, e1, sr', dn, rfl⟩ := new_pair sr hp h2 h4
    exact ⟨F'', _, e1, sr', dn, zipD_get h1 h3⟩
theorem itok_zipT {F : Hp} {a b : Addr} {us vs : List V} {xs ys : List D} (hs1 : SqT T.K F a us) (dl1 : DenL T F us xs) (hs2 : SqT T.K F b vs) (dl2 : DenL T F vs ys) : ItOk T F (ItzT T.K a b) (fun _ => True) (zipD xs ys) := by
  intro F' M Gh H e sr k
  have hs1 := (e.trans sr.fr).t hs1
  have hs2 := (e.trans sr.fr).t hs2
  have dl1 := dl1.mono e
  have dl2 := dl2.mono e
  rw [zipD_len]
  refine ⟨fun i hi => ?_, fun i hi => ⟨us, vs, hs1, hs2, by rw [dl1.length, dl2.length]; omega⟩, fun i x H' hi ⟨p, x1, y1, ex, hp, eH, g1, g2⟩ => ?_⟩
  · have hl1 : i < us.length := by rw [dl1.length]; omega
    have hl2 : i < vs.length := by rw [dl2.length]; omega
    exact ⟨us, vs, us[i], vs[i], hs1, hs2, List.getElem?_eq_getElem hl1, List.getElem?_eq_getElem hl2⟩
  · subst ex eH
    obtain ⟨dx, h1, h2⟩ := dl1.get (g1 us hs1)
    obtain ⟨dy, h3, h4⟩ := dl2.get (g2 vs hs2)
    obtain ⟨F'', d, e1, sr', dn, rfl⟩ := new_pair sr hp h2 h4
    exact ⟨F'', _, e1, sr', dn, zipD_get h1 h3⟩
def zipI (ds : List D) (M : MS) (Q : (MS → Prop) → List D → MS → Prop) : Prop := ∃ x y xs ys, ds = [x, y] ∧ ((asS M x = some xs ∧ asS M y = some ys ∧ Q (fun M' => asS M' x = some xs ∧ asS M' y = some ys) (zipD xs ys) M) ∨ (asT x = some xs ∧ asT y = some ys ∧ Q (fun _ => True) (zipD xs ys) M))
theorem ei_zip {W : WX} {ta : TA} {wa : WA} (h : EvA T W ta wa) : EvI T W (iZipA T.K ta) (wRng zipI wa) := by
  intro σ H F Gh env M Q EQ R sr er hw rn rx
  refine h σ H F Gh env M _ EQ _ sr er hw (fun vs H1 F1 ds M1 e1 sr1 dn q => ?_) rx
  obtain ⟨x, y, xs, ys, rfl, q⟩ := q
  cases dn with
  | cons d t =>
    cases t with
    | cons d2 t =>
      cases t
      rcases q with ⟨h1, h2, q⟩ | ⟨h1, h2, q⟩
      · obtain ⟨a, us, rfl, s1, l1⟩ := asS_den sr1 d h1
        obtain ⟨b, ws, rfl, s2, l2⟩ := asS_den sr1 d2 h2
        exact ⟨a, b, us, ws, rfl, .inl ⟨s1, s2, rn _ H1 F1 _ _ M1 e1 sr1 (itok_zip d d2) ⟨h1, h2⟩ q⟩⟩
      · obtain ⟨a, us, rfl, s1, l1⟩ := asT_den d h1
        obtain ⟨b, ws, rfl, s2, l2⟩ := asT_den d2 h2
        exact ⟨a, b, us, ws, rfl, .inr ⟨(Ex.of_sr sr1).t s1, (Ex.of_sr sr1).t s2, rn _ H1 F1 _ _ M1 e1 sr1 (itok_zipT s1 l1 s2 l2) True.intro q⟩⟩
def enumD (lo : Int) (xs : List D) : List D := (List.range xs.length).map fun i => .tpl [.int (lo + (i : Nat)), (xs[i]?).getD .non]
theorem enumD_len {lo : Int} {xs : List D} : (enumD lo xs).length = xs.length := by unfold enumD; rw [List.length_map, List.length_range]
theorem enumD_get {lo : Int} {xs : List D} {i : Nat} {x : D} (h : xs[i]? = some x) : (enumD lo xs)[i]? = some (.tpl [.int (lo + (i : Nat)), x]) := by
  obtain ⟨hl, _⟩ := List.getElem?_eq_some_iff.mp h
  unfold enumD
  rw [List.getElem?_map, List.getElem?_range hl, Option.map_some, h]
  rfl
theorem itok_enum {F : Hp} {a : Addr} {d1 : D} {xs : List D} (dn1 : Den T F (.ref a) d1) : ItOk T F (Ite T.K a) (fun M => asS M d1 = some xs) (enumD 0 xs) := by
  intro F' M Gh H e sr k
  obtain ⟨a', us, ea, hs1, dl1⟩ := asS_den sr (dn1.mono e) k
  cases ea
  rw [enumD_len]
  refine ⟨fun i hi => ?_, fun i hi => ⟨us, hs1, by rw [dl1.length]; omega⟩, fun i x H' hi ⟨p, x1, ex, hp, eH, g1⟩ => ?_⟩
  · have hl1 : i < us.length := by rw [dl1.length]; omega
    exact ⟨us, us[i], hs1, List.getElem?_eq_getElem hl1⟩
  · subst ex eH
    obtain ⟨dx, h1, h2⟩ := dl1.get (g1 us hs1)
    obtain ⟨F'', d, e1, sr', dn, rfl⟩ := new_pair sr hp (.int (i : Nat)) h2
    refine ⟨F'', _, e1, sr', dn, ?_⟩
    rw [enumD_get h1, Int.zero_add]
def enumI (ds : List D) (M : MS) (Q : (MS → Prop) → List D → MS → Prop) : Prop := ∃ x xs, ds = [x] ∧ asS M x = some xs ∧ Q (fun M' => asS M' x = some xs) (enumD 0 xs) M
theorem ei_enum {W : WX} {ta : TA} {wa : WA} (h : EvA T W ta wa) : EvI T W (iEnum T.K ta) (wRng enumI wa) := by
  intro σ H F Gh env M Q EQ R sr er hw rn rx
  refine h σ H F Gh env M _ EQ _ sr er hw (fun vs H1 F1 ds M1 e1 sr1 dn q => ?_) rx
  obtain ⟨x, xs, rfl, h1, q⟩ := q
  cases dn with
  | cons d t =>
    cases t
    obtain ⟨a, us, rfl, s1, l1⟩ := asS_den sr1 d h1
    exact ⟨a, us, rfl, s1, rn _ H1 F1 _ _ M1 e1 sr1 (itok_enum d) h1 q⟩
end
/-! ### the judgements -/
section
variable {B : Bd}
def JI (B : Bd) (tg it : Expr) (w : WI) : Prop := ∀ W : WX, ∃ t : TI, (∀ X, B.In X → Takes X W → PI X tg it t) ∧ EvI B.T W t w
theorem ji_seq {tg e : Expr} {w : WE} (h : JE B e w) : JI B tg e (wIt w) := fun W => by
  obtain ⟨t, h1, h2⟩ := h W
  exact ⟨iSeqT B.T.K t, fun X c tk => by rw [← c.K]; exact pi_seq (h1 X c tk), ei_seq h2⟩
theorem starEach_one {e : Expr} {env : Env} (h : noStar [e] = true) : starEach [e] env = [(false, eval e env)] := starEach_cons h
theorem ji_range1 {tg e : Expr} {p pos : Pos} {w : WA} (hx : glB B.sc "range" = true ∧ B.T.mg "range" = none) (h : JA B [e] w) (hs : noStar [e] = true) : JI B tg (.Call (.Name "range" p) [e] [] pos) (wRng rng1 w) := fun W => by
  obtain ⟨t, h1, _, h2⟩ := h W
  exact ⟨_, fun X c tk => pi_range1 (gl_of c hx.1).1 (by rw [c.mg]; exact hx.2) (h1 X c tk) (starEach_one hs), ei_rng1 h2⟩
theorem ji_range2 {tg e e2 : Expr} {p pos : Pos} {w : WA} (hx : glB B.sc "range" = true ∧ B.T.mg "range" = none) (h : JA B [e, e2] w) (hs : noStar [e, e2] = true) : JI B tg (.Call (.Name "range" p) [e, e2] [] pos) (wRng rng2 w) := fun W => by
  obtain ⟨t, h1, _, h2⟩ := h W
  exact ⟨_, fun X c tk => pi_range2 (gl_of c hx.1).1 (by rw [c.mg]; exact hx.2) (h1 X c tk) (by rw [starEach_cons hs, starEach_one (noStar_tail hs)]) (starEach_one (noStar_tail hs)), ei_rng2 h2⟩
theorem ji_zip {elts : List Expr} {kk : Nat} {tpos : Pos} {e e2 : Expr} {p pos : Pos} {w : WA} (hx : glB B.sc "zip" = true ∧ B.T.mg "zip" = none) (h : JA B [e, e2] w) (hs : noStar [e, e2] = true) : JI B (.Tuple elts kk tpos) (.Call (.Name "zip" p) [e, e2] [] pos) (wRng zipI w) := fun W => by
  obtain ⟨t, h1, _, h2⟩ := h W
  refine ⟨iZipA B.T.K t, fun X c tk => ?_, ei_zip h2⟩
  rw [← c.K]
  exact pi_zipA (gl_of c hx.1).1 (by rw [c.mg]; exact hx.2) (h1 X c tk) (starEach_cons hs) (noStar_any (noStar_tail hs))
theorem ji_enum {elts : List Expr} {kk : Nat} {tpos : Pos} {e : Expr} {p pos : Pos} {w : WA} (hx : glB B.sc "enumerate" = true ∧ B.T.mg "enumerate" = none) (h : JA B [e] w) (hs : noStar [e] = true) : JI B (.Tuple elts kk tpos) (.Call (.Name "enumerate" p) [e] [] pos) (wRng enumI w) := fun W => by
  obtain ⟨t, h1, _, h2⟩ := h W
  refine ⟨iEnum B.T.K t, fun X c tk => ?_, ei_enum h2⟩
  rw [← c.K]
  exact pi_enum (gl_of c hx.1).1 (by rw [c.mg]; exact hx.2) (h1 X c tk) (starEach_one hs)
def noSetDisplay : Expr → Bool
  | .Set .. => false
  | _ => true
theorem folded_no {e : Expr} (h : noSetDisplay e = true) (env : Env) (x : Value) : foldedSetIterable e env x = pure x := by
  cases e <;> first | rfl | (cases h)
theorem js_for {tg it : Expr} {body : List Stmt} {pos : Pos} {wi : WI} {wg : WG} {wb : WS} (hi : JI B tg it wi) (hg : JG B tg wg) (hb : JSs B body wb) (hs : noSetDisplay it = true) (hcm : B.cm = true := by rfl) : JS B (.For tg it body [] pos) (wFor wi wg wb) := fun W => by
  obtain ⟨ti, i1, i2⟩ := hi W
  obtain ⟨g, g1, g2⟩ := hg W
  obtain ⟨tb, b1, b2⟩ := hb W
  exact ⟨_, fun X c tk => ps_for c.1.pass (c.1.calm hcm) (i1 X c.1 tk) (g1 X c.1 tk) (b1 X c tk) (folded_no hs X.env), es_for i2 g2 b2⟩
/-! ### list comprehensions -/
/-- the body of a block -/
abbrev Bd.blk (B : Bd) (scope : Scope) : Bd := { B with sc := relS scope B.sc, fn := fun x => scope.names.lookup x == some .cell, xc := none }
theorem blk_in {X : Cx} {s : Shared} {H : Hp} {scope : Scope} {cl : List (Str × Addr)} {C : Addr} {fp : List Addr} (c : B.In X) : (B.blk scope).In (X.blk s H scope (compEnvC scope cl C X.env) fp) := by
  refine ⟨c.P, c.w, c.K, c.mg, c.base, c.hN, ?_, c.nd, c.calm, fun x h => h, c.room, c.un, PassesOwn.never, fun _ _ _ z => nomatch z⟩
  show relS scope X.env.scope = relS scope B.sc
  rw [c.hsc]
theorem blk_takes {X : Cx} {s : Shared} {H : Hp} {scope : Scope} {ce : Env} {fp : List Addr} : Takes (X.blk s H scope ce fp) (fun _ _ _ _ => False) := fun u s' ⟨_, _, _, _, _, _, _, _, _, _, _, _, _, _, _, _, w⟩ => w.elim
/-- a target of a block -/
def JGc (B : Bd) (vs : List Nat) (tg : Expr) (w : WG) : Prop := ∃ g : TG, (∀ X, B.In X → PG X tg g) ∧ EvGc B.T (fun _ _ _ _ => False) vs g w
def JGsc (B : Bd) (vs : List Nat) (es : List Expr) (w : WGs) : Prop := ∃ g : TGs, (∀ X, B.In X → PGs X es g) ∧ EvGsc B.T (fun _ _ _ _ => False) vs g w
theorem jgc_name {vs : List Nat} {i : Nat} {x : Str} {pos : Pos} (h : (locB B i x && decide (i ∈ vs)) = true) : JGc B vs (.Name x pos) (wgName i) := by
  rw [Bool.and_eq_true] at h
  exact ⟨gName i, fun X c => pg_name (by rw [c.hN]; exact c.nd) (loc_of c h.1).1 (loc_of c h.1).2.1 (loc_of c h.1).2.2, eg_namec (of_decide_eq_true h.2)⟩
theorem jgsc_nil {vs : List Nat} : JGsc B vs [] wgNil := ⟨gNil, fun X c => pgs_nil, egs_nilc⟩
theorem jgsc_cons {vs : List Nat} {e : Expr} {es : List Expr} {w : WG} {wr : WGs} (h : JGc B vs e w) (hr : JGsc B vs es wr) (hs : plainTgs (e :: es) = true) : JGsc B vs (e :: es) (wgCons w wr) := by
  obtain ⟨g, h1, h2⟩ := h
  obtain ⟨gr, r1, r2⟩ := hr
  exact ⟨_, fun X c => pgs_cons (h1 X c) (r1 X c) (by rw [assignEach_cons hs]; rfl), egs_consc h2 r2⟩
theorem jgc_tup {vs : List Nat} {es : List Expr} {k : Nat} {pos : Pos} {w : WGs} (h : JGsc B vs es w) (hs : plainTgs es = true) (hcm : B.cm = true := by rfl) : JGc B vs (.Tuple es k pos) (wgTup es.length w) := by
  obtain ⟨g, h1, h2⟩ := h
  refine ⟨gTup B.T.K es.length g, fun X c => ?_, eg_tupc h2⟩
  have z := pg_tup (k := k) (pos := pos) (c.calm hcm) (h1 X c) (plainTgs_len hs) (plainTgs_find hs)
  rw [c.K] at z
  exact z
def wYes : WT := fun _ M Q _ => Q true M
/-- the tests of a block -/
def JTs (B : Bd) (es : List Expr) (w : WT) : Prop := ∃ t : TT, (∀ X, B.In X → Takes X (fun _ _ _ _ => False) → PTs X es t) ∧ EvT B.T (fun _ _ _ _ => False) t w
theorem jts_nil : JTs B [] wYes := ⟨tYes, fun X c _ => pts_nil, fun σ H F Gh env M Q EQ R sr er hw rn rx => rn true H F M (Ex.refl F) sr hw⟩
theorem jts_one {e : Expr} {w : WT} (h : JT B e w) : JTs B [e] w := by
  obtain ⟨t, h1, h2⟩ := h (fun _ _ _ _ => False)
  exact ⟨t, fun X c tk => pts_one (h1 X c tk), h2⟩
theorem je_lc {elt tg it : Expr} {ifs : List Expr} {scope : Scope} {own : List (Str × Nat)} {pos : Pos} {wi : WI} {wg : WG} {wt : WT} {we : WE} (hi : JI B tg it wi) (ok : blkC B.N B.sc scope own = true) (hg : JGc (B.blk scope) (own.map (·.2)) tg wg) (ht : JTs (B.blk scope) ifs wt) (he : JE (B.blk scope) elt we) (hs : noSetDisplay it = true) (hcm : B.cm = true := by rfl) :
    JE B (.ListComp elt [⟨tg, it, ifs, 0⟩] scope pos) (wLc wi wg wt we (own.map (·.2))) := fun W => by
  obtain ⟨ti, i1, i2⟩ := hi W
  obtain ⟨g, g1, g2⟩ := hg
  obtain ⟨tt, t1, t2⟩ := ht
  obtain ⟨te, e1, e2⟩ := he (fun _ _ _ _ => False)
  refine ⟨tLc ti g tt te (own.map (·.2)), fun X c tk => ?_, ev_lc i2 g2 t2 e2⟩
  exact pe_lc (c.calm hcm) (by rw [c.hN]; exact c.nd) (i1 X c tk) (by rw [c.hN, c.hsc]; exact blkOk_by ok) (fun s H C cl fp => g1 _ (blk_in c)) (fun s H C cl fp => t1 _ (blk_in c) blk_takes) (fun s H C cl fp => e1 _ (blk_in c) blk_takes) (folded_no hs X.env)
theorem je_lcM {elt tg it : Expr} {ifs : List Expr} {scope : Scope} {own : List (Str × Nat)} {pos : Pos} {wi : WI} {wg : WG} {wt : WT} {we : WE} (hi : JI B tg it wi) (ok : blkC B.N B.sc scope own = true) (hg : JGc (B.blk scope) (own.map (·.2)) tg wg) (ht : JTs (B.blk scope) ifs wt) (he : JE (B.blk scope) elt we) (hs : noSetDisplay it = true) (hcm : B.cm = true := by rfl) :
    JE B (.ListComp elt [⟨tg, it, ifs, 0⟩] scope pos) (wLcM wi wg wt we (own.map (·.2))) := fun W => by
  obtain ⟨ti, i1, i2⟩ := hi W
  obtain ⟨g, g1, g2⟩ := hg
  obtain ⟨tt, t1, t2⟩ := ht
  obtain ⟨te, e1, e2⟩ := he (fun _ _ _ _ => False)
  refine ⟨tLc ti g tt te (own.map (·.2)), fun X c tk => ?_, ev_lcM i2 g2 t2 e2⟩
  exact pe_lc (c.calm hcm) (by rw [c.hN]; exact c.nd) (i1 X c tk) (by rw [c.hN, c.hsc]; exact blkOk_by ok) (fun s H C cl fp => g1 _ (blk_in c)) (fun s H C cl fp => t1 _ (blk_in c) blk_takes) (fun s H C cl fp => e1 _ (blk_in c) blk_takes) (folded_no hs X.env)
/-- name = [..] on one line -/
def swapLc (B : Bd) (y : Str) (i : Nat) (py pos : Pos) (scope : Scope) : Bool := B.sc.kind == .function && B.sc.names.lookup y == some NameKind.local && py.line == pos.line && !(scope.names.any fun (n, k) => n == y && (k == .local || k == .cell)) && decide (B.N[i]? = some y)
theorem swapLc_ok {X : Cx} {y : Str} {i : Nat} {py pos spos : Pos} {scope : Scope} {elt : Expr} {gs : List Comprehension} (c : B.In X) (h : swapLc B y i py pos scope = true) : swapsWith (.ListComp elt gs scope pos) (some (.Name y py)) spos.line X.env = pure true := by
  unfold swapLc at h
  simp only [Bool.and_eq_true, Bool.not_eq_true', decide_eq_true_eq] at h
  obtain ⟨⟨⟨⟨h1, h2⟩, h3⟩, h4⟩, _⟩ := h
  have e1 : X.env.scope.kind = .function := by rw [c.hsc]; exact beq_iff_eq.mp h1
  have k1 : X.env.kindOf y = some .local := by show X.env.scope.names.lookup y = _; rw [c.hsc]; exact beq_iff_eq.mp h2
  have ek : X.env.blockKind = .function := by unfold Env.blockKind; rw [e1]; rfl
  show (pure (X.env.blockKind == .function && X.env.kindOf y == some .local && py.line == pos.line && !(scope.names.any fun (n, k) => n == y && (k == .local || k == .cell))) : Sem Bool) = pure true
  rw [ek, k1, h3, h4]
  rfl
theorem js_setLc {elt tg it : Expr} {ifs : List Expr} {scope : Scope} {own : List (Str × Nat)} {y : Str} {i : Nat} {py pos spos : Pos} {wi : WI} {wg : WG} {wt : WT} {we : WE} (hsw : swapLc B y i py pos scope = true) (hi : JI B tg it wi) (ok : blkC B.N B.sc scope own = true) (hg : JGc (B.blk scope) (own.map (·.2)) tg wg) (ht : JTs (B.blk scope) ifs wt) (he : JE (B.blk scope) elt we) (hs : noSetDisplay it = true) (hcm : B.cm = true := by rfl) :
    JS B (.Assign [.Name y py] (.ListComp elt [⟨tg, it, ifs, 0⟩] scope pos) spos) (wAsg (wLc wi wg wt we (own.map (·.2))) (wgName i)) := fun W => by
  obtain ⟨ti, i1, i2⟩ := hi W
  obtain ⟨g, g1, g2⟩ := hg
  obtain ⟨tt, t1, t2⟩ := ht
  obtain ⟨te, e1, e2⟩ := he (fun _ _ _ _ => False)
  refine ⟨tAsg (tLc ti g tt te (own.map (·.2))) (gName i), fun X c tk => ?_, es_asg (ev_lc i2 g2 t2 e2) eg_name⟩
  have hw := swapLc_ok (elt := elt) (gs := [⟨tg, it, ifs, 0⟩]) (spos := spos) c.1 hsw
  unfold swapLc at hsw
  simp only [Bool.and_eq_true, Bool.not_eq_true', decide_eq_true_eq] at hsw
  obtain ⟨⟨⟨⟨h1, h2⟩, h3⟩, h4⟩, h5⟩ := hsw
  exact ps_setLc (c.1.calm hcm) (by rw [c.1.hN]; exact c.1.nd) (by rw [c.1.hN]; exact h5) (by rw [c.1.hsc]; exact beq_iff_eq.mp h2) hw (i1 X c.1 tk) (by rw [c.1.hN, c.1.hsc]; exact blkOk_by ok) (fun s H C cl fp => g1 _ (blk_in c.1)) (fun s H C cl fp => t1 _ (blk_in c.1) blk_takes) (fun s H C cl fp => e1 _ (blk_in c.1) blk_takes) (folded_no hs X.env)
theorem js_setLcM {elt tg it : Expr} {ifs : List Expr} {scope : Scope} {own : List (Str × Nat)} {y : Str} {i : Nat} {py pos spos : Pos} {wi : WI} {wg : WG} {wt : WT} {we : WE} (hsw : swapLc B y i py pos scope = true) (hi : JI B tg it wi) (ok : blkC B.N B.sc scope own = true) (hg : JGc (B.blk scope) (own.map (·.2)) tg wg) (ht : JTs (B.blk scope) ifs wt) (he : JE (B.blk scope) elt we) (hs : noSetDisplay it = true) (hcm : B.cm = true := by rfl) :
    JS B (.Assign [.Name y py] (.ListComp elt [⟨tg, it, ifs, 0⟩] scope pos) spos) (wAsg (wLcM wi wg wt we (own.map (·.2))) (wgName i)) := fun W => by
  obtain ⟨ti, i1, i2⟩ := hi W
  obtain ⟨g, g1, g2⟩ := hg
  obtain ⟨tt, t1, t2⟩ := ht
  obtain ⟨te, e1, e2⟩ := he (fun _ _ _ _ => False)
  refine ⟨tAsg (tLc ti g tt te (own.map (·.2))) (gName i), fun X c tk => ?_, es_asg (ev_lcM i2 g2 t2 e2) eg_name⟩
  have hw := swapLc_ok (elt := elt) (gs := [⟨tg, it, ifs, 0⟩]) (spos := spos) c.1 hsw
  unfold swapLc at hsw
  simp only [Bool.and_eq_true, Bool.not_eq_true', decide_eq_true_eq] at hsw
  obtain ⟨⟨⟨⟨h1, h2⟩, h3⟩, h4⟩, h5⟩ := hsw
  exact ps_setLc (c.1.calm hcm) (by rw [c.1.hN]; exact c.1.nd) (by rw [c.1.hN]; exact h5) (by rw [c.1.hsc]; exact beq_iff_eq.mp h2) hw (i1 X c.1 tk) (by rw [c.1.hN, c.1.hsc]; exact blkOk_by ok) (fun s H C cl fp => g1 _ (blk_in c.1)) (fun s H C cl fp => t1 _ (blk_in c.1) blk_takes) (fun s H C cl fp => e1 _ (blk_in c.1) blk_takes) (folded_no hs X.env)
end
end G

/-! Eng15: code never reached; a try that runs through; a def's body. -/
namespace G
open PySem PySem.Spec PyProof.Rows L2 RZ

section
variable {B : Bd}
theorem js_never {s : Stmt} : JS B s wNever := fun W => ⟨tNever, fun X c tk => ps_never, es_never⟩
theorem jss_never {s : List Stmt} : JSs B s wNever := fun W => ⟨tNever, fun X c tk => pss_never, es_never⟩
/-- the body raises nothing -/
def wTry0 (wb : WS) : WS := fun env M K => wb env M { K with ex := fun _ _ _ => False }
theorem nox_in {X : Cx} (c : B.InS X) : B.InS X.nox := by
  obtain ⟨c, h1, h2⟩ := c
  exact ⟨⟨c.P, c.w, c.K, c.mg, c.base, c.hN, c.hsc, c.nd, c.calm, c.fnC, c.room, c.un, PassesOwn.never, c.exc⟩, h1, h2⟩
theorem nox_takes {X : Cx} : Takes X.nox (fun _ _ _ _ => False) := fun u s' ⟨_, _, _, _, _, _, _, _, _, _, _, _, _, _, _, _, w⟩ => w.elim
theorem js_try0 {body : List Stmt} {h0 : ExceptHandler} {hs : List ExceptHandler} {pos : Pos} {wb : WS} (hb : JSs B body wb) : JS B (.Try body (h0 :: hs) [] [] pos) (wTry0 wb) := fun W => by
  obtain ⟨t, b1, b2⟩ := hb (fun _ _ _ _ => False)
  refine ⟨t, fun X c tk => ps_try_thru0 (b1 _ (nox_in c) nox_takes), fun σ H F Gh env M K De sr er hw rk => ?_⟩
  exact b2 σ H F Gh env M { K with ex := fun _ _ _ => False } De sr er hw ⟨rk.nx, rk.rt, rk.bk, rk.ct, fun _ _ _ _ _ _ _ _ _ _ _ _ q => q.elim⟩
/-- the context of a def's body -/
def defB (T : Wd) (k : Nat) (N : List Str) (sc : Scope) : Bd := ⟨T, k, N, sc, fun _ => true, true, none⟩
/-- THE RULE of a def, in judgements -/
theorem def_rule {T : Wd} {x qual : Str} {st : Stmt} {f : Addr} {fd : FuncData} {N ps : List Str} {k : Nat} {d : DSp} {w : WS} (Fn : Fun T.K x qual st f fd) (S : FnScope N ps (defScope st)) (hb : JSs (defB T k N (defScope st)) (defBody st) w)
    (h : ∀ ds M Q EQ, ds.length = ps.length → d ds M Q EQ → w (startD N.length ds) M (endsD T Q EQ)) : FnD T (k + 1) f fd ps d := by
  refine fn_rule Fn S fun X W hP hw hK hmg hbase hN hsc hc hfn hr hst hfr hpo tk => ?_
  obtain ⟨t, h1, h2⟩ := hb W
  exact ⟨t, w, h1 X ⟨⟨hP, hw, hK, hmg, hbase, hN, hsc, S.nd, fun _ => hc, fun y _ => hfn y, fun _ => hr, hr.units, hpo, fun _ _ _ z => nomatch z⟩, hst, hfr⟩ tk, h2, h⟩
end
end G

/-! Eng16: a, *rest = a list. -/
namespace G
open PySem PySem.Spec PyProof.Rows L2 RZ

section
variable {prog : Program} {w : World} {A : Around} {E : Value → Shared → Prop} {s : Shared}
theorem WalksS.shift {I : Addr} {fp wr : List Addr} {GG : Array GenState → Array GenState → Prop} {n : Nat} {P : Nat → Value → Prop} {St : Nat → Shared → Prop} (W : WalksS prog w A I fp wr GG n P St) (k : Nat) (hk : k ≤ n) :
    WalksS prog w A I fp wr GG (n - k) (fun i => P (k + i)) (fun i => St (k + i)) where
  sub := W.sub
  grefl := W.grefl
  gtrans := W.gtrans
  frame := fun i => W.frame (k + i)
  item := fun i s Q E hi st hQ => W.item (k + i) s Q E (by omega) st hQ
  done := fun s Q E st hQ => W.done s Q E (by rw [show n = k + (n - k) by omega]; exact st) hQ
  self := fun i => W.self (k + i)
theorem items_drop {items : Array Value} {acc : Array Value} {k : Nat} (hk : k ≤ items.size) (h : ItemsOf (fun i v => items[k + i]? = some v) acc (items.size - k)) : acc.toList = items.toList.drop k := by
  obtain ⟨h1, h2⟩ := h
  apply List.ext_getElem?
  intro j
  rw [List.getElem?_drop, Array.getElem?_toList, Array.getElem?_toList]
  cases e : acc[j]? with
  | some v => exact (h2 j v e).symm
  | none =>
    have hj : acc.size ≤ j := by simpa using e
    symm
    simp
    omega
theorem unpack_star {l : Addr} {items : Array Value} {k : Nat} {Q : List Value → Shared → Prop} (hh : A.handled = none) (hl : s.heap.IsList l items) (hk : k ≤ items.size) (hz : items.size ≤ sizeLine)
    (hQ : ∀ s1 : Shared, (∀ b o, s.heap.get? b = some o → s1.heap.get? b = some o) → s1.gens = s.gens → s1.drawn = s.drawn → s1.os = s.os →
      Q (items.toList.take k ++ [.ref s1.heap.objs.size]) { s1 with heap := s1.heap.push { cls := .type "list", data := .seq (items.toList.drop k).toArray } }) :
    wpAny (model prog w) A (unpackItems (.ref l) (k + 1) (some k)) Q E s := by
  have hlt : l ≠ s.heap.objs.size := by obtain ⟨o, ho, _⟩ := hl; exact Nat.ne_of_lt (Heap.lt_size ho)
  unfold unpackItems
  refine wpAny_bind ?_
  unfold notIterableAtAll
  refine wpAny_bind (wpAny_specialOf hl.typeIs slot_list_iter.lookup ?_)
  refine wpAny_pure ?_
  simp only [Bool.false_eq_true, if_false]
  refine wpAny_bind (wpAny_holding (wpAny_pyIter_list hl ?_))
  refine wpAny_bind (wpAny_holding (PySem.W.kun_draw hlt k 0 _ _ ⟨_, Heap.get?_push_size _ rfl, rfl, rfl⟩ (hl.push _) (by omega) fun h₁ hit₁ hs₁ => ?_))
  rw [List.drop_zero, Nat.zero_add] at *
  have hl₁ : h₁.IsList l items := (hl.push _).extBut hs₁.extBut hlt
  have hlen : (items.toList.take k).length = k := by rw [List.length_take]; simp; omega
  rw [if_neg (by omega)]
  have hsz : s.heap.objs.size < h₁.objs.size := by obtain ⟨o, ho, _⟩ := hit₁; exact Heap.lt_size ho
  have hlsz : l < h₁.objs.size := by obtain ⟨o, ho, _⟩ := hl₁; exact Heap.lt_size ho
  have W := WalksS.shift (Walks.toS (Walks.list (prog := prog) (w := w) (A := A.in1) hh s.heap.objs.size l hlt items)) k hk
  refine wpAny_bind (wpAny_holding (wpAny_collect_iter (T := "list_iterator") (.inr (.inr (.inl rfl))) W (fun i s st => st.1.typeIs) ⟨hit₁, hl₁⟩ (fun b hb => ?_) (by simp) (fun s' acc hm hacc => ?_) (by omega)))
  · have e : b = s.heap.objs.size ∨ b = l := by simpa using hb
    rcases e with e | e
    · rw [e]; exact hsz
    · rw [e]; exact hlsz
  · have ea := items_drop hk hacc
    rw [ea]
    have e0 : k + 1 - 1 - k = 0 := by omega
    simp only [e0, Nat.not_lt_zero, if_false, Nat.sub_zero]
    have et : (items.toList.drop k).take (items.toList.drop k).length = items.toList.drop k := List.take_length
    rw [et, List.drop_length]
    refine wpAny_bind (wpAny_newList ?_ (by simp; omega))
    rw [List.append_nil]
    refine wpAny_pure (hQ s' (fun b o e => ?_) hm.gens hm.drawn hm.os)
    have hb : b ≠ s.heap.objs.size := Nat.ne_of_lt (Heap.lt_size e)
    exact hm.heap b o (by simpa using hb) (hs₁.extBut b o hb (Heap.get?_push_of_some _ e))
end
/-- a, .., *rest = a list: the first k by themselves -/
def gStar (K : PySem.W.Frag) (k : Nat) (t : TGs) : TG := fun v σ H Q => ∃ a xs, v = .ref a ∧ SqL K H a xs ∧ k ≤ xs.length ∧ ∀ p, H p = none → t (xs.take k ++ [.ref p]) σ (upd H p (.lst (xs.drop k))) Q
theorem Vals.takeG : ∀ {xs : List V} {us : List Value} (n : Nat), Vals xs us → Vals (xs.take n) (us.take n)
  | _, _, 0, _ => by simp only [List.take_zero]; exact .nil
  | _, _, n + 1, .nil => by simp only [List.take_nil]; exact .nil
  | _, _, n + 1, .cons r t => .cons r (Vals.takeG n t)
theorem Vals.dropG : ∀ {xs : List V} {us : List Value} (n : Nat), Vals xs us → Vals (xs.drop n) (us.drop n)
  | _, _, 0, h => h
  | _, _, n + 1, .nil => by simp only [List.drop_nil]; exact .nil
  | _, _, n + 1, .cons r t => Vals.dropG n t
theorem pg_star {X : Cx} {pos : Pos} {es es' : List Expr} {n k : Nat} {t : TGs} (hc : X.calm = true) (h : PGs X es' t) (h2 : (assignEach es X.env).map (·.2) = (assignEach es' X.env).map (·.2))
    (hn : (assignEach es X.env).length = k + 1) (hst : (assignEach es X.env).findIdx? (·.1) = some k) : PG X (.Tuple es n pos) (gStar X.K k t) := by
  refine ⟨fun pins s σ H v u Q I r hw => ?_⟩
  obtain ⟨a, xs, e1, hq, hl, hw⟩ := hw
  subst e1
  cases r
  obtain ⟨its, rv, pl, hz⟩ := I.list hq
  have hlen := rv.length
  rw [PyProof.Rows.assign_Tuple]
  refine wpAny_bind (wpAny_standAt ?_)
  unfold unpack
  rw [hn, hst]
  refine wpAny_bind (wpAny_holding (unpack_star (I.ok.hd hc) pl.isList (by simp; omega) (by simp; omega) fun s1 kp g d o => ?_))
  have I1 : Inv X pins σ H s1 := by
    have z := I.kept (h' := s1.heap) (t' := s1.toks) kp
    obtain ⟨a1, a2, a3, a4, a5⟩ := s1
    subst g d o
    exact z
  have I2 := I1.lnew (its := its.drop k) (t' := s1.toks) (Vals.dropG k rv) (by rw [List.length_drop]; omega)
  rw [h2]
  have hv : Vals (xs.take k ++ [V.ref s1.heap.objs.size]) (its.take k ++ [Value.ref s1.heap.objs.size]) := (Vals.takeG k rv).append (.cons rfl .nil)
  have e0 : its.toArray.toList = its := by simp
  rw [e0]
  exact h.run pins _ σ _ _ _ Q I2 hv (hw _ I1.fresh)
section
variable {T : Wd}
def wgStar (k : Nat) (r : WGs) : WG := fun d env M Q EQ => ∃ xs, asS M d = some xs ∧ k ≤ xs.length ∧ r (xs.take k ++ [.lst (xs.drop k)]) env M Q (fun _ _ => False)
theorem eg_star {W : WX} {k : Nat} {gr : TGs} {r : WGs} (h : EvGs T W gr r) : EvG T W (gStar T.K k gr) (wgStar k r) := by
  intro σ H F Gh env M v d Q EQ R sr er dn hw rs rx
  obtain ⟨xs, e, hk, hw⟩ := hw
  obtain ⟨a, vs, rfl, hs, dl⟩ := asS_den sr dn e
  refine ⟨a, vs, rfl, hs, by rw [dl.length]; exact hk, fun p hp => ?_⟩
  have ex := Ex.new (o := .lst (vs.drop k)) (sr.freeF hp)
  have dl2 := dl.mono ex
  exact h σ _ _ Gh env M _ _ Q R (sr.new hp) (er.mono ex) ((dl2.take k).append (.one (.lst upd_same (dl2.drop k)))) hw fun σ' H' F' env' M' e' sr' er' q => rs σ' H' F' env' M' (ex.trans e') sr' er' q
end
section
variable {B : Bd}
theorem jg_star {es es' : List Expr} {n k : Nat} {pos : Pos} {w : WGs} (h : JGs B es' w) (ha : ∀ env, (assignEach es env).map (·.2) = (assignEach es' env).map (·.2) ∧ (assignEach es env).length = k + 1 ∧ (assignEach es env).findIdx? (·.1) = some k) (hcm : B.cm = true := by rfl) : JG B (.Tuple es n pos) (wgStar k w) := fun W => by
  obtain ⟨g, h1, h2⟩ := h W
  refine ⟨gStar B.T.K k g, fun X c tk => ?_, eg_star h2⟩
  have z := pg_star (n := n) (pos := pos) (c.calm hcm) (h1 X c tk) (ha X.env).1 (ha X.env).2.1 (ha X.env).2.2
  rw [c.K] at z
  exact z
end
end G

/-! Eng17: an own ==; dict displays; names of the text; methods of one class. -/
namespace G
open PySem PySem.Spec PyProof.Rows L2 RZ

section
variable {B : Bd}
/-! ### names -/
theorem je_globE {x : Str} {v : V} {d : D} {pos : Pos} (hg : glB B.sc x = true) (hm : ∃ u, B.T.mg x = some u ∧ RelV v u) (hd : ∀ F, Den B.T F v d) : JE B (.Name x pos) (wC d) := by
  obtain ⟨u, h1, h2⟩ := hm
  exact je_glob hg h1 h2 hd
theorem je_gint {x : Str} {i : Int} {pos : Pos} (hg : glB B.sc x = true) (hm : ∃ u, B.T.mg x = some u ∧ RelV (.int i) u) : JE B (.Name x pos) (wC (.int i)) := je_globE hg hm fun F => .int i
theorem je_gstr {x : Str} {i : Str} {pos : Pos} (hg : glB B.sc x = true) (hm : ∃ u, B.T.mg x = some u ∧ RelV (.str i) u) : JE B (.Name x pos) (wC (.str i)) := je_globE hg hm fun F => .str i
theorem je_gcls {x C : Str} {pos : Pos} (hg : glB B.sc x = true) (hm : B.T.mg x = some (.ref (B.T.adr C))) : JE B (.Name x pos) (wC (.cls C)) := je_glob (v := .ref (B.T.adr C)) hg hm rfl fun F => .cls C
theorem je_gty {x : Str} {n : String} {pos : Pos} (hg : glB B.sc x = true) (hm : B.T.mg x = none) (hv : bootBuiltins x = some (.type n) ∧ x ≠ "__name__") : JE B (.Name x pos) (wC (.ty n)) := je_ty hg hm hv.1 hv.2
/-! ### a method of one class -/
def meth1O (C : Str) (m : Str) (d : DSp) (np nk : Nat) (wa wk : WA) (env : EnvD) (Q : QD) (EQ : EK) (x : D) (M : MS) : Prop := ∃ fs, insD M x = some (C, fs) ∧ fs.lookup m = none ∧ wCal0 d np nk [x] wa wk env M Q EQ
def wMeth1 (C : Str) (m : Str) (d : DSp) (np nk : Nat) (w : WE) (wa wk : WA) : WE := fun env M Q EQ => w env M (meth1O C m d np nk wa wk env Q EQ) EQ
theorem JE.imp {e : Expr} {w w' : WE} (h : JE B e w) (hw : ∀ env M Q EQ, w' env M Q EQ → w env M Q EQ) : JE B e w' := fun W => by
  obtain ⟨t, h1, h2⟩ := h W
  exact ⟨t, h1, fun σ H F Gh env M Q EQ R sr er q rn rx => h2 σ H F Gh env M Q EQ R sr er (hw _ _ _ _ q) rn rx⟩
/-- a reading is kept by what follows more -/
def MonE (w : WE) : Prop := ∀ env M (Q Q' : QD) EQ, (∀ d M', Q d M' → Q' d M') → w env M Q EQ → w env M Q' EQ
theorem je_meth1 {e : Expr} {m : Str} {apos pos : Pos} {es : List Expr} {kws : List Keyword} {w : WE} {wa wk : WA} {C : Str} (c : Callee B.T) (hal : MAlt B.T m C c) (hk : c.k ≤ B.lv) (hn : kwNames kws = some c.ks) (ho : JE B e w) (ha : JA B es wa) (hkw : JK B kws wk)
    (hs : noStar es = true) (ht : MTree e m apos es kws pos) (hcm : B.cm = true := by rfl) : JE B (.Call (.Attribute e m apos) es kws pos) (wMeth1 C m c.d c.np c.ks.length w wa wk) := fun W => by
  obtain ⟨pl, ht⟩ := ht
  obtain ⟨to, o1, o2⟩ := ho W
  obtain ⟨ta, a1, a0, a2⟩ := ha W
  obtain ⟨tkk, b1, b0, b2⟩ := hkw W
  refine ⟨fun σ H Q => to σ H fun x H1 => ∃ a dx fs, x = .ref a ∧ H1 a = some (.ins (B.T.adr C) dx fs) ∧ fs.lookup m = none ∧ tCal0 B.T c W [x] ta tkk σ H1 Q, fun X Ck tk => ⟨fun pins s σ H Q I h => ?_⟩, fun σ H F Gh env M Q EQ R sr er hw rn rx => ?_⟩
  · refine PySem.W.methodCall_KW (pl := pl X.env) (thn ((o1 X Ck tk).run pins s σ H _ I h) fun u s1 ⟨x, H1, I1, rx, a, dx, fs, ex, ea, l, q⟩ => ?_) (ht X.env)
    subst ex
    obtain rfl : u = Value.ref a := rx
    refine getmeth_ok I1 ea (by rw [Ck.K]; exact hal.cl) (by rw [Ck.K]; exact hal.me) l ?_
    exact cw_any (Bd.In.calmed Ck hcm) tk c hk (argsT (a1 X Ck tk) a0) (kwsT (b1 X Ck tk) b0) hs hn I1 (first := [.ref a]) (fv := [.ref a]) (.cons rfl .nil) q
  · refine o2 σ H F Gh env M _ EQ _ sr er hw (fun v H1 F1 d M1 e1 sr1 dn q => ?_) rx
    obtain ⟨fs, e, l, q⟩ := q
    obtain ⟨a, dx, vs, rfl, h1, df⟩ := insD_den sr1 dn e
    exact ⟨a, dx, vs, rfl, h1, df.lookup_none l, ev_cal0 (c := c) a2 b2 sr1 (er.mono e1) (.cons dn .nil) q (rn.mono e1) (rx.mono e1)⟩
/-! ### x == y by an own __eq__ -/
def wEqOwn (C : Str) (d : DSp) (wa wb : WE) : WE := fun env M Q EQ => wa env M (fun x M1 => wb env M1 (fun y M2 => ∃ fs gs, insD M2 x = some (C, fs) ∧ insD M2 y = some (C, gs) ∧ d [x, y] M2 (fun r M3 => ∃ k, r = .bl k ∧ Q r M3) EQ) EQ) EQ
theorem eqOwn_core {a b : Expr} {wa wb : WE} {C : Str} (c : Callee B.T) (hk : c.k ≤ B.lv) (hnp : c.np = 2) (hks : c.ks = []) (hs : PySem.W.findIn B.T.K (.ref (B.T.adr C)) "__eq__" = some (some (.ref c.f))) (hf : PySem.W.isFn B.T.K (.ref c.f) = true) (ha : JE B a wa) (hb : JE B b wb) (hcm : B.cm = true := by rfl) :
    ∀ W : WX, ∃ t : TE, (∀ X, B.In X → Takes X W → PC X .Eq a b t) ∧ Ev B.T W t (wEqOwn C c.d wa wb) := fun W => by
  obtain ⟨ta, a1, a2⟩ := ha W
  obtain ⟨tb, b1, b2⟩ := hb W
  refine ⟨fun σ H Q => ta σ H fun x H1 => tb σ H1 fun y H2 => ∃ p q dx dy fs gs, x = .ref p ∧ y = .ref q ∧ H2 p = some (.ins (B.T.adr C) dx fs) ∧ H2 q = some (.ins (B.T.adr C) dy gs) ∧ lift B.T 2 c.d [x, y] H2 (fun r H3 => ∃ k, r = .bl k ∧ Q r H3) (L2.WE W σ), fun X Ck tk => ⟨fun pins s σ H Q I h => ?_⟩, fun σ H F Gh env M Q EQ R sr er hw rn rx => ?_⟩
  · refine thn ((a1 X Ck tk).run pins s σ H _ I h) fun v s1 ⟨x, H1, I1, r1, q1⟩ => thn ((b1 X Ck tk).run pins s1 σ H1 _ I1 q1) fun u s2 ⟨y, H2, I2, r2, p, q, dx, dy, fs, gs, ex, ey, hp, hq, hl⟩ => ?_
    subst ex ey
    obtain rfl : v = Value.ref p := r1
    obtain rfl : u = Value.ref q := r2
    obtain ⟨mA, J, _⟩ := ins_get I2.hok hp
    obtain ⟨mB, J', _⟩ := ins_get I2.hok hq
    obtain ⟨od, J, _⟩ := J.look
    obtain ⟨od', J', _⟩ := J'.look
    obtain ⟨m, hF⟩ := I2.fr
    show wpAny (model X.prog X.w) X.A (richCompare .Eq (.ref p) (.ref q)) (EP X pins σ Q) X.xe s2
    refine PySem.W.cmp_K (op := .Eq) (tb := .ref (B.T.adr C)) ((Ck.room hcm).units0) hF I2.ok.mod.kin J J'.type (by simp [PySem.W.notFirst]) (by rw [Ck.K]; exact hs) (by rw [Ck.K]; exact hf) ?_
    have hcall := c.run (ws := []) (zs := []) (Bd.In.calmed Ck hcm) tk hk I2 (us := [.ref p, .ref q]) (vs := [.ref p, .ref q]) (Q := fun r H3 => ∃ k, r = .bl k ∧ Q r H3) (.cons rfl (.cons rfl .nil)) .nil (by rw [hnp]; rfl) (by rw [hks]; rfl) (by rw [hnp, hks]; exact hl)
    rw [hks] at hcall
    refine wpAny_mono hcall (fun r s3 ⟨z, H3, I3, rz, k, ek, q3⟩ => ?_) fun _ _ x => x
    subst ek
    cases rz
    exact ⟨.bl k, H3, I3, rfl, q3⟩
  · refine a2 σ H F Gh env M _ EQ _ sr er hw (fun v H1 F1 d M1 e1 sr1 dn q => ?_) rx
    refine b2 σ H1 F1 Gh env M1 _ EQ _ sr1 (er.mono e1) q (fun v2 H2 F2 d2 M2 e2 sr2 dn2 q2 => ?_) (rx.mono e1)
    obtain ⟨fs, gs, i1, i2, q2⟩ := q2
    have dn' := dn.mono e2
    obtain ⟨p, dx, us, rfl, h1, _⟩ := insD_den sr2 dn' i1
    obtain ⟨p2, dx2, us2, rfl, h2, _⟩ := insD_den sr2 dn2 i2
    refine ⟨p, p2, dx, dx2, us, us2, rfl, rfl, h1, h2, F2, M2, Gh, [d, d2], _, EQ, rfl, sr2, .cons dn' (.one dn2), q2, fun r H3 F3 dr M3 e3 sr3 dn3 q3 => ?_, (rx.mono (e1.trans e2))⟩
    obtain ⟨k, rfl, q3⟩ := q3
    cases dn3
    exact ⟨k, rfl, rn _ H3 F3 _ M3 ((e1.trans e2).trans e3) sr3 (.bl k) q3⟩
theorem je_eqOwn {a b : Expr} {pos : Pos} {wa wb : WE} {C : Str} (c : Callee B.T) (hk : c.k ≤ B.lv) (hnp : c.np = 2) (hks : c.ks = []) (hs : PySem.W.findIn B.T.K (.ref (B.T.adr C)) "__eq__" = some (some (.ref c.f))) (hf : PySem.W.isFn B.T.K (.ref c.f) = true) (ha : JE B a wa) (hb : JE B b wb) (hcm : B.cm = true := by rfl) :
    JE B (.Compare a [.Eq] [b] pos) (wEqOwn C c.d wa wb) := fun W => by
  obtain ⟨t, h1, h2⟩ := eqOwn_core c hk hnp hks hs hf ha hb hcm W
  exact ⟨t, fun X Ck tk => pe_cmp (h1 X Ck tk) (nobehind _ (by decide) (by decide)), h2⟩
theorem jt_eqOwn {a b : Expr} {pos : Pos} {wa wb : WE} {C : Str} (c : Callee B.T) (hk : c.k ≤ B.lv) (hnp : c.np = 2) (hks : c.ks = []) (hs : PySem.W.findIn B.T.K (.ref (B.T.adr C)) "__eq__" = some (some (.ref c.f))) (hf : PySem.W.isFn B.T.K (.ref c.f) = true) (ha : JE B a wa) (hb : JE B b wb) (hcm : B.cm = true := by rfl) :
    JT B (.Compare a [.Eq] [b] pos) (wTest (wEqOwn C c.d wa wb)) := fun W => by
  obtain ⟨t, h1, h2⟩ := eqOwn_core c hk hnp hks hs hf ha hb hcm W
  exact ⟨_, fun X Ck tk => pt_cmp (h1 X Ck tk) (nobehind _ (by decide) (by decide)), et_B h2⟩
/-! ### dict displays, their keys written texts -/
def mergeD (kvs more : List (Key × D)) : List (Key × D) := more.foldl (fun acc kv => putKD acc kv.1 kv.2) kvs
theorem DenK.merge {T : Wd} {F : Hp} : ∀ {more : List (Key × V)} {moreD : List (Key × D)} {kvs : List (Key × V)} {ds : List (Key × D)}, DenK T F more moreD → DenK T F kvs ds → DenK T F (mergeK kvs more) (mergeD ds moreD)
  | _, _, _, _, .nil, h => h
  | _, _, kvs, ds, .cons (k := k) (v := v) (vs := more) (d := d) (ds := moreD) q l, h => by
    show DenK T F (mergeK (putK kvs k v) more) (mergeD (putKD ds k d) moreD)
    exact DenK.merge l (h.put (k := k) q)
theorem DenK.zip {T : Wd} {F : Hp} : ∀ (ks : List Key) {vs : List V} {ds : List D}, DenL T F vs ds → DenK T F (ks.zip vs) (ks.zip ds)
  | [], _, _, _ => .nil
  | _ :: _, _, _, .nil => .nil
  | k :: ks, _, _, .cons q l => .cons q (DenK.zip ks l)
def EvPs (T : Wd) (W : WX) (trs : List (TE × TE)) (ks : List Key) (wa : WA) : Prop := ∀ (σ : L2.St) (H F Gh : Hp) (env : EnvD) (M : MS) Q EQ (R : List (V × V) → Hp → Prop), SR T F M Gh H → EnvR T F σ env → wa env M Q EQ →
  (∀ vs H' F' ds M', Ex F F' → SR T F' M' Gh H' → DenL T F' vs ds → vs.length = ks.length → Q ds M' → R ((ks.zip vs).map fun kv => (kV kv.1, kv.2)) H') → RX T F Gh EQ W σ → tPairs trs σ H R
def JPs (B : Bd) (pos : Pos) (keys : List (Option Expr)) (vals : List Expr) (ks : List Key) (wa : WA) : Prop := ∀ W, ∃ trs, (∀ X, B.In X → Takes X W → PPs X pos keys vals trs) ∧ EvPs B.T W trs ks wa
theorem jps_nil {pos : Pos} : JPs B pos [] [] [] wNil := fun W => ⟨[], fun X c tk => pps_nil, fun σ H F Gh env M Q EQ R sr er hw rn rx => rn [] H F [] M (Ex.refl F) sr .nil rfl hw⟩
theorem jps_cons {pos p : Pos} {x : Str} {j : Nat} {v : Expr} {keys : List (Option Expr)} {vals : List Expr} {ks : List Key} {w : WE} {wr : WA} (h : JE B v w) (hr : JPs B pos keys vals ks wr) : JPs B pos (some (.Constant (.str x) j p) :: keys) (v :: vals) (.inr x :: ks) (wCons w wr) := fun W => by
  obtain ⟨t, h1, h2⟩ := h W
  obtain ⟨tr, r1, r2⟩ := hr W
  refine ⟨(tC (.str x), t) :: tr, fun X c tk => pps_cons pe_str (h1 X c tk) (r1 X c tk), fun σ H F Gh env M Q EQ R sr er hw rn rx => ?_⟩
  show t σ H _
  refine h2 σ H F Gh env M _ EQ _ sr er hw (fun y H1 F1 d M1 e1 sr1 dn q => ?_) rx
  refine r2 σ H1 F1 Gh env M1 _ EQ _ sr1 (er.mono e1) q (fun vs H2 F2 ds M2 e2 sr2 dl hl q2 => ?_) (rx.mono e1)
  exact rn (y :: vs) H2 F2 (d :: ds) M2 (e1.trans e2) sr2 (.cons (dn.mono e2) dl) (by rw [List.length_cons, List.length_cons, hl]) q2
def wDicM (ks : List Key) (wa : WA) : WE := fun env M Q EQ => wa env M (fun ds M1 => ∀ a, M1 a = none → Q (.ref a) (M1.set a (.dic (mergeD [] (ks.zip ds))))) EQ
theorem je_dicM {keys : List (Option Expr)} {vals : List Expr} {pos : Pos} {ks : List Key} {wa : WA} (h : JPs B pos keys vals ks wa) (hall : keys.all (·.isSome) = true) (hl : keys.length = vals.length) (h0 : keys ≠ []) (h15 : keys.length ≤ 15) (hk : ks.length ≤ 15) :
    JE B (.Dict keys vals pos) (wDicM ks wa) := fun W => by
  obtain ⟨trs, h1, h2⟩ := h W
  refine ⟨tDisp trs, fun X c tk => pe_disp (h1 X c tk) hall hl h0 h15, fun σ H F Gh env M Q EQ R sr er hw rn rx => ?_⟩
  intro p hp
  have gp := sr.freeG hp
  refine h2 σ _ F _ env M _ EQ _ (sr.newG (o := .dK []) hp) er hw (fun vs H1 F1 ds M1 e1 sr1 dl hlen q => ?_) (fun c dd H' F' x M' e s' xd q => rx c dd H' F' x M' e (s'.dropG fun a o ea => ?_) xd q)
  · obtain ⟨g1, g2⟩ := sr1.gr p _ upd_same
    refine ⟨g1, ks.zip vs, rfl, Nat.le_trans (by rw [List.length_zip]; omega) hk, ?_⟩
    have hM : M1 p = none := by
      cases z : M1 p with
      | none => rfl
      | some m =>
        have z2 := (sr1.mu p m z).2.1
        rw [upd_same] at z2
        cases z2
    have s2 := sr1.setG (o := .dK (mergeK [] (ks.zip vs))) (o0 := .dK []) upd_same
    rw [upd_upd] at s2
    exact rn (.ref p) _ F1 (.ref p) _ e1 (s2.mutG gp (m := .dic (mergeD [] (ks.zip ds))) ⟨_, upd_same, DenK.merge (DenK.zip ks dl) .nil⟩) (.ref p) (q p hM)
  · have hap : a ≠ p := ne_of_none ea gp
    rw [upd_ne hap]
    exact ea
end
end G

/-! Eng18: enumerate(xs, start=1); callees told by their promise alone; rules of the loops. -/
namespace G
open PySem PySem.Spec PyProof.Rows L2 RZ

/-! ### enumerate from a count -/
def IteK (K : PySem.W.Frag) (c : Int) (a : Addr) : It :=
  ⟨fun i H => ∃ (xs : List V) (x : V), SqL K H a xs ∧ xs[i]? = some x, fun i H v H' => ∃ T x, v = .ref T ∧ H T = none ∧ H' = upd H T (.tup [.int (c + (i : Nat)), x]) ∧ ∀ xs, SqL K H a xs → xs[i]? = some x, fun i H => ∃ xs : List V, SqL K H a xs ∧ xs.length ≤ i⟩
theorem drawsEnd {prog : Program} {w : World} {A : Around} (hh : A.handled = none) {it l : Addr} {items : Array Value} {i : Nat} (hx : items[i]? = none) : Draws prog w A it [it, l] i (fun _ _ => False) (fun j h => j = i ∧ h.IsListIter it l i ∧ h.IsList l items) where
  live := fun _ _ st => let ⟨o, ho, _⟩ := st.2.1; ⟨o, ho⟩
  frame := fun _ _ _ st hk => ⟨st.1, st.2.1.at fun o e => hk it (by simp) o e, st.2.2.at fun o e => hk l (by simp) o e⟩
  item := fun j s Q E hi st hQ => absurd st.1 (Nat.ne_of_lt hi)
  done := fun s Q E st hE => wpAny_nextOf_list_end hh st.2.1 st.2.2 hx hE
theorem turn_enumK {P : Program} {w : World} {K : PySem.W.Frag} {elts : List Expr} {kk : Nat} {tpos : Pos} (c : Int) (a e it : Addr) (hai : a ≠ it) (hae : e ≠ a) :
    Turn P w K (.Tuple elts kk tpos) (IteK K c a) [e, it] e (fun i h => (∃ old, IsEnum h e it (c + (i : Nat)) old) ∧ h.IsListIter it a i ∧ e ≠ it) where
  mem := by simp
  obj := fun i h st b hb => by
    obtain ⟨⟨old, he⟩, ⟨o, ho, hc, hd⟩, _⟩ := st
    have e' : b = e ∨ b = it := by simpa using hb
    rcases e' with z | z
    · rw [z]; exact ⟨_, he, fun v q => nomatch q⟩
    · rw [z]; exact ⟨o, ho, fun v q => by rw [hd] at q; cases q⟩
  keep := fun i h h' st k => let ⟨⟨old, he⟩, hi, hne⟩ := st; ⟨⟨old, k e (by simp) _ he⟩, hi.at fun o q => k it (by simp) o q, hne⟩
  item := by
    intro X hP hw hK hc i pins s σ H E I hf st hg
    subst hP hw hK
    obtain ⟨⟨old, he⟩, hit, hne⟩ := st
    obtain ⟨xs, x, hq, hx⟩ := hg
    obtain ⟨its, rv, p, hz⟩ := I.list hq
    obtain ⟨u, hu, ru⟩ := rv.get hx
    have hel : e < s.heap.objs.size := Heap.lt_size he
    have hil : it < s.heap.objs.size := by obtain ⟨_, q, _⟩ := hit; exact Heap.lt_size q
    have hlt : i < its.toArray.size := by
      obtain ⟨z, _⟩ := List.getElem?_eq_some_iff.mp hu
      simpa using z
    have D := Draws.list (prog := X.prog) (w := X.w) (A := X.A.in1) (show X.A.in1.handled = none from I.ok.hd hc) it a hai its.toArray
    refine wpAny_pyNext_enum_itemC D he ⟨hit, p.isList⟩ hlt hne (by simp [hne, hae]) fun u' h' tk hu' ho hst hT hsz hk => ?_
    obtain rfl : u = u' := by
      have z : its[i]? = some u' := by simpa using hu'
      rw [hu] at z
      exact Option.some.inj z
    obtain ⟨hit', _⟩ := hst
    refine ⟨_, rfl, wpAny_letOwnedTupleGo_enum (s := { s with heap := h', toks := tk + 1 }) ho fun h'' he' sb => ?_⟩
    have hT2 : h''.get? s.heap.objs.size = some { cls := .type "tuple", data := .seq #[.int (c + (i : Nat)) tk, u] } := (sb.2 _ (Nat.ne_of_gt hel)).trans hT
    have new : ObjOk X.prog X.w (upd H s.heap.objs.size (.tup [.int (c + (i : Nat)), x])) h'' s.heap.objs.size (.tup [.int (c + (i : Nat)), x]) :=
      ⟨by show 2 ≤ sizeLine; decide, [.int (c + (i : Nat)) tk, u], .cons ⟨_, rfl⟩ (.cons ru .nil), ⟨_, hT2, rfl, _, rfl⟩⟩
    have I1 : Inv X pins σ (upd H s.heap.objs.size (.tup [.int (c + (i : Nat)), x])) { s with heap := h'', toks := tk + 1 } :=
      I.turnedNew (ch := [e, it]) (fun b ob hb q => (sb.2 b (fun z => hb (by simp [z]))).trans (hk b ob (fun z => hb (by simp [z])) (fun z => hb (by simp [z])) q)) hf (Nat.le_refl _) new
    refine ⟨.ref s.heap.objs.size, _, I1, rfl, ⟨_, x, rfl, I.hok.fresh (Nat.le_refl _), rfl, fun ys hy => by rw [I.list_inj hy hq]; exact hx⟩, ⟨⟨u, ?_⟩, hit'.at fun o q => (sb.2 it (Ne.symm hne)).trans q, hne⟩, fun b hb => ?_⟩
    · have e1 : c + ((i + 1 : Nat) : Int) = c + (i : Int) + 1 := by omega
      rw [e1]; exact he'
    · have hb' : b < s.heap.objs.size := by
        have e' : b = e ∨ b = it := by simpa using hb
        rcases e' with z | z
        · rw [z]; exact hel
        · rw [z]; exact hil
      rw [upd_ne (Nat.ne_of_lt hb')]
      exact (hf b hb).1
  done := by
    intro X hP hw hK hc i pins s σ H E I hf st hg
    subst hP hw hK
    obtain ⟨⟨old, he⟩, hit, hne⟩ := st
    obtain ⟨xs, hq, hx⟩ := hg
    obtain ⟨its, rv, p, hz⟩ := I.list hq
    obtain ⟨f0, f1, f2, f3, f4, f5⟩ := hf it (by simp)
    have hl := rv.length
    exact wpAny_pyNext_enum_endD (drawsEnd (prog := X.prog) (w := X.w) (A := X.A.in1) (l := a) (items := its.toArray) (i := i) (show X.A.in1.handled = none from I.ok.hd hc) (by simp; omega)) he ⟨rfl, hit, p.isList⟩ fun h' eb => ⟨rfl, I.turned (t' := s.toks) (fun b o hb q => eb b o hb q) f0 f1 f3 f4 f5⟩
  self := fun A i s Q E st h => let ⟨⟨_, he⟩, _⟩ := st; wpAny_pyIter_enum he h
def iEnumK (K : PySem.W.Frag) (c : Int) (ta : TA) : TI := fun σ H R => ta σ H fun vs H1 => ∃ a xs, vs = [.ref a] ∧ SqL K H1 a xs ∧ R (IteK K c a) H1
theorem callWith_typeKw {M : Model} {A : Around} {E : Value → Shared → Prop} {s : Shared} {env : Env} {pos : Pos} {T : String} {e : Expr} {rest : List Expr} {kws : List Keyword} {Q : Value → Shared → Prop}
    (h : wpAny M A (spliced (backTo pos (starEach (e :: rest) env))) (fun vs s₁ => wpAny M A (evalAll ((backToKw pos (keywordEach kws env)).map (·.2)))
      (fun kvs s₂ => wpAny M A (call (.type T) vs (((backToKw pos (keywordEach kws env)).filterMap (·.1)).zip kvs)) Q E s₂) E s₁) E s)
    (he : starEach (e :: rest) env = (false, eval e env) :: starEach rest env) (hplain : (backTo pos (starEach rest env)).any (·.1) = false)
    (hall : (backToKw pos (keywordEach kws env)).all (·.1.isSome) = true) (hkw : (backToKw pos (keywordEach kws env)).any (·.1.isNone) = false) :
    wpAny M A (callWith pos (.type T) [] (backTo pos (starEach (e :: rest) env)) (backToKw pos (keywordEach kws env))) Q E s := by
  rw [he] at h ⊢
  have hpl : (backTo pos ((false, eval e env) :: starEach rest env)).any (·.1) = false := by
    show (false || (backTo pos (starEach rest env)).any (·.1)) = false
    rw [hplain]; rfl
  have h2 : wpAny M A (evalArgs (.type T) true (backTo pos ((false, eval e env) :: starEach rest env)) (backToKw pos (keywordEach kws env))) (fun a s₁ => wpAny M A (call (.type T) ([] ++ a.pos) a.kw) Q E s₁) E s := evalArgs_kwB hall h
  unfold callWith
  refine wpAny_bind (wpAny_holding (wpAny_mono h2 (fun a s₁ h₁ => wpAny_bind (wpAny_standAt ?_)) fun _ _ x => x))
  simp only [hpl, hkw, Bool.or_false]
  refine wpAny_bind (wpAny_pure ?_)
  exact wpAny_bind (wpAny_mono h₁ (fun r s₂ hr => wpAny_bind (wpAny_holding (wpAny_point (wpAny_pure hr)))) fun _ _ x => x)
theorem pi_enumK {X : Cx} {e : Expr} {c : Int} {j : Nat} {ta : TA} {p pos tpos kp cp : Pos} {elts : List Expr} {kk : Nat} (hg : Gl X "enumerate") (hm : X.mg "enumerate" = none) (hb : -(2 ^ 63) ≤ c ∧ c < 2 ^ 63) (ha : PA X [e] ta) (hs : starEach [e] X.env = [(false, eval e X.env)]) :
    PI X (.Tuple elts kk tpos) (.Call (.Name "enumerate" p) [e] [⟨some "start", .Constant (.int c) j cp, kp⟩] pos) (iEnumK X.K c ta) := by
  refine ⟨fun pins s σ H R I h => ?_⟩
  refine wpAny_Call_Name_kw (ld_blt I hg hm boot_enumerate (callWith_typeKw (thn (ha.run pos pins s σ H _ I h) fun us s1 ⟨vs, H1, I1, r1, q1⟩ => ?_) hs rfl rfl rfl))
  obtain ⟨a, xs, ex, hq, q⟩ := q1
  subst ex
  cases r1 with
  | cons r rr =>
    cases rr
    cases r
    refine kws_cons (thn ((pe_int (X := X) (i := c) (j := j) (pos := cp)).run pins s1 σ H1 (fun v H2 => v = .int c ∧ H2 = H1) I1 ⟨rfl, rfl⟩) fun u s2 ⟨x, H2, I2, r2, e1, e2⟩ => ?_)
    subst e1 e2
    obtain ⟨t, rfl⟩ := r2
    refine kws_nil ?_
    obtain ⟨its, rv, p', hz⟩ := I2.list hq
    refine enum_begins_start (begins_list a its.toArray) p'.isList hb.1 hb.2 fun h' he hit hsz hk => wpAny_pyIter_enum he ?_
    have I3 : Inv X pins σ H2 { s2 with heap := h' } := I2.kept (t' := s2.toks) hk
    have hal : a < s2.heap.objs.size := by
      obtain ⟨o, ho, _⟩ := p'.isList
      exact Heap.lt_size ho
    refine ⟨s2.heap.objs.size + 1, [s2.heap.objs.size + 1, s2.heap.objs.size], _, _, H2, rfl, I3, turn_enumK c a (s2.heap.objs.size + 1) s2.heap.objs.size (Nat.ne_of_lt hal) (fun z => Nat.lt_irrefl _ (Nat.lt_trans hal (show s2.heap.objs.size < a from z ▸ Nat.lt_succ_self _))), ⟨⟨.none, ?_⟩, ⟨_, hit, rfl, rfl⟩, Nat.succ_ne_self _⟩, fun b hb => ?_, q⟩
    · have e1 : c + ((0 : Nat) : Int) = c := by omega
      rw [e1]; exact he
    · have e' : b = s2.heap.objs.size + 1 ∨ b = s2.heap.objs.size := by simpa using hb
      have hle : s2.heap.objs.size ≤ b := by
        rcases e' with z | z
        · rw [z]; exact Nat.le_add_right _ _
        · rw [z]; exact Nat.le_refl _
      exact I2.fpOk hle (I2.hok.fresh hle)
section
variable {T : Wd}
theorem itok_enumK {F : Hp} {a : Addr} {c : Int} {d1 : D} {xs : List D} (dn1 : Den T F (.ref a) d1) : ItOk T F (IteK T.K c a) (fun M => asS M d1 = some xs) (enumD c xs) := by
  intro F' M Gh H e sr k
  obtain ⟨a', us, ea, hs1, dl1⟩ := asS_den sr (dn1.mono e) k
  cases ea
  rw [enumD_len]
  refine ⟨fun i hi => ?_, fun i hi => ⟨us, hs1, by rw [dl1.length]; omega⟩, fun i x H' hi ⟨p, x1, ex, hp, eH, g1⟩ => ?_⟩
  · have hl1 : i < us.length := by rw [dl1.length]; omega
    exact ⟨us, us[i], hs1, List.getElem?_eq_getElem hl1⟩
  · subst ex eH
    obtain ⟨dx, h1, h2⟩ := dl1.get (g1 us hs1)
    obtain ⟨F'', d, e1, sr', dn, rfl⟩ := new_pair sr hp (.int (c + (i : Nat))) h2
    exact ⟨F'', _, e1, sr', dn, enumD_get h1⟩
def enumKI (c : Int) (ds : List D) (M : MS) (Q : (MS → Prop) → List D → MS → Prop) : Prop := ∃ x xs, ds = [x] ∧ asS M x = some xs ∧ Q (fun M' => asS M' x = some xs) (enumD c xs) M
theorem ei_enumK {W : WX} {c : Int} {ta : TA} {wa : WA} (h : EvA T W ta wa) : EvI T W (iEnumK T.K c ta) (wRng (enumKI c) wa) := by
  intro σ H F Gh env M Q EQ R sr er hw rn rx
  refine h σ H F Gh env M _ EQ _ sr er hw (fun vs H1 F1 ds M1 e1 sr1 dn q => ?_) rx
  obtain ⟨x, xs, rfl, h1, q⟩ := q
  cases dn with
  | cons d t =>
    cases t
    obtain ⟨a, us, rfl, s1, l1⟩ := asS_den sr1 d h1
    exact ⟨a, us, rfl, s1, rn _ H1 F1 _ _ M1 e1 sr1 (itok_enumK d) h1 q⟩
end
section
variable {B : Bd}
theorem ji_enumK {elts : List Expr} {kk : Nat} {tpos : Pos} {e : Expr} {c : Int} {j : Nat} {p pos kp cp : Pos} {w : WA} (hx : glB B.sc "enumerate" = true ∧ B.T.mg "enumerate" = none) (hb : -(2 ^ 63) ≤ c ∧ c < 2 ^ 63) (h : JA B [e] w) (hs : noStar [e] = true) : JI B (.Tuple elts kk tpos) (.Call (.Name "enumerate" p) [e] [⟨some "start", .Constant (.int c) j cp, kp⟩] pos) (wRng (enumKI c) w) := fun W => by
  obtain ⟨t, h1, _, h2⟩ := h W
  refine ⟨iEnumK B.T.K c t, fun X c' tk => ?_, ei_enumK h2⟩
  rw [← c'.K]
  exact pi_enumK (gl_of c' hx.1).1 (by rw [c'.mg]; exact hx.2) hb (h1 X c' tk) (starEach_one hs)
/-! ### callees told by their promise -/
/-- x is called with np values and keywords ks, by d -/
def CalOk (T : Wd) (lv : Nat) (x : Str) (d : DSp) (np : Nat) (ks : List Str) : Prop := ∃ c : Callee T, c.k ≤ lv ∧ T.mg x = some (.ref c.f) ∧ c.d = d ∧ c.np = np ∧ c.ks = ks
theorem je_callC {x : Str} {p pos : Pos} {es : List Expr} {kws : List Keyword} {wa wk : WA} {d : DSp} {np nk : Nat} {ks : List Str} (h : CalOk B.T B.lv x d np ks) (hg : glB B.sc x = true) (ha : JA B es wa) (hkw : JK B kws wk)
    (hs : noStar es = true) (hn : kwNames kws = some ks) (hcm : B.cm = true := by rfl) (hnk : ks.length = nk := by rfl) : JE B (.Call (.Name x p) es kws pos) (wCal d np nk wa wk) := by
  subst hnk
  obtain ⟨c, h1, h2, rfl, rfl, rfl⟩ := h
  exact je_call c h1 hg h2 ha hkw hs hn hcm
theorem starEach_plain {env : Env} : ∀ {es : List Expr}, noStar es = true → (starEach es env).all (fun x => !x.1) = true
  | [], _ => rfl
  | e :: r, h => by
    rw [starEach_cons h, List.all_cons, starEach_plain (noStar_tail h)]
    rfl
theorem mtree_of {e : Expr} {m : Str} {apos pos : Pos} {es : List Expr} {kws : List Keyword} (hb : ABase e m) (hs : noStar es = true) (hk : (kwNames kws).isSome = true) (hn : decide (es.length + kws.length < 29) = true) (hl : (apos.endLine == pos.line) = true) : MTree e m apos es kws pos := by
  refine ⟨fun env => do return (← importBound e env).getD true, fun env => ?_⟩
  obtain ⟨ks, hk⟩ := Option.isSome_iff_exists.mp hk
  have hf : methodCallForm (es.length + kws.length) (backTo pos (starEach es env)) (backToKw pos (keywordEach kws env)) = true := by
    unfold methodCallForm
    have h1 : (backTo pos (starEach es env)).all (fun x => !x.1) = true := noStar_all hs
    have h2 := (kw_ok (pos := pos) (env := env) hk).1
    rw [h1, h2]
    have hn := of_decide_eq_true hn
    cases (backToKw pos (keywordEach kws env)).isEmpty
    · simp; omega
    · simp; omega
  show (do
    let ov ← attributeBase e m env (eval e env)
    standAt apos.atName
    methodCall e m apos pos env ov (es.length + kws.length) (backTo pos (starEach es env)) (backToKw pos (keywordEach kws env))) = _
  rw [hb env]
  unfold methodCall calleeOf methodCallPos
  rw [hf, hl]
  rfl
/-- a method m of the class C -/
def MetOk (T : Wd) (lv : Nat) (C m : Str) (d : DSp) (np : Nat) (ks : List Str) : Prop := ∃ c : Callee T, c.k ≤ lv ∧ MAlt T m C c ∧ c.d = d ∧ c.np = np ∧ c.ks = ks
theorem je_methC {e : Expr} {m : Str} {apos pos : Pos} {es : List Expr} {kws : List Keyword} {w : WE} {wa wk : WA} {C : Str} {d : DSp} {np nk : Nat} {ks : List Str} (h : MetOk B.T B.lv C m d np ks) (ho : JE B e w) (ha : JA B es wa) (hkw : JK B kws wk)
    (hs : noStar es = true) (hn : kwNames kws = some ks) (ht : MTree e m apos es kws pos) (hcm : B.cm = true := by rfl) (hnk : ks.length = nk := by rfl) : JE B (.Call (.Attribute e m apos) es kws pos) (wMeth1 C m d np nk w wa wk) := by
  subst hnk
  obtain ⟨c, h1, h2, rfl, rfl, rfl⟩ := h
  exact je_meth1 c h2 h1 hn ho ha hkw hs ht hcm
/-- the class C has an own == -/
def EqOk (T : Wd) (lv : Nat) (C : Str) (d : DSp) : Prop := ∃ c : Callee T, c.k ≤ lv ∧ c.d = d ∧ c.np = 2 ∧ c.ks = [] ∧ PySem.W.findIn T.K (.ref (T.adr C)) "__eq__" = some (some (.ref c.f)) ∧ PySem.W.isFn T.K (.ref c.f) = true
theorem je_eqC {a b : Expr} {pos : Pos} {wa wb : WE} {C : Str} {d : DSp} (h : EqOk B.T B.lv C d) (ha : JE B a wa) (hb : JE B b wb) (hcm : B.cm = true := by rfl) : JE B (.Compare a [.Eq] [b] pos) (wEqOwn C d wa wb) := by
  obtain ⟨c, h1, rfl, h2, h3, h4, h5⟩ := h
  exact je_eqOwn c h1 h2 h3 h4 h5 ha hb hcm
theorem jt_eqC {a b : Expr} {pos : Pos} {wa wb : WE} {C : Str} {d : DSp} (h : EqOk B.T B.lv C d) (ha : JE B a wa) (hb : JE B b wb) (hcm : B.cm = true := by rfl) : JT B (.Compare a [.Eq] [b] pos) (wTest (wEqOwn C d wa wb)) := by
  obtain ⟨c, h1, rfl, h2, h3, h4, h5⟩ := h
  exact jt_eqOwn c h1 h2 h3 h4 h5 ha hb hcm
/-! ### x, y = a, b: one of them in a cell -/
def cell2 (B : Bd) (x y : Str) : Bool := B.sc.names.lookup x != some NameKind.local || B.sc.names.lookup y != some NameKind.local
theorem js_asg2 {x y : Str} {px py pt pt2 pos : Pos} {a b : Expr} {kt k2 : Nat} {w : WE} {g : WG} (hc : cell2 B x y = true) (h : JE B (.Tuple [a, b] k2 pt2) w) (hg : JG B (.Tuple [.Name x px, .Name y py] kt pt) g) :
    JS B (.Assign [.Tuple [.Name x px, .Name y py] kt pt] (.Tuple [a, b] k2 pt2) pos) (wAsg w g) := fun W => by
  obtain ⟨t, h1, h2⟩ := h W
  obtain ⟨tg', g1, g2⟩ := hg W
  refine ⟨_, fun X c tk => ps_asg (h1 X c.1 tk) (g1 X c.1 tk) rfl ?_ rfl, es_asg h2 g2⟩
  unfold swappedStores
  unfold cell2 at hc
  rw [Bool.or_eq_true] at hc
  have kx : X.env.kindOf x = B.sc.names.lookup x := by show X.env.scope.names.lookup x = _; rw [c.1.hsc]
  have ky : X.env.kindOf y = B.sc.names.lookup y := by show X.env.scope.names.lookup y = _; rw [c.1.hsc]
  have hlen : (List.filterMap (fun (z : Expr) => match z with
      | .Name id pos => if (X.env.kindOf id == some NameKind.local && pos.line == px.line) = true then some id else none
      | _ => none) [.Name x px, .Name y py]).length ≠ 2 := by
    simp only [List.filterMap_cons, List.filterMap_nil]
    rw [kx, ky]
    rcases hc with hc | hc
    · have : (B.sc.names.lookup x == some NameKind.local) = false := by simpa using hc
      rw [this]
      simp
      split <;> simp
    · have : (B.sc.names.lookup y == some NameKind.local) = false := by simpa using hc
      rw [this]
      simp
      split <;> simp
  split
  · rename_i ts vs e
    simp at e
    obtain ⟨rfl, rfl⟩ := e
    simp only [List.length_cons, List.length_nil]
    split
    · rfl
    · split
      · rfl
      · split
        · rfl
        · rename_i hz
          exfalso
          simp only [Bool.or_eq_true, bne_iff_ne, ne_eq, not_or, Decidable.not_not] at hz
          exact hlen hz.1
  · rename_i hz
    exact (hz _ _ rfl).elim
end
/-! ### rules of the loops, in plain terms -/
theorem forD_rule {wg : WG} {wb : WS} {K : KD} {Kp : MS → Prop} (I : List D → EnvD → MS → Prop)
    (step : ∀ x xs env M (Z : EnvD → MS → Prop), I (x :: xs) env M → (∀ e2 M2, I xs e2 M2 → Z e2 M2) → wg x env M (fun env1 M1 => wb env1 M1 { K with nx := fun e2 M2 => Kp M2 ∧ Z e2 M2, ct := fun e2 M2 => Kp M2 ∧ Z e2 M2, bk := K.nx }) (fun y M1 => K.ex y env M1))
    (fin : ∀ env M, I [] env M → K.nx env M) : ∀ (xs : List D) (env : EnvD) (M : MS), I xs env M → forD wg wb K Kp xs env M
  | [], env, M, h => fin env M h
  | x :: xs, env, M, h => step x xs env M _ h fun e2 M2 h2 => forD_rule I step fin xs e2 M2 h2
theorem lcD_rule {wg : WG} {wt : WT} {we : WE} {Kp : MS → Prop} {env : EnvD} {Q : List D → MS → Prop} (I : List D → List D → MS → Prop)
    (step : ∀ x xs acc M (Z : List D → MS → Prop), I (x :: xs) acc M → (∀ acc' M', I xs acc' M' → Z acc' M') → wg x env M (fun env1 M1 => wt env1 M1 (fun b M2 => if b = true then we env1 M2 (fun y M3 => acc.length < sizeLine ∧ Kp M3 ∧ Z (acc ++ [y]) M3) noE else Kp M2 ∧ Z acc M2) noE) noE)
    (fin : ∀ acc M, I [] acc M → Q acc M) : ∀ (xs acc : List D) (M : MS), I xs acc M → lcD wg wt we Kp env Q xs acc M
  | [], acc, M, h => fin acc M h
  | x :: xs, acc, M, h => step x xs acc M _ h fun a2 M2 h2 => lcD_rule I step fin xs a2 M2 h2
/-- a comprehension that changes nothing: each item by g -/
theorem lcD_pure {wg : WG} {wt : WT} {we : WE} {Kp : MS → Prop} {env : EnvD} {Q : List D → MS → Prop} {M : MS} (g : D → Option D) (hK : Kp M) : ∀ (xs acc : List D), acc.length + xs.length ≤ sizeLine →
    (∀ x ∈ xs, ∀ (acc : List D) (Z : List D → MS → Prop), acc.length < sizeLine → (∀ y, g x = some y → Z (acc ++ [y]) M) → (g x = none → Z acc M) → wg x env M (fun env1 M1 => wt env1 M1 (fun b M2 => if b = true then we env1 M2 (fun y M3 => acc.length < sizeLine ∧ Kp M3 ∧ Z (acc ++ [y]) M3) noE else Kp M2 ∧ Z acc M2) noE) noE) →
    Q (acc ++ xs.filterMap g) M → lcD wg wt we Kp env Q xs acc M
  | [], acc, _, _, h => by rw [List.filterMap_nil, List.append_nil] at h; exact h
  | x :: xs, acc, hl, step, h => by
    have hl' : acc.length + (xs.length + 1) ≤ sizeLine := hl
    refine step x (List.mem_cons_self ..) acc _ (by omega) (fun y hy => ?_) (fun hy => ?_)
    · exact lcD_pure g hK xs (acc ++ [y]) (by rw [List.length_append, List.length_singleton]; omega) (fun x' hx' => step x' (List.mem_cons_of_mem _ hx')) (by rw [List.filterMap_cons_some hy] at h; rw [List.append_assoc]; exact h)
    · exact lcD_pure g hK xs acc (by omega) (fun x' hx' => step x' (List.mem_cons_of_mem _ hx')) (by rw [List.filterMap_cons_none hy] at h; exact h)
/-- .. by a plain function -/
theorem lcD_map {wg : WG} {wt : WT} {we : WE} {Kp : MS → Prop} {env : EnvD} {Q : List D → MS → Prop} {M : MS} (g : D → D) (hK : Kp M) (xs : List D) (hl : xs.length ≤ sizeLine)
    (step : ∀ x ∈ xs, ∀ (acc : List D) (Z : List D → MS → Prop), acc.length < sizeLine → Z (acc ++ [g x]) M → wg x env M (fun env1 M1 => wt env1 M1 (fun b M2 => if b = true then we env1 M2 (fun y M3 => acc.length < sizeLine ∧ Kp M3 ∧ Z (acc ++ [y]) M3) noE else Kp M2 ∧ Z acc M2) noE) noE)
    (h : Q (xs.map g) M) : lcD wg wt we Kp env Q xs [] M :=
  lcD_pure (fun x => some (g x)) hK xs [] (by simpa using hl) (fun x hx acc Z ha h1 _ => step x hx acc Z ha (h1 _ rfl)) (by
    have e : xs.filterMap (fun x => some (g x)) = xs.map g := by
      rw [← List.filterMap_eq_map]; rfl
    rw [e]
    exact h)
end G

/-! Eng19: the plain shapes, each told once. -/
namespace G
open PySem PySem.Spec PyProof.Rows L2 RZ
section
variable {f : Expr} {args : List Expr} {kws : List Keyword} {pos : Pos} {x : Str} {c : Const} {k : Nat}
theorem plT_call : PlainT (.Call f args kws pos) := fun _ _ => rfl
theorem plT_name : PlainT (.Name x pos) := fun _ _ => rfl
theorem plT_attr : PlainT (.Attribute f x pos) := fun _ _ => rfl
theorem plT_sub : PlainT (.Subscript f (.Name x pos) pos) := fun _ _ => rfl
theorem plT_subg {g : Expr} : PlainT (.Subscript f g pos) := fun _ _ => rfl
theorem plT_const : PlainT (.Constant c k pos) := fun _ _ => rfl
theorem plT_lc {gs : List Comprehension} {sc : Scope} : PlainT (.ListComp f gs sc pos) := fun _ _ => rfl
theorem plT_bin {o : Operator} {g : Expr} : PlainT (.BinOp f o g pos) := fun _ _ => rfl
theorem ab_name {m : Str} : ABase (.Name x pos) m := fun _ => rfl
theorem ab_attr {m : Str} : ABase (.Attribute f x pos) m := fun _ => rfl
theorem ab_sub {g : Expr} {m : Str} : ABase (.Subscript f g pos) m := fun _ => rfl
theorem ab_const {m : Str} : ABase (.Constant c k pos) m := fun _ => rfl
theorem ab_callA {g : Expr} {p : Pos} {m : Str} : ABase (.Call (.Attribute g x p) args kws pos) m := fun _ => rfl
theorem ab_callN {p : Pos} {e : Expr} {m : Str} : ABase (.Call (.Name x p) (e :: args) kws pos) m := fun _ => rfl
theorem ab_callK {p : Pos} {e : Keyword} {m : Str} : ABase (.Call (.Name x p) [] (e :: kws) pos) m := fun _ => rfl
theorem ab_bin {o : Operator} {g : Expr} {m : Str} : ABase (.BinOp f o g pos) m := fun _ => rfl
theorem ab_lst {m : Str} : ABase (.List args pos) m := fun _ => rfl
theorem pix_name : PlainIx (.Name x pos) := fun _ _ => rfl
theorem pix_const : PlainIx (.Constant c k pos) := fun _ _ => rfl
theorem pix_un {o : UnaryOp} : PlainIx (.UnaryOp o f pos) := fun _ _ => rfl
theorem pix_bin {o : Operator} {g : Expr} : PlainIx (.BinOp f o g pos) := fun _ _ => rfl
theorem pix_call : PlainIx (.Call f args kws pos) := fun _ _ => rfl
theorem pix_sub {g : Expr} : PlainIx (.Subscript f g pos) := fun _ _ => rfl
theorem pix_attr : PlainIx (.Attribute f x pos) := fun _ _ => rfl
theorem pix_if {a b : Expr} : PlainIx (.IfExp f a b pos) := fun _ _ => rfl
theorem pix_tup : PlainIx (.Tuple args k pos) := fun _ _ => rfl
def SubSet (i : Expr) : Prop := ∀ (o : Expr) (pos : Pos) (env : Env) v, assign (.Subscript o i pos) env v = (do
      let ov ← holding [v] (eval o env)
      let iv ← holding [v, ov] (eval i env)
      standAt pos
      holding [v, ov, iv] (setItem ov iv v)
      release [v, ov, iv] [])
theorem ss_name : SubSet (.Name x pos) := fun _ _ _ _ => rfl
theorem ss_const : SubSet (.Constant c k pos) := fun _ _ _ _ => rfl
theorem ss_un {o : UnaryOp} : SubSet (.UnaryOp o f pos) := fun _ _ _ _ => rfl
theorem ss_bin {o : Operator} {g : Expr} : SubSet (.BinOp f o g pos) := fun _ _ _ _ => rfl
theorem ss_call : SubSet (.Call f args kws pos) := fun _ _ _ _ => rfl
theorem ss_sub {g : Expr} : SubSet (.Subscript f g pos) := fun _ _ _ _ => rfl
theorem ss_attr : SubSet (.Attribute f x pos) := fun _ _ _ _ => rfl
theorem ss_tup : SubSet (.Tuple args k pos) := fun _ _ _ _ => rfl
end
end G

/-! Eng20: a text times a number. -/
namespace G
open PySem PySem.Spec PyProof.Rows L2 RZ
def rMulS : R2 := fun x y H Q => ∃ a k, x = .str a ∧ y = .int k ∧ 1 ≤ k ∧ k ≤ 1000 ∧ a.length ≤ 10000 ∧ Q (.str (Txt.mul a k)) H
theorem mulOk_of {a : Str} {k : Int} (h1 : 1 ≤ k) (h2 : k ≤ 1000) (h3 : a.length ≤ 10000) : MulOk a k := by
  refine ⟨?_, fun _ _ => ?_, fun _ _ => ?_⟩
  · have e1 : ¬ k < -(2 ^ 63 : Int) := by omega
    have e2 : ¬ k ≥ (2 ^ 63 : Int) := by omega
    simp
    omega
  · have hm : (a.length : Int) * k ≤ 10000 * 1000 := Int.mul_le_mul (by omega) h2 (by omega) (by omega)
    have h := (Int.le_ediv_iff_mul_le (a := (a.length : Int)) (b := 2 ^ 63 - 1) (c := k) (by omega)).mpr (Int.le_trans hm (by decide))
    exact Int.not_lt.mpr h
  · have : a.length * k.toNat ≤ 10000 * 1000 := Nat.mul_le_mul h3 (by omega)
    unfold Builtin.Str.tooLong
    simp
    exact Nat.le_trans this (by decide)
theorem op_mulS {X : Cx} : OpR X (binaryOp .Mult) rMulS := by
  intro pins s σ H x y v u Q I rx ry h
  obtain ⟨a, k, rfl, rfl, h1, h2, h3, q⟩ := h
  obtain ⟨t, rfl⟩ := rx
  obtain ⟨t', rfl⟩ := ry
  exact PySem.SB.mul (mulOk_of h1 h2 h3) fun t' tk => ⟨.str (Txt.mul a k), H, I.tok _, ⟨_, rfl⟩, q⟩
def mulA (x y : D) (M : MS) (Q : QD) : Prop := match x, y with
  | .str a, .int k => 1 ≤ k ∧ k ≤ 1000 ∧ a.length ≤ 10000 ∧ Q (.str (Txt.mul a k)) M
  | x, y => mulO x y M Q
theorem jop_mulA {B : Bd} : JOp B (binaryOp .Mult) mulA := by
  refine ⟨fun x y H Q => rMulAny B.T.K x y H Q ∨ rMulS x y H Q, fun X c => ?_, ?_⟩
  · rw [← c.K]
    exact opR_or opR_mul op_mulS
  · intro F Gh M H x y dx dy Q R sr hx hy q rn
    unfold mulA at q
    split at q
    · cases hx
      cases hy
      exact .inr ⟨_, _, rfl, rfl, q.1, q.2.1, q.2.2.1, fin_v sr (.str _) q.2.2.2 rn⟩
    · exact .inl (op2_mul F Gh M H x y _ _ Q R sr hx hy q rn)
end G

/-! Eng21: raising an exception of the text's own. -/
namespace G
open PySem PySem.Spec PyProof.Rows L2 RZ
/-- what the written part says of an exception class without an own __init__ -/
structure ExcN (T : Wd) (C : Str) : Prop where
  ex : PySem.W.excIn T.K (T.adr C) [.type "ValueError", .type "Exception", .type "BaseException", .type "object"] "ValueError.__new__" = true
  kp : PySem.W.keepIn T.K (.ref (T.adr C)) = true
  sub : PySem.W.subIn T.K (.ref (T.adr C)) (.type "BaseException") = some true
  ty : PySem.W.typeIn T.K (.ref (T.adr C)) = some (.type "type")
/-- raise C('m') -/
def wRaise0 (C : Str) : WS := fun env M K => K.ex ⟨C, []⟩ env M
/-- what such an __init__ keeps: self.f = its value -/
def spInit (T : Wd) (C f : Str) : Sp := fun vs H Q _ => ∃ a y, vs = [.ref a, y] ∧ H a = some (exo a (T.adr C) none) ∧ ∀ dx, H dx = none → dx ≠ a → Q .non (upd (upd H dx (exd dx [(f, y)])) a (exo a (T.adr C) (some dx)))
/-- an exception class whose own __init__ keeps one field -/
structure ExcI (T : Wd) (C f : Str) (k : Nat) : Prop where
  oex : OexC T.K (T.adr C)
  ini : ∃ fI fd ps, PySem.W.findIn T.K (.ref (T.adr C)) "__init__" = some (some (.ref fI)) ∧ PySem.W.typeIn T.K (.ref fI) = some (.type "function") ∧ FnOk T.P T.w T.K T.mg T.base (L2.CX T.P T.w) k fI fd ps (spInit T C f) ∧ Binds T.K fd ps []
/-- the walk of such an __init__ -/
theorem excinit_ok {T : Wd} {C f g : Str} {qual : Str} {st : Stmt} {fI : Addr} {fd : FuncData} {p1 p2 p3 p4 : Pos} (Fn : Fun T.K "__init__" qual st fI fd) (S : FnScope ["self", g] ["self", g] (defScope st)) (hb : defBody st = [.Assign [.Attribute (.Name "self" p1) f p2] (.Name g p3) p4])
    (l1 : (defScope st).names.lookup ("self" : Str) = some NameKind.local) (l2 : (defScope st).names.lookup g = some NameKind.local) (hg : (g == ("__debug__" : Str)) = false ∧ (g == ("__classdict__" : Str)) = false) (oex : OexC T.K (T.adr C)) (nof : PySem.W.findIn T.K (.ref (T.adr C)) f = some none) :
    FnOk T.P T.w T.K T.mg T.base (L2.CX T.P T.w) 1 fI fd ["self", g] (spInit T C f) := by
  refine Fn.okX S (fun vs H Q E h => ?_) (fun cdv A outer s H vs Q E hr h => ?_)
  · obtain ⟨a, y, rfl, _⟩ := h; rfl
  · obtain ⟨a, y, rfl, ha, q⟩ := h
    refine ⟨tOst T.K f (tVar 0) (tVar 1), ?_, ?_⟩
    · rw [hb]
      exact pss_one (ps_ost (to := tVar 0) (te := tVar 1) (pe_var (i := 0) rfl (.inl l1)) (pe_var (i := 1) rfl (.inl l2) hg.1 hg.2))
    · exact ⟨y, rfl, .ref a, rfl, a, T.adr C, rfl, oex, nof, .inl ⟨ha, fun dx h1 h2 => q dx h1 h2⟩⟩
section
variable {B : Bd}
theorem js_raise0 {x m C : Str} {j : Nat} {p p2 pos pos2 : Pos} (E : ExcN B.T C) (hg : glB B.sc x = true) (hm : B.T.mg x = some (.ref (B.T.adr C))) (hcm : B.cm = true := by rfl) : JS B (.Raise (some (.Call (.Name x p) [.Constant (.str m) j p2] [] pos)) none pos2) (wRaise0 C) := fun W => by
  refine ⟨fun _ σ H => W (.ref (B.T.adr C)) none σ H, fun X c tk => ?_, fun σ H F Gh env M K De sr er hw rk => rk.ex _ _ σ H F ⟨C, []⟩ env M (Ex.refl F) sr er .own0 hw⟩
  exact ps_raise (c.1.calm hcm) tk (pmk_own PySem.F.excBase_ValueError (by rw [c.1.K]; exact E.ex) (by rw [c.1.mg]; exact hm) (by rw [c.1.K]; exact E.kp) (raises_own (by rw [c.1.K]; exact E.sub) (by rw [c.1.K]; exact E.ty)) (gl_of c.1 hg).1 (gl_of c.1 hg).2)
/-- raise C(e) -/
def wRaise1 (C f : Str) (wa : WA) : WS := fun env M K => wa env M (fun ds M1 => ∃ d, ds = [d] ∧ K.ex ⟨C, [(f, d)]⟩ env M1) (fun x M1 => K.ex x env M1)
theorem del_upd {H : Hp} {a dx : Addr} {o1 o2 u : HO} {o3 : HO} (ha : H a = none) (hd : H dx = none) (ne : dx ≠ a) : upd (L2.del (upd (upd (upd H a o3) dx o1) a o2) a) dx u = upd H dx u := by
  funext b
  by_cases e1 : b = dx
  · subst e1; rw [upd_same, upd_same]
  · rw [upd_ne e1, upd_ne e1]
    by_cases e2 : b = a
    · subst e2; rw [del_same, ha]
    · rw [del_ne e2, upd_ne e2, upd_ne e1, upd_ne e2]
theorem js_raise1 {x C f : Str} {e : Expr} {p pos pos2 : Pos} {wa : WA} {k : Nat} (E : ExcI B.T C f k) (hk : k + 1 ≤ B.lv) (hg : glB B.sc x = true) (hm : B.T.mg x = some (.ref (B.T.adr C))) (ha : JA B [e] wa) (hs : noStar [e] = true) (hcm : B.cm = true := by rfl) :
    JS B (.Raise (some (.Call (.Name x p) [e] [] pos)) none pos2) (wRaise1 C f wa) := fun W => by
  obtain ⟨ta, a1, _, a2⟩ := ha W
  obtain ⟨fI, fd, ps, i1, i2, i3, i4⟩ := E.ini
  refine ⟨fun _ σ H => tMkO (B.T.adr C) (spInit B.T C f) [] ta σ H fun cls d H' => W cls d σ H', fun X c tk => ?_, fun σ H F Gh env M K De sr er hw rk => ?_⟩
  · have r := (c.1.room hcm).mono hk
    have hP := c.1.P
    have hw := c.1.w
    have hK := c.1.K
    have hmg := c.1.mg
    have hbs := c.1.base
    refine ps_raise (c.1.calm hcm) tk (pmk_oex (k := k) (CX := L2.CX X.prog X.w) (fI := fI) (fd := fd) (ps := ps) (ds := []) (dvs := []) (by rw [hK]; exact E.oex) (by rw [hK]; exact i1) (by rw [hK]; exact i2) (by rw [hP, hw, hK, hmg, hbs]; exact i3) r (by rw [hK]; exact i4) .nil passL (gl_of c.1 hg).1 (by rw [hmg]; exact hm) (a1 X c.1 tk) (gl_of c.1 hg).2 (starEach_cons hs) (noStar_any (noStar_tail hs)))
  · refine a2 σ H F Gh env M _ _ _ sr er hw (fun vs H1 F1 ds M1 e1 sr1 dl q => ?_) (rk.ex.at er)
    obtain ⟨d, rfl, q⟩ := q
    obtain ⟨v, rfl, dn⟩ := dl.one'
    refine ⟨by show 1 ≤ 1000; decide, fun a ha => ?_⟩
    refine ⟨a, v, rfl, upd_same, fun dx hdx hne => ?_⟩
    have hdx0 : H1 dx = none := by rw [upd_ne hne] at hdx; exact hdx
    refine ⟨rfl, dx, [(f, v)], by rw [upd_same], by rw [upd_ne hne, upd_same], hdx0, ?_⟩
    rw [del_upd ha hdx0 hne]
    have ex := Ex.new (o := HO.xd [(f, v)]) (sr1.freeF hdx0)
    exact rk.ex _ _ σ _ _ ⟨C, [(f, d)]⟩ env M1 (e1.trans ex) (sr1.new hdx0) ((er.mono e1).mono ex) (.own upd_same (.cons (dn.mono ex) .nil)) q
end
end G

/-! Eng22: try: .. except C as n: .. -/
namespace G
open PySem PySem.Spec PyProof.Rows L2 RZ
/-- what is asked of a class for e.f, e held -/
structure XFld (T : Wd) (C f : Str) : Prop where
  ga : PySem.W.findIn T.K (.ref (T.adr C)) "__getattribute__" = some (some (.builtin "BaseException.__getattribute__"))
  gg : PySem.W.findIn T.K (.ref (T.adr C)) "__getattr__" = some none
  sub : PySem.W.subIn T.K (.ref (T.adr C)) (.type "BaseException") = some true
  hd : PySem.W.hasDictIn T.K (T.adr C) = true
  no : PySem.W.findIn T.K (.ref (T.adr C)) f = some none
/-- e.f of the held exception -/
def wXfld (T : Wd) (xc : Option (Addr × Value × Option Addr)) (C f : Str) (w : WE) : WE := fun env M Q EQ => w env M (fun x M1 => ∃ a dd fs v, x = .exc a C (some dd) fs ∧ xc = some (a, .ref (T.adr C), some dd) ∧ fs.lookup f = some v ∧ Q v M1) EQ
/-- the context of an except suite -/
abbrev Bd.suite (B : Bd) (a : Addr) (c : Value) (d : Option Addr) : Bd := { B with cm := false, xc := some (a, c, d) }
def tXfld (T : Wd) (xc : Option (Addr × Value × Option Addr)) (C f : Str) (te : TE) : TE := fun σ H Q => te σ H fun x H1 => ∃ (a dd : Addr) (fs : List (Str × V)) (v : V), xc = some (a, .ref (T.adr C), some dd) ∧ x = .ref a ∧ H1 dd = some (.xd fs) ∧ fs.lookup f = some v ∧ Q v H1
section
variable {B : Bd}
theorem suite_in {X : Cx} {a : Addr} {oe : Obj} {c : Value} {d : Option Addr} {pn : List (Addr × Obj)} (h : B.InS X) (hz : Zc c d oe) (hf : ∃ vs, oe.data = .fields vs) : (B.suite a c d).InS (X.suite a ((a, oe) :: pn)) := by
  obtain ⟨h, h1, h2⟩ := h
  refine ⟨⟨h.P, h.w, h.K, h.mg, h.base, h.hN, h.hsc, h.nd, fun z => (nomatch z), h.fnC, fun z => (nomatch z), h.un, PassesOwn.never, fun a' c' d' z => ?_⟩, h1, h2⟩
  cases z
  exact ⟨oe, List.mem_cons_self, hz, hf⟩
theorem je_xfld {e : Expr} {f C : Str} {pos : Pos} {w : WE} (E : XFld B.T C f) (h : JE B e w) (hb : ABase e f) : JE B (.Attribute e f pos) (wXfld B.T B.xc C f w) := fun W => by
  obtain ⟨t, h1, h2⟩ := h W
  refine ⟨tXfld B.T B.xc C f t, fun X c tk => ⟨fun pins s σ H Q I h => ?_⟩, fun σ H F Gh env M Q EQ R sr er hw rn rx => ?_⟩
  · refine attr_of (hb X.env) (thn ((h1 X c tk).run pins s σ H _ I h) fun u s1 hh => ?_)
    obtain ⟨x, H1, I1, rx, a, dd, fs, v, hx, ex, ea, l, q⟩ := hh
    subst ex
    obtain rfl : u = Value.ref a := rx
    obtain ⟨oe, hp, hz, vs, hd⟩ := c.exc _ _ _ hx
    obtain ⟨ha, _⟩ := I1.pin (a, oe) (List.mem_append_left _ hp)
    have hx : ObjOk X.prog X.w H1 s1.heap dd (.xd fs) := I1.hok dd _ ea
    obtain ⟨mA, hns, hr⟩ := hx
    obtain ⟨od, ho, hl⟩ := lookIn_ns hns
    obtain ⟨u, hu, ru⟩ := RelO.some_of (v := v) (o := mA f) (by rw [← l]; exact hr f)
    have J : PySem.W.InstAt s1.heap a oe (B.T.adr C) (some od) := ⟨ha, hz.1, by unfold PySem.W.notCls; rw [hd] <;> rfl, by rw [hz.2]; exact ho⟩
    have hK := c.K
    exact PySem.HandSPX.exc_get I1.kIn J (by rw [hK]; exact E.ga) (by rw [hK]; exact E.gg) (by rw [hK]; exact E.sub) (PySem.W.findObj_own (by rw [hK]; exact E.hd) (by rw [hK]; exact E.no) rfl (by rw [hl, hu])) (handed_of ru) ⟨v, H1, I1.tok _, ru, q⟩
  · refine h2 σ H F Gh env M _ EQ _ sr er hw (fun v H1 F1 d M1 e1 sr1 dn q => ?_) rx
    obtain ⟨a, dd, fs, y, rfl, hx, l, q⟩ := q
    cases dn with
    | exc hd df =>
      obtain ⟨u, lu, du⟩ := df.lookup l
      exact ⟨a, dd, _, u, hx, rfl, sr1.fr _ _ hd, lu, rn u H1 F1 y M1 e1 sr1 du q⟩
/-- the ends of a suite: its name is unbound behind it -/
def KD.unb (K : KD) (i : Nat) : KD := { nx := fun env M => K.nx (env.set i none) M, rt := K.rt, bk := fun env M => K.bk (env.set i none) M, ct := fun env M => K.ct (env.set i none) M, ex := fun _ _ _ => False }
theorem EnvR.unset {T : Wd} {F : Hp} {σ : L2.St} {env : EnvD} (h : EnvR T F σ env) (i : Nat) : EnvR T F (σ.set i none) (env.set i none) := h.wipe [i]
/-- try: body; except C as n: suite. mt: which classes C names -/
def wTryAs (T : Wd) (mt : Str → Option Bool) (i : Nat) (wb : WS) (ws : Addr → Value → Option Addr → WS) : WS := fun env M K => wb env M { K with ex := fun y env1 M1 => match mt y.cls with
  | some true => ∀ a dd, M1 a = none → (dd = none → y.fs = []) → ws a (.ref (T.adr y.cls)) dd (env1.set i (some (.exc a y.cls dd y.fs))) M1 (K.unb i)
  | some false => K.ex y env1 M1
  | none => False }
theorem XDen.clsv {T : Wd} {F : Hp} {c : Value} {dd : Option Addr} {y : Exn} (h : XDen T F c dd y) : c = .ref (T.adr y.cls) := by cases h <;> rfl
theorem XDen.den {T : Wd} {F : Hp} {c : Value} {dd : Option Addr} {y : Exn} (h : XDen T F c dd y) (a : Addr) : Den T F (.ref a) (.exc a y.cls dd y.fs) := by
  cases h with
  | own0 => exact .exc0
  | own h l => exact .exc h l
theorem XDen.fs0 {T : Wd} {F : Hp} {c : Value} {dd : Option Addr} {y : Exn} (h : XDen T F c dd y) (e : dd = none) : y.fs = [] := by
  cases h with
  | own0 => rfl
  | own h l => cases e
theorem js_tryAs {x n C : Str} {i : Nat} {body suite : List Stmt} {b₀ : Stmt} {np pos pos' : Pos} {wb : WS} {ws : Addr → Value → Option Addr → WS} (mt : Str → Option Bool) (hmt : ∀ D b, mt D = some b → PySem.W.exmOne B.T.K (.ref (B.T.adr D)) (.ref (B.T.adr C)) = some b)
    (hg : glB B.sc x = true) (hm : B.T.mg x = some (.ref (B.T.adr C))) (hi : (decide (B.N[i]? = some n) && B.sc.names.lookup n == some NameKind.local) = true)
    (hb : JSs B body wb) (hs : ∀ a c d, JSs (B.suite a c d) (b₀ :: suite) (ws a c d)) (hxc : B.xc = none := by rfl) : JS B (.Try body [.ExceptHandler (some (.Name x np)) (some n) (b₀ :: suite) pos'] [] [] pos) (wTryAs B.T mt i wb ws) := fun W => by
  rw [Bool.and_eq_true, decide_eq_true_eq, beq_iff_eq] at hi
  let tb : WX → TS := fun W1 => (hb W1).choose
  let ts : Addr → Value → Option Addr → TS := fun a c d => (hs a c d (fun _ _ _ _ => False)).choose
  have hb1 : ∀ W1, (∀ X, B.InS X → Takes X W1 → PSs X body (tb W1)) ∧ EvS B.T W1 (tb W1) wb := fun W1 => (hb W1).choose_spec
  have hs1 : ∀ a c d, (∀ X, (B.suite a c d).InS X → Takes X (fun _ _ _ _ => False) → PSs X (b₀ :: suite) (ts a c d)) ∧ EvS B.T (fun _ _ _ _ => False) (ts a c d) (ws a c d) := fun a c d => (hs a c d (fun _ _ _ _ => False)).choose_spec
  refine ⟨fun D σ H => tb (wAs B.T.K (.ref (B.T.adr C)) i ts W D) D σ H, fun X c tk => ?_, fun σ H F Gh env M K De sr er hw rk => ?_⟩
  · have z := ps_try_as (X := X) (x := x) (n := n) (c := .ref (B.T.adr C)) (i := i) (np := np) (pos := pos) (pos' := pos') (body := body) (suite := suite) (b₀ := b₀) (tb := tb) (ts := ts) (Wout := W) c.2.1 c.2.2 (by rw [c.1.hN]; exact c.1.nd) (by rw [c.1.hN]; exact hi.1) (by show X.env.scope.names.lookup n = _; rw [c.1.hsc]; exact hi.2)
      ⟨(gl_of c.1 hg).1, (gl_of c.1 hg).2, .inl (by rw [c.1.mg]; exact hm)⟩ tk (fun W1 pn xe tk1 po => (hb1 W1).1 _ ⟨⟨c.1.P, c.1.w, c.1.K, c.1.mg, c.1.base, c.1.hN, c.1.hsc, c.1.nd, c.1.calm, c.1.fnC, c.1.room, c.1.un, po, ?_⟩, c.2.1, c.2.2⟩ tk1)
      (fun a oe cls d pn hz hf => (hs1 a cls d).1 _ (suite_in c hz hf) takes0)
    · rw [c.1.K] at z
      exact z
    · exact fun a' c' d' z => by rw [hxc] at z; cases z
  · refine (hb1 _).2 σ H F Gh env M _ De sr er hw ⟨rk.nx, rk.rt, rk.bk, rk.ct, fun cls dd σ1 H1 F1 y env1 M1 e1 sr1 er1 xd q => ?_⟩
    have ecls := xd.clsv
    have eden := xd.den
    have efs := xd.fs0
    subst ecls
    cases hb2 : mt y.cls with
    | none => simp only [hb2] at q
    | some b =>
      simp only [hb2] at q
      refine ⟨b, hmt _ _ hb2, fun eb a ha => ?_, fun eb => ?_⟩
      · subst eb
        have q := q a dd (sr1.freeM ha) efs
        refine (hs1 a _ dd).2 _ H1 F1 Gh _ M1 _ _ sr1 (er1.set (eden a) i) q ⟨fun σ' H' F' env' M' e sr' er' q' => rk.nx _ H' F' _ M' (e1.trans e) sr' (er'.unset i) q', (rk.mono e1).rt, fun σ' H' F' env' M' e sr' er' q' => rk.bk _ H' F' _ M' (e1.trans e) sr' (er'.unset i) q', fun σ' H' F' env' M' e sr' er' q' => rk.ct _ H' F' _ M' (e1.trans e) sr' (er'.unset i) q', fun _ _ _ _ _ _ _ _ _ _ _ _ z => z.elim⟩
      · subst eb
        exact rk.ex _ dd σ1 H1 F1 y env1 M1 e1 sr1 er1 xd q
end
end G

/-! Eng23: dicts that are frozen as they are made; walks over them; defs with defaults; a, b, c = x, y, z. -/
namespace G
open PySem PySem.Spec PyProof.Rows L2 RZ
/-! ### a new dict is frozen -/
def tFrzE (t : TE) : TE := fun σ H Q => t σ H fun v H1 => ∃ p kvs, v = .ref p ∧ H1 p = some (.dK kvs) ∧ ∀ o, Q v (upd H1 p (.frz o (.dK kvs)))
theorem pe_frzE {X : Cx} {e : Expr} {t : TE} (h : PE X e t) : PE X e (tFrzE t) := by
  refine ⟨fun pins s σ H Q I hq => thn (h.run pins s σ H _ I hq) fun u s1 ⟨v, H1, I1, rv, p, kvs, ev, hp, q⟩ => ?_⟩
  subst ev
  obtain ⟨od, I2⟩ := I1.lock hp True.intro
  exact ⟨.ref p, _, I2, rv, q od⟩
theorem SR.freezeX {T : Wd} {F Gh H : Hp} {M : MS} {a : Addr} {m : MO} {o : HO} (s : SR T F M Gh H) (h : M a = some m) : SR T (upd F a o) (M.del a) Gh (upd H a o) := by
  obtain ⟨hF, hG, h3⟩ := s.mu a m h
  refine ⟨fun b u e => ?_, fun b u e => ?_, fun b m' e => ?_⟩
  · by_cases hb : b = a
    · subst hb; rw [upd_same] at e ⊢; exact e
    · rw [upd_ne hb] at e ⊢; exact s.fr b u e
  · have hb : b ≠ a := ne_of_none e hG
    rw [upd_ne hb, upd_ne hb]; exact s.gr b u e
  · by_cases hb : b = a
    · subst hb; rw [MS.del_same] at e; cases e
    · rw [MS.del_ne hb] at e
      obtain ⟨h1, h2, h4⟩ := s.mu b m' e
      exact ⟨by rw [upd_ne hb]; exact h1, h2, (h4.mono (Ex.new hF)).at (upd_ne hb)⟩
def wFrzE (w : WE) : WE := fun env M Q EQ => w env M (fun d M1 => ∃ a kvs, d = .ref a ∧ M1 a = some (.dic kvs) ∧ Q (.dic kvs) (M1.del a)) EQ
theorem ev_frzE {T : Wd} {W : WX} {t : TE} {w : WE} (h : Ev T W t w) : Ev T W (tFrzE t) (wFrzE w) := by
  intro σ H F Gh env M Q EQ R sr er hw rn rx
  refine h σ H F Gh env M _ EQ _ sr er hw (fun v H1 F1 d M1 e1 sr1 dn q => ?_) rx
  obtain ⟨a, kvs, rfl, hm, q⟩ := q
  cases dn
  obtain ⟨hF, hG, vs, h1, l1⟩ := sr1.mu a _ hm
  refine ⟨a, vs, rfl, h1, fun o => ?_⟩
  have ex := Ex.new (o := .frz o (.dK vs)) hF
  exact rn (.ref a) _ _ (.dic kvs) _ (e1.trans ex) (sr1.freezeX hm) (.dic upd_same (l1.mono ex)) q
/-! ### for k in d, d.values(), d.items(), d frozen -/
def kD : Key → D
  | .inl i => .int i
  | .inr s => .str s
theorem Den.kV {T : Wd} {F : Hp} (k : Key) : Den T F (L2.kV k) (kD k) := by
  cases k with
  | inl i => exact .int i
  | inr s => exact .str s
theorem DenK.get {T : Wd} {F : Hp} : ∀ {vs : List (Key × V)} {ds : List (Key × D)} {i : Nat} {k : Key} {v : V}, DenK T F vs ds → vs[i]? = some (k, v) → ∃ d, ds[i]? = some (k, d) ∧ Den T F v d
  | _, _, _, _, _, .nil, e => by simp at e
  | _, _, 0, _, _, .cons h _, e => by simp at e; obtain ⟨rfl, rfl⟩ := e; exact ⟨_, rfl, h⟩
  | _, _, i + 1, _, _, .cons _ l, e => by
    obtain ⟨d, h1, h2⟩ := DenK.get (i := i) l (by simpa using e)
    exact ⟨d, by simpa using h1, h2⟩
section
variable {T : Wd} {F : Hp} {a : Addr} {o : Obj} {vs : List (Key × V)} {ds : List (Key × D)}
theorem itok_keys (h : F a = some (.frz o (.dK vs))) (l : DenK T F vs ds) : ItOk T F (Itk a o vs) (fun _ => True) (ds.map fun kv => kD kv.1) := by
  intro F' M Gh H e sr _
  have hd := sr.fr _ _ (e _ _ h)
  have hl := l.length
  refine ⟨fun i hi => ⟨hd, by rw [hl]; simpa using hi⟩, fun i hi => ⟨hd, by rw [hl]; simpa using hi⟩, fun i x H' hi y => ?_⟩
  obtain ⟨rfl, k, v, h1, rfl⟩ := y
  obtain ⟨d, h2, _⟩ := l.get h1
  exact ⟨F', kD k, Ex.refl _, sr, .kV k, by rw [List.getElem?_map, h2]; rfl⟩
theorem itok_vals (h : F a = some (.frz o (.dK vs))) (l : DenK T F vs ds) : ItOk T F (Itd a o vs) (fun _ => True) (ds.map fun kv => kv.2) := by
  intro F' M Gh H e sr _
  have hd := sr.fr _ _ (e _ _ h)
  have hl := l.length
  refine ⟨fun i hi => ⟨hd, by rw [hl]; simpa using hi⟩, fun i hi => ⟨hd, by rw [hl]; simpa using hi⟩, fun i x H' hi y => ?_⟩
  obtain ⟨rfl, k, h1⟩ := y
  obtain ⟨d, h2, h3⟩ := l.get h1
  exact ⟨F', d, Ex.refl _, sr, h3.mono e, by rw [List.getElem?_map, h2]; rfl⟩
theorem itok_items (h : F a = some (.frz o (.dK vs))) (l : DenK T F vs ds) : ItOk T F (Iti a o vs) (fun _ => True) (ds.map fun kv => .tpl [kD kv.1, kv.2]) := by
  intro F' M Gh H e sr _
  have hd := sr.fr _ _ (e _ _ h)
  have hl := l.length
  refine ⟨fun i hi => ⟨hd, by rw [hl]; simpa using hi⟩, fun i hi => ⟨hd, by rw [hl]; simpa using hi⟩, fun i x H' hi y => ?_⟩
  obtain ⟨p, k, v, h1, rfl, hp, eH⟩ := y
  subst eH
  obtain ⟨d, h2, h3⟩ := l.get h1
  obtain ⟨F'', d2, e1, sr', dn, rfl⟩ := new_pair sr hp (.kV (T := T) k) (h3.mono e)
  exact ⟨F'', _, e1, sr', dn, by rw [List.getElem?_map, h2]; rfl⟩
end
def dicI (g : Key × D → D) (w : WE) : WI := fun env M Q EQ => w env M (fun d M1 => ∃ kvs, d = .dic kvs ∧ Q (fun _ => True) (kvs.map g) M1) EQ
abbrev wKeys (w : WE) : WI := dicI (fun kv => kD kv.1) w
abbrev wVals (w : WE) : WI := dicI (fun kv => kv.2) w
abbrev wItems (w : WE) : WI := dicI (fun kv => .tpl [kD kv.1, kv.2]) w
section
variable {T : Wd} {W : WX} {te : TE} {w : WE}
theorem ei_keys (h : Ev T W te w) : EvI T W (iKeys te) (wKeys w) := by
  intro σ H F Gh env M Q EQ R sr er hw rn rx
  refine h σ H F Gh env M _ EQ _ sr er hw (fun v H1 F1 d M1 e1 sr1 dn q => ?_) rx
  obtain ⟨kvs, rfl, q⟩ := q
  cases dn with
  | dic h l => exact ⟨_, _, rfl, .inl ⟨_, sr1.fr _ _ h, rn _ H1 F1 _ _ M1 e1 sr1 (itok_keys h l) True.intro q⟩⟩
theorem ei_vals (h : Ev T W te w) : EvI T W (iVals te) (wVals w) := by
  intro σ H F Gh env M Q EQ R sr er hw rn rx
  refine h σ H F Gh env M _ EQ _ sr er hw (fun v H1 F1 d M1 e1 sr1 dn q => ?_) rx
  obtain ⟨kvs, rfl, q⟩ := q
  cases dn with
  | dic h l => exact ⟨_, _, _, rfl, sr1.fr _ _ h, rn _ H1 F1 _ _ M1 e1 sr1 (itok_vals h l) True.intro q⟩
theorem ei_items (h : Ev T W te w) : EvI T W (iItems te) (wItems w) := by
  intro σ H F Gh env M Q EQ R sr er hw rn rx
  refine h σ H F Gh env M _ EQ _ sr er hw (fun v H1 F1 d M1 e1 sr1 dn q => ?_) rx
  obtain ⟨kvs, rfl, q⟩ := q
  cases dn with
  | dic h l => exact ⟨_, _, _, rfl, sr1.fr _ _ h, rn _ H1 F1 _ _ M1 e1 sr1 (itok_items h l) True.intro q⟩
end
section
variable {B : Bd}
theorem je_frzE {e : Expr} {w : WE} (h : JE B e w) : JE B e (wFrzE w) := fun W => by
  obtain ⟨t, h1, h2⟩ := h W
  exact ⟨tFrzE t, fun X c tk => pe_frzE (h1 X c tk), ev_frzE h2⟩
theorem ji_keys {tg e : Expr} {w : WE} (h : JE B e w) : JI B tg e (wKeys w) := fun W => by
  obtain ⟨t, h1, h2⟩ := h W
  exact ⟨iKeys t, fun X c tk => pi_keys (h1 X c tk), ei_keys h2⟩
theorem ji_vals {tg e : Expr} {apos cpos : Pos} {w : WE} (h : JE B e w) (hb : ABase e "values") (hl : (apos.endLine == cpos.line) = true := by rfl) : JI B tg (.Call (.Attribute e "values" apos) [] [] cpos) (wVals w) := fun W => by
  obtain ⟨t, h1, h2⟩ := h W
  exact ⟨iVals t, fun X c tk => pi_values (h1 X c tk) (hb X.env) hl, ei_vals h2⟩
theorem ji_items {elts : List Expr} {kk : Nat} {tpos : Pos} {e : Expr} {apos cpos : Pos} {w : WE} (h : JE B e w) (hb : ABase e "items") (hl : (apos.endLine == cpos.line) = true := by rfl) : JI B (.Tuple elts kk tpos) (.Call (.Attribute e "items" apos) [] [] cpos) (wItems w) := fun W => by
  obtain ⟨t, h1, h2⟩ := h W
  exact ⟨iItems t, fun X c tk => pi_items (h1 X c tk) (hb X.env) hl, ei_items h2⟩
/-- {} -/
def wDicN : WE := fun _ M Q _ => ∀ a, M a = none → Q (.ref a) (M.set a (.dic []))
theorem je_dicN {pos : Pos} : JE B (.Dict [] [] pos) wDicN := fun W => by
  refine ⟨tDNewK, fun X c tk => pe_dnewK, fun σ H F Gh env M Q EQ R sr er hw rn rx => ?_⟩
  intro p hp
  exact rn (.ref p) _ F (.ref p) _ (Ex.refl F) (sr.newM (m := .dic []) hp ⟨[], upd_same, .nil⟩) (.ref p) (hw p (sr.freeM hp))
end
/-! ### defs with defaults -/
theorem def_ruleD {T : Wd} {x qual : Str} {st : Stmt} {f : Addr} {fd : FuncData} {N ps : List Str} {k : Nat} {d : DSp} {w : WS} {dvs : List V} {kws : List (Str × V)} (Fn : L2.FunD T.K x qual (defArgs st) (defBody st) (defScope st) dvs kws f fd) (S : FnScope N ps (defScope st)) (hb : JSs (defB T k N (defScope st)) (defBody st) w)
    (h : ∀ ds M Q EQ, ds.length = ps.length → d ds M Q EQ → w (startD N.length ds) M (endsD T Q EQ)) : G.FnD T (k + 1) f fd ps d := by
  obtain ⟨t, h1, h2⟩ := hb (fun cls d _ H => True)
  refine Fn.ok S (fun vs H Q E h => ?_) (fun cdv A outer s H vs Q E hr hh => ?_)
  · obtain ⟨_, _, _, _, _, _, hl, _⟩ := h
    exact hl
  · obtain ⟨F, M, Gh, ds, QD, EQ, hl, sr, dn, hd, rn, rx⟩ := hh
    obtain ⟨t, h1, h2⟩ := hb (fun cls d _ H => E cls d H)
    refine ⟨t, h1 _ ⟨⟨rfl, rfl, rfl, rfl, rfl, rfl, rfl, S.nd, fun _ => rfl, fun y _ => rfl, fun _ => hr, hr.units, PassesOwn.leaving, fun _ _ _ z => nomatch z⟩, rfl, rfl⟩ (takes_of rfl rfl rfl rfl), h2 _ H F Gh _ M (endsD T QD EQ) _ sr (start_rel dn) (h ds M QD EQ (by rw [← dn.length, hl]) hd) ⟨fun σ' H' F' env' M' e sr' er' q => ?_, fun v H' F' d' M' e sr' dn' q => ?_, fun σ' H' F' env' M' e sr' er' q => q.elim, fun σ' H' F' env' M' e sr' er' q => q.elim, fun c dd σ' H' F' x env' M' e sr' er' xd q => ?_⟩⟩
    · obtain ⟨M2, hs, q⟩ := q
      exact rn .non H' F' .non M2 e (sr'.sub hs) .non q
    · obtain ⟨d2, M2, cv, q⟩ := q
      obtain ⟨F2, e2, sr2, dn2⟩ := cv F' Gh H' v sr' dn'
      exact rn v H' F2 d2 M2 (e.trans e2) sr2 dn2 q
    · obtain ⟨M2, hs, q⟩ := q
      exact rx c dd H' F' x M2 e (sr'.sub hs) xd q
/-! ### which names of a tuple are stored from the right -/
def swN (sc : Scope) (ts vs : List Expr) : Option (Option (List Str)) :=
  if (sc.kind == .function) = false then none else
  if (!(ts.length == 2 || ts.length == 3) || vs.length != ts.length) = true then some none else
  if vs.any isStarred = true then some none else
  let line := (ts.head?.map (·.pos.line)).getD 0
  let names := ts.filterMap fun
    | .Name id pos => if sc.names.lookup id == some .local && pos.line == line then some id else none
    | _ => none
  if (names.length != ts.length || names.eraseDups.length != names.length) = true then some none else
  if vs.all (foldedForSure 8) = true then some none else
  if vs.all (constantsAlone 8) = true then none else some (some names)
theorem swN_ok {X : Cx} {B : Bd} {ts vs : List Expr} {k k2 : Nat} {p p2 : Pos} {r : Option (List Str)} (c : B.In X) (h : swN B.sc ts vs = some r) : swappedStores [.Tuple ts k p] (.Tuple vs k2 p2) X.env = pure r := by
  unfold swN at h
  have kx : ∀ x, X.env.kindOf x = B.sc.names.lookup x := fun x => by show X.env.scope.names.lookup x = _; rw [c.hsc]
  have hst : (vs.any fun | .Starred .. => true | _ => false) = vs.any isStarred := rfl
  by_cases h0 : (B.sc.kind == .function) = false
  · rw [if_pos h0] at h; cases h
  · rw [if_neg h0] at h
    have h0 : (B.sc.kind == .function) = true := by simpa using h0
    have ek : X.env.blockKind = .function := by
      have e1 : X.env.scope.kind = .function := by rw [c.hsc]; exact beq_iff_eq.mp h0
      unfold Env.blockKind; rw [e1]; rfl
    unfold swappedStores
    simp only [kx, ek]
    have hb : (ScopeKind.function != ScopeKind.function) = false := by decide
    by_cases h1 : (!(ts.length == 2 || ts.length == 3) || vs.length != ts.length) = true
    · rw [if_pos h1] at h
      cases h
      simp only [h1, Bool.true_or, if_true]
    · rw [if_neg h1] at h
      have h1 : (!(ts.length == 2 || ts.length == 3) || vs.length != ts.length) = false := by simpa using h1
      simp only [h1, hb, Bool.or_false, Bool.false_eq_true, if_false]
      by_cases h2 : vs.any isStarred = true
      · rw [if_pos h2] at h
        cases h
        exact if_pos h2
      · rw [if_neg h2] at h
        refine (if_neg h2).trans ?_
        dsimp only at h
        split at h
        · rename_i h3
          cases h
          exact if_pos h3
        · rename_i h3
          refine (if_neg h3).trans ?_
          split at h
          · rename_i h4
            cases h
            exact if_pos h4
          · rename_i h4
            refine (if_neg h4).trans ?_
            split at h
            · cases h
            · rename_i h5
              cases h
              exact if_neg h5
section
variable {B : Bd}
def wPar3 (i j l : Nat) (wa : WA) : WS := fun env M K => wa env M (fun ds M1 => match ds with
  | [d, e, f] => K.nx (((env.set i (some d)).set j (some e)).set l (some f)) M1
  | _ => False) (fun x M1 => K.ex x env M1)
theorem es_par3 {T : Wd} {W : WX} {i j l : Nat} {ta : TA} {wa : WA} (h : EvA T W ta wa) : EvS T W (tPar3 i j l ta) (wPar3 i j l wa) := by
  intro σ H F Gh env M K De sr er hw rk
  refine h σ H F Gh env M _ _ _ sr er hw (fun vs H1 F1 ds M1 e1 sr1 dn q => ?_) (rk.ex.at er)
  match ds, dn, q with
  | [d, e, f], .cons h1 (.cons h2 (.cons h3 .nil)), q => exact ⟨_, _, _, rfl, rk.nx _ H1 F1 _ M1 e1 sr1 ((((er.mono e1).set h1 i).set h2 j).set h3 l) q⟩
  | [], _, q => exact q.elim
  | [_], _, q => exact q.elim
  | [_, _], _, q => exact q.elim
  | _ :: _ :: _ :: _ :: _, _, q => exact q.elim
def swap3 (B : Bd) (i j l : Nat) (x y z : Str) : Bool := decide (B.N[i]? = some x) && decide (B.N[j]? = some y) && decide (B.N[l]? = some z) && !(i == j) && !(i == l) && !(j == l) && (B.sc.names.lookup x == some NameKind.local) && (B.sc.names.lookup y == some NameKind.local) && (B.sc.names.lookup z == some NameKind.local)
theorem js_par3 {i j l : Nat} {x y z : Str} {px py pz pt pt2 pos : Pos} {a b c : Expr} {kt k2 : Nat} {wa : WA} (hs : swap3 B i j l x y z = true) (hw : swN B.sc [.Name x px, .Name y py, .Name z pz] [a, b, c] = some (some [x, y, z])) (ha : JA B [a, b, c] wa) (hcm : B.cm = true := by rfl) :
    JS B (.Assign [.Tuple [.Name x px, .Name y py, .Name z pz] kt pt] (.Tuple [a, b, c] k2 pt2) pos) (wPar3 i j l wa) := fun W => by
  obtain ⟨t, h1, _, h2⟩ := ha W
  refine ⟨_, fun X ck tk => ?_, es_par3 h2⟩
  have hw := swN_ok (k := kt) (k2 := k2) (p := pt) (p2 := pt2) ck.1 hw
  unfold swap3 at hs
  simp only [Bool.and_eq_true, Bool.not_eq_true', decide_eq_true_eq] at hs
  obtain ⟨⟨⟨⟨⟨⟨⟨⟨g1, g2⟩, g3⟩, g4⟩, g5⟩, g6⟩, g7⟩, g8⟩, g9⟩ := hs
  exact ps_par3 (ck.1.calm hcm) (by rw [ck.1.hN]; exact ck.1.nd) (by rw [ck.1.hN]; exact g1) (by rw [ck.1.hN]; exact g2) (by rw [ck.1.hN]; exact g3) (by simpa using g4) (by simpa using g5) (by simpa using g6)
    (by rw [ck.1.hsc]; exact beq_iff_eq.mp g7) (by rw [ck.1.hsc]; exact beq_iff_eq.mp g8) (by rw [ck.1.hsc]; exact beq_iff_eq.mp g9) (h1 X ck.1 tk) hw
/-- x, y, .. = a, b, .. by way of the tuple -/
theorem js_asgT {ts vs : List Expr} {kt k2 : Nat} {pt pt2 pos : Pos} {w : WE} {g : WG} (hw : swN B.sc ts vs = some none) (h : JE B (.Tuple vs k2 pt2) w) (hg : JG B (.Tuple ts kt pt) g) :
    JS B (.Assign [.Tuple ts kt pt] (.Tuple vs k2 pt2) pos) (wAsg w g) := fun W => by
  obtain ⟨t, h1, h2⟩ := h W
  obtain ⟨tg', g1, g2⟩ := hg W
  exact ⟨_, fun X c tk => ps_asg (h1 X c.1 tk) (g1 X c.1 tk) rfl (swN_ok c.1 hw) rfl, es_asg h2 g2⟩
end
end G

/-! Eng24: dict(pairs), list(d.items()), str.upper. -/
namespace G
open PySem PySem.Spec PyProof.Rows L2 RZ
section
variable {X : Cx}
theorem pairs_of2 {pins : List (Addr × Obj)} {σ : L2.St} {H : Hp} {s : Shared} (I : Inv X pins σ H s) : ∀ {ps : List Addr} {kvs : List (Key × V)}, Paired (fun p kv => SqT X.K H p [kV kv.1, kv.2]) ps kvs →
    ∃ (prs : List (Key × Value)) (psV : List (Value × Value)), KV kvs prs ∧ prs.length = ps.length ∧ psV.length = ps.length ∧ ∀ (j : Nat) (b : Addr), ps[j]? = some b → ∃ k u v, prs[j]? = some (k, v) ∧ psV[j]? = some (u, v) ∧ IsTup s.heap b #[u, v] ∧ keyIs k u = true
  | _, _, .nil => ⟨[], [], .nil, rfl, rfl, fun j q e => by simp at e⟩
  | _, _, .cons (a := p) (b := kv) h t => by
    obtain ⟨prs, psV, r, hl, hl2, hp⟩ := pairs_of2 I t
    obtain ⟨its, rv, ht, _⟩ := I.tuple h
    obtain ⟨u, y, ei, ru, ry⟩ := vals2 rv
    subst ei
    refine ⟨(kv.1, y) :: prs, (u, y) :: psV, .cons ⟨rfl, ry⟩ r, by rw [List.length_cons, List.length_cons, hl], by rw [List.length_cons, List.length_cons, hl2], fun j b e => ?_⟩
    cases j with
    | zero =>
      obtain rfl : p = b := by simpa using e
      exact ⟨kv.1, u, y, rfl, rfl, ht, kV_is (P := X.prog) (w := X.w) ru⟩
    | succ j =>
      obtain ⟨k, u', v', e1, e2, e3⟩ := hp j b (by simpa using e)
      exact ⟨k, u', v', by simpa using e1, by simpa using e2, e3⟩
theorem tupX_plain {pins : List (Addr × Obj)} {σ : L2.St} {H : Hp} {s : Shared} {a : Addr} {xs : List V} (I : Inv X pins σ H s) (h : TupX X.K H a xs) : ∃ its : List Value, Vals xs its ∧ PlainSeq "tuple" s.heap a its.toArray ∧ xs.length ≤ sizeLine := by
  rcases h with ⟨o, e, hd⟩ | ⟨o, its, n, h1, h2, h3, h4, h5, h6⟩
  · obtain ⟨ho, z, its, r, o', ho', hc, n, hdat⟩ := (show ObjOk X.prog X.w H s.heap a (.frz o (.tup xs)) from I.hok a _ e)
    rw [ho] at ho'
    cases ho'
    exact ⟨its, r, ⟨o, n, ho, hc, hd, hdat⟩, z⟩
  · exact ⟨its.toList, h6, ⟨o, n, I.kIn a o h1, h2, h3, by simpa using h4⟩, by rw [h6.length]; simpa using h5⟩
/-- dict(t) of a tuple of pairs -/
def rDictT (K : PySem.W.Frag) : List V → Hp → VK → Prop := fun xs H Q => ∃ (a : Addr) (ps : List Addr) (kvs : List (Key × V)), xs = [.ref a] ∧ TupX K H a (ps.map V.ref) ∧ Paired (fun p kv => SqT K H p [kV kv.1, kv.2]) ps kvs ∧
    ∀ p, H p = none → Q (.ref p) (upd H p (.dK (mergeK [] kvs)))
theorem call_dictT (hcalm : X.calm = true) : CallR X (.type "dict") (rDictT X.K) := by
  intro pins s σ H xs us Q I r q
  obtain ⟨a, ps, kvs, ex, hq, hp, q⟩ := q
  subst ex
  obtain ⟨u, eu, rx⟩ := vals1 r
  subst eu
  cases rx
  obtain ⟨its, rv, pl, hz⟩ := tupX_plain I hq
  have ei := refs_at rv
  subst ei
  rw [List.length_map] at hz
  obtain ⟨prs, psV, rel, hl, hl2, hpr⟩ := pairs_of2 I hp
  have at' : ∀ j, j < psV.length → ∃ b, ps[j]? = some b := fun j hj => ⟨ps[j]'(by omega), List.getElem?_eq_getElem _⟩
  refine PySem.call_dict_pairs (knd := mixKind X.prog X.w) (kvs := prs) (PairArg.tuple a (ps.map Value.ref).toArray (fun j => (ps[j]?).getD 0) psV) (I.ok.hd hcalm) ⟨pl, by simp [hl2], fun j k v e => ?_⟩ ⟨by rw [hl, hl2], fun i key v e => ?_⟩ (by rw [hl2]; exact hz) fun h' tk hd' k => ?_
  · obtain ⟨b, hb⟩ := at' j (List.getElem?_eq_some_iff.mp e).1
    obtain ⟨k', u', v', e1, e2, e3, e4⟩ := hpr j b hb
    rw [e] at e2
    cases e2
    refine ⟨by simp [hb], ?_⟩
    show PairAt s.heap ((ps[j]?).getD 0) _ _
    rw [hb]
    exact .inl e3
  · have e : psV[i]? = some (key, v) := e
    obtain ⟨b, hb⟩ := at' i (List.getElem?_eq_some_iff.mp e).1
    obtain ⟨k', u', v', e1, e2, e3, e4⟩ := hpr i b hb
    rw [e] at e2
    cases e2
    exact ⟨k', e1, e4⟩
  · have hm : (s.heap.objs.size == sysModules) = false := beq_eq_false_iff_ne.mpr (Nat.ne_of_gt I.big)
    have hlen : (mergeK [] kvs).length ≤ sizeLine := by
      refine Nat.le_trans (length_mergeK kvs []) ?_
      rw [List.length_nil, Nat.zero_add, rel.length, hl]
      exact hz
    exact ⟨.ref s.heap.objs.size, upd H s.heap.objs.size (.dK (mergeK [] kvs)), I.laid (t' := tk) (fun b o e => k b o (by simp) e) (Nat.le_refl _) (show ObjOk X.prog X.w _ _ _ (.dK (mergeK [] kvs)) from ⟨hlen, hm, merged [] prs, KV.merge rel .nil, hd'⟩), rfl, q _ (I.hok.fresh (Nat.le_refl _))⟩
end
theorem paired_impG {α β : Type} {R S : α → β → Prop} (h : ∀ a b, R a b → S a b) : ∀ {xs : List α} {ys : List β}, Paired R xs ys → Paired S xs ys
  | _, _, .nil => .nil
  | _, _, .cons q t => .cons (h _ _ q) (paired_impG h t)
def rDictP (K : PySem.W.Frag) : List V → Hp → VK → Prop := fun xs H Q => ∃ (a : Addr) (ps : List Addr) (kvs : List (Key × V)), xs = [.ref a] ∧ SqL K H a (ps.map V.ref) ∧ Paired (fun p kv => SqT K H p [kV kv.1, kv.2]) ps kvs ∧
    ∀ p, H p = none → Q (.ref p) (upd H p (.dK (mergeK [] kvs)))
def rDictD : List V → Hp → VK → Prop := fun xs H Q => ∃ (a : Addr) (kvs : List (Key × V)), xs = [.ref a] ∧ Rd H a (.dK kvs) ∧ ∀ p, H p = none → Q (.ref p) (upd H p (.dK kvs))
def rDictAny (K : PySem.W.Frag) : List V → Hp → VK → Prop := fun xs H Q => rDictD xs H Q ∨ rDictP K xs H Q ∨ rDictT K xs H Q
theorem callR_dict {X : Cx} (hc : X.calm = true) : CallR X (.type "dict") (rDictAny X.K) := CallR.or call_dictD (CallR.or (call_dictP hc) (call_dictT hc))
def pairD (x : D) : Option (Key × D) := match asT x with
  | some [k, v] => (keyD k).map (·, v)
  | _ => none
def pairsD : List D → Option (List (Key × D))
  | [] => some []
  | x :: r => (pairD x).bind fun p => (pairsD r).map (p :: ·)
def dictO (xs : List D) (M : MS) (Q : QD) : Prop := ∃ x, xs = [x] ∧
  ((∃ kvs, asD M x = some kvs ∧ ∀ a, M a = none → Q (.ref a) (M.set a (.dic kvs))) ∨
   (∃ ys kvs, (asS M x = some ys ∨ x = .tup ys) ∧ pairsD ys = some kvs ∧ ∀ a, M a = none → Q (.ref a) (M.set a (.dic (mergeD [] kvs)))))
section
variable {T : Wd}
theorem pairs_den {F : Hp} : ∀ {vs : List V} {ys : List D} {kvs : List (Key × D)}, DenL T F vs ys → pairsD ys = some kvs → ∃ (ps : List Addr) (kvV : List (Key × V)), vs = ps.map V.ref ∧ Paired (fun p kv => SqT T.K F p [kV kv.1, kv.2]) ps kvV ∧ DenK T F kvV kvs
  | _, _, _, .nil, e => by cases e; exact ⟨[], [], rfl, .nil, .nil⟩
  | _, _, _, .cons (d := d) (ds := ds) h l, e => by
    unfold pairsD at e
    cases e1 : pairD d with
    | none => rw [e1] at e; cases e
    | some p =>
      cases e2 : pairsD ds with
      | none => rw [e1, e2] at e; cases e
      | some r =>
        rw [e1, e2] at e
        cases e
        obtain ⟨ps, kvV, rfl, hp, hk⟩ := pairs_den l e2
        unfold pairD at e1
        cases e3 : asT d with
        | none => rw [e3] at e1; cases e1
        | some zs =>
          rw [e3] at e1
          match zs, e1 with
          | [k, v], e1 =>
            obtain ⟨a, us, rfl, sq, dl⟩ := asT_den h e3
            have e1 : (keyD k).map (·, v) = some p := e1
            cases e4 : keyD k with
            | none => rw [e4] at e1; cases e1
            | some kk =>
              rw [e4] at e1
              cases e1
              obtain ⟨x, y, rfl, dx, dy⟩ := dl.two
              have ex := keyD_den dx e4
              subst ex
              exact ⟨a :: ps, (kk, y) :: kvV, rfl, .cons sq hp, .cons dy hk⟩
theorem opN_dict : OpN T (rDictAny T.K) dictO := by
  intro F Gh M H xs dxs Q R sr hd q rn
  obtain ⟨x, rfl, q⟩ := q
  obtain ⟨v, rfl, dn⟩ := hd.one'
  rcases q with ⟨kvs, e, q⟩ | ⟨ys, kvs, hx, hp, q⟩
  · obtain ⟨a, vs, rfl, h1, l1⟩ := asD_den sr dn e
    exact .inl ⟨a, vs, rfl, h1, fun p hp => rn _ _ F _ _ (Ex.refl F) (sr.newM (m := .dic kvs) hp ⟨vs, upd_same, l1⟩) (.ref p) (q p (sr.freeM hp))⟩
  · have fin : ∀ {kvV : List (Key × V)}, DenK T F kvV kvs → ∀ p, H p = none → R (.ref p) (upd H p (.dK (mergeK [] kvV))) := fun {kvV} l p hp =>
      rn _ _ F _ _ (Ex.refl F) (sr.newM (m := .dic (mergeD [] kvs)) hp ⟨_, upd_same, DenK.merge l .nil⟩) (.ref p) (q p (sr.freeM hp))
    rcases hx with e | rfl
    · obtain ⟨a, vs, rfl, sq, dl⟩ := asS_den sr dn e
      obtain ⟨ps, kvV, rfl, h2, h3⟩ := pairs_den dl hp
      refine .inr (.inl ⟨a, ps, kvV, rfl, sq, ?_, fin h3⟩)
      exact paired_impG (fun p kv h => (Ex.of_sr sr).t h) h2
    · cases dn with
      | tup h l =>
        obtain ⟨ps, kvV, rfl, h2, h3⟩ := pairs_den l hp
        refine .inr (.inr ⟨_, ps, kvV, rfl, (Ex.of_sr sr).tx h, ?_, fin h3⟩)
        exact paired_impG (fun p kv h => (Ex.of_sr sr).t h) h2
end
section
variable {B : Bd} {e : Expr} {es : List Expr} {p pos : Pos} {w : WA}
theorem je_dictC (hx : glB B.sc "dict" = true ∧ B.T.mg "dict" = none) (ha : JA B (e :: es) w) (hs : noStar (e :: es) = true) (hcm : B.cm = true := by rfl) : JE B (.Call (.Name "dict" p) (e :: es) [] pos) (wCall dictO w) :=
  je_bt ⟨hx.1, hx.2, by first | rfl | kernel_rfl, by decide⟩ (r := rDictAny B.T.K) (fun X c => by rw [← c.K]; exact callR_dict (c.calm hcm)) opN_dict ha hs
/-! ### str.upper -/
def upperO (x : D) (xs : List D) (M : MS) (Q : QD) : Prop := ∃ a, x = .str a ∧ xs = [] ∧ a.length ≤ 5592405 ∧ Q (.str (Txt.upper a)) M
theorem opm_upper {T : Wd} : OpM T (fun x xs H Q => ∃ a, x = .str a ∧ xs = [] ∧ a.length ≤ 5592405 ∧ Q (.str (Txt.upper a)) H) upperO := by
  intro F Gh M H x xs dx dxs Q R sr hx hd q rn
  obtain ⟨a, rfl, rfl, h1, q⟩ := q
  cases hx
  cases hd
  exact ⟨a, rfl, rfl, h1, fin_v sr (.str _) q rn⟩
theorem je_upper {o : Expr} {apos pos : Pos} {w : WE} (ho : JE B o w) (hb : ABase o "upper") (hl : (apos.endLine == pos.line) = true) : JE B (.Call (.Attribute o "upper" apos) [] [] pos) (wBM "str" upperO w wNil) :=
  je_bm0 PySem.F.plainAttrs_str PySem.F.slot_str_upper PySem.F.type_str_upper (fun X c => mt_upper) opm_upper ho hb hl
end
end G

/-! Eng25: list(d.items()). -/
namespace G
open PySem PySem.Spec PyProof.Rows L2 RZ
def rItemsR : V → Hp → VK → Prop := fun x H Q => ∃ (d : Addr) (kvs : List (Key × V)), x = .ref d ∧ Rd H d (.dK kvs) ∧
  ∀ (H' : Hp) (p : Addr) (ts : List Addr), (∀ b o, H b = some o → H' b = some o) → H p = none → (∀ t ∈ ts, H t = none) → p ∉ ts → H' p = some (.lst (ts.map V.ref)) → Paired (fun (t : Addr) (q : Key × V) => H' t = some (.tup [kV q.1, q.2])) ts kvs → Q (.ref p) H'
def tListItemsR (te : TE) : TE := fun σ H Q => te σ H fun x H1 => rItemsR x H1 Q
section
variable {X : Cx} {e : Expr} {te : TE} {p apos cpos pos : Pos}
/-- list(e.items()) -/
theorem pe_listItemsR (hc : X.calm = true) (he : PE X e te) (hg : Gl X "list") (hm : X.mg "list" = none) (hv : bootBuiltins "list" = some (.type "list")) (hbase : attributeBase e "items" X.env (eval e X.env) = eval e X.env) (hline : (apos.endLine == cpos.line) = true) :
    PE X (.Call (.Name "list" p) [.Call (.Attribute e "items" apos) [] [] cpos] [] pos) (tListItemsR te) := by
  have hs : starEach [.Call (.Attribute e "items" apos) [] [] cpos] X.env = (false, eval (.Call (.Attribute e "items" apos) [] [] cpos) X.env) :: starEach [] X.env := rfl
  refine ⟨fun pins s σ H Q I hq => ?_⟩
  refine wpAny_Call_Name_kw (ld_blt I hg hm hv ?_)
  refine PyProof.Rows.callWith_type1 ?_ hs rfl
  rw [hs]
  show wpAny _ _ (spliced ((false, eval (.Call (.Attribute e "items" apos) [] [] cpos) X.env) :: backTo pos (starEach [] X.env))) _ _ s
  refine Calls.spliced_cons ?_
  refine wpAny_Call_method (T := "dict") (id := "dict.items") hbase rfl hline F.plainAttrs_dict F.slot_dict_items F.type_dict_items (thn (he.run pins s σ H _ I hq) fun u s1 ⟨x, H1, I1, rx, d, kvs, ex, hd, q⟩ => ?_)
  subst ex
  obtain rfl : u = Value.ref d := rx
  obtain ⟨hz, hs0, vs, kv, hdo⟩ := dk_rd I1.hok hd
  obtain ⟨ep, hat⟩ := hdo.dictAt
  have lk : kvs.length = vs.length := Paired.length kv
  have I2 : Inv X pins σ H1 { s1 with heap := s1.heap.push { cls := .type "dict_items", data := .fields #[.ref d] } } := I1.kept (t' := s1.toks) fun b ob q => Heap.get?_push_of_some _ q
  refine ⟨hdo.typeIs, hdo.mapOf.noDict, ?_⟩
  show wpAny _ _ (callWith cpos (.builtin "dict.items") [.ref d] [] []) _ X.xe s1
  refine method_meetsIn F.slot_dict_items F.entry_dict_items rfl (PySem.evalArgs_none ⟨rfl, hdo.typeIs, F.args_dict_items_1 _, _, meets_dict_items (mixKind X.prog X.w) d hs0, ⟨vs, hdo⟩, ?_⟩)
  refine Calls.spliced_nil ?_
  refine PySem.W.kdx_call (knd := mixKind X.prog X.w) (kvs := vs) (ep := ep) (I1.ok.hd hc) ⟨_, Heap.get?_push_size _ rfl, rfl, rfl⟩ (hat.push _) (by omega) fun h' tk acc c as hk hS hl hG hacc => ?_
  obtain ⟨H', k1, k2, k3, k4, k5, k6, J⟩ := LiI.items_laid (tk := tk) I2 hz kv hk hS hl hG hacc
  exact ⟨.ref _, H', J, rfl, q H' _ as k1 k2 k3 k4 k5 k6⟩
end
def wListItems (w : WE) : WE := fun env M Q EQ => w env M (fun d M1 => ∃ kvs, asD M1 d = some kvs ∧ Q (.lst (kvs.map fun kv => .tpl [kD kv.1, kv.2])) M1) EQ
section
variable {T : Wd}
/-- more is known for good: all of H' that is new -/
theorem SR.grow {F Gh H H' : Hp} {M : MS} (s : SR T F M Gh H) (n : Addr → Bool) (k : ∀ b o, H b = some o → H' b = some o) (hn : ∀ b, n b = true → H b = none) : Ex F (fun b => if n b = true then H' b else F b) ∧ SR T (fun b => if n b = true then H' b else F b) M Gh H' := by
  have fN : ∀ b, n b = true → F b = none := fun b hb => s.freeF (hn b hb)
  have ex : Ex F (fun b => if n b = true then H' b else F b) := fun b o e => by
    by_cases hb : n b = true
    · rw [fN b hb] at e; cases e
    · show (if n b = true then H' b else F b) = some o
      rw [if_neg hb]; exact e
  refine ⟨ex, fun b o e => ?_, fun b o e => ?_, fun b m e => ?_⟩
  · have e : (if n b = true then H' b else F b) = some o := e
    by_cases hb : n b = true
    · rw [if_pos hb] at e; exact e
    · rw [if_neg hb] at e; exact k b o (s.fr b o e)
  · obtain ⟨h1, h2⟩ := s.gr b o e
    have hb : ¬ n b = true := fun z => by rw [hn b z] at h1; cases h1
    exact ⟨k b o h1, by show (if n b = true then H' b else F b) = none; rw [if_neg hb]; exact h2⟩
  · obtain ⟨h1, h2, h3⟩ := s.mu b m e
    obtain ⟨o, ho⟩ := h3.there
    have hb : ¬ n b = true := fun z => by rw [hn b z] at ho; cases ho
    refine ⟨by show (if n b = true then H' b else F b) = none; rw [if_neg hb]; exact h1, h2, (h3.mono ex).at ?_⟩
    rw [k b o ho, ho]
theorem items_den {F F' H' : Hp} {M : MS} (e : Ex F F') : ∀ {ts : List Addr} {vs : List (Key × V)} {ds : List (Key × D)}, Paired (fun (t : Addr) (q : Key × V) => H' t = some (.tup [kV q.1, q.2])) ts vs → (∀ t ∈ ts, F' t = H' t) → DenK T F vs ds → DenL T F' (ts.map V.ref) (ds.map fun kv => .tpl [kD kv.1, kv.2])
  | _, _, _, .nil, _, .nil => .nil
  | _, _, _, .cons h t, hf, .cons dn l => .cons (.tpl (.inl (.inl ((hf _ List.mem_cons_self).trans h))) (.cons (.kV _) (.one (dn.mono e)))) (items_den (M := M) e t (fun x hx => hf x (List.mem_cons_of_mem _ hx)) l)
theorem ev_listItems {W : WX} {t : TE} {w : WE} (h : Ev T W t w) : Ev T W (tListItemsR t) (wListItems w) := by
  intro σ H F Gh env M Q EQ R sr er hw rn rx
  refine h σ H F Gh env M _ EQ _ sr er hw (fun v H1 F1 d M1 e1 sr1 dn q => ?_) rx
  obtain ⟨kvs, e, q⟩ := q
  obtain ⟨a, vs, rfl, h1, l1⟩ := asD_den sr1 dn e
  refine ⟨a, vs, rfl, h1, fun H' p ts k hp ht hpt h2 h3 => ?_⟩
  obtain ⟨ex, sr2⟩ := sr1.grow (H' := H') (fun b => decide (b = p) || decide (b ∈ ts)) k (fun b hb => by
    simp only [Bool.or_eq_true, decide_eq_true_eq] at hb
    rcases hb with rfl | hb
    · exact hp
    · exact ht b hb)
  refine rn (.ref p) H' _ _ M1 (e1.trans ex) sr2 (.lst (vs := ts.map V.ref) ?_ ?_) q
  · show (if (decide (p = p) || decide (p ∈ ts)) = true then H' p else F1 p) = _
    rw [if_pos (by simp)]
    exact h2
  · exact items_den (M := M1) ex h3 (fun t ht => by
      show (if (decide (t = p) || decide (t ∈ ts)) = true then H' t else F1 t) = _
      rw [if_pos (by simp [ht])]) l1
end
section
variable {B : Bd}
theorem je_listItems {e : Expr} {p apos cpos pos : Pos} {w : WE} (hx : glB B.sc "list" = true ∧ B.T.mg "list" = none) (h : JE B e w) (hb : ABase e "items") (hl : (apos.endLine == cpos.line) = true) (hcm : B.cm = true := by rfl) :
    JE B (.Call (.Name "list" p) [.Call (.Attribute e "items" apos) [] [] cpos] [] pos) (wListItems w) := fun W => by
  obtain ⟨t, h1, h2⟩ := h W
  exact ⟨tListItemsR t, fun X c tk => pe_listItemsR (c.calm hcm) (h1 X c tk) (gl_of c hx.1).1 (by rw [c.mg]; exact hx.2) boot_list (hb X.env) hl, ev_listItems h2⟩
end
end G

/-! Eng26: calls of defs and classes in every shape: positional values, defaults, keywords, in any order. -/
namespace G
open PySem PySem.Spec PyProof.Rows L2 RZ
/-- where a parameter's value comes from: a positional value, a default, a keyword -/
inductive Sel where
  | u (i : Nat) | d (i : Nat) | w (i : Nat)
def Sel.get {α : Type} (us its ws : List α) : Sel → List α
  | .u i => us[i]?.toList
  | .d i => its[i]?.toList
  | .w i => ws[i]?.toList
def Sel.ok (n m k : Nat) : Sel → Bool
  | .u i => decide (i < n)
  | .d i => decide (i < m)
  | .w i => decide (i < k)
def selG (sel : List Sel) {α : Type} (us its ws : List α) : List α := sel.flatMap (Sel.get us its ws)
theorem selG_len {α : Type} {us its ws : List α} {n m k : Nat} (h1 : us.length = n) (h2 : its.length = m) (h3 : ws.length = k) : ∀ {sel : List Sel}, sel.all (Sel.ok n m k) = true → (selG sel us its ws).length = sel.length
  | [], _ => rfl
  | s :: r, h => by
    rw [List.all_cons, Bool.and_eq_true] at h
    show (Sel.get us its ws s ++ selG r us its ws).length = _
    rw [List.length_append, selG_len h1 h2 h3 h.2, List.length_cons]
    have : (Sel.get us its ws s).length = 1 := by
      cases s with
      | u i => have hi : i < us.length := by rw [h1]; exact of_decide_eq_true h.1
               simp [Sel.get, List.getElem?_eq_getElem hi]
      | d i => have hi : i < its.length := by rw [h2]; exact of_decide_eq_true h.1
               simp [Sel.get, List.getElem?_eq_getElem hi]
      | w i => have hi : i < ws.length := by rw [h3]; exact of_decide_eq_true h.1
               simp [Sel.get, List.getElem?_eq_getElem hi]
    omega
theorem Vals.at1 {vs : List V} {us : List Value} (r : Vals vs us) (i : Nat) : Vals (vs[i]?.toList) (us[i]?.toList) := by
  induction r generalizing i with
  | nil => simp; exact .nil
  | cons h t ih =>
    cases i with
    | zero => exact .cons h .nil
    | succ i => simpa using ih i
theorem selG_vals (sel : List Sel) {vs ds zs : List V} {us its ws : List Value} (h1 : Vals vs us) (h2 : Vals ds its) (h3 : Vals zs ws) : Vals (selG sel vs ds zs) (selG sel us its ws) := by
  induction sel with
  | nil => exact .nil
  | cons s r ih =>
    show Vals (Sel.get vs ds zs s ++ selG r vs ds zs) (Sel.get us its ws s ++ selG r us its ws)
    refine Vals.append ?_ ih
    cases s with
    | u i => exact Vals.at1 h1 i
    | d i => exact Vals.at1 h2 i
    | w i => exact Vals.at1 h3 i
theorem DenL.at1 {T : Wd} {F : Hp} : ∀ {vs : List V} {ds : List D} (i : Nat), DenL T F vs ds → DenL T F (vs[i]?.toList) (ds[i]?.toList)
  | _, _, _, .nil => .nil
  | _, _, 0, .cons h _ => .cons h .nil
  | _, _, i + 1, .cons _ t => by simpa using DenL.at1 i t
theorem selG_den {T : Wd} {F : Hp} (sel : List Sel) {vs ds zs : List V} {us its ws : List D} (h1 : DenL T F vs us) (h2 : DenL T F ds its) (h3 : DenL T F zs ws) : DenL T F (selG sel vs ds zs) (selG sel us its ws) := by
  induction sel with
  | nil => exact .nil
  | cons s r ih =>
    show DenL T F (Sel.get vs ds zs s ++ selG r vs ds zs) (Sel.get us its ws s ++ selG r us its ws)
    refine DenL.append ?_ ih
    cases s with
    | u i => exact DenL.at1 i h1
    | d i => exact DenL.at1 i h2
    | w i => exact DenL.at1 i h3
/-- behind self -/
def Sel.up : Sel → Sel
  | .u i => .u (i + 1)
  | .d i => .d i
  | .w i => .w i
def selfS (sel : List Sel) : List Sel := .u 0 :: sel.map Sel.up
theorem selG_self {α : Type} (sel : List Sel) (x : α) (us its ws : List α) : selG (selfS sel) (x :: us) its ws = x :: selG sel us its ws := by
  show [x] ++ (sel.map Sel.up).flatMap (Sel.get (x :: us) its ws) = _
  rw [List.flatMap_map]
  have e : (fun s => Sel.get (x :: us) its ws (Sel.up s)) = Sel.get us its ws := by
    funext s
    cases s with
    | u i => simp [Sel.get, Sel.up]
    | d i => rfl
    | w i => rfl
  rw [e]
  rfl
/-- the values in the parameters' order -/
def selD (sel : List Sel) (np : Nat) (dds ds : List D) : List D := selG sel (ds.take np) dds (ds.drop np)
theorem selD_den {T : Wd} {F : Hp} {sel : List Sel} {np : Nat} {dvs : List V} {dds : List D} (hc : ConstsD T dvs dds) {vs zs : List V} {ds : List D} (hl : vs.length = np) (h : DenL T F (vs ++ zs) ds) : DenL T F (selG sel vs dvs zs) (selD sel np dds ds) := by
  have h1 := h.take np
  have h2 := h.drop np
  rw [← hl, List.take_left] at h1
  rw [← hl, List.drop_left] at h2
  unfold selD
  rw [← hl]
  exact selG_den sel h1 (hc F) h2
/-- the promise of a call in this shape -/
def callS (d : DSp) (sel : List Sel) (np : Nat) (dds : List D) : DSp := fun ds M Q E => d (selD sel np dds ds) M Q E
def newS (C : Str) (d : DSp) (sel : List Sel) (np : Nat) (dds : List D) : DSp := fun ds M Q E => newD C d (selD sel np dds ds) M Q E
section
variable {T : Wd}
/-- how a def without defaults is called -/
theorem kbn_fun {x qual : Str} {st : Stmt} {f : Addr} {fd : FuncData} {ps ks : List Str} {np : Nat} (F : Fun T.K x qual st f fd) (sel : List Sel)
    (h : ∀ (kV doc pm : Value) (an : Option Addr) (cdv ct : Value) (us ws : List Value), us.length = np → ws.length = ks.length → bindArgs (PySem.W.fnOf x qual (defArgs st) (defBody st) (defScope st) .none kV doc pm an cdv ct) ⟨us, ks.zip ws⟩ = pure (ps.zip (selG sel us [] ws))) :
    ∃ its, KBn T.K fd ps np ks (fun us ws => selG sel us its ws) (fun vs zs => selG sel vs [] zs) := by
  obtain ⟨oc, od, kV, doc, pm, an, cdv, ct, osl, rfl, lk, hcd⟩ := F.ex
  exact ⟨[], fun s us ws _ h1 h2 => BindsTo.of_eq (h kV doc pm an cdv ct us ws h1 h2), fun r1 r2 => selG_vals sel r1 .nil r2⟩
/-- .. with defaults -/
theorem kbn_funD {x qual : Str} {params : Arguments} {body : List Stmt} {scope : Scope} {f : Addr} {fd : FuncData} {ps ks : List Str} {np : Nat} {dvs : List V} {kws : List (Str × V)} (F : L2.FunD T.K x qual params body scope dvs kws f fd) (sel : List Sel) (hd : dvs ≠ [])
    (h : ∀ (A : Addr) (kV doc pm : Value) (an : Option Addr) (cdv ct : Value) (us its ws : List Value), us.length = np → its.length = dvs.length → ws.length = ks.length →
      ∃ k, bindArgs (PySem.W.fnOf x qual params body scope (.ref A) kV doc pm an cdv ct) ⟨us, ks.zip ws⟩ = seqItems? (.ref A) >>= k ∧ k (some its.toArray) = pure (ps.zip (selG sel us its ws))) :
    ∃ its, KBn T.K fd ps np ks (fun us ws => selG sel us its ws) (fun vs zs => selG sel vs dvs zs) :=
  L2.FunD.kbindsD F np ks (fun us its ws => selG sel us its ws) hd (fun r1 r2 r3 => selG_vals sel r1 r2 r3) h
variable {k : Nat} {f : Addr} {fd : FuncData} {ps ks : List Str} {d : DSp} {np : Nat} {dvs : List V} {dds : List D} {sel : List Sel} {lv : Nat}
/-- f(..) -/
theorem calOkS {x : Str} (F : G.FnD T k f fd ps d) (kp : PySem.W.keepIn T.K (.ref f) = true) (hm : T.mg x = some (.ref f)) (hb : ∃ its, KBn T.K fd ps np ks (fun us ws => selG sel us its ws) (fun vs zs => selG sel vs dvs zs)) (hc : ConstsD T dvs dds)
    (hs : sel.all (Sel.ok np dvs.length ks.length) = true) (hl : sel.length = ps.length) (hk : k ≤ lv) : CalOk T lv x (callS d sel np dds) np ks := by
  obtain ⟨its, hb⟩ := hb
  exact ⟨Callee.kw F kp np (gD := selD sel np dds) hb (fun F vs zs ds h1 h2 h => selD_den hc h1 h) (fun vs zs h1 h2 => by rw [selG_len h1 rfl h2 hs, hl]), hk, hm, rfl, rfl, rfl⟩
/-- C(..) -/
theorem newOkS {x C : Str} (Mk0 : Mk T.K (T.adr C) f) (F : G.FnD T k f fd ps d) (hm : T.mg x = some (.ref (T.adr C))) (hb : ∃ its, KBn T.K fd ps (np + 1) ks (fun us ws => selG (selfS sel) us its ws) (fun vs zs => selG (selfS sel) vs dvs zs)) (hc : ConstsD T dvs dds)
    (hs : sel.all (Sel.ok np dvs.length ks.length) = true) (hl : sel.length + 1 = ps.length) (hk : k + 1 ≤ lv) : CalOk T lv x (newS C d sel np dds) np ks := by
  obtain ⟨its, hb⟩ := hb
  refine ⟨Callee.newKw Mk0 F np (g0 := fun us ws => selG sel us its ws) (g0V := fun vs zs => selG sel vs dvs zs) (gD := selD sel np dds) (n := sel.length) hb (fun x us ws => selG_self sel x us its ws) (fun {vs zs us ws} r1 r2 => ?_) (fun F vs zs ds h1 h2 h => selD_den hc h1 h) (fun vs zs h1 h2 => selG_len h1 rfl h2 hs) hl, hk, hm, rfl, rfl, rfl⟩
  have z := hb.rel (vs := .non :: vs) (us := .none :: us) (.cons rfl r1) r2
  rw [selG_self, selG_self] at z
  cases z with
  | cons _ t => exact t
/-- e.m(..) -/
theorem metOkS {C m : Str} (F : G.FnD T k f fd ps d) (kp : PySem.W.keepIn T.K (.ref f) = true) (hcl : Cls T.K (T.adr C)) (hme : Meth T.K (T.adr C) m f) (hb : ∃ its, KBn T.K fd ps np ks (fun us ws => selG sel us its ws) (fun vs zs => selG sel vs dvs zs)) (hc : ConstsD T dvs dds)
    (hs : sel.all (Sel.ok np dvs.length ks.length) = true) (hl : sel.length = ps.length) (hk : k ≤ lv) : MetOk T lv C m (callS d sel np dds) np ks := by
  obtain ⟨its, hb⟩ := hb
  exact ⟨Callee.kw F kp np (gD := selD sel np dds) hb (fun F vs zs ds h1 h2 h => selD_den hc h1 h) (fun vs zs h1 h2 => by rw [selG_len h1 rfl h2 hs, hl]), hk, ⟨hcl, hme⟩, rfl, rfl, rfl⟩
end
end G

/-! Eng27: methods of new tuples and frozen dicts; sorted; comprehensions stored to a cell or an attribute; dict comprehensions; o[k] = v by an own __setitem__; reversed slices. -/
namespace G
open PySem PySem.Spec PyProof.Rows L2 RZ
/-! ### methods of a built-in type, also of new tuples and of frozen dicts -/
def tyW (K : PySem.W.Frag) (T : String) (x : V) (H : Hp) : Prop := tyV K T x H ∨ (T = "tuple" ∧ ∃ p vs, x = .ref p ∧ TupX K H p vs) ∨ (T = "dict" ∧ ∃ p kvs, x = .ref p ∧ Rd H p (.dK kvs))
theorem tyW_is {X : Cx} {pins : List (Addr × Obj)} {σ : L2.St} {H : Hp} {s : Shared} {T : String} {x : V} {v : Value} (I : Inv X pins σ H s) (r : RelV x v) (ty : tyW X.K T x H) :
    s.TypeIs v T ∧ ∀ a, v = .ref a → ∃ ob, s.heap.get? a = some ob ∧ ob.dict = none := by
  rcases ty with ty | ⟨rfl, p, vs, rfl, ht⟩ | ⟨rfl, p, kvs, rfl, hd⟩
  · exact tyV_is I r ty
  · cases r
    obtain ⟨its, _, ⟨o, n, h1, h2, h3, h4⟩, _⟩ := tupX_plain I ht
    refine ⟨⟨o, h1, h2⟩, fun a e => ?_⟩
    cases e
    exact ⟨o, h1, h3⟩
  · cases r
    obtain ⟨h1, h2, _⟩ := isD_at I (.inl ⟨kvs, hd⟩)
    exact ⟨h1, h2⟩
def tBMW (K : PySem.W.Frag) (T : String) (r : V → List V → Hp → VK → Prop) (to : TE) (t : TA) : TE := fun σ H Q => to σ H fun x H1 => tyW K T x H1 ∧ t σ H1 fun xs H2 => r x xs H2 Q
theorem pe_bmW {X : Cx} {o e : Expr} {es : List Expr} {to : TE} {t : TA} {name : Str} {apos cpos : Pos} {T id : String} {r : V → List V → Hp → VK → Prop} (pa : PlainAttrs T) (slot : Slot T name id) (hty : typeOf (.builtin id) = pure (.type "method_descriptor")) (hm : MtR X id r) (ho : PE X o to) (ha : PA X (e :: es) t)
    (hbase : attributeBase o name X.env (eval o X.env) = eval o X.env)
    (hfew : ((backTo cpos (starEach (e :: es) X.env)).all (fun x => !x.1) && (backToKw cpos (keywordEach [] X.env)).all (fun x => x.1.isSome)
      && decide ((e :: es).length + ([] : List Keyword).length + (if ([] : List Keyword).isEmpty then 0 else 1) < 30)) = true)
    (hline : (apos.endLine == cpos.line) = true) (hs : starEach (e :: es) X.env = (false, eval e X.env) :: starEach es X.env) (hplain : (backTo cpos (starEach es X.env)).any (·.1) = false) :
    PE X (.Call (.Attribute o name apos) (e :: es) [] cpos) (tBMW X.K T r to t) := by
  refine ⟨fun pins s σ H Q I h => ?_⟩
  refine wpAny_Call_method_late hbase hfew hline rfl (thn (ho.run pins s σ H _ I h) fun v s1 ⟨x, H1, I1, r1, ty, q1⟩ => ?_)
  obtain ⟨h1, h2⟩ := tyW_is I1 r1 ty
  refine ⟨T, id, pa, slot, hty, h1, h2, ?_⟩
  have hA := ha.run cpos pins s1 σ H1 _ I1 q1
  rw [hs] at hA ⊢
  refine Calls.callWith_builtin (by show (false || (backTo cpos (starEach es X.env)).any (·.1)) = false; rw [hplain] <;> rfl) (Calls.evalArgs_plain ?_)
  exact thn hA fun us s2 ⟨vs, H2, I2, r2, q2⟩ => hm pins s2 σ H2 x vs v us Q I2 r1 r2 q2
def bmTyW (M : MS) : D → Option String
  | .tup _ => some "tuple"
  | .dic _ => some "dict"
  | d => bmTy M d
theorem bmTyW_den {T : Wd} {F Gh H : Hp} {M : MS} {v : V} {d : D} {ty : String} (sr : SR T F M Gh H) (h : Den T F v d) (e : bmTyW M d = some ty) : tyW T.K ty v H := by
  cases h with
  | tup ht l => cases e; exact .inr (.inl ⟨rfl, _, _, rfl, (Ex.of_sr sr).tx ht⟩)
  | dic h l => cases e; exact .inr (.inr ⟨rfl, _, _, rfl, .inr ⟨_, sr.fr _ _ h⟩⟩)
  | str x => exact .inl (bmTy_den sr (.str x) e)
  | lst h l => exact .inl (bmTy_den sr (.lst h l) e)
  | ref a => exact .inl (bmTy_den sr (.ref a) e)
  | non => cases e
  | bl _ => cases e
  | int _ => cases e
  | ty _ => cases e
  | tpl _ _ => cases e
  | cls _ => cases e
  | scr _ _ => cases e
  | ins _ _ => cases e
  | set _ => cases e
  | exc0 => cases e
  | exc _ _ => cases e
/-- e.name(..) of a built-in type -/
def wBW (ty : String) (o : D → List D → MS → QD → Prop) (w : WE) (wa : WA) : WE := fun env M Q EQ => w env M (fun d M1 => bmTyW M1 d = some ty ∧ wa env M1 (fun ds M2 => o d ds M2 Q) EQ) EQ
theorem ev_bmW {T : Wd} {W : WX} {ty : String} {r : V → List V → Hp → VK → Prop} {o : D → List D → MS → QD → Prop} {to : TE} {ta : TA} {w : WE} {wa : WA} (hr : OpM T r o) (ho : Ev T W to w) (ha : EvA T W ta wa) : Ev T W (tBMW T.K ty r to ta) (wBW ty o w wa) := by
  intro σ H F Gh env M Q EQ R sr er hw rn rx
  refine ho σ H F Gh env M _ EQ _ sr er hw (fun v H1 F1 d M1 e1 sr1 dn q => ?_) rx
  obtain ⟨q1, q⟩ := q
  refine ⟨bmTyW_den sr1 dn q1, ?_⟩
  exact ha σ H1 F1 Gh env M1 _ EQ _ sr1 (er.mono e1) q (fun vs H2 F2 ds M2 e2 sr2 dn2 q2 => hr F2 Gh M2 H2 v vs d ds Q R sr2 (dn.mono e2) dn2 q2 (rn.mono (e1.trans e2))) (rx.mono e1)
section
variable {B : Bd}
theorem je_bmW {ty id : String} {name : Str} {e e1 : Expr} {es : List Expr} {apos cpos : Pos} {r : V → List V → Hp → VK → Prop} {o : D → List D → MS → QD → Prop} {w : WE} {wa : WA} (pa : PlainAttrs ty) (slot : Slot ty name id) (hty : typeOf (.builtin id) = pure (.type "method_descriptor")) (hm : ∀ X, B.In X → MtR X id r) (hr : OpM B.T r o)
    (ho : JE B e w) (ha : JA B (e1 :: es) wa) (hs : noStar (e1 :: es) = true) (hbase : ABase e name) (hlen : (e1 :: es).length < 30) (hline : (apos.endLine == cpos.line) = true) :
    JE B (.Call (.Attribute e name apos) (e1 :: es) [] cpos) (wBW ty o w wa) := fun W => by
  obtain ⟨to, h1, h2⟩ := ho W
  obtain ⟨ta, a1, _, a2⟩ := ha W
  refine ⟨tBMW B.T.K ty r to ta, fun X C tk => ?_, ev_bmW hr h2 a2⟩
  have z := pe_bmW (name := name) (apos := apos) (cpos := cpos) pa slot hty (hm X C) (h1 X C tk) (a1 X C tk) (hbase X.env) (by
    rw [Bool.and_eq_true, Bool.and_eq_true]
    exact ⟨⟨noStar_all hs, rfl⟩, decide_eq_true (by simpa using hlen)⟩) hline (starEach_cons hs) (noStar_any (noStar_tail hs))
  rw [C.K] at z
  exact z
end
/-! ### t.index(name) of a tuple of names, xs.index(x) of flat values -/
/-- the first place of a name -/
def idxS (x : Str) : List Str → Option Nat
  | [] => none
  | y :: r => if y = x then some 0 else (idxS x r).map (· + 1)
theorem idxS_some {x : Str} : ∀ {ys : List Str} {j : Nat}, idxS x ys = some j → ys[j]? = some x ∧ ∀ m, m < j → ys[m]? ≠ some x
  | [], _, h => by cases h
  | y :: r, j, h => by
    unfold idxS at h
    by_cases e : y = x
    · rw [if_pos e] at h; cases h
      exact ⟨by rw [e]; rfl, fun m hm => absurd hm (Nat.not_lt_zero _)⟩
    · rw [if_neg e] at h
      cases q : idxS x r with
      | none => rw [q] at h; cases h
      | some k =>
        rw [q] at h; cases h
        obtain ⟨h1, h2⟩ := idxS_some q
        refine ⟨h1, fun m hm => ?_⟩
        cases m with
        | zero => exact fun z => e (Option.some.inj z)
        | succ m => exact h2 m (Nat.lt_of_succ_lt_succ hm)
theorem idxS_mem {x : Str} : ∀ {ys : List Str}, x ∈ ys → ∃ j, idxS x ys = some j ∧ j < ys.length
  | y :: r, h => by
    unfold idxS
    by_cases e : y = x
    · rw [if_pos e]; exact ⟨0, rfl, Nat.succ_pos _⟩
    · rw [if_neg e]
      rcases List.mem_cons.mp h with z | z
      · exact absurd z.symm e
      · obtain ⟨j, h1, h2⟩ := idxS_mem z
        exact ⟨j + 1, by rw [h1]; rfl, by simpa using h2⟩
def tupIdxO (d : D) (ds : List D) (M : MS) (Q : QD) : Prop := ∃ (ys : List Str) (x : Str) (j : Nat), asT d = some (ys.map D.str) ∧ ds = [.str x] ∧ idxS x ys = some j ∧ Q (.int (j : Nat)) M
def rTupIdx (K : PySem.W.Frag) : V → List V → Hp → VK → Prop := fun x xs H Q => ∃ p, ∃ ys : List Str, ∃ z j, x = .ref p ∧ xs = [.str z] ∧ SqT K H p (ys.map V.str) ∧ ys[j]? = some z ∧ (∀ m, m < j → ys[m]? ≠ some z) ∧ Q (.int (j : Nat)) H
theorem opm_tupIdx {T : Wd} : OpM T (rTupIdx T.K) tupIdxO := by
  intro F Gh M H x xs dx dxs Q R sr hx hl ho rn
  obtain ⟨ys, z, j, h1, rfl, h2, q⟩ := ho
  obtain ⟨a, vs, rfl, hs, dl⟩ := asT_den hx h1
  have e := dl.strs_of
  subst e
  obtain ⟨v, rfl, dv⟩ := hl.one'
  cases dv
  obtain ⟨k1, k2⟩ := idxS_some h2
  exact ⟨a, ys, z, j, rfl, rfl, (Ex.of_sr sr).t hs, k1, k2, fin_v sr (.int _) q rn⟩
/-- the first place of a flat value -/
def idxF (x : D) : List D → Option Nat
  | [] => none
  | y :: r => if eqF y x = true then some 0 else (idxF x r).map (· + 1)
theorem idxF_some {x : D} : ∀ {ys : List D} {j : Nat}, idxF x ys = some j → ∃ z, ys[j]? = some z ∧ eqF z x = true ∧ ∀ m z', m < j → ys[m]? = some z' → eqF z' x = false
  | [], _, h => by cases h
  | y :: r, j, h => by
    unfold idxF at h
    by_cases e : eqF y x = true
    · rw [if_pos e] at h; cases h
      exact ⟨y, rfl, e, fun m z' hm => absurd hm (Nat.not_lt_zero _)⟩
    · rw [if_neg e] at h
      cases q : idxF x r with
      | none => rw [q] at h; cases h
      | some k =>
        rw [q] at h; cases h
        obtain ⟨z, h1, h2, h3⟩ := idxF_some q
        refine ⟨z, h1, h2, fun m z' hm hz => ?_⟩
        cases m with
        | zero => cases hz; exact Bool.eq_false_iff.mpr e
        | succ m => exact h3 m z' (Nat.lt_of_succ_lt_succ hm) hz
def lstIdxO (d : D) (ds : List D) (M : MS) (Q : QD) : Prop := ∃ (ys : List D) (x : D) (j : Nat), asS M d = some ys ∧ ds = [x] ∧ flatD x = true ∧ ys.all flatD = true ∧ idxF x ys = some j ∧ Q (.int (j : Nat)) M
theorem opm_lstIdx {T : Wd} : OpM T (rIndex T.K) lstIdxO := by
  intro F Gh M H x xs dx dxs Q R sr hx hl ho rn
  obtain ⟨ys, z, j, h1, rfl, f1, f2, h2, q⟩ := ho
  obtain ⟨a, vs, rfl, hs, dl⟩ := asS_den sr hx h1
  obtain ⟨v, rfl, dv⟩ := hl.one'
  obtain ⟨y, k1, k2, k3⟩ := idxF_some h2
  obtain ⟨u, hu, du⟩ := dl.get' k1
  have fl : ∀ {i : Nat} {w : V} {dw : D}, vs[i]? = some w → ys[i]? = some dw → Den T F w dw → eqV w v = eqF dw z := fun h h' dw => by
    exact eqF_den dw dv (List.all_eq_true.mp f2 _ (List.mem_of_getElem? h')) f1
  refine ⟨a, vs, v, j, u, rfl, rfl, hs, flatD_den dv f1, flatL_den dl f2, hu, by rw [fl hu k1 du]; exact k2, fun m w hm hw => ?_, fin_v sr (.int _) q rn⟩
  obtain ⟨dw, hdw, ddw⟩ := dl.get hw
  rw [fl hw hdw ddw]
  exact k3 m dw hm hdw
section
variable {B : Bd} {o e : Expr} {apos pos : Pos} {w : WE} {wa : WA}
theorem je_tupIdx (ho : JE B o w) (ha : JA B [e] wa) (hs : noStar [e] = true) (hb : ABase o "index") (hl : (apos.endLine == pos.line) = true) : JE B (.Call (.Attribute o "index" apos) [e] [] pos) (wBW "tuple" tupIdxO w wa) :=
  je_bmW PySem.F.plainAttrs_tuple PySem.F.slot_tuple_index PySem.F.type_tuple_index (fun X c => by rw [← c.K]; exact mt_tup_index) opm_tupIdx ho ha hs hb (by simp) hl
theorem je_lstIdx (ho : JE B o w) (ha : JA B [e] wa) (hs : noStar [e] = true) (hb : ABase o "index") (hl : (apos.endLine == pos.line) = true) : JE B (.Call (.Attribute o "index" apos) [e] [] pos) (wBW "list" lstIdxO w wa) :=
  je_bmW PySem.F.plainAttrs_list PySem.F.slot_list_index PySem.F.type_list_index (fun X c => by rw [← c.K]; exact mt_index) opm_lstIdx ho ha hs hb (by simp) hl
end
/-! ### d.get(k), d.get(k, x), d.pop(k) -/
def dgetO (d : D) (ds : List D) (M : MS) (Q : QD) : Prop := ∃ kvs k x, asD M d = some kvs ∧ keyD x = some k ∧ ((ds = [x] ∧ Q ((valD kvs k).getD .non) M) ∨ ∃ y, ds = [x, y] ∧ Q ((valD kvs k).getD y) M)
def rDGet : V → List V → Hp → VK → Prop := fun x xs H Q => ∃ a y o, x = .ref a ∧ DGet H a y o ∧ ((xs = [y] ∧ Q (o.getD .non) H) ∨ ∃ z, xs = [y, z] ∧ Q (o.getD z) H)
theorem mt_dget {X : Cx} (hu : X.A.units + 1 < cLine) : MtR X "dict.get" rDGet := by
  intro pins s σ H x xs v us Q I rx rs h
  obtain ⟨a, y, o, rfl, g, h⟩ := h
  cases rx
  rcases h with ⟨rfl, q⟩ | ⟨z, rfl, q⟩
  · obtain ⟨u, rfl, ry⟩ := Vals.one rs
    exact d_get1 hu I g ry fun w' s' I' r' => ⟨_, H, I', r', q⟩
  · obtain ⟨u, u2, rfl, ry, rz⟩ := Vals.two rs
    exact d_get2 hu I g ry rz fun w' s' I' r' => ⟨_, H, I', r', q⟩
theorem opm_dget {T : Wd} : OpM T rDGet dgetO := by
  intro F Gh M H x xs dx dxs Q R sr hx hl ho rn
  obtain ⟨kvs, k, y, h1, h2, ho⟩ := ho
  obtain ⟨a, vs, rfl, hr, dk⟩ := asD_den sr hx h1
  have val : ∀ {z : V} {dz : D}, Den T F z dz → ∃ v, (valV vs k).getD z = v ∧ Den T F v ((valD kvs k).getD dz) := fun {z dz} hz => by
    rcases valD_den (k := k) dk with ⟨e1, e2⟩ | ⟨d, v, e1, e2, dv⟩
    · rw [e1, e2]; exact ⟨z, rfl, hz⟩
    · rw [e1, e2]; exact ⟨v, rfl, dv⟩
  rcases ho with ⟨rfl, q⟩ | ⟨z, rfl, q⟩
  · obtain ⟨v, rfl, dv⟩ := hl.one'
    have ek := keyD_den dv h2
    subst ek
    obtain ⟨u, e, du⟩ := val Den.non
    refine ⟨a, kV k, valV vs k, rfl, .inl ⟨vs, k, hr, rfl, rfl⟩, .inl ⟨rfl, ?_⟩⟩
    rw [e]
    exact fin_v sr du q rn
  · obtain ⟨v, w, rfl, dv, dw⟩ := hl.two
    have ek := keyD_den dv h2
    subst ek
    obtain ⟨u, e, du⟩ := val dw
    refine ⟨a, kV k, valV vs k, rfl, .inl ⟨vs, k, hr, rfl, rfl⟩, .inr ⟨w, rfl, ?_⟩⟩
    rw [e]
    exact fin_v sr du q rn
section
variable {B : Bd} {o e : Expr} {es : List Expr} {apos pos : Pos} {w : WE} {wa : WA}
theorem je_dget (ho : JE B o w) (ha : JA B (e :: es) wa) (hs : noStar (e :: es) = true) (hb : ABase o "get") (hlen : (e :: es).length < 30) (hl : (apos.endLine == pos.line) = true) : JE B (.Call (.Attribute o "get" apos) (e :: es) [] pos) (wBW "dict" dgetO w wa) :=
  je_bmW PySem.F.plainAttrs_dict PySem.F.slot_dict_get PySem.F.type_dict_get (fun X c => mt_dget (by have := c.un; omega)) opm_dget ho ha hs hb hlen hl
end
/-! ### sorted of ints -/
def sortI (ns : List Int) : List Int := ns.mergeSort fun a b => decide (a ≤ b)
theorem sortI_perm (ns : List Int) : (sortI ns).Perm ns := List.mergeSort_perm ns _
theorem sortI_sorted (ns : List Int) : (sortI ns).Pairwise (· ≤ ·) := by
  have h := List.pairwise_mergeSort (le := fun a b : Int => decide (a ≤ b)) (fun a b c h1 h2 => decide_eq_true (Int.le_trans (of_decide_eq_true h1) (of_decide_eq_true h2))) (fun a b => by
    rcases Int.le_total a b with h | h
    · simp [h]
    · simp [h]) ns
  exact h.imp fun h => of_decide_eq_true h
theorem sortI_uniq {ns ms : List Int} (h1 : ms.Perm ns) (h2 : ms.Pairwise (· ≤ ·)) : ms = sortI ns :=
  List.Perm.eq_of_pairwise (fun a b _ _ h1 h2 => Int.le_antisymm h1 h2) h2 (sortI_sorted ns) (h1.trans (sortI_perm ns).symm)
def sortedO (xs : List D) (M : MS) (Q : QD) : Prop := ∃ x ns, xs = [x] ∧ (asS M x = some (ns.map D.int) ∨ ∃ kvs, asD M x = some kvs ∧ kvs.map (·.1) = ns.map Sum.inl ∧ ns.length < 64) ∧ Q (.lst ((sortI ns).map .int)) M
def rSortedX (K : PySem.W.Frag) : List V → Hp → VK → Prop := fun xs H Q => rSortedI K xs H Q ∨ ∃ (a : Addr) (kvs : List (Key × V)) (ks : List Int), xs = [.ref a] ∧ Rd H a (.dK kvs) ∧ kvs.map (·.1) = ks.map Sum.inl ∧ ks.length < 64 ∧
    ∀ (ys : List Int) (p : Addr), ys.Perm ks → ys.Pairwise (· ≤ ·) → H p = none → Q (.ref p) (upd H p (.lst (ys.map V.int)))
theorem cr_sortedX {X : Cx} (hc : X.calm = true) : CallR X (.builtin "sorted") (rSortedX X.K) := by
  intro pins s σ H xs us Q I r q
  rcases q with q | q
  · exact cr_sortedI pins s σ H xs us Q I r q
  · exact call_sortedDI hc pins s σ H xs us Q I r q
theorem DenK.keys {T : Wd} {F : Hp} : ∀ {vs : List (Key × V)} {ds : List (Key × D)}, DenK T F vs ds → vs.map (·.1) = ds.map (·.1)
  | _, _, .nil => rfl
  | _, _, .cons _ l => by rw [List.map_cons, List.map_cons, l.keys]
theorem opN_sorted {T : Wd} : OpN T (rSortedX T.K) sortedO := by
  intro F Gh M H xs dxs Q R sr hl ho rn
  obtain ⟨x, ns, rfl, h, q⟩ := ho
  obtain ⟨v, rfl, dv⟩ := hl.one'
  have fin : ∀ (ys : List Int) (p : Addr), ys.Perm ns → ys.Pairwise (· ≤ ·) → H p = none → R (.ref p) (upd H p (.lst (ys.map V.int))) := fun ys p h1 h2 hp => by
    have e := sortI_uniq h1 h2
    subst e
    exact fin_lst sr (.ints _) q rn p hp
  rcases h with h | ⟨kvs, h, hk, hn⟩
  · obtain ⟨a, vs, rfl, hs, dl⟩ := asS_den sr dv h
    have e := dl.ints_of
    subst e
    exact .inl ⟨a, ns, rfl, hs, fin⟩
  · obtain ⟨a, vs, rfl, hr, dk⟩ := asD_den sr dv h
    exact .inr ⟨a, vs, ns, rfl, hr, by rw [dk.keys]; exact hk, hn, fin⟩
section
variable {B : Bd} {e : Expr} {es : List Expr} {p pos : Pos} {w : WA}
theorem je_sorted (hx : glB B.sc "sorted" = true ∧ B.T.mg "sorted" = none) (ha : JA B (e :: es) w) (hs : noStar (e :: es) = true) (hcm : B.cm = true := by rfl) : JE B (.Call (.Name "sorted" p) (e :: es) [] pos) (wCall sortedO w) := fun W => by
  obtain ⟨t, h1, _, h2⟩ := ha W
  refine ⟨_, fun X c tk => ?_, ev_cb opN_sorted h2⟩
  have z := cr_sortedX (c.calm hcm)
  rw [c.K] at z
  exact pe_callB z (gl_of c hx.1).1 (by rw [c.mg]; exact hx.2) (by decide +kernel) (h1 X c tk) (by decide) (gl_of c hx.1).2 (starEach_cons hs) (noStar_any (noStar_tail hs))
end
/-! ### a comprehension stored to a cell or an attribute -/
def noSw (sc : Scope) (tg e : Expr) : Bool := noComp e || (match tg with
  | .Name y _ => !(sc.names.lookup y == some NameKind.local)
  | _ => true)
theorem noSw_ok {B : Bd} {X : Cx} {tg e : Expr} {n : Nat} (c : B.In X) (h : noSw B.sc tg e = true) : swapsWith e (some tg) n X.env = pure false := by
  unfold noSw at h
  rw [Bool.or_eq_true] at h
  rcases h with h | h
  · exact noComp_swap h
  · cases e with
    | ListComp elt gs scope pos =>
      cases tg with
      | Name y py =>
        have h : (!(B.sc.names.lookup y == some NameKind.local)) = true := h
        show (pure (X.env.blockKind == .function && X.env.scope.names.lookup y == some .local && py.line == pos.line && !(scope.names.any fun (n, k) => n == y && (k == .local || k == .cell))) : Sem Bool) = pure false
        rw [c.hsc]
        rw [Bool.not_eq_true'] at h
        rw [h, Bool.and_false, Bool.false_and, Bool.false_and]
      | _ => rfl
    | SetComp elt gs scope pos =>
      cases tg with
      | Name y py =>
        have h : (!(B.sc.names.lookup y == some NameKind.local)) = true := h
        show (pure (X.env.blockKind == .function && X.env.scope.names.lookup y == some .local && py.line == pos.line && !(scope.names.any fun (n, k) => n == y && (k == .local || k == .cell))) : Sem Bool) = pure false
        rw [c.hsc]
        rw [Bool.not_eq_true'] at h
        rw [h, Bool.and_false, Bool.false_and, Bool.false_and]
      | _ => rfl
    | DictComp k elt gs scope pos =>
      cases tg with
      | Name y py =>
        have h : (!(B.sc.names.lookup y == some NameKind.local)) = true := h
        show (pure (X.env.blockKind == .function && X.env.scope.names.lookup y == some .local && py.line == pos.line && !(scope.names.any fun (n, k) => n == y && (k == .local || k == .cell))) : Sem Bool) = pure false
        rw [c.hsc]
        rw [Bool.not_eq_true'] at h
        rw [h, Bool.and_false, Bool.false_and, Bool.false_and]
      | _ => rfl
    | _ => rfl
section
variable {B : Bd}
/-- also of a comprehension, where the name is no plain local one -/
theorem js_asgC {tg e : Expr} {pos : Pos} {w : WE} {g : WG} (h : JE B e w) (hg : JG B tg g) (hc : noSw B.sc tg e = true) (hn : noSwap tg e = true) (hp : plainTgs [tg] = true) : JS B (.Assign [tg] e pos) (wAsg w g) := fun W => by
  obtain ⟨t, h1, h2⟩ := h W
  obtain ⟨tg', g1, g2⟩ := hg W
  exact ⟨_, fun X c tk => ps_asg (h1 X c.1 tk) (g1 X c.1 tk) (noSw_ok c.1 hc) (noSwap_ok hn) (by rw [assignEach_cons hp]; rfl), es_asg h2 g2⟩
end
end G

/-! Eng28: dict comprehensions; o[k] = v by an own __setitem__; xs[::-1]. -/
namespace G
open PySem PySem.Spec PyProof.Rows L2 RZ
section
variable {T : Wd}
/-! ### {k: v for target in xs if test} -/
def dcD (wg : WG) (wt : WT) (wk wv : WE) (Kp : MS → Prop) (env : EnvD) (Q : List (Key × D) → MS → Prop) : List D → List (Key × D) → MS → Prop
  | [], acc, M => Q acc M
  | x :: xs, acc, M => wg x env M (fun env1 M1 => wt env1 M1 (fun b M2 => if b = true then wk env1 M2 (fun y M3 => wv env1 M3 (fun z M4 => ∃ k, keyD y = some k ∧ acc.length < sizeLine ∧ Kp M4 ∧ dcD wg wt wk wv Kp env Q xs (putKD acc k z) M4) noE) noE else Kp M2 ∧ dcD wg wt wk wv Kp env Q xs acc M2) noE) noE
/-- the new dict may change -/
def wDcM (wi : WI) (wg : WG) (wt : WT) (wk wv : WE) (vs : List Nat) : WE := fun env M Q EQ => wi env M (fun Kp xs M1 => dcD wg wt wk wv Kp (wipeD env vs) (fun ys M2 => ∀ a, M2 a = none → Q (.ref a) (M2.set a (.dic ys))) xs [] M1) EQ
theorem ev_dcM {W : WX} {wi : TI} {wI : WI} {g : TG} {wg : WG} {tt : TT} {wt : WT} {tk tv : TE} {wk wv : WE} {vs : List Nat} (hi : EvI T W wi wI) (hg : EvGc T (fun _ _ _ _ => False) vs g wg) (ht : EvT T (fun _ _ _ _ => False) tt wt) (hk : Ev T (fun _ _ _ _ => False) tk wk) (hv : Ev T (fun _ _ _ _ => False) tv wv) :
    Ev T W (tDc wi g tt tk tv vs) (wDcM wI wg wt wk wv vs) := by
  intro σ H F Gh env M Q EQ R sr er hw rn rx
  refine hi σ H F Gh env M _ _ _ sr er hw (fun J H1 F1 Kp xs M1 e1 sr1 ok k1 q => ?_) rx
  intro L hL
  have gL := sr1.freeG hL
  have er1 := (er.mono e1).wipe vs
  generalize hQ : (fun (ys : List (Key × D)) (M2 : MS) => ∀ a, M2 a = none → Q (.ref a) (M2.set a (.dic ys))) = Q2 at q
  refine ⟨fun i m H' => ∃ F' M' us ds, Ex F1 F' ∧ SR T F' M' (upd Gh L (.dK us)) H' ∧ DenK T F' us ds ∧ Kp M' ∧ m = xs.length - i ∧ i ≤ xs.length ∧ dcD wg wt wk wv Kp (wipeD env vs) Q2 (xs.drop i) ds M', ⟨xs.length, F1, M1, [], [], Ex.refl _, sr1.newG hL, .nil, k1, rfl, Nat.zero_le _, q⟩, ?_⟩
  rintro i m H2 ⟨F2, M2, us, ds, e2, sr2, dl, k2, rfl, hle, q2⟩
  obtain ⟨h1, h2, h3⟩ := ok F2 M2 _ H2 e2 sr2 k2
  by_cases hlt : i < xs.length
  · refine .inr ⟨h1 i hlt, fun H' => ∃ F' M' us ds, Ex F1 F' ∧ SR T F' M' (upd Gh L (.dK us)) H' ∧ DenK T F' us ds ∧ Kp M' ∧ dcD wg wt wk wv Kp (wipeD env vs) Q2 (xs.drop (i + 1)) ds M', ?_, ?_⟩
    · rintro H' ⟨F', M', us', ds', a, b, c, d, e⟩
      exact ⟨_, by omega, F', M', us', ds', a, b, c, d, rfl, hlt, e⟩
    · intro x H' y
      obtain ⟨F3, d, e3, sr3, dn, hd⟩ := h3 i x H' hlt y
      rw [drop_get hd] at q2
      have q2 : wg d (wipeD env vs) M2 _ noE := q2
      have dl3 := dl.mono e3
      refine hg _ H' F3 _ _ M2 x d _ _ sr3 ((er1.mono e2).mono e3) dn q2 (fun σ4 H4 F4 env4 M4 e4 sr4 er4 hz q4 => ⟨hz.trans wipe_wipe, ?_⟩)
      refine ht σ4 H4 F4 _ env4 M4 _ noE _ sr4 er4 q4 (fun b H5 F5 M5 e5 sr5 q5 => ?_) RX.no
      have e15 : Ex F1 F5 := ((e2.trans e3).trans e4).trans e5
      cases b with
      | false =>
        obtain ⟨k5, q5⟩ := q5
        exact ⟨F5, M5, us, ds, e15, sr5, (dl3.mono e4).mono e5, k5, q5⟩
      | true =>
        refine hk σ4 H5 F5 _ env4 M5 _ noE _ sr5 (er4.mono e5) q5 (fun v H6 F6 dv M6 e6 sr6 dn6 q6 => ?_) RX.no
        refine hv σ4 H6 F6 _ env4 M6 _ noE _ sr6 ((er4.mono e5).mono e6) q6 (fun z H7 F7 dz M7 e7 sr7 dn7 q7 => ?_) RX.no
        obtain ⟨k, ek, hl, k7, q7⟩ := q7
        have dl7 := (((dl3.mono e4).mono e5).mono e6).mono e7
        refine ⟨us, k, keyD_den dn6 ek, (sr7.gr L _ upd_same).1, by rw [dl7.length]; exact hl, F7, M7, putK us k z, putKD ds k dz, (e15.trans e6).trans e7, ?_, DenK.put dn7 dl7, k7, q7⟩
        have z2 := sr7.setG (o := .dK (putK us k z)) (o0 := .dK us) upd_same
        rw [upd_upd] at z2
        exact z2
  · have hi' : i = xs.length := by omega
    refine .inl ⟨h2 i (by omega), ?_⟩
    rw [hi', List.drop_length] at q2
    have q2 : Q2 ds M2 := q2
    subst hQ
    have mL : M2 L = none := by
      cases z : M2 L with
      | none => rfl
      | some m =>
        have z2 := (sr2.mu L m z).2.1
        rw [upd_same] at z2
        cases z2
    exact rn (.ref L) H2 F2 (.ref L) _ (e1.trans e2) (sr2.mutG gL (m := .dic ds) ⟨us, (sr2.gr L _ upd_same).1, dl⟩) (.ref L) (q2 L mL)
end
section
variable {B : Bd}
theorem je_dcM {kx vx tg it : Expr} {ifs : List Expr} {scope : Scope} {own : List (Str × Nat)} {pos : Pos} {wi : WI} {wg : WG} {wt : WT} {wk wv : WE} (hi : JI B tg it wi) (ok : blkC B.N B.sc scope own = true) (hg : JGc (B.blk scope) (own.map (·.2)) tg wg) (ht : JTs (B.blk scope) ifs wt) (hk : JE (B.blk scope) kx wk) (hv : JE (B.blk scope) vx wv) (hs : noSetDisplay it = true) (hcm : B.cm = true := by rfl) :
    JE B (.DictComp kx vx [⟨tg, it, ifs, 0⟩] scope pos) (wDcM wi wg wt wk wv (own.map (·.2))) := fun W => by
  obtain ⟨ti, i1, i2⟩ := hi W
  obtain ⟨g, g1, g2⟩ := hg
  obtain ⟨tt, t1, t2⟩ := ht
  obtain ⟨tk, k1, k2⟩ := hk (fun _ _ _ _ => False)
  obtain ⟨tv, v1, v2⟩ := hv (fun _ _ _ _ => False)
  refine ⟨tDc ti g tt tk tv (own.map (·.2)), fun X c tkk => ?_, ev_dcM i2 g2 t2 k2 v2⟩
  exact pe_dc (c.calm hcm) (by rw [c.hN]; exact c.nd) (i1 X c tkk) (by rw [c.hN, c.hsc]; exact blkOk_by ok) (fun s H C cl fp => g1 _ (blk_in c)) (fun s H C cl fp => t1 _ (blk_in c) blk_takes) (fun s H C cl fp => k1 _ (blk_in c) blk_takes) (fun s H C cl fp => v1 _ (blk_in c) blk_takes) (folded_no hs X.env)
/-! ### o[k] = v by an own __setitem__ -/
def SetOk (T : Wd) (lv : Nat) (C : Str) (d : DSp) : Prop := ∃ c : Callee T, c.k ≤ lv ∧ c.d = d ∧ c.np = 3 ∧ c.ks = [] ∧ PySem.W.noSeq T.K (T.adr C) = true ∧ PySem.W.findIn T.K (.ref (T.adr C)) "__setitem__" = some (some (.ref c.f)) ∧ PySem.W.isFn T.K (.ref c.f) = true
def wgSubOwn (C : Str) (d : DSp) (wo wi : WE) : WG := fun v env M Q EQ => wo env M (fun x M1 => wi env M1 (fun i M2 => ∃ fs, insD M2 x = some (C, fs) ∧ d [x, i, v] M2 (fun _ M3 => Q env M3) EQ) EQ) EQ
theorem jg_subOwn {o i : Expr} {pos : Pos} {wo wi : WE} {C : Str} {d : DSp} (hset : SetOk B.T B.lv C d) (ho : JE B o wo) (hi : JE B i wi) (ha : ∀ (env : Env) v, assign (.Subscript o i pos) env v = (do
      let ov ← holding [v] (eval o env)
      let iv ← holding [v, ov] (eval i env)
      standAt pos
      holding [v, ov, iv] (setItem ov iv v)
      release [v, ov, iv] [])) (hcm : B.cm = true := by rfl) : JG B (.Subscript o i pos) (wgSubOwn C d wo wi) := fun W => by
  obtain ⟨c, hk, rfl, hnp, hks, hq, hs, hf⟩ := hset
  obtain ⟨to, o1, o2⟩ := ho W
  obtain ⟨ti, i1, i2⟩ := hi W
  refine ⟨fun v σ H Q => to σ H fun x H1 => ti σ H1 fun y H2 => ∃ p dx fs, x = .ref p ∧ H2 p = some (.ins (B.T.adr C) dx fs) ∧ lift B.T 3 c.d [x, y, v] H2 (fun r H3 => Q σ H3) (L2.WE W σ), fun X Ck tk => ⟨fun pins s σ H v u Q I r h => ?_⟩, fun σ H F Gh env M v d Q EQ R sr er dn hw rs rx => ?_⟩
  · rw [ha]
    refine wpAny_bind (wpAny_holding (thn ((o1 X Ck tk).run pins s σ H _ I h) fun ov s1 ⟨x, H1, I1, r1, q1⟩ => ?_))
    refine wpAny_bind (wpAny_holding (thn ((i1 X Ck tk).run pins s1 σ H1 _ I1 q1) fun iv s2 ⟨y, H2, I2, r2, q2⟩ => ?_))
    obtain ⟨p, dx, fs, ex, hp, hl⟩ := q2
    subst ex
    obtain rfl : ov = Value.ref p := r1
    obtain ⟨mA, J, _⟩ := ins_get I2.hok hp
    obtain ⟨od, J, _⟩ := J.look
    obtain ⟨m, hF⟩ := I2.fr
    have hcall := c.run (ws := []) (zs := []) (Bd.In.calmed Ck hcm) tk hk I2 (us := [.ref p, iv, u]) (vs := [.ref p, y, v]) (Q := fun r H3 => Q σ H3) (.cons rfl (.cons r2 (.cons r .nil))) .nil (by rw [hnp]; rfl) (by rw [hks]; rfl) (by rw [hnp, hks]; exact hl)
    rw [hks] at hcall
    refine wpAny_bind (wpAny_standAt (wpAny_bind (wpAny_holding (PySem.W.ksp_setItem hF I2.ok.mod.kin J (by rw [Ck.K]; exact hq) (by rw [Ck.K]; exact hs) (by rw [Ck.K]; exact hf) (wpAny_mono hcall (fun r s3 ⟨z, H3, I3, rz, q3⟩ => ?_) fun _ _ x => x)))))
    exact wpAny_release ⟨σ, H3, I3, q3⟩
  · refine o2 σ H F Gh env M _ EQ _ sr er hw (fun x H1 F1 d1 M1 e1 sr1 dn1 q => ?_) rx
    refine i2 σ H1 F1 Gh env M1 _ EQ _ sr1 (er.mono e1) q (fun y H2 F2 d2 M2 e2 sr2 dn2 q2 => ?_) (rx.mono e1)
    obtain ⟨fs, i3, q2⟩ := q2
    have dn1' := dn1.mono e2
    have dnv := dn.mono (e1.trans e2)
    obtain ⟨p, dx, us, rfl, h1, _⟩ := insD_den sr2 dn1' i3
    exact ⟨p, dx, us, rfl, h1, F2, M2, Gh, [d1, d2, d], _, EQ, rfl, sr2, .cons dn1' (.cons dn2 (.one dnv)), q2, fun r H3 F3 dr M3 e3 sr3 dn3 q3 => rs σ H3 F3 env M3 ((e1.trans e2).trans e3) sr3 (er.mono ((e1.trans e2).trans e3)) q3, rx.mono (e1.trans e2)⟩
end
/-! ### xs[::-1] -/
def wRevL (w : WE) : WE := fun env M Q EQ => w env M (fun x M1 => ∃ xs, asS M1 x = some xs ∧ Q (.lst xs.reverse) M1) EQ
section
variable {B : Bd}
theorem je_revL {e : Expr} {k : Nat} {p1 p2 p3 pos : Pos} {w : WE} (h : JE B e w) : JE B (.Subscript e (.Slice none none (some (.UnaryOp .USub (.Constant (.int 1) k p1) p2)) p3) pos) (wRevL w) := fun W => by
  obtain ⟨t, h1, h2⟩ := h W
  refine ⟨tRevL B.T.K t, fun X c tk => by rw [← c.K]; exact pe_revL (h1 X c tk), fun σ H F Gh env M Q EQ R sr er hw rn rx => ?_⟩
  refine h2 σ H F Gh env M _ EQ _ sr er hw (fun v H1 F1 d M1 e1 sr1 dn q => ?_) rx
  obtain ⟨xs, hx, q⟩ := q
  obtain ⟨a, vs, rfl, hs, dl⟩ := asS_den sr1 dn hx
  exact ⟨a, vs, rfl, hs, fun p hp => fin_lst sr1 dl.reverse q (rn.mono e1) p hp⟩
end
end G

/-! Eng29: {**d, k: v}. -/
namespace PySem
section
variable {prog : Program} {w : World} {K : Type} [DecidableEq K] {knd : KeyKind prog w K} {A : Around} {E : Value → Shared → Prop} {s : Shared}
theorem wpAny_dictPut_pairs {d : Addr} {kvs : List (K × Value)} {k : K} {key v : Value} {Q : Unit → Shared → Prop} (hkey : knd.is k key = true) (hm : s.heap.DictOf knd d kvs)
    (hQ : ∀ h', h'.DictOf knd d (stored kvs k v) → Heap.SameBut d s.heap h' → Q () { s with heap := h' }) (hsz : kvs.length ≤ sizeLine) :
    wpAny (model prog w) A (dictPut d (knd.hash k) key v) Q E s := by
  obtain ⟨o, es, ep, ho, hc, hd, hk, hp, hn⟩ := hm
  have hes : es.size ≤ sizeLine := by
    have e1 := hp.length
    have e2 : es.toList.length = es.size := by simp
    omega
  unfold dictPut
  refine wpAny_bind (wpAny_dictFind_of hkey ho hd hk ?_)
  have hidx : (es.findIdx? fun e => knd.is k e.key) = kvs.findIdx? fun kv => decide (kv.1 = k) := by
    rw [← hp.findIdx k]; obtain ⟨l⟩ := es; simp
  cases hi : es.findIdx? fun e => knd.is k e.key with
  | some i =>
    refine wpAny_updateDict ho hd (hQ _ ⟨_, _, ep, Heap.get?_update_self _ ho (Obj.isFreed_of_dict (Obj.data_mapDict hd _)),
      hc.mapDict _, Obj.data_mapDict hd _, hk.modify _ _, ?_, ?_⟩ (Heap.SameBut.update ..))
    · rw [stored, if_pos (any_of_findIdx_some (hidx ▸ hi))]
      have hl : (es.toList.findIdx? fun e => knd.is k e.key) = some i := by rw [← hi]; obtain ⟨l⟩ := es; simp
      have := hp.modify hn hl v
      obtain ⟨l⟩ := es
      simpa using this
    · rw [stored, if_pos (any_of_findIdx_some (hidx ▸ hi)), keys_map_store]; exact hn
  | none =>
    have hnot : k ∉ kvs.map (·.1) := not_mem_of_findIdx_none (hidx ▸ hi)
    have hany : ¬ (kvs.any fun kv => decide (kv.1 = k)) = true := by
      rw [List.any_eq_true]; rintro ⟨kv, hkv, he⟩
      exact hnot (List.mem_map.mpr ⟨kv, hkv, of_decide_eq_true he⟩)
    refine wpAny_updateDictKeys (hz := hes) ho hd (hQ _ ⟨_, _, ep + 1, Heap.get?_update_self _ ho (Obj.isFreed_of_dict (Obj.data_mapDictKeys hd _)),
      hc.mapDictKeys _, Obj.data_mapDictKeys hd _, hk.push hkey _, ?_, ?_⟩ (Heap.SameBut.update ..))
    · rw [stored, if_neg hany]
      have := hp.append hkey (knd.hash k) v
      obtain ⟨l⟩ := es
      simpa using this
    · rw [stored, if_neg hany, List.map_append, List.nodup_append]
      refine ⟨hn, by simp, ?_⟩
      intro a ha b hb
      simp only [List.map_cons, List.map_nil, List.mem_singleton] at hb
      subst hb
      exact fun e => hnot (e ▸ ha)
theorem wpAny_mergeMapping {d o : Addr} {kvs more : List (K × Value)} {Q : Unit → Shared → Prop} (hnr : ∀ (k : K) (v : Value), knd.is k v = true → ∀ a, v ≠ .ref a) (hdo : d ≠ o) (hoS : (o == sysModules) = false)
    (hd : s.heap.DictOf knd d kvs) (ho : s.heap.DictOf knd o more)
    (hQ : ∀ h', h'.DictOf knd d (merged kvs more) → h'.DictOf knd o more → Heap.SameBut d s.heap h' → Q () { s with heap := h' })
    (hsz : kvs.length + more.length ≤ sizeLine) :
    wpAny (model prog w) A (mergeMapping d (.ref o) false) Q E s := by
  obtain ⟨od, esd, epd, hod, hcd, hdd, hkd, hpd, hnd⟩ := id hd
  obtain ⟨oo, eso, epo, hoo, hco, hdo', hko, hpo, hno⟩ := id ho
  have hlen : more.length = eso.size := by rw [← hpo.length]; simp
  have loop : wpAny (model prog w) A (do
      let l ← dictEntries o
      let epoch ← dictEpoch o
      forIn (List.range l.size) PUnit.unit fun i (_ : PUnit) => (do
          let l' ← dictEntries o
          match l'[i]? with
            | some e => do
              holding [e.key, e.val] (dictPut d e.hash e.key e.val)
              let ep' ← dictEpoch o
              if (ep' != epoch) = true then do
                  (unsupported "dict.changed-during-merge" : Sem PUnit)
                  pure (ForInStep.yield PUnit.unit)
                else pure (ForInStep.yield PUnit.unit)
            | _ => do
              (unsupported "dict.changed-during-merge" : Sem PUnit)
              pure (ForInStep.yield PUnit.unit) : Sem (ForInStep PUnit))
      pure ()) Q E s := by
    refine wpAny_bind (wpAny_dictEntries hoo hdo' ?_)
    refine wpAny_bind (wpAny_dictEpoch hoo hdo' ?_)
    refine wpAny_bind ?_
    rw [List.range_eq_range']
    refine wpAny_forIn_list _
      (fun rest _ s' => ∃ h' i, s' = { s with heap := h' } ∧ rest = List.range' i (eso.size - i) ∧ i ≤ eso.size ∧ h'.DictOf knd d (merged kvs (more.take i)) ∧ h'.get? o = some oo ∧ Heap.SameBut d s.heap h')
      _ ?_ ?_ _ _ ⟨s.heap, 0, rfl, by simp, Nat.zero_le _, by simpa [merged] using hd, hoo, Heap.SameBut.refl _ _⟩
    · rintro x rest b s' ⟨h', i, rfl, hr, hi, hd', hoo', hs'⟩
      have hlt : i < eso.size := by
        rcases Nat.lt_or_ge i eso.size with h | h
        · exact h
        · rw [Nat.sub_eq_zero_of_le h] at hr; simp at hr
      obtain ⟨rfl, hrest⟩ : x = i ∧ rest = List.range' (i + 1) (eso.size - (i + 1)) := by
        have e : eso.size - i = (eso.size - (i + 1)) + 1 := by omega
        rw [e, List.range'_succ] at hr
        injection hr with h1 h2
        exact ⟨h1, h2⟩
      refine wpAny_bind (wpAny_dictEntries hoo' hdo' ?_)
      rw [Array.getElem?_eq_getElem hlt]
      obtain ⟨kv, hkv⟩ : ∃ kv, more[x]? = some kv := ⟨more[x]'(by rw [hlen]; exact hlt), List.getElem?_eq_getElem _⟩
      obtain ⟨k, v⟩ := kv
      obtain ⟨hkey, hval⟩ := hpo.get? (e := eso[x]) (by simp [hlt]) hkv
      obtain ⟨k', hkey', hhash⟩ := hko eso[x] (Array.getElem_mem hlt)
      obtain rfl : k' = k := knd.inj _ _ _ hkey' hkey
      show wpAny _ _ (holding [eso[x].key, eso[x].val] (dictPut d eso[x].hash eso[x].key eso[x].val) >>= _) _ _ _
      rw [hhash, hval]
      have hmx : (merged kvs (more.take x)).length ≤ sizeLine := by
        have e1 := merged_length_le kvs (more.take x)
        have e2 : (more.take x).length ≤ more.length := by rw [List.length_take]; omega
        omega
      refine wpAny_bind (wpAny_holding (wpAny_dictPut_pairs (hsz := hmx) hkey hd' fun h'' hd'' hs'' => ?_))
      have hoo'' : h''.get? o = some oo := (hs''.2 o (Ne.symm hdo)).trans hoo'
      refine wpAny_bind (wpAny_dictEpoch hoo'' hdo' ?_)
      rw [if_neg (by simp)]
      exact wpAny_pure ⟨h'', x + 1, rfl, hrest, hlt, by rw [merged_take_succ kvs more x (k', v) hkv]; exact hd'', hoo'', hs'.trans hs''⟩
    · rintro b s' ⟨h', i, rfl, hr, hi, hd', hoo', hs'⟩
      have hin : i = eso.size := by
        rcases Nat.lt_or_ge i eso.size with h | h
        · have e : eso.size - i = (eso.size - (i + 1)) + 1 := by omega
          rw [e, List.range'_succ] at hr; exact nomatch hr
        · exact Nat.le_antisymm hi h
      refine wpAny_pure (hQ h' ?_ ⟨oo, eso, epo, hoo', hco, hdo', hko, hpo, hno⟩ hs')
      rw [hin, ← hlen, List.take_length] at hd'; exact hd'
  unfold mergeMapping
  refine wpAny_bind (wpAny_isInstance ho.typeIs isSubtype_dict_dict ?_)
  simp only [if_true]
  refine wpAny_bind (wpAny_specialOf ho.typeIs F.slot_dict_iter.lookup (wpAny_bind (wpAny_pure ?_)))
  simp only [beq_self_eq_true]
  rw [if_neg (by rw [hoS]; exact Bool.false_ne_true)]
  simp only [Bool.false_eq_true, if_false]
  refine wpAny_bind (wpAny_dictEntries hod hdd ?_)
  split
  · refine wpAny_bind (wpAny_dictEntries hoo hdo' ?_)
    have hloop : (forIn eso PUnit.unit fun e (_ : PUnit) => (match e.key with
        | Value.ref a => do
          let __do_lift ← specialOf e.key "__eq__"
          if (__do_lift != some (Value.builtin "object.__eq__")) = true then
              if (Array.filter (fun x => x.hash == e.hash) eso).size > 1 then do
                let _ ← (unsupported "dict.merge-into-an-empty-dict:keys-of-equal-hash" : Sem PUnit)
                pure (ForInStep.yield PUnit.unit)
              else pure (ForInStep.yield PUnit.unit)
            else pure (ForInStep.yield PUnit.unit)
        | x => pure (ForInStep.yield PUnit.unit) : Sem (ForInStep PUnit))) = pure PUnit.unit := by
      rw [← Array.forIn_toList]
      refine forIn_yield_id _ fun e he c => ?_
      obtain ⟨k, hkey, _⟩ := hko e (Array.mem_toList_iff.mp he)
      have hn := hnr k _ hkey
      cases q : e.key with
      | ref a => exact absurd q (hn a)
      | _ => rfl
    exact wpAny_bind (wpAny_of_eq hloop loop)
  · exact loop
end
end PySem
namespace G
open PySem PySem.Spec PyProof.Rows L2 RZ
/-- {**d, k: v}: the new dict and that of the pair stand while the rest is made -/
def tDicP (tm tk tv : TE) : TE := fun σ H Q => ∀ p, H p = none → tm σ (upd H p (.dK [])) fun x H1 => ∃ a kvs, x = .ref a ∧ a ≠ p ∧ Rd H1 a (.dK kvs) ∧ H1 p = some (.dK []) ∧
  ∀ p2, (upd H1 p (.dK kvs)) p2 = none → tk σ (upd (upd H1 p (.dK kvs)) p2 (.dK [])) fun y H2 => tv σ H2 fun z H3 => ∃ kvs2 k, p2 ≠ p ∧ y = kV k ∧ H3 p2 = some (.dK []) ∧ H3 p = some (.dK kvs2) ∧ kvs2.length + 1 ≤ sizeLine ∧ Q (.ref p) (upd (upd H3 p2 (.dK [(k, z)])) p (.dK (putK kvs2 k z)))
theorem key_noref {P : Program} {w : World} : ∀ (k : Key) (v : Value), (mixKind P w).is k v = true → ∀ a, v ≠ .ref a := fun k v h a e => by
  have h : keyIs k v = true := h
  rcases keyIs_shape h with ⟨i, t, _, e'⟩ | ⟨x, t, _, e'⟩ <;> (rw [e] at e'; cases e')
theorem pe_dicP {X : Cx} {m k v : Expr} {pos : Pos} {tm tk tv : TE} (hm : PE X m tm) (hk : PE X k tk) (hv : PE X v tv) : PE X (.Dict [none, some k] [m, v] pos) (tDicP tm tk tv) := by
  refine ⟨fun pins s σ H Q I q => ?_⟩
  have hn := I.hok.fresh (Nat.le_refl s.heap.objs.size)
  have I1 := I.laid (a := s.heap.objs.size) (o := .dK []) (h' := s.heap.push { cls := .type "dict", data := .dict #[] }) (t' := s.toks) (fun _ _ q => Heap.get?_push_of_some _ q) (Nat.le_refl _) (dk_empty s.heap I.big)
  rw [arm_eval_Dict]
  refine wpAny_bind (wpAny_standAt ?_)
  show wpAny _ _ (dictDisplay [(none, do let x ← eval m X.env; standAt pos; pure x), (some (eval k X.env), do let x ← eval v X.env; standAt pos; pure x)]) _ _ s
  unfold dictDisplay
  simp only [List.forIn_cons, List.forIn_nil, List.isEmpty_nil, if_true, pure_bind, bind_assoc, List.nil_append, List.length_singleton, List.isEmpty_cons]
  refine wpAny_bind (wpAny_alloc ?_)
  refine wpAny_bind (wpAny_holding (wpAny_bind (thn (hm.run pins _ σ _ _ I1 (q _ hn)) fun u s1 ⟨x, H1, I2, rx, a, kvs, ex, hap, hr, hp, q1⟩ => wpAny_bind (wpAny_standAt (wpAny_pure ?_)))))
  subst ex
  obtain rfl : u = Value.ref a := rx
  obtain ⟨z, hd, vs, rel, dd⟩ := dk_rd I2.hok hr
  obtain ⟨_, hd0, vs0, r0, dd0⟩ := dk_of I2.hok hp
  cases r0
  have hnd : (vs.map (·.1)).Nodup := let ⟨_, _, _, _, _, _, _, _, hn⟩ := dd; hn
  have hzl : vs.length ≤ sizeLine := by rw [← rel.length]; exact z
  refine wpAny_bind (wpAny_onRaise (wpAny_tryCatch (wpAny_onRaise (wpAny_holding (wpAny_mergeMapping (knd := mixKind X.prog X.w) key_noref (Ne.symm hap) hd dd0 dd (fun h' dm _ hs => ?_) (by simpa using hzl))))))
  rw [merged_nil_of_nodup vs hnd] at dm
  have he : ∃ q, h'.get? s.heap.objs.size = some q := let ⟨q, _, _, hq, _⟩ := dm; ⟨q, hq⟩
  have I3 := d_write (t' := s1.toks) (ob := .dK kvs) I2 (by rw [hp]; exact True.intro) hs he (dk_new z hd0 rel dm)
  rw [if_neg (by decide)]
  refine wpAny_bind (wpAny_pure ?_)
  refine wpAny_bind (wpAny_pure ?_)
  dsimp only
  rw [if_neg (by simp)]
  have hn2 := I3.hok.fresh (Nat.le_refl h'.objs.size)
  have I4 := I3.laid (a := h'.objs.size) (o := .dK []) (h' := h'.push { cls := .type "dict", data := .dict #[] }) (t' := s1.toks) (fun _ _ q => Heap.get?_push_of_some _ q) (Nat.le_refl _) (dk_empty h' I3.big)
  have q2 := q1 _ hn2
  refine wpAny_bind (wpAny_bind (wpAny_holding (wpAny_subDict (knd := mixKind X.prog X.w) (by simp) ?_)))
  refine evalPairs_cons (thn (hk.run pins _ σ _ _ I4 q2) fun u s3 ⟨y, H2, I5, ry, q3⟩ => wpAny_bind (thn (hv.run pins s3 σ H2 _ I5 q3) fun r s4 ⟨z2, H3, I6, rz, kvs2, kk, hpp, ey, e2, e1, hl, q4⟩ => wpAny_bind (wpAny_standAt (wpAny_pure (evalPairs_nil ?_)))))
  subst ey
  obtain ⟨_, hd2, vs2, r2, dd2⟩ := dk_of I6.hok e2
  cases r2
  obtain ⟨_, hd1, vs1, r1, dd1⟩ := dk_of I6.hok e1
  refine ⟨[(kk, r)], ⟨kV_is ry, rfl, True.intro⟩, dd2, fun h5 d5 hs5 => ?_⟩
  have d5 : h5.DictOf (mixKind X.prog X.w) h'.objs.size [(kk, r)] := d5
  have he5 : ∃ q, h5.get? h'.objs.size = some q := let ⟨q, _, _, hq, _⟩ := d5; ⟨q, hq⟩
  have I7 := d_write (t' := s4.toks + [(u, r)].length) (ob := .dK [(kk, z2)]) I6 (by rw [e2]; exact True.intro) hs5 he5 (dk_new (by show 1 ≤ sizeLine; decide) hd2 (.cons ⟨rfl, rz⟩ .nil) d5)
  have e1' : upd H3 h'.objs.size (.dK [(kk, z2)]) s.heap.objs.size = some (.dK kvs2) := by rw [upd_ne (Ne.symm hpp)]; exact e1
  obtain ⟨_, _, vs7, r7, dd7⟩ := dk_of I7.hok e1'
  refine wpAny_bind (wpAny_onRaise (wpAny_holding (wpAny_mergeMapping (knd := mixKind X.prog X.w) key_noref (Ne.symm hpp) hd2 dd7 d5 (fun h8 d8 _ hs8 => ?_) (by rw [← r7.length]; exact hl))))
  have d8 : h8.DictOf (mixKind X.prog X.w) s.heap.objs.size (stored vs7 kk r) := d8
  have he8 : ∃ q, h8.get? s.heap.objs.size = some q := let ⟨q, _, _, hq, _⟩ := d8; ⟨q, hq⟩
  have I8 := d_write (t' := s4.toks + [(u, r)].length) (ob := .dK (putK kvs2 kk z2)) I7 (by rw [e1']; exact True.intro) hs8 he8 (dk_new (Nat.le_trans (length_putK kvs2 kk z2) hl) hd0 (r7.put kk rz) d8)
  refine wpAny_bind (wpAny_pure (wpAny_bind (wpAny_pure ?_)))
  refine wpAny_pure ?_
  show wpAny _ _ (pure (Value.ref _)) _ _ _
  exact wpAny_pure ⟨.ref _, _, I8, rfl, q4⟩
def wDicP (w wk wv : WE) : WE := fun env M Q EQ => w env M (fun x M1 => ∃ kvs, asD M1 x = some kvs ∧ wk env M1 (fun y M2 => wv env M2 (fun z M3 => ∃ k, keyD y = some k ∧ kvs.length + 1 ≤ sizeLine ∧ ∀ a, M3 a = none → Q (.ref a) (M3.set a (.dic (putKD kvs k z)))) EQ) EQ) EQ
section
variable {T : Wd}
theorem asD_G {F Gh H : Hp} {M : MS} {a : Addr} {d : D} {xs : List (Key × D)} (sr : SR T F M Gh H) (h : Den T F (.ref a) d) (e : asD M d = some xs) : Gh a = none := by
  cases h with
  | dic h l =>
    cases q : Gh a with
    | none => rfl
    | some o => have z := (sr.gr a o q).2; rw [h] at z; cases z
  | ref a =>
    have e : dicMO (M a) = some xs := e
    cases q : M a with
    | none => rw [q] at e; cases e
    | some m => exact (sr.mu a m q).2.1
  | _ => cases e
theorem RX.drop {F Gh G' : Hp} {EQ : EK} {W : WX} {σ : L2.St} (h : RX T F Gh EQ W σ) (k : ∀ a o, Gh a = some o → G' a = some o) : RX T F G' EQ W σ := fun c d H' F' x M' e s' xd q => h c d H' F' x M' e (s'.dropG k) xd q
theorem ev_dicP {W : WX} {tm tk tv : TE} {w wk wv : WE} (hm : Ev T W tm w) (hk : Ev T W tk wk) (hv : Ev T W tv wv) : Ev T W (tDicP tm tk tv) (wDicP w wk wv) := by
  intro σ H F Gh env M Q EQ R sr er hw rn rx p hp
  have gp := sr.freeG hp
  refine hm σ _ F _ env M _ EQ _ (sr.newG (o := .dK []) hp) er hw (fun v H1 F1 x M1 e1 sr1 dn q => ?_) (fun c dd H' F' x M' e s' xd q => rx c dd H' F' x M' e (s'.dropG fun a o ea => ?_) xd q)
  · obtain ⟨kvs, ek, q⟩ := q
    obtain ⟨a, vs, rfl, hr, dk⟩ := asD_den sr1 dn ek
    have hap : a ≠ p := fun z => by
      have := asD_G sr1 dn ek
      rw [z, upd_same] at this; cases this
    refine ⟨a, vs, rfl, hap, hr, (sr1.gr p _ upd_same).1, fun p2 hp2 => ?_⟩
    have s2 := sr1.setG (o := .dK vs) (o0 := .dK []) upd_same
    rw [upd_upd] at s2
    have hpp : p2 ≠ p := fun z => by rw [z, upd_same] at hp2; cases hp2
    have gp2 := s2.freeG hp2
    rw [upd_ne hpp] at gp2
    refine hk σ _ F1 _ env M1 _ EQ _ (s2.newG (o := .dK []) hp2) (er.mono e1) q (fun u H2 F2 y M2 e2 sr2 dn2 q2 => ?_) (RX.drop (rx.mono e1) fun a o ea => ?_)
    · refine hv σ H2 F2 _ env M2 _ EQ _ sr2 ((er.mono e1).mono e2) q2 (fun r H3 F3 z M3 e3 sr3 dn3 q3 => ?_) (RX.drop ((rx.mono e1).mono e2) fun a o ea => ?_)
      · obtain ⟨k, eky, hl, q3⟩ := q3
        have ey := keyD_den dn2 eky
        subst ey
        have dk3 := (dk.mono e2).mono e3
        have h1 := sr3.gr p2 _ upd_same
        have h2 := sr3.gr p (.dK vs) (by rw [upd_ne (Ne.symm hpp), upd_same])
        refine ⟨vs, k, hpp, rfl, h1.1, h2.1, by rw [dk3.length]; exact hl, ?_⟩
        have s4 := sr3.setG (o := .dK [(k, r)]) (o0 := .dK []) upd_same
        rw [upd_upd] at s4
        have s5 := s4.setG (p := p) (o := .dK (putK vs k r)) (o0 := .dK vs) (by rw [upd_ne (Ne.symm hpp), upd_same])
        have s6 := s5.dropG (G' := upd Gh p (.dK (putK vs k r))) (fun a o ea => by
          by_cases h : a = p
          · rw [h, upd_same] at ea ⊢; exact ea
          · rw [upd_ne h] at ea ⊢
            have h3 : a ≠ p2 := fun z => by rw [z, gp2] at ea; cases ea
            rw [upd_ne h3, upd_ne h]; exact ea)
        have mp : M3 p = none := by
          cases z : M3 p with
          | none => rfl
          | some m =>
            have z2 := (sr3.mu p m z).2.1
            rw [upd_ne (Ne.symm hpp), upd_same] at z2
            cases z2
        exact rn (.ref p) _ F3 (.ref p) _ ((e1.trans e2).trans e3) (s6.mutG gp (m := .dic (putKD kvs k z)) ⟨_, upd_same, DenK.put dn3 dk3⟩) (.ref p) (q3 p mp)
      · have h1 : a ≠ p := ne_of_none ea gp
        have h2 : a ≠ p2 := ne_of_none ea gp2
        rw [upd_ne h2, upd_ne h1]; exact ea
    · have h1 : a ≠ p := ne_of_none ea gp
      have h2 : a ≠ p2 := ne_of_none ea gp2
      rw [upd_ne h2, upd_ne h1]; exact ea
  · have hap : a ≠ p := ne_of_none ea gp
    rw [upd_ne hap]
    exact ea
end
section
variable {B : Bd}
theorem je_dicP {m k v : Expr} {pos : Pos} {w wk wv : WE} (hm : JE B m w) (hk : JE B k wk) (hv : JE B v wv) : JE B (.Dict [none, some k] [m, v] pos) (wDicP w wk wv) := fun W => by
  obtain ⟨tm, m1, m2⟩ := hm W
  obtain ⟨tk, k1, k2⟩ := hk W
  obtain ⟨tv, v1, v2⟩ := hv W
  exact ⟨tDicP tm tk tv, fun X c tkk => pe_dicP (m1 X c tkk) (k1 X c tkk) (v1 X c tkk), ev_dicP m2 k2 v2⟩
end
end G

/-! Eng30: zip of three tuples. -/
namespace RZ
open PySem PySem.Spec PyProof.Rows L2
/-- the tuples at a, b, c, N turns, the items in new tuples -/
def ItzT3 (K : PySem.W.Frag) (a b c : Addr) (N : Nat) : It :=
  ⟨fun i H => ∃ (xs ys zs : List V), SqT K H a xs ∧ SqT K H b ys ∧ SqT K H c zs ∧ N = min (min xs.length ys.length) zs.length ∧ i < N,
    fun i H v H' => ∃ T x y z, v = .ref T ∧ H T = none ∧ H' = upd H T (.tup [x, y, z]) ∧ (∀ xs, SqT K H a xs → xs[i]? = some x) ∧ (∀ ys, SqT K H b ys → ys[i]? = some y) ∧ ∀ zs, SqT K H c zs → zs[i]? = some z,
    fun i H => ∃ (xs ys zs : List V), SqT K H a xs ∧ SqT K H b ys ∧ SqT K H c zs ∧ N = min (min xs.length ys.length) zs.length ∧ N ≤ i⟩
theorem isTupIter_at {h h' : Heap} {a t : Addr} {i : Nat} (x : h.IsTupleIter a t i) (e : ∀ o, h.get? a = some o → h'.get? a = some o) : h'.IsTupleIter a t i := let ⟨o, ho, r⟩ := x; ⟨o, e _ ho, r⟩
abbrev tnZ3 (z TI TO i1 i2 i3 a b c : Addr) (N : Nat) : Nat → Heap → Prop := fun i h => IsZip h z TI TO .none ∧ IsTupOf3 h TI (.ref i1) (.ref i2) (.ref i3) ∧ (∃ a1 a2 a3, IsTupOf3 h TO a1 a2 a3) ∧ h.IsTupleIter i1 a i ∧ h.IsTupleIter i2 b i ∧ h.IsTupleIter i3 c i ∧ i ≤ N
theorem turn_zip3 {P : Program} {w : World} {K : PySem.W.Frag} {elts : List Expr} {kk : Nat} {tpos : Pos} {a b c z TI TO i1 i2 i3 : Addr} {N : Nat} (S : ZipSep3 z TI TO i1 i2 i3 [i1, a] [i2, b] [i3, c]) (d1 : a ≠ i1) (d2 : b ≠ i2) (d3 : c ≠ i3)
    (ap : ∀ x ∈ [a, b, c], x ∉ [z, TI, TO, i1, i2, i3]) :
    Turn P w K (.Tuple elts kk tpos) (ItzT3 K a b c N) [z, TI, TO, i1, i2, i3] z (tnZ3 z TI TO i1 i2 i3 a b c N) where
  mem := by simp
  obj := fun i h st x hx => by
    obtain ⟨hz, hTI, ⟨x1, y1, z1, hTO⟩, ⟨o1, e1, _, q1⟩, ⟨o2, e2, _, q2⟩, ⟨o3, e3, _, q3⟩, _⟩ := st
    have e' : x = z ∨ x = TI ∨ x = TO ∨ x = i1 ∨ x = i2 ∨ x = i3 := by simpa using hx
    rcases e' with q | q | q | q | q | q
    · rw [q]; exact ⟨_, hz, fun v q => nomatch q⟩
    · rw [q]; exact ⟨_, hTI, fun v q => nomatch q⟩
    · rw [q]; exact ⟨_, hTO, fun v q => nomatch q⟩
    · rw [q]; exact ⟨o1, e1, fun v q => by rw [q1] at q; cases q⟩
    · rw [q]; exact ⟨o2, e2, fun v q => by rw [q2] at q; cases q⟩
    · rw [q]; exact ⟨o3, e3, fun v q => by rw [q3] at q; cases q⟩
  keep := fun i h h' st k => by
    obtain ⟨hz, hTI, ⟨x1, y1, z1, hTO⟩, h1, h2, h3, hN⟩ := st
    exact ⟨k z (by simp) _ hz, k TI (by simp) _ hTI, ⟨x1, y1, z1, k TO (by simp) _ hTO⟩, isTupIter_at h1 fun o q => k i1 (by simp) o q, isTupIter_at h2 fun o q => k i2 (by simp) o q, isTupIter_at h3 fun o q => k i3 (by simp) o q, hN⟩
  item := by
    intro X hP hw hK hc i pins s σ H E I hf st hg
    subst hP hw hK
    obtain ⟨hz, hTI, hTO, h1, h2, h3, hN⟩ := st
    obtain ⟨xs, ys, zs, hqx, hqy, hqz, eN, hi⟩ := hg
    obtain ⟨its, rv, p, _⟩ := I.tuple hqx
    obtain ⟨its2, rv2, p2, _⟩ := I.tuple hqy
    obtain ⟨its3, rv3, p3, _⟩ := I.tuple hqz
    have l1 := rv.length
    have l2 := rv2.length
    have l3 := rv3.length
    have hh : X.A.in1.handled = none := I.ok.hd hc
    have G := GoesN.zip3 (elts := elts) (x1 := kk) (pos := tpos) S (Draws.tuple (prog := X.prog) (w := X.w) hh i1 a d1 its.toArray) (Draws.tuple (prog := X.prog) (w := X.w) hh i2 b d2 its2.toArray) (Draws.tuple (prog := X.prog) (w := X.w) hh i3 c d3 its3.toArray)
    have hlt : i < min (min its.toArray.size its2.toArray.size) its3.toArray.size := by
      rw [List.size_toArray, List.size_toArray, List.size_toArray, ← l1, ← l2, ← l3, ← eN]; exact hi
    refine G.goes i s (fun v s2 => ∃ x H', Inv X pins σ H' s2 ∧ RelV x v ∧ (ItzT3 X.K a b c N).yld i H x H' ∧ tnZ3 z TI TO i1 i2 i3 a b c N (i + 1) s2.heap ∧ ∀ b ∈ [z, TI, TO, i1, i2, i3], H' b = none) E hlt ⟨hz, hTI, hTO, ⟨h1, p⟩, ⟨h2, p2⟩, ⟨h3, p3⟩⟩ fun v h' tk hY st' hk htk => ?_
    obtain ⟨T, x, y, u, rfl, hT, e1, e2, e3, hTup⟩ := hY
    obtain ⟨k1, k2, k3, ⟨k4, _⟩, ⟨k5, _⟩, ⟨k6, _⟩⟩ := st'
    have e1 : its[i]? = some x := by simpa using e1
    have e2 : its2[i]? = some y := by simpa using e2
    have e3 : its3[i]? = some u := by simpa using e3
    have hi1 : i < xs.length := by omega
    have hi2 : i < ys.length := by omega
    have hi3 : i < zs.length := by omega
    have hx := List.getElem?_eq_getElem hi1
    have hy := List.getElem?_eq_getElem hi2
    have hu := List.getElem?_eq_getElem hi3
    obtain ⟨x', q1, rx⟩ := rv.get hx
    obtain ⟨y', q2, ry⟩ := rv2.get hy
    obtain ⟨u', q3, ru⟩ := rv3.get hu
    rw [e1] at q1; cases q1
    rw [e2] at q2; cases q2
    rw [e3] at q3; cases q3
    have new : ObjOk X.prog X.w (upd H T (.tup [xs[i], ys[i], zs[i]])) h' T (.tup [xs[i], ys[i], zs[i]]) :=
      ⟨by show 3 ≤ sizeLine; decide, [x, y, u], .cons rx (.cons ry (.cons ru .nil)), hTup⟩
    have I1 : Inv X pins σ (upd H T (.tup [xs[i], ys[i], zs[i]])) { s with heap := h', toks := tk } :=
      I.turnedNew (t' := tk) (ch := [z, TO, i1, i2, i3]) (fun c o hb q => hk c o hb q) (fun b hb => hf b (by
        have : b = z ∨ b = TO ∨ b = i1 ∨ b = i2 ∨ b = i3 := by simpa using hb
        rcases this with q | q | q | q | q <;> simp [q])) hT new
    refine ⟨.ref T, _, I1, rfl, ⟨T, _, _, _, rfl, I.hok.fresh hT, rfl, fun l hl => by rw [I.tuple_inj hl hqx]; exact hx, fun l hl => by rw [I.tuple_inj hl hqy]; exact hy, fun l hl => by rw [I.tuple_inj hl hqz]; exact hu⟩, ⟨k1, k2, k3, k4, k5, k6, hi⟩, fun c hcm => ?_⟩
    have hlt : c < s.heap.objs.size := by
      have e' : c = z ∨ c = TI ∨ c = TO ∨ c = i1 ∨ c = i2 ∨ c = i3 := by simpa using hcm
      obtain ⟨a1, a2, a3, hTO⟩ := hTO
      rcases e' with q | q | q | q | q | q
      · rw [q]; exact Heap.lt_size hz
      · rw [q]; exact Heap.lt_size hTI
      · rw [q]; exact Heap.lt_size hTO
      · rw [q]; obtain ⟨_, e, _⟩ := h1; exact Heap.lt_size e
      · rw [q]; obtain ⟨_, e, _⟩ := h2; exact Heap.lt_size e
      · rw [q]; obtain ⟨_, e, _⟩ := h3; exact Heap.lt_size e
    rw [upd_ne (Nat.ne_of_lt (Nat.lt_of_lt_of_le hlt hT))]
    exact (hf c hcm).1
  done := by
    intro X hP hw hK hc i pins s σ H E I hf st hg
    subst hP hw hK
    obtain ⟨hz, hTI, hTO, h1, h2, h3, hN⟩ := st
    obtain ⟨xs, ys, zs, hqx, hqy, hqz, eN, hi⟩ := hg
    obtain ⟨its, rv, p, _⟩ := I.tuple hqx
    obtain ⟨its2, rv2, p2, _⟩ := I.tuple hqy
    obtain ⟨its3, rv3, p3, _⟩ := I.tuple hqz
    have l1 := rv.length
    have l2 := rv2.length
    have l3 := rv3.length
    have hh : X.A.in1.handled = none := I.ok.hd hc
    have G := GoesN.zip3 (elts := elts) (x1 := kk) (pos := tpos) S (Draws.tuple (prog := X.prog) (w := X.w) hh i1 a d1 its.toArray) (Draws.tuple (prog := X.prog) (w := X.w) hh i2 b d2 its2.toArray) (Draws.tuple (prog := X.prog) (w := X.w) hh i3 c d3 its3.toArray)
    have en : i = min (min its.toArray.size its2.toArray.size) its3.toArray.size := by
      rw [List.size_toArray, List.size_toArray, List.size_toArray, ← l1, ← l2, ← l3, ← eN]; omega
    rw [en] at h1 h2 h3
    refine G.stops s (fun s1 => Inv X pins σ H s1) E ⟨hz, hTI, hTO, ⟨h1, p⟩, ⟨h2, p2⟩, ⟨h3, p3⟩⟩ fun h' tk hk htk => ?_
    exact I.turnedL (t' := tk) (ch := [z, TI, TO, i1, i2, i3]) (fun c o hb q => hk c o (fun hm => hb (by
        have : c = z ∨ c = TO ∨ c = i1 ∨ c = i2 ∨ c = i3 := by simpa using hm
        rcases this with q | q | q | q | q <;> simp [q])) q) hf
  self := fun A i s Q E st h => wpAny_pyIter_zip st.1 h
end RZ
namespace RZ
open PySem PySem.Spec PyProof.Rows L2
def iZip3 (K : PySem.W.Frag) (ta : TA) : TI := fun σ H R => ta σ H fun vs H1 => ∃ a b c xs ys zs, vs = [.ref a, .ref b, .ref c] ∧ SqT K H1 a xs ∧ SqT K H1 b ys ∧ SqT K H1 c zs ∧ R (ItzT3 K a b c (min (min xs.length ys.length) zs.length)) H1
theorem pi_zip3 {X : Cx} {e e2 e3 : Expr} {ta : TA} {p pos tpos : Pos} {elts : List Expr} {kk : Nat} (hg : Gl X "zip") (hm : X.mg "zip" = none) (ha : PA X [e, e2, e3] ta)
    (hs : starEach [e, e2, e3] X.env = (false, eval e X.env) :: starEach [e2, e3] X.env := by rfl) (hpl : (backTo pos (starEach [e2, e3] X.env)).any (·.1) = false := by rfl) :
    PI X (.Tuple elts kk tpos) (.Call (.Name "zip" p) [e, e2, e3] [] pos) (iZip3 X.K ta) := by
  refine ⟨fun pins s σ H R I h => ?_⟩
  refine Call_ (ld_blt I hg hm PyProof.Rows.boot_zip (PyProof.Rows.callWith_type1 (thn (ha.run pos pins s σ H _ I h) fun us s1 ⟨vs, H1, I1, r1, q1⟩ => ?_) hs hpl))
  obtain ⟨a, b, c, xs, ys, zs, ex, hqx, hqy, hqz, q⟩ := q1
  subst ex
  cases r1 with
  | cons r rr =>
    cases rr with
    | cons r' rr =>
      cases rr with
      | cons r'' rr =>
        cases rr
        cases r
        cases r'
        cases r''
        obtain ⟨its, rv, p1, _⟩ := I1.tuple hqx
        obtain ⟨its2, rv2, p2, _⟩ := I1.tuple hqy
        obtain ⟨its3, rv3, p3, _⟩ := I1.tuple hqz
        obtain ⟨o1, ho1, _⟩ := id p1
        obtain ⟨o2, ho2, _⟩ := id p2
        obtain ⟨o3, ho3, _⟩ := id p3
        have t1 := Heap.lt_size ho1
        have t2 := Heap.lt_size ho2
        have t3 := Heap.lt_size ho3
        refine zip_begins3 (begins_tuple a its.toArray) (begins_tuple b its2.toArray) (begins_tuple c its3.toArray) p1 p2 p3 fun h' hz hTI hTO h1 h2 h3 hsz hk => wpAny_pyIter_zip hz ?_
        have I2 : Inv X pins σ H1 { s1 with heap := h' } := I1.kept (t' := s1.toks) hk
        have base : ∀ x, x ∈ [s1.heap.objs.size + 5, s1.heap.objs.size + 3, s1.heap.objs.size + 4, s1.heap.objs.size, s1.heap.objs.size + 1, s1.heap.objs.size + 2] → s1.heap.objs.size ≤ x := fun x hx => by
          have e' : x = s1.heap.objs.size + 5 ∨ x = s1.heap.objs.size + 3 ∨ x = s1.heap.objs.size + 4 ∨ x = s1.heap.objs.size ∨ x = s1.heap.objs.size + 1 ∨ x = s1.heap.objs.size + 2 := by simpa using hx
          rcases e' with z | z | z | z | z | z
          · rw [z]; exact Nat.le_add_right _ _
          · rw [z]; exact Nat.le_add_right _ _
          · rw [z]; exact Nat.le_add_right _ _
          · rw [z]; exact Nat.le_refl _
          · rw [z]; exact Nat.le_add_right _ _
          · rw [z]; exact Nat.le_add_right _ _
        have ne : ∀ {x : Addr} {k : Nat}, x < s1.heap.objs.size → x ≠ s1.heap.objs.size + k := fun hx z => absurd hx (by rw [z]; exact Nat.not_lt.mpr (Nat.le_add_right _ _))
        refine ⟨s1.heap.objs.size + 5, [s1.heap.objs.size + 5, s1.heap.objs.size + 3, s1.heap.objs.size + 4, s1.heap.objs.size, s1.heap.objs.size + 1, s1.heap.objs.size + 2], _, _, H1, rfl, I2,
          turn_zip3 (N := min (min xs.length ys.length) zs.length) (zip_sep3 (fp1 := [a]) (fp2 := [b]) (fp3 := [c]) (fun x hx => by rw [List.mem_singleton.mp hx]; exact t1) (fun x hx => by rw [List.mem_singleton.mp hx]; exact t2) (fun x hx => by rw [List.mem_singleton.mp hx]; exact t3)) (ne (k := 0) t1) (ne t2) (ne t3) (fun x hx hm => ?_),
          ⟨hz, hTI, ⟨_, _, _, hTO⟩, ⟨_, h1, rfl, rfl⟩, ⟨_, h2, rfl, rfl⟩, ⟨_, h3, rfl, rfl⟩, Nat.zero_le _⟩, fun x hx => I1.fpOk (base x hx) (I1.hok.fresh (base x hx)), q⟩
        have hb := base x hm
        have e' : x = a ∨ x = b ∨ x = c := by simpa using hx
        rcases e' with z | z | z
        · rw [z] at hb; exact absurd t1 (Nat.not_lt.mpr hb)
        · rw [z] at hb; exact absurd t2 (Nat.not_lt.mpr hb)
        · rw [z] at hb; exact absurd t3 (Nat.not_lt.mpr hb)
end RZ
namespace G
open PySem PySem.Spec PyProof.Rows L2 RZ
def zip3D : List D → List D → List D → List D
  | x :: xs, y :: ys, z :: zs => .tpl [x, y, z] :: zip3D xs ys zs
  | _, _, _ => []
theorem zip3D_len : ∀ (xs ys zs : List D), (zip3D xs ys zs).length = min (min xs.length ys.length) zs.length
  | x :: xs, y :: ys, z :: zs => by
    show (zip3D xs ys zs).length + 1 = _
    rw [zip3D_len xs ys zs, List.length_cons, List.length_cons, List.length_cons]
    omega
  | [], _, _ => by simp [zip3D]
  | _ :: _, [], _ => by simp [zip3D]
  | _ :: _, _ :: _, [] => by simp [zip3D]
theorem zip3D_get : ∀ {xs ys zs : List D} {i : Nat} {x y z : D}, xs[i]? = some x → ys[i]? = some y → zs[i]? = some z → (zip3D xs ys zs)[i]? = some (.tpl [x, y, z])
  | _ :: _, _ :: _, _ :: _, 0, _, _, _, h1, h2, h3 => by
    simp at h1 h2 h3
    subst h1 h2 h3
    rfl
  | _ :: _, _ :: _, _ :: _, i + 1, _, _, _, h1, h2, h3 => by
    have := zip3D_get (i := i) (by simpa using h1) (by simpa using h2) (by simpa using h3)
    simpa [zip3D] using this
  | [], _, _, _, _, _, _, h1, _, _ => by simp at h1
  | _ :: _, [], _, _, _, _, _, _, h2, _ => by simp at h2
  | _ :: _, _ :: _, [], _, _, _, _, _, _, h3 => by simp at h3
section
variable {T : Wd}
theorem new_triple {F Gh H : Hp} {M : MS} {x y z : V} {dx dy dz : D} {p : Addr} (sr : SR T F M Gh H) (hp : H p = none) (hx : Den T F x dx) (hy : Den T F y dy) (hz : Den T F z dz) : ∃ F'' d, Ex F F'' ∧ SR T F'' M Gh (upd H p (.tup [x, y, z])) ∧ Den T F'' (.ref p) d ∧ d = .tpl [dx, dy, dz] := by
  have ex : Ex F (upd F p (.tup [x, y, z])) := Ex.new (sr.freeF hp)
  exact ⟨_, _, ex, sr.new hp, .tpl (.inl (.inl upd_same)) (.cons (hx.mono ex) (.cons (hy.mono ex) (.one (hz.mono ex)))), rfl⟩
theorem itok_zip3 {F : Hp} {a b c : Addr} {us vs ws : List V} {xs ys zs : List D} (hs1 : SqT T.K F a us) (dl1 : DenL T F us xs) (hs2 : SqT T.K F b vs) (dl2 : DenL T F vs ys) (hs3 : SqT T.K F c ws) (dl3 : DenL T F ws zs) : ItOk T F (ItzT3 T.K a b c (min (min us.length vs.length) ws.length)) (fun _ => True) (zip3D xs ys zs) := by
  intro F' M Gh H e sr k
  have hs1 := (e.trans sr.fr).t hs1
  have hs2 := (e.trans sr.fr).t hs2
  have hs3 := (e.trans sr.fr).t hs3
  have dl1 := dl1.mono e
  have dl2 := dl2.mono e
  have dl3 := dl3.mono e
  have l1 := dl1.length
  have l2 := dl2.length
  have l3 := dl3.length
  rw [zip3D_len]
  refine ⟨fun i hi => ⟨us, vs, ws, hs1, hs2, hs3, rfl, by omega⟩, fun i hi => ⟨us, vs, ws, hs1, hs2, hs3, rfl, by omega⟩, fun i x H' hi ⟨p, x1, y1, z1, ex, hp, eH, g1, g2, g3⟩ => ?_⟩
  subst ex eH
  obtain ⟨dx, h1, h2⟩ := dl1.get (g1 us hs1)
  obtain ⟨dy, h3, h4⟩ := dl2.get (g2 vs hs2)
  obtain ⟨dz, h5, h6⟩ := dl3.get (g3 ws hs3)
  obtain ⟨F'', d, e1, sr', dn, rfl⟩ := new_triple sr hp h2 h4 h6
  exact ⟨F'', _, e1, sr', dn, zip3D_get h1 h3 h5⟩
def zip3I (ds : List D) (M : MS) (Q : (MS → Prop) → List D → MS → Prop) : Prop := ∃ x y z xs ys zs, ds = [x, y, z] ∧ asT x = some xs ∧ asT y = some ys ∧ asT z = some zs ∧ Q (fun _ => True) (zip3D xs ys zs) M
theorem ei_zip3 {W : WX} {ta : TA} {wa : WA} (h : EvA T W ta wa) : EvI T W (iZip3 T.K ta) (wRng zip3I wa) := by
  intro σ H F Gh env M Q EQ R sr er hw rn rx
  refine h σ H F Gh env M _ EQ _ sr er hw (fun vs H1 F1 ds M1 e1 sr1 dn q => ?_) rx
  obtain ⟨x, y, z, xs, ys, zs, rfl, h1, h2, h3, q⟩ := q
  cases dn with
  | cons d t =>
    cases t with
    | cons d2 t =>
      cases t with
      | cons d3 t =>
        cases t
        obtain ⟨a, us, rfl, s1, l1⟩ := asT_den d h1
        obtain ⟨b, ws, rfl, s2, l2⟩ := asT_den d2 h2
        obtain ⟨c, ts, rfl, s3, l3⟩ := asT_den d3 h3
        exact ⟨a, b, c, us, ws, ts, rfl, (Ex.of_sr sr1).t s1, (Ex.of_sr sr1).t s2, (Ex.of_sr sr1).t s3, rn _ H1 F1 _ _ M1 e1 sr1 (itok_zip3 s1 l1 s2 l2 s3 l3) True.intro q⟩
end
section
variable {B : Bd}
theorem ji_zip3 {elts : List Expr} {kk : Nat} {tpos : Pos} {e e2 e3 : Expr} {p pos : Pos} {w : WA} (hx : glB B.sc "zip" = true ∧ B.T.mg "zip" = none) (h : JA B [e, e2, e3] w) (hs : noStar [e, e2, e3] = true) : JI B (.Tuple elts kk tpos) (.Call (.Name "zip" p) [e, e2, e3] [] pos) (wRng zip3I w) := fun W => by
  obtain ⟨t, h1, _, h2⟩ := h W
  refine ⟨iZip3 B.T.K t, fun X c tk => ?_, ei_zip3 h2⟩
  rw [← c.K]
  exact pi_zip3 (gl_of c hx.1).1 (by rw [c.mg]; exact hx.2) (h1 X c tk) (starEach_cons hs) (noStar_any (noStar_tail hs))
/-! ### a variable's dict is frozen -/
def sFrzD (i : Nat) (t : TS) : TS := fun D σ H => ∃ p kvs, σ[i]? = some (some (V.ref p)) ∧ H p = some (.dK kvs) ∧ ∀ o, t D σ (upd H p (.frz o (.dK kvs)))
theorem ps_frzD {X : Cx} {st : Stmt} {t : TS} {i : Nat} (h : PS X st t) : PS X st (sFrzD i t) := ⟨fun pins s σ H D I hq => by
  obtain ⟨p, kvs, _, hp, q⟩ := hq
  obtain ⟨od, I2⟩ := I.lock hp True.intro
  exact h.run pins s σ _ D I2 (q od)⟩
def wFrzD (i : Nat) (w : WS) : WS := fun env M K => ∃ a kvs, getE env i = some (.ref a) ∧ M a = some (.dic kvs) ∧ w (env.set i (some (.dic kvs))) (M.del a) K
theorem es_frzD {T : Wd} {W : WX} {i : Nat} {t : TS} {w : WS} (h : EvS T W t w) : EvS T W (sFrzD i t) (wFrzD i w) := by
  intro σ H F Gh env M K De sr er hw rk
  obtain ⟨a, kvs, e, hm, q⟩ := hw
  obtain ⟨v, h1, h2⟩ := er.2 i _ (er.get e)
  cases h2
  obtain ⟨hF, hG, vs, hh, l1⟩ := sr.mu a _ hm
  refine ⟨a, vs, h1, hh, fun o => ?_⟩
  have ex := Ex.new (o := .frz o (.dK vs)) hF
  have er' : EnvR T (upd F a (.frz o (.dK vs))) σ (env.set i (some (.dic kvs))) := by
    have z := (er.mono ex).set (Den.dic (T := T) (F := upd F a (.frz o (.dK vs))) upd_same (l1.mono ex)) i
    have hs : σ.set i (some (.ref a)) = σ := set_self h1
    rw [hs] at z; exact z
  exact h σ _ _ Gh _ _ K De (sr.freezeX hm) er' q (rk.mono ex)
theorem js_frzD {st : Stmt} {w : WS} (i : Nat) (h : JS B st w) : JS B st (wFrzD i w) := fun W => by
  obtain ⟨t, h1, h2⟩ := h W
  exact ⟨sFrzD i t, fun X c tk => ps_frzD (h1 X c tk), es_frzD h2⟩
/-! ### list(d) -/
def listKO (xs : List D) (M : MS) (Q : QD) : Prop := ∃ x kvs, xs = [x] ∧ asD M x = some kvs ∧ Q (.lst (kvs.map fun kv => kD kv.1)) M
def rListK : List V → Hp → VK → Prop := fun xs H Q => ∃ (a : Addr) (kvs : List (Key × V)), xs = [.ref a] ∧ Rd H a (.dK kvs) ∧ ∀ p, H p = none → Q (.ref p) (upd H p (.lst (kvs.map fun kv => kV kv.1)))
theorem keys_den {T : Wd} {F : Hp} : ∀ {vs : List (Key × V)} {ds : List (Key × D)}, DenK T F vs ds → DenL T F (vs.map fun kv => kV kv.1) (ds.map fun kv => kD kv.1)
  | _, _, .nil => .nil
  | _, _, .cons _ l => .cons (.kV _) (keys_den l)
theorem opN_listK {T : Wd} : OpN T rListK listKO := by
  intro F Gh M H xs dxs Q R sr hl ho rn
  obtain ⟨x, kvs, rfl, h, q⟩ := ho
  obtain ⟨v, rfl, dv⟩ := hl.one'
  obtain ⟨a, vs, rfl, hr, dk⟩ := asD_den sr dv h
  exact ⟨a, vs, rfl, hr, fun p hp => fin_lst sr (keys_den dk) q rn p hp⟩
theorem je_listK {e : Expr} {es : List Expr} {p pos : Pos} {w : WA} (hx : glB B.sc "list" = true ∧ B.T.mg "list" = none) (ha : JA B (e :: es) w) (hs : noStar (e :: es) = true) (hcm : B.cm = true := by rfl) : JE B (.Call (.Name "list" p) (e :: es) [] pos) (wCall listKO w) :=
  je_bt ⟨hx.1, hx.2, by first | rfl | kernel_rfl, by decide⟩ (r := rListK) (fun X c => call_listD (c.calm hcm)) opN_listK ha hs
/-! ### d.pop(k) -/
def dpopO (d : D) (ds : List D) (M : MS) (Q : QD) : Prop := ∃ a kvs k y v, d = .ref a ∧ ds = [y] ∧ M a = some (.dic kvs) ∧ keyD y = some k ∧ valD kvs k = some v ∧ Q v (M.set a (.dic (dropKD kvs k)))
def rDPop : V → List V → Hp → VK → Prop := fun x xs H Q => ∃ a kvs k v, x = .ref a ∧ xs = [kV k] ∧ H a = some (.dK kvs) ∧ valV kvs k = some v ∧ Q v (upd H a (.dK (dropK kvs k)))
theorem mt_dpop {X : Cx} : MtR X "dict.pop" rDPop := by
  intro pins s σ H x xs v us Q I rx rs h
  obtain ⟨a, kvs, k, v', rfl, rfl, ea, l, q⟩ := h
  cases rx
  obtain ⟨u, rfl, ry⟩ := Vals.one rs
  exact d_pop I ea ry l (.inl rfl) fun w' s3 I3 rw' => ⟨v', _, I3, rw', q⟩
theorem DenK.filter {T : Wd} {F : Hp} (p : Key → Bool) : ∀ {vs : List (Key × V)} {ds : List (Key × D)}, DenK T F vs ds → DenK T F (vs.filter fun kv => p kv.1) (ds.filter fun kv => p kv.1)
  | _, _, .nil => .nil
  | _, _, .cons (k := k) h l => by
    rw [List.filter_cons, List.filter_cons]
    by_cases e : p k = true
    · simp only [e, if_true]; exact .cons h (l.filter p)
    · simp only [e, if_false]; exact l.filter p
theorem opm_dpop {T : Wd} : OpM T rDPop dpopO := by
  intro F Gh M H x xs dx dxs Q R sr hx hl ho rn
  obtain ⟨a, kvs, k, y, v, rfl, rfl, hM, hk, hv, q⟩ := ho
  cases hx
  obtain ⟨u, rfl, dv⟩ := hl.one'
  have ek := keyD_den dv hk
  subst ek
  obtain ⟨us, g1, g2⟩ := sr.dic hM
  rcases valD_den (k := k) g2 with ⟨e1, e2⟩ | ⟨d, w, e1, e2, dw⟩
  · rw [e1] at hv; cases hv
  · rw [e1] at hv; cases hv
    exact ⟨a, us, k, w, rfl, rfl, g1, e2, rn w _ F v _ (Ex.refl F) (sr.setM (m := .dic (dropKD kvs k)) hM ⟨_, upd_same, g2.filter fun k' => decide (k' ≠ k)⟩) dw q⟩
theorem je_dpop {o e : Expr} {apos pos : Pos} {w : WE} {wa : WA} (ho : JE B o w) (ha : JA B [e] wa) (hs : noStar [e] = true) (hb : ABase o "pop") (hl : (apos.endLine == pos.line) = true) : JE B (.Call (.Attribute o "pop" apos) [e] [] pos) (wBW "dict" dpopO w wa) :=
  je_bmW PySem.F.plainAttrs_dict PySem.F.slot_dict_pop PySem.F.type_dict_pop (fun X c => mt_dpop) opm_dpop ho ha hs hb (by simp) hl
/-! ### t[::-1] -/
theorem fm_congr {α β : Type} {f g : α → Option β} : ∀ {l : List α}, (∀ x ∈ l, f x = g x) → l.filterMap f = l.filterMap g
  | [], _ => rfl
  | x :: r, h => by rw [List.filterMap_cons, List.filterMap_cons, h x List.mem_cons_self, fm_congr fun y hy => h y (List.mem_cons_of_mem _ hy)]
theorem getItem_tuple_rev {prog : Program} {w : World} {A : Around} {E : Value → Shared → Prop} {s : Shared} {t sl : Addr} {items : Array Value} {vl vu vs : Value} {Q : Value → Shared → Prop} (ht : IsTup s.heap t items) (hs : s.heap.IsSliceOf sl vl vu vs) (pl : IsPart vl none) (pu : IsPart vu none) (ps : IsPart vs (some (-1)))
    (h : Q (.ref s.heap.objs.size) { s with heap := s.heap.push { cls := .type "tuple", data := .seq items.toList.reverse.toArray } })
    (hsz : items.size ≤ sizeLine) : wpAny (model prog w) A (getItem (.ref t) (.ref sl)) Q E s := by
  obtain ⟨os, hos, hcs, hds⟩ := id hs
  have hTs : s.TypeIs (.ref sl) "slice" := ⟨os, hos, hcs⟩
  unfold getItem
  try with_reducible refine wpAny_holding ?_
  first | refine wpAny_bind (wpAny_pure ?_) | skip
  refine wpAny_bind (wpAny_sequenceKey ht.typeIs (by decide) ?_)
  refine wpAny_bind (wpAny_callSpecial?_slot (name := Str.ofString "__getitem__") ht.typeIs PyProof.Rows.slot_tuple_getitem
    (wpAny_call_entry PyProof.Rows.slot_tuple_getitem ht.typeIs entry_tuple_getitem ?_ (args_tuple_getitem _ _)))
  show wpAny _ _ (Builtin.Tuple.tupleItemsOf (.ref t) >>= _) _ _ s
  refine wpAny_bind (tupleItemsOf_ ht ?_)
  refine wpAny_bind (wpAny_typeOf hTs ?_)
  rw [if_pos (by decide)]
  have ap : ∀ {Q' : Int × Int × Nat → Shared → Prop} {E'}, Q' ((items.size : Int) - 1, -1, items.size) s → wpAny (model prog w) A.in1 (Builtin.Slice.sliceApplied (.ref sl) (pure (items.size : Int))) Q' E' s := by
    intro Q' E' q
    unfold Builtin.Slice.sliceApplied Builtin.Slice.sliceFields
    refine wpAny_bind (wpAny_bind (wpAny_field hos hds (x := vl) rfl (wpAny_bind (wpAny_field hos hds (x := vu) rfl (wpAny_bind (wpAny_field hos hds (x := vs) rfl (wpAny_pure ?_)))))))
    refine wpAny_bind (HT.slicePart_ ps ?_)
    show wpAny _ _ (if ((-1 : Int) == 0) = true then _ else _) _ _ s
    rw [if_neg (by decide)]
    refine wpAny_bind (HT.slicePart_ pl (wpAny_bind (HT.slicePart_ pu (wpAny_bind (wpAny_pure ?_)))))
    have e1 : Builtin.Slice.sliceAdjust none none (-1) (items.size : Int) = ((items.size : Int) - 1, -1) := rfl
    have e2 : Builtin.Slice.slicePlaces ((items.size : Int) - 1) (-1) (-1) = items.size := by
      unfold Builtin.Slice.slicePlaces
      have h1 : ¬ ((-1 : Int) > 0) := by decide
      simp only [h1, if_false]
      split
      · have e : (- -1 : Int) = 1 := by decide
        rw [e, Int.ediv_one]; omega
      · omega
    show wpAny _ _ (match Builtin.Slice.sliceAdjust none none (-1) (items.size : Int) with | (lo, hi) => pure (lo, (-1 : Int), Builtin.Slice.slicePlaces lo hi (-1))) _ _ s
    rw [e1]
    show wpAny _ _ (pure ((items.size : Int) - 1, (-1 : Int), Builtin.Slice.slicePlaces ((items.size : Int) - 1) (-1) (-1))) _ _ s
    rw [e2]
    exact wpAny_pure q
  refine wpAny_bind (ap ?_)
  have hno : ¬ ((((items.size : Int) - 1) == 0 && (-1 : Int) == 1 && items.size == items.size) = true) := by
    intro q
    rw [Bool.and_eq_true, Bool.and_eq_true] at q
    exact absurd q.1.2 (by decide)
  show wpAny _ _ (if (((items.size : Int) - 1) == 0 && (-1 : Int) == 1 && items.size == items.size) = true then _ else _) _ _ s
  rw [if_neg hno]
  have pick : ((List.range items.size).filterMap fun (k : Nat) => items[(((items.size : Int) - 1) + (k : Int) * (-1)).toNat]?).toArray = items.toList.reverse.toArray := by
    rw [← PySem.W.krv_pick]
    unfold PySem.slicePick
    rw [PySem.W.krv_bounds]
    show _ = ((PySem.sliceRange ((items.size : Int) - 1) (-1) (-1)).filterMap (items[·]?)).toArray
    rw [PySem.W.krv_sliceRange, List.filterMap_map]
    congr 1
    refine fm_congr fun k hk => ?_
    have := List.mem_range.mp hk
    show items[(((items.size : Int) - 1) + (k : Int) * (-1)).toNat]? = items[items.size - 1 - k]?
    have e : (((items.size : Int) - 1) + (k : Int) * (-1)).toNat = items.size - 1 - k := by omega
    rw [e]
  rw [pick]
  have htake : sizeOk (.seq items.toList.reverse.toArray) := by
    show items.toList.reverse.toArray.size ≤ sizeLine
    rw [List.size_toArray, List.length_reverse, Array.length_toList]
    exact hsz
  first
    | exact wpAny_bind (m := Builtin.Tuple.tupleExact _) (wpAny_newObj_type (wpAny_pure ⟨_, rfl, wpAny_pure h⟩) htake)
    | exact wpAny_bind (m := Builtin.Tuple.tupleExact _) (wpAny_newObj_type (wpAny_bind (wpAny_pure (wpAny_pure ⟨_, rfl, wpAny_pure h⟩))) htake)
    | exact wpAny_bind (wpAny_bind (m := Builtin.Tuple.tupleExact _) (wpAny_newObj_type (wpAny_pure (wpAny_pure ⟨_, rfl, wpAny_pure h⟩)) htake))
    | exact wpAny_bind (wpAny_bind (m := Builtin.Tuple.tupleExact _) (wpAny_newObj_type (wpAny_pure ⟨_, rfl, wpAny_pure h⟩) htake))
def tRevT (K : PySem.W.Frag) (te : TE) : TE := fun σ H Q => te σ H fun x H1 => ∃ a xs, x = .ref a ∧ SqT K H1 a xs ∧ NewT xs.reverse H1 Q
theorem pe_revT {X : Cx} {e : Expr} {te : TE} {k : Nat} {p1 p2 p3 pos : Pos} (he : PE X e te) : PE X (.Subscript e (.Slice none none (some (.UnaryOp .USub (.Constant (.int 1) k p1) p2)) p3) pos) (tRevT X.K te) := by
  refine ⟨fun pins s σ H Q I h => ?_⟩
  refine Subscript_ (thn (he.run pins s σ H _ I h) fun v s1 ⟨x, H1, I1, r1, q1⟩ => ?_)
  obtain ⟨a, xs, ex, hx, q⟩ := q1
  subst ex
  cases r1
  have hst : PO X (some (.UnaryOp .USub (.Constant (.int 1) k p1) p2)) (tPart (tUn (rU fun i => .int (-i)) (tC (.int 1)))) := po_some (pe_un un_neg pe_int)
  refine wpAny_Slice (thn (po_none.run pins s1 σ H1 (fun o H2 => o = none ∧ H2 = H1) I1 ⟨rfl, rfl⟩) fun vl s2 ⟨l, H2, I2, pl, el, e2⟩ => ?_)
  subst el e2
  refine thn (po_none.run pins s2 σ H2 (fun o H3 => o = none ∧ H3 = H2) I2 ⟨rfl, rfl⟩) fun vu s3 ⟨u, H3, I3, pu, eu, e3⟩ => ?_
  subst eu e3
  refine thn (hst.run pins s3 σ H3 (fun o H4 => o = some (-1) ∧ H4 = H3) I3 ⟨1, rfl, -1, rfl, rfl, rfl⟩) fun vs s4 ⟨o, H4, I4, ps, eo, e4⟩ => ?_
  subst eo e4
  have I5 : Inv X pins σ H4 { s4 with heap := s4.heap.push { cls := .type "slice", data := .fields #[vl, vu, vs] } } := I4.kept (t' := s4.toks) fun b ob q => Heap.get?_push_of_some _ q
  obtain ⟨its, r, ht, hz⟩ := I5.tuple hx
  have hlen := r.length
  show wpAny (model X.prog X.w) X.A (subscriptTail e (.Slice none none (some (.UnaryOp .USub (.Constant (.int 1) k p1) p2)) p3) (.ref a) (.ref s4.heap.objs.size)) (EP X pins σ Q) X.xe { s4 with heap := s4.heap.push { cls := .type "slice", data := .fields #[vl, vu, vs] } }
  refine tail_any (ops := [.ref a, .ref s4.heap.objs.size]) ht.typeIs (PyProof.Rows.slot_tuple_getitem.lookup) ?_ (by with_unfolding_all rfl)
  refine getItem_tuple_rev ht (Heap.IsSliceOf.new _ vl vu vs) pl pu ps ?_ (by rw [List.size_toArray]; omega)
  exact laid_tup (tk := s4.toks) I5 r.reverse (by rw [List.length_reverse]; exact hz) q
def wRevT (w : WE) : WE := fun env M Q EQ => w env M (fun x M1 => ∃ xs, asT x = some xs ∧ Q (.tup xs.reverse) M1) EQ
theorem je_revT {e : Expr} {k : Nat} {p1 p2 p3 pos : Pos} {w : WE} (h : JE B e w) : JE B (.Subscript e (.Slice none none (some (.UnaryOp .USub (.Constant (.int 1) k p1) p2)) p3) pos) (wRevT w) := fun W => by
  obtain ⟨t, h1, h2⟩ := h W
  refine ⟨tRevT B.T.K t, fun X c tk => by rw [← c.K]; exact pe_revT (h1 X c tk), fun σ H F Gh env M Q EQ R sr er hw rn rx => ?_⟩
  refine h2 σ H F Gh env M _ EQ _ sr er hw (fun v H1 F1 d M1 e1 sr1 dn q => ?_) rx
  obtain ⟨xs, hx, q⟩ := q
  obtain ⟨a, vs, rfl, hs, dl⟩ := asT_den dn hx
  exact ⟨a, vs, rfl, (Ex.of_sr sr1).t hs, fin_tup sr1 dl.reverse q (rn.mono e1)⟩
end
end G

/-! Eng31: dict(zip(t, u)) of tuples. -/
namespace G
open PySem PySem.Spec PyProof.Rows L2 RZ
section
variable {prog : Program} {w : World} {A : Around} {E : Value → Shared → Prop} {s : Shared} {z TI TO T i1 i2 : Addr} {fp1 fp2 : List Addr} {n1 n2 i : Nat} {P1 P2 : Nat → Value → Prop} {St1 St2 : Nat → Heap → Prop} {f : Bool} {oT : Obj}
/-- zip's next, the tuple it gave out before still in use -/
theorem zipH_item {Q : Option Value → Shared → Prop} (S : ZipSep2 z TI TO i1 i2 fp1 fp2) (D1 : Draws prog w A.in1 i1 fp1 n1 P1 St1) (D2 : Draws prog w A.in1 i2 fp2 n2 P2 St2)
    (hz : IsZipHeld s.heap z TI TO T f) (hT : s.heap.get? T = some oT) (hTI : IsPair s.heap TI (.ref i1) (.ref i2)) (st1 : St1 i s.heap) (st2 : St2 i s.heap) (l1 : i < n1) (l2 : i < n2)
    (hQ : ∀ x y h' tk, P1 i x → P2 i y → IsZipHeld h' z TI TO T true → St1 (i + 1) h' → St2 (i + 1) h' → IsPair h' s.heap.objs.size x y →
      (∀ c o, c ≠ z → c ≠ i1 → c ≠ i2 → s.heap.get? c = some o → h'.get? c = some o) → Q (some (.ref s.heap.objs.size)) { s with heap := h', toks := tk }) :
    wpAny (model prog w) A (pyNext (.ref z)) Q E s := by
  have hTy : s.TypeIs (.ref z) "zip" := ⟨_, hz, rfl⟩
  unfold pyNext
  refine wpAny_bind (wpAny_attempt (wpAny_callSpecial?_slot (name := Str.ofString "__next__") hTy F.slot_zip_next (wpAny_call_entry F.slot_zip_next hTy F.entry_zip_next ?_ (F.args_zip_next_1 _))))
  show wpAny _ _ (field (.ref z) 2 >>= _) _ _ _
  refine wpAny_bind (wpAny_field hz rfl (x := .bool false) rfl ?_)
  show wpAny _ _ (field (.ref z) 3 >>= _) _ _ _
  refine wpAny_bind (wpAny_field hz rfl (x := .ref TI) rfl ?_)
  refine wpAny_bind (wpAny_seqItems hTI rfl ?_)
  show wpAny _ _ (Builtin.SmallTypes.ownedTupleIsFree (.ref z) >>= _) _ _ _
  refine wpAny_bind (wpAny_tupleHeld_zip hz hT fun ha za sa => ?_)
  simp only [Bool.false_eq_true, if_false]
  refine wpAny_bind ?_
  rw [← Array.forIn_toList]
  simp only [List.forIn_cons, List.forIn_nil]
  refine wpAny_bind (wpAny_bind (wpAny_holding ?_))
  show wpAny _ _ (Builtin.SmallTypes.nextOf (.ref i1) >>= _) _ _ _
  refine wpAny_bind (D1.item i { s with heap := ha } _ _ l1 (D1.over st1 sa S.zf1) fun x hb tb px nb sb => wpAny_pure ?_)
  refine wpAny_pure ?_
  refine wpAny_bind (wpAny_bind (wpAny_holding ?_))
  show wpAny _ _ (Builtin.SmallTypes.nextOf (.ref i2) >>= _) _ _ _
  refine wpAny_bind (D2.item i { s with heap := hb, toks := tb } _ _ l2 (D2.over (D2.over st2 sa S.zf2) sb S.sep1_2) fun y hc tc py nc sc => wpAny_pure ?_)
  refine wpAny_pure (wpAny_pure ?_)
  show wpAny _ _ (newTuple [x, y] >>= _) _ _ _
  refine wpAny_bind (wpAny_newTuple ?_)
  have e : hc.objs.size = s.heap.objs.size := by rw [sc.1, sb.1, sa.1]
  have zc : IsZipHeld hc z TI TO T true := sc.extBut _ _ S.zi2 (sb.extBut _ _ S.zi1 za)
  have keep : ∀ c o, c ≠ z → c ≠ i1 → c ≠ i2 → s.heap.get? c = some o → (hc.push { cls := .type "tuple", data := .seq #[x, y] }).get? c = some o := fun c o c1 c2 c3 e =>
    Heap.get?_push_of_some _ (sc.extBut _ _ c3 (sb.extBut _ _ c2 (sa.extBut _ _ c1 e)))
  have push : ∀ b o, hc.get? b = some o → (hc.push { cls := .type "tuple", data := .seq #[x, y] }).get? b = some o := fun b o e => Heap.get?_push_of_some _ e
  have hp : IsPair (hc.push { cls := .type "tuple", data := .seq #[x, y] }) hc.objs.size x y := Heap.get?_push_size _ rfl
  refine wpAny_pure ⟨_, rfl, wpAny_pure ?_⟩
  show Q (some (.ref hc.objs.size)) _
  rw [e] at hp ⊢
  exact hQ x y _ tc px py (Heap.get?_push_of_some _ zc) (D1.frame _ _ _ (D1.over nb sc S.sep2_1) fun b _ o e => push b o e) (D2.frame _ _ _ nc fun b _ o e => push b o e) hp keep
theorem zipH_end {Q : Option Value → Shared → Prop} (S : ZipSep2 z TI TO i1 i2 fp1 fp2) (D1 : Draws prog w A.in1 i1 fp1 n1 P1 St1) (D2 : Draws prog w A.in1 i2 fp2 n2 P2 St2)
    (hz : IsZipHeld s.heap z TI TO T f) (hT : s.heap.get? T = some oT) (hTI : IsPair s.heap TI (.ref i1) (.ref i2)) (st1 : St1 i s.heap) (st2 : St2 i s.heap) (l1 : i ≤ n1) (l2 : i ≤ n2) (hend : i = n1 ∨ i = n2)
    (hQ : ∀ h' tk, (∀ c o, c ≠ z → c ≠ i1 → c ≠ i2 → s.heap.get? c = some o → h'.get? c = some o) → Q none { s with heap := h', toks := tk }) :
    wpAny (model prog w) A (pyNext (.ref z)) Q E s := by
  have hTy : s.TypeIs (.ref z) "zip" := ⟨_, hz, rfl⟩
  unfold pyNext
  refine wpAny_bind (wpAny_attempt (wpAny_callSpecial?_slot (name := Str.ofString "__next__") hTy F.slot_zip_next (wpAny_call_entry F.slot_zip_next hTy F.entry_zip_next ?_ (F.args_zip_next_1 _))))
  have fin : ∀ h' e tk, (∀ c o, c ≠ z → c ≠ i1 → c ≠ i2 → s.heap.get? c = some o → h'.get? c = some o) → (∃ o, h'.get? e = some o ∧ o.cls = .type "StopIteration") →
      wpAny (model prog w) A (isInstance (.ref e) (.type "StopIteration")) (fun b s' => b = true ∧ Q none s') E { s with heap := h', toks := tk } := fun h' e tk hk ⟨o, ho, hc⟩ =>
    wpAny_isInstance (T := "StopIteration") (b := true) ⟨o, ho, hc⟩ isSubtype_stop ⟨rfl, hQ _ _ hk⟩
  show wpAny _ _ (field (.ref z) 2 >>= _) _ _ _
  refine wpAny_bind (wpAny_field hz rfl (x := .bool false) rfl ?_)
  show wpAny _ _ (field (.ref z) 3 >>= _) _ _ _
  refine wpAny_bind (wpAny_field hz rfl (x := .ref TI) rfl ?_)
  refine wpAny_bind (wpAny_seqItems hTI rfl ?_)
  show wpAny _ _ (Builtin.SmallTypes.ownedTupleIsFree (.ref z) >>= _) _ _ _
  refine wpAny_bind (wpAny_tupleHeld_zip hz hT fun ha za sa => ?_)
  simp only [Bool.false_eq_true, if_false]
  refine wpAny_bind ?_
  rw [← Array.forIn_toList]
  simp only [List.forIn_cons, List.forIn_nil]
  refine wpAny_bind (wpAny_bind (wpAny_holding ?_))
  show wpAny _ _ (Builtin.SmallTypes.nextOf (.ref i1) >>= _) _ _ _
  by_cases h : i < n1
  · have e2 : i = n2 := by omega
    refine wpAny_bind (D1.item i { s with heap := ha } _ _ h (D1.over st1 sa S.zf1) fun x hb tb px nb sb => wpAny_pure ?_)
    refine wpAny_pure ?_
    refine wpAny_bind (wpAny_bind (wpAny_holding ?_))
    show wpAny _ _ (Builtin.SmallTypes.nextOf (.ref i2) >>= _) _ _ _
    refine wpAny_bind (D2.done { s with heap := hb, toks := tb } _ _ (by rw [← e2]; exact D2.over (D2.over st2 sa S.zf2) sb S.sep1_2) fun hc e sc he => ?_)
    exact wpAny_bind (wpAny_mono (fin hc e tb (fun c o c1 c2 c3 x => sc _ _ c3 (sb.extBut _ _ c2 (sa.extBut _ _ c1 x))) he) (fun b s' ⟨q1, q2⟩ => by subst q1; exact wpAny_pure q2) fun _ _ x => x)
  · have e1 : i = n1 := by omega
    refine wpAny_bind (D1.done { s with heap := ha } _ _ (by rw [← e1]; exact D1.over st1 sa S.zf1) fun hb e sb he => ?_)
    exact wpAny_bind (wpAny_mono (fin hb e s.toks (fun c o c1 c2 _ x => sb _ _ c2 (sa.extBut _ _ c1 x)) he) (fun b s' ⟨q1, q2⟩ => by subst q1; exact wpAny_pure q2) fun _ _ x => x)
end
theorem sep_of {z TI TO i1 i2 l1 l2 : Addr} (D : ZipApart z TI TO i1 i2 l1 l2) : ZipSep2 z TI TO i1 i2 [i1, l1] [i2, l2] where
  TIz := D.TIz
  TOz := D.TOz
  TITO := D.TITO
  TIi1 := D.TIi1
  mem1 := by simp
  zf1 := by simp [D.i1z.symm, D.l1z.symm]
  Tf1 := by simp [D.TOi1, D.l1TO.symm]
  TIi2 := D.TIi2
  mem2 := by simp
  zf2 := by simp [D.i2z.symm, D.l2z.symm]
  Tf2 := by simp [D.TOi2, D.l2TO.symm]
  sep1_2 := by simp [D.i12, D.l2i1.symm]
  sep2_1 := by simp [D.i12.symm, D.l1i2.symm]
/-- zip(t, u) as the argument of dict -/
theorem pairArg_zipT {prog : Program} {w : World} {z TI TO i1 i2 l1 l2 : Addr} (D : ZipApart z TI TO i1 i2 l1 l2) (xs ys : Array Value) :
    PairArg prog w "zip" z [z, TI, TO, i1, i2, l1, l2] [z, TO, i1, i2] (min xs.size ys.size) (fun i k v => xs[i]? = some k ∧ ys[i]? = some v)
      (fun h => IsZip h z TI TO .none ∧ IsPair h TI (.ref i1) (.ref i2) ∧ (∃ a b, IsPair h TO a b) ∧ h.IsTupleIter i1 l1 0 ∧ h.IsTupleIter i2 l2 0 ∧ h.IsTuple l1 xs ∧ h.IsTuple l2 ys) where
  type := fun s ok => ⟨_, ok.1, rfl⟩
  notDict := by decide
  keep := fun h h' ⟨k1, k2, ⟨a, b, k3⟩, k4, k5, k6, k7⟩ hk => ⟨hk _ _ k1, hk _ _ k2, ⟨a, b, hk _ _ k3⟩, isTupIter_at k4 fun o e => hk _ o e, isTupIter_at k5 fun o e => hk _ o e, k6.at fun o e => hk _ o e, k7.at fun o e => hk _ o e⟩
  there := fun h ⟨k1, k2, ⟨a, c, k3⟩, ⟨o4, k4, _⟩, ⟨o5, k5, _⟩, ⟨o6, k6, _⟩, ⟨o7, k7, _⟩⟩ b hb => by
    have e : b = z ∨ b = TI ∨ b = TO ∨ b = i1 ∨ b = i2 ∨ b = l1 ∨ b = l2 := by simpa using hb
    rcases e with rfl | rfl | rfl | rfl | rfl | rfl | rfl
    · exact ⟨_, k1⟩
    · exact ⟨_, k2⟩
    · exact ⟨_, k3⟩
    · exact ⟨_, k4⟩
    · exact ⟨_, k5⟩
    · exact ⟨_, k6⟩
    · exact ⟨_, k7⟩
  sub := fun b hb => by
    have e : b = z ∨ b = TO ∨ b = i1 ∨ b = i2 := by simpa using hb
    rcases e with rfl | rfl | rfl | rfl <;> simp
  noKeys := fun A s Q E hA ok h => getAttrOr_miss_zip ok.1 rfl rfl rfl zip_no_keys (by decide +kernel) hA h
  iter := fun A s d Q E hA ⟨k1, k2, ⟨a, b, k3⟩, k4, k5, k6, k7⟩ hd hdf h => by
    have dne : d ≠ z ∧ d ≠ TI ∧ d ≠ TO ∧ d ≠ i1 ∧ d ≠ i2 ∧ d ≠ l1 ∧ d ≠ l2 := by simpa using hdf
    obtain ⟨dz, dTI, dTO, d1, d2, d3, d4⟩ := dne
    have D1 := Draws.tuple (prog := prog) (w := w) (A := A.in1) hA i1 l1 D.l1i1 xs
    have D2 := Draws.tuple (prog := prog) (w := w) (A := A.in1) hA i2 l2 D.l2i2 ys
    refine wpAny_pyIter_zip k1 (h z [z, TO, i1, i2] (fun i h => IsPair h TI (.ref i1) (.ref i2) ∧ (h.IsTupleIter i1 l1 i ∧ h.IsTuple l1 xs) ∧ (h.IsTupleIter i2 l2 i ∧ h.IsTuple l2 ys) ∧
      ((IsZip h z TI TO .none ∧ ∃ a b, IsPair h TO a b) ∨ ∃ T f oT, IsZipHeld h z TI TO T f ∧ h.get? T = some oT ∧ T ≠ z ∧ T ≠ i1 ∧ T ≠ i2 ∧ T ≠ d)) s.heap s.toks
      ⟨?_, ?_, ?_, ?_⟩ ⟨k2, ⟨k4, k6⟩, ⟨k5, k7⟩, .inl ⟨k1, a, b, k3⟩⟩ (fun _ _ e => e) fun b hb => .inl hb)
    · simp [dz, dTO, d1, d2]
    · rintro i h₁ h₂ ⟨q2, ⟨q4, q6⟩, ⟨q5, q7⟩, hz⟩ hk
      refine ⟨hk _ _ dTI.symm q2, ⟨isTupIter_at q4 fun o e => hk _ o d1.symm e, q6.at fun o e => hk _ o d3.symm e⟩, ⟨isTupIter_at q5 fun o e => hk _ o d2.symm e, q7.at fun o e => hk _ o d4.symm e⟩, ?_⟩
      rcases hz with ⟨hz, a, b, hTO⟩ | ⟨T, f, oT, hz, hT, r1, r2, r3, r4⟩
      · exact .inl ⟨hk _ _ dz.symm hz, a, b, hk _ _ dTO.symm hTO⟩
      · exact .inr ⟨T, f, oT, hk _ _ dz.symm hz, hk _ _ r4 hT, r1, r2, r3, r4⟩
    · rintro i s₁ Q₁ E₁ hi ⟨q2, ⟨q4, q6⟩, ⟨q5, q7⟩, hz⟩ hds hQ
      have lx : i < xs.size := by omega
      have ly : i < ys.size := by omega
      have lt : ∀ {c o}, s₁.heap.get? c = some o → s₁.heap.objs.size ≠ c := fun e => Nat.ne_of_gt (Heap.lt_size e)
      have n1 : s₁.heap.objs.size ≠ i1 := let ⟨_, e, _⟩ := q4; lt e
      have n2 : s₁.heap.objs.size ≠ i2 := let ⟨_, e, _⟩ := q5; lt e
      rcases hz with ⟨hz, a, b, hTO⟩ | ⟨T, f, oT, hz, hT, r1, r2, r3, r4⟩
      · refine pyNext_zipT_item D hz q2 hTO q4 q5 q6 q7 (Array.getElem?_eq_getElem lx) (Array.getElem?_eq_getElem ly) fun h' a1 a2 a3 a4 a5 a6 hk => ?_
        exact hQ s₁.heap.objs.size _ _ h' s₁.toks ⟨Array.getElem?_eq_getElem lx, Array.getElem?_eq_getElem ly⟩ (.inl ⟨_, a5, rfl, _, rfl⟩)
          ⟨hk _ _ D.TIz D.TITO D.TIi1 D.TIi2 q2, ⟨a3, q6.at fun o e => hk _ o D.l1z D.l1TO D.l1i1 D.l1i2 e⟩, ⟨a4, q7.at fun o e => hk _ o D.l2z D.l2TO D.l2i1 D.l2i2 e⟩, .inr ⟨s₁.heap.objs.size, false, _, a1, a5, lt hz, n1, n2, Nat.ne_of_gt hds⟩⟩
          fun c o hc e => hk c o (fun x => hc (by simp [x])) (fun x => hc (by simp [x])) (fun x => hc (by simp [x])) (fun x => hc (by simp [x])) e
      · refine zipH_item (sep_of D) D1 D2 hz hT q2 ⟨q4, q6⟩ ⟨q5, q7⟩ lx ly fun x y h' tk px py a1 a2 a3 a4 hk => ?_
        exact hQ s₁.heap.objs.size x y h' tk ⟨px, py⟩ (.inl ⟨_, a4, rfl, _, rfl⟩) ⟨hk _ _ D.TIz D.TIi1 D.TIi2 q2, a2, a3, .inr ⟨T, true, oT, a1, hk _ _ r1 r2 r3 hT, r1, r2, r3, r4⟩⟩
          fun c o hc e => hk c o (fun x => hc (by simp [x])) (fun x => hc (by simp [x])) (fun x => hc (by simp [x])) e
    · rintro s₁ Q₁ E₁ ⟨q2, ⟨q4, q6⟩, ⟨q5, q7⟩, hz⟩ hQ
      rcases hz with ⟨hz, a, b, hTO⟩ | ⟨T, f, oT, hz, hT, r1, r2, r3, r4⟩
      · have hend : xs[min xs.size ys.size]? = none ∨ ys[min xs.size ys.size]? = none := by
          rcases Nat.le_total xs.size ys.size with h | h
          · exact .inl (Array.getElem?_eq_none (by omega))
          · exact .inr (Array.getElem?_eq_none (by omega))
        exact pyNext_zipT_end hA D hz q2 hTO q4 q5 q6 q7 hend fun h' hk => hQ h' s₁.toks fun c o hc e => hk c o (fun x => hc (by simp [x])) (fun x => hc (by simp [x])) (fun x => hc (by simp [x])) (fun x => hc (by simp [x])) e
      · exact zipH_end (sep_of D) D1 D2 hz hT q2 ⟨q4, q6⟩ ⟨q5, q7⟩ (Nat.min_le_left ..) (Nat.min_le_right ..) (by omega) fun h' tk hk => hQ h' tk fun c o hc e => hk c o (fun x => hc (by simp [x])) (fun x => hc (by simp [x])) (fun x => hc (by simp [x])) e
def tDictZip (K : PySem.W.Frag) (ta : TA) : TE := fun σ H Q => ta σ H fun vs H1 => ∃ (a b : Addr) (ks : List Key) (ys : List V), vs = [.ref a, .ref b] ∧ SqT K H1 a (ks.map kV) ∧ SqT K H1 b ys ∧ ∀ p, H1 p = none → Q (.ref p) (upd H1 p (.dK (mergeK [] (ks.zip ys))))
theorem kV_zip {P : Program} {w : World} : ∀ {ks : List Key} {us : List Value} {ys : List V} {vs : List Value}, Vals (ks.map kV) us → Vals ys vs → ∃ prs : List (Key × Value), KV (ks.zip ys) prs ∧ prs.length = min us.length vs.length ∧ ∀ (i : Nat) (u v : Value), us[i]? = some u → vs[i]? = some v → ∃ k, prs[i]? = some (k, v) ∧ keyIs k u = true
  | [], _, _, _, .nil, _ => ⟨[], by rw [List.zip_nil_left]; exact .nil, by simp, fun i u v e => by simp at e⟩
  | _ :: _, _, [], _, _, .nil => ⟨[], by rw [List.zip_nil_right]; exact .nil, by simp, fun i u v _ e => by simp at e⟩
  | k :: ks, _, y :: ys, _, .cons (b := u) h t, .cons (b := v) h' t' => by
    obtain ⟨prs, r, hl, hp⟩ := kV_zip (P := P) (w := w) t t'
    refine ⟨(k, v) :: prs, .cons ⟨rfl, h'⟩ r, by simp [hl], fun i u' v' e1 e2 => ?_⟩
    cases i with
    | zero =>
      simp at e1 e2
      subst e1 e2
      exact ⟨k, rfl, kV_is (P := P) (w := w) h⟩
    | succ i =>
      obtain ⟨k', q1, q2⟩ := hp i u' v' (by simpa using e1) (by simpa using e2)
      exact ⟨k', by simpa using q1, q2⟩
theorem pe_dictZip {X : Cx} {e e2 : Expr} {ta : TA} {p p2 cpos pos : Pos} (hc : X.calm = true) (hg : Gl X "dict") (hm : X.mg "dict" = none) (hg2 : Gl X "zip") (hm2 : X.mg "zip" = none) (hv : bootBuiltins "dict" = some (.type "dict")) (ha : PA X [e, e2] ta)
    (hs : starEach [e, e2] X.env = (false, eval e X.env) :: starEach [e2] X.env) (hpl : (backTo cpos (starEach [e2] X.env)).any (·.1) = false) :
    PE X (.Call (.Name "dict" p) [.Call (.Name "zip" p2) [e, e2] [] cpos] [] pos) (tDictZip X.K ta) := by
  have hs1 : starEach [.Call (.Name "zip" p2) [e, e2] [] cpos] X.env = (false, eval (.Call (.Name "zip" p2) [e, e2] [] cpos) X.env) :: starEach [] X.env := rfl
  refine ⟨fun pins s σ H Q I hq => ?_⟩
  refine wpAny_Call_Name_kw (ld_blt I hg hm hv ?_)
  refine PyProof.Rows.callWith_type1 ?_ hs1 rfl
  rw [hs1]
  show wpAny _ _ (spliced ((false, eval (.Call (.Name "zip" p2) [e, e2] [] cpos) X.env) :: backTo pos (starEach [] X.env))) _ _ s
  refine Calls.spliced_cons ?_
  refine Call_ (ld_blt I hg2 hm2 PyProof.Rows.boot_zip (PyProof.Rows.callWith_type1 (thn (ha.run cpos pins s σ H _ I hq) fun us s1 ⟨vs, H1, I1, r1, q1⟩ => ?_) hs hpl))
  obtain ⟨a, b, ks, ys, ex, hqx, hqy, q⟩ := q1
  subst ex
  cases r1 with
  | cons r rr =>
    cases rr with
    | cons r' rr =>
      cases rr
      cases r
      cases r'
      obtain ⟨its, rv, p1, z1⟩ := I1.tuple hqx
      obtain ⟨its2, rv2, p2, z2⟩ := I1.tuple hqy
      obtain ⟨o1, ho1, _⟩ := id p1
      obtain ⟨o2, ho2, _⟩ := id p2
      refine call_zipT (show s1.heap.IsTuple a its.toArray from p1) (show s1.heap.IsTuple b its2.toArray from p2) fun h' hz hTI hTO h1 h2 hsz hk => ?_
      refine Calls.spliced_nil ?_
      obtain ⟨prs, rel, hl, hp⟩ := kV_zip (P := X.prog) (w := X.w) rv rv2
      have D := PySem.W.ktu_apart s1.heap.objs.size a b (Heap.lt_size ho1) (Heap.lt_size ho2)
      have hn : min its.toArray.size its2.toArray.size = prs.length := by rw [hl, List.size_toArray, List.size_toArray]
      have hzz : prs.length ≤ sizeLine := by
        have := rv.length
        rw [hl]; omega
      refine PySem.call_dict_pairs (s := { s1 with heap := h' }) (knd := mixKind X.prog X.w) (kvs := prs) (pairArg_zipT D its.toArray its2.toArray) (I.ok.hd hc) ⟨hz, hTI, ⟨_, _, hTO⟩, h1, h2, (show s1.heap.IsTuple a its.toArray from p1).at fun o e => hk _ o e, (show s1.heap.IsTuple b its2.toArray from p2).at fun o e => hk _ o e⟩ ⟨hn.symm, fun i key v e => ?_⟩ (by rw [hn]; exact hzz) fun h'' tk hd' k => ?_
      · obtain ⟨e1, e2⟩ := e
        exact hp i key v (by simpa using e1) (by simpa using e2)
      · have le : s1.heap.objs.size ≤ h'.objs.size := by rw [hsz]; exact Nat.le_add_right _ _
        have hm : (h'.objs.size == sysModules) = false := beq_eq_false_iff_ne.mpr (Nat.ne_of_gt (Nat.lt_of_lt_of_le I1.big le))
        have hlen : (mergeK [] (ks.zip ys)).length ≤ sizeLine := by
          refine Nat.le_trans (length_mergeK (ks.zip ys) []) ?_
          rw [List.length_nil, Nat.zero_add, rel.length]
          exact hzz
        refine ⟨.ref h'.objs.size, upd H1 h'.objs.size (.dK (mergeK [] (ks.zip ys))), I1.laid (t' := tk) (fun b o e => k b o (fun hb => ?_) (hk b o e)) le (show ObjOk X.prog X.w _ _ _ (.dK (mergeK [] (ks.zip ys))) from ⟨hlen, hm, merged [] prs, KV.merge rel .nil, hd'⟩), rfl, q _ (I1.hok.fresh le)⟩
        have lt := Heap.lt_size e
        have e' : b = s1.heap.objs.size + 4 ∨ b = s1.heap.objs.size + 3 ∨ b = s1.heap.objs.size ∨ b = s1.heap.objs.size + 1 := by simpa using hb
        rcases e' with z | z | z | z
        · rw [z] at lt; exact absurd lt (Nat.not_lt.mpr (Nat.le_add_right _ _))
        · rw [z] at lt; exact absurd lt (Nat.not_lt.mpr (Nat.le_add_right _ _))
        · rw [z] at lt; exact absurd lt (Nat.lt_irrefl _)
        · rw [z] at lt; exact absurd lt (Nat.not_lt.mpr (Nat.le_add_right _ _))
/-- dict(zip(t, u)): the keys ks -/
def keysOfD : List D → Option (List Key)
  | [] => some []
  | x :: r => (keyD x).bind fun k => (keysOfD r).map (k :: ·)
theorem keys_of_den {T : Wd} {F : Hp} : ∀ {vs : List V} {xs : List D} {ks : List Key}, DenL T F vs xs → keysOfD xs = some ks → vs = ks.map kV
  | _, _, _, .nil, e => by cases e; rfl
  | _, _, _, .cons (d := d) (ds := ds) h l, e => by
    unfold keysOfD at e
    cases e1 : keyD d with
    | none => rw [e1] at e; cases e
    | some k =>
      cases e2 : keysOfD ds with
      | none => rw [e1, e2] at e; cases e
      | some r =>
        rw [e1, e2] at e
        cases e
        rw [keys_of_den l e2, keyD_den h e1]
        rfl
theorem zipK_den {T : Wd} {F : Hp} : ∀ (ks : List Key) {vs : List V} {ys : List D}, DenL T F vs ys → DenK T F (ks.zip vs) (ks.zip ys)
  | [], _, _, _ => by rw [List.zip_nil_left, List.zip_nil_left]; exact .nil
  | _ :: _, _, _, .nil => by rw [List.zip_nil_right, List.zip_nil_right]; exact .nil
  | k :: ks, _, _, .cons h l => .cons h (zipK_den ks l)
def wDictZip (wa : WA) : WE := fun env M Q EQ => wa env M (fun ds M1 => ∃ x y xs ys ks, ds = [x, y] ∧ asT x = some xs ∧ asT y = some ys ∧ keysOfD xs = some ks ∧ ∀ a, M1 a = none → Q (.ref a) (M1.set a (.dic (mergeD [] (ks.zip ys))))) EQ
theorem ev_dictZip {T : Wd} {W : WX} {ta : TA} {wa : WA} (h : EvA T W ta wa) : Ev T W (tDictZip T.K ta) (wDictZip wa) := by
  intro σ H F Gh env M Q EQ R sr er hw rn rx
  refine h σ H F Gh env M _ EQ _ sr er hw (fun vs H1 F1 ds M1 e1 sr1 dn q => ?_) rx
  obtain ⟨x, y, xs, ys, ks, rfl, h1, h2, h3, q⟩ := q
  cases dn with
  | cons d t =>
    cases t with
    | cons d2 t =>
      cases t
      obtain ⟨a, us, rfl, s1, l1⟩ := asT_den d h1
      obtain ⟨b, ws, rfl, s2, l2⟩ := asT_den d2 h2
      have e := keys_of_den l1 h3
      subst e
      refine ⟨a, b, ks, ws, rfl, (Ex.of_sr sr1).t s1, (Ex.of_sr sr1).t s2, fun p hp => ?_⟩
      exact rn (.ref p) _ F1 (.ref p) _ e1 (sr1.newM (m := .dic (mergeD [] (ks.zip ys))) hp ⟨_, upd_same, DenK.merge (zipK_den ks l2) .nil⟩) (.ref p) (q p (sr1.freeM hp))
section
variable {B : Bd}
theorem je_dictZip {e e2 : Expr} {p p2 cpos pos : Pos} {w : WA} (hx : glB B.sc "dict" = true ∧ B.T.mg "dict" = none) (hy : glB B.sc "zip" = true ∧ B.T.mg "zip" = none) (ha : JA B [e, e2] w) (hs : noStar [e, e2] = true) (hcm : B.cm = true := by rfl) :
    JE B (.Call (.Name "dict" p) [.Call (.Name "zip" p2) [e, e2] [] cpos] [] pos) (wDictZip w) := fun W => by
  obtain ⟨t, h1, _, h2⟩ := ha W
  refine ⟨tDictZip B.T.K t, fun X c tk => ?_, ev_dictZip h2⟩
  rw [← c.K]
  exact pe_dictZip (c.calm hcm) (gl_of c hx.1).1 (by rw [c.mg]; exact hx.2) (gl_of c hy.1).1 (by rw [c.mg]; exact hy.2) (by first | rfl | kernel_rfl) (h1 X c tk) (starEach_cons hs) (noStar_any (noStar_tail hs))
end
end G

/-! Eng32: new lists that may change: list(x), a + b. -/
namespace G
open PySem PySem.Spec PyProof.Rows L2 RZ
section
variable {T : Wd}
theorem fin_lstM {F Gh H : Hp} {M : MS} {vs : List V} {xs : List D} {Q : QD} {R : VK} (sr : SR T F M Gh H) (l : DenL T F vs xs) (q : ∀ a, M a = none → Q (.ref a) (M.set a (.lst xs))) (rn : RN T F Gh Q R) : ∀ p, H p = none → R (.ref p) (upd H p (.lst vs)) := fun p hp =>
  rn (.ref p) _ F (.ref p) _ (Ex.refl F) (sr.newM (m := .lst xs) hp ⟨vs, upd_same, l⟩) (.ref p) (q p (sr.freeM hp))
def listMO (ds : List D) (M : MS) (Q : QD) : Prop := ∃ x xs, ds = [x] ∧ listI M x = some xs ∧ ∀ a, M a = none → Q (.ref a) (M.set a (.lst xs))
theorem opN_listM : OpN T (rListC T.K) listMO := by
  intro F Gh M H vs ds Q R sr hd q rn
  obtain ⟨x, xs, rfl, e, q⟩ := q
  obtain ⟨v, rfl, hx⟩ := hd.one'
  obtain ⟨a, ws, rfl, h, l⟩ := asT_or_den sr hx e
  exact ⟨a, ws, rfl, h, fin_lstM sr l q rn⟩
def addMO (x y : D) (M : MS) (Q : QD) : Prop := ∃ xs ys, asL M x = some xs ∧ asL M y = some ys ∧ xs.length + ys.length ≤ sizeLine ∧ ∀ a, M a = none → Q (.ref a) (M.set a (.lst (xs ++ ys)))
theorem op2_addM : Op2 T (rAddAny T.K) addMO := by
  intro F Gh M H x y dx dy Q R sr hx hy q rn
  obtain ⟨xs, ys, ex, ey, hl, q⟩ := q
  obtain ⟨a, vs, rfl, h1, l1⟩ := asL_den sr hx ex
  obtain ⟨b, ws, rfl, h2, l2⟩ := asL_den sr hy ey
  exact .inr (.inr (.inr ⟨a, b, vs, ws, rfl, rfl, h1, h2, by rw [l1.length, l2.length]; exact hl, fin_lstM sr (l1.append l2) q rn⟩))
end
section
variable {B : Bd}
theorem je_listM {e : Expr} {es : List Expr} {p pos : Pos} {w : WA} (hx : glB B.sc "list" = true ∧ B.T.mg "list" = none) (ha : JA B (e :: es) w) (hs : noStar (e :: es) = true) : JE B (.Call (.Name "list" p) (e :: es) [] pos) (wCall listMO w) :=
  je_bt ⟨hx.1, hx.2, by first | rfl | kernel_rfl, by decide⟩ (r := rListC B.T.K) (fun X c => by rw [← c.K]; exact call_list_of) opN_listM ha hs
theorem jop_addM : JOp B (binaryOp .Add) addMO := ⟨rAddAny B.T.K, fun X c => by rw [← c.K]; exact opR_add, op2_addM⟩
/-- e.f = a comprehension -/
theorem js_fldC {o e : Expr} {f : Str} {p pos : Pos} {wo w : WE} (ok : WdOk B.T) (ho : JE B o wo) (h : JE B e w) (hc : noSw B.sc (.Attribute o f p) e = true) : JS B (.Assign [.Attribute o f p] e pos) (wSetFld B.T f wo w) := fun W => by
  obtain ⟨t, h1, h2⟩ := h W
  obtain ⟨to, o1, o2⟩ := ho W
  refine ⟨sFld B.T.K to t f, fun X c tk => ?_, es_fld ok o2 h2⟩
  have z := ps_fld (f := f) (pos' := p) (pos := pos) (o1 X c.1 tk) (h1 X c.1 tk) (noSw_ok c.1 hc)
  rw [c.1.K] at z
  exact z
end
end G

/-! K49: the walk, printed by gen.py -/
namespace K49
open PySem PySem.Spec PyProof.Rows L2 G
def top (i : Nat) : Stmt := PySem.Challenge.pw_sheetback_k49_what_meanwhile_allows.main.body.getD i (.Pass ⟨0, 0, 0, 0⟩)
def clsBody : Stmt → List Stmt
  | .ClassDef (body := b) .. => b
  | _ => []
def mth (c : Stmt) (i : Nat) : Stmt := (clsBody c).getD i (.Pass ⟨0, 0, 0, 0⟩)
/-- what the walk asks of the world -/
structure Env (T : Wd) : Prop where
  ok : WdOk T
  b_abs : T.mg "abs" = none
  b_all : T.mg "all" = none
  b_any : T.mg "any" = none
  b_bool : T.mg "bool" = none
  b_dict : T.mg "dict" = none
  b_int : T.mg "int" = none
  b_isinstance : T.mg "isinstance" = none
  b_len : T.mg "len" = none
  b_list : T.mg "list" = none
  b_max : T.mg "max" = none
  b_min : T.mg "min" = none
  b_range : T.mg "range" = none
  b_set : T.mg "set" = none
  b_sorted : T.mg "sorted" = none
  b_str : T.mg "str" = none
  b_tuple : T.mg "tuple" = none
  b_zip : T.mg "zip" = none
  g_KEY : ∃ u, T.mg "KEY" = some u ∧ RelV (.str "key") u
  g_LETTERS : ∃ u, T.mg "LETTERS" = some u ∧ RelV (.str "abcdefghijklmnopqrstuvwxyz") u
  g_MOST : ∃ u, T.mg "MOST" = some u ∧ RelV (.int 1000000000000000000000000000000) u
  c_Meanwhile : T.mg "Meanwhile" = some (.ref (T.adr "Meanwhile"))
  c_Store : T.mg "Store" = some (.ref (T.adr "Store"))
section
def N_is_whole : List Str := ["thing"]
abbrev s_is_whole : Stmt := top 13
theorem sc_is_whole : FnScope N_is_whole ["thing"] (defScope s_is_whole) := ⟨rfl, rfl, rfl, by decide +kernel, rfl, by decide +kernel, by decide +kernel⟩
def w_is_whole (T : Wd) : WS := (wRet (wAndV (wCall (isiO T) (wCons (wVar 0) (wCons (wC (.ty "int")) wNil))) (wNotV (wCall (isiO T) (wCons (wVar 0) (wCons (wC (.ty "bool")) wNil))))))
theorem j_is_whole {T : Wd} {lv : Nat} (E : Env T) : JSs (defB T lv N_is_whole (defScope s_is_whole)) (defBody s_is_whole) (w_is_whole T) := by
  exact js_one (js_ret (je_and (je_isinstance E.ok ⟨(by kernel_rfl), E.b_isinstance⟩ (ja_cons (je_var (i := 0) (by kernel_rfl)) (ja_cons (je_gty (by kernel_rfl) E.b_int ⟨by decide +kernel, by decide⟩) ja_nil rfl) rfl) rfl) (je_one (je_not (je_isinstance E.ok ⟨(by kernel_rfl), E.b_isinstance⟩ (ja_cons (je_var (i := 0) (by kernel_rfl)) (ja_cons (je_gty (by kernel_rfl) E.b_bool ⟨by decide +kernel, by decide⟩) ja_nil rfl) rfl) rfl)))))
def N_is_name : List Str := ["thing", "sign"]
abbrev s_is_name : Stmt := top 14
theorem sc_is_name : FnScope N_is_name ["thing"] (defScope s_is_name) := ⟨rfl, rfl, rfl, by decide +kernel, rfl, by decide +kernel, by decide +kernel⟩
def w_is_name (T : Wd) : WS := (wSeq (wIf (wOrT (wNotT (wTest (wCall (isiO T) (wCons (wVar 0) (wCons (wC (.ty "str")) wNil))))) (wOrT (wNotT (wTest (wChain leO leO (wC (.int 1)) (wCall lenO (wCons (wVar 0) wNil)) (wC (.int 8))))) (wTest (wBin eqO (wVar 0) (wC (.str "key")))))) (wRet (wC (.bl false))) wNext)
    (wRet (wCall allO (wCons (wLc (wIt (wVar 0)) (wgName 1) wYes (wBin (inO false) (wVar 1) (wC (.str "abcdefghijklmnopqrstuvwxyz"))) [1]) wNil))))
theorem j_is_name {T : Wd} {lv : Nat} (E : Env T) : JSs (defB T lv N_is_name (defScope s_is_name)) (defBody s_is_name) (w_is_name T) := by
  refine js_cons (js_if (JW.jt (jw_or (jt_not (jt_val (je_isinstance E.ok ⟨(by kernel_rfl), E.b_isinstance⟩ (ja_cons (je_var (i := 0) (by kernel_rfl)) (ja_cons (je_gty (by kernel_rfl) E.b_str ⟨by decide +kernel, by decide⟩) ja_nil rfl) rfl) rfl) plT_call)) (jw_or (jt_not (jt_chain jop_le jop_le je_int (je_len ⟨(by kernel_rfl), E.b_len⟩ (ja_cons (je_var (i := 0) (by kernel_rfl)) ja_nil rfl) rfl) je_int rfl)) (jw_or1 (jt_cmp jop_eq (je_var (i := 0) (by kernel_rfl)) (je_gstr (by kernel_rfl) E.g_KEY) rfl))))) (js_one (js_ret je_bl)) js_nil) ?_
  exact js_one (js_ret (je_all ⟨(by kernel_rfl), E.b_all⟩ (ja_cons (je_lc (own := [("sign", 1)]) (ji_seq (je_var (i := 0) (by kernel_rfl))) (by kernel_rfl) (jgc_name (i := 1) (by kernel_rfl)) jts_nil (je_cmp jop_in (je_var (i := 1) (by kernel_rfl)) (je_gstr (by kernel_rfl) E.g_LETTERS) rfl) rfl) ja_nil rfl) rfl))
def N_are_distinct : List Str := ["things"]
abbrev s_are_distinct : Stmt := top 15
theorem sc_are_distinct : FnScope N_are_distinct ["things"] (defScope s_are_distinct) := ⟨rfl, rfl, rfl, by decide +kernel, rfl, by decide +kernel, by decide +kernel⟩
def w_are_distinct (T : Wd) : WS := (wRet (wBin eqO (wCall lenO (wCons (wCall setC (wCons (wVar 0) wNil)) wNil)) (wCall lenO (wCons (wVar 0) wNil))))
theorem j_are_distinct {T : Wd} {lv : Nat} (E : Env T) : JSs (defB T lv N_are_distinct (defScope s_are_distinct)) (defBody s_are_distinct) (w_are_distinct T) := by
  exact js_one (js_ret (je_cmp jop_eq (je_len ⟨(by kernel_rfl), E.b_len⟩ (ja_cons (je_setC ⟨(by kernel_rfl), E.b_set⟩ (ja_cons (je_var (i := 0) (by kernel_rfl)) ja_nil rfl) rfl) ja_nil rfl) rfl) (je_len ⟨(by kernel_rfl), E.b_len⟩ (ja_cons (je_var (i := 0) (by kernel_rfl)) ja_nil rfl) rfl) rfl))
def N_are_names : List Str := ["thing", "one"]
abbrev s_are_names : Stmt := top 16
theorem sc_are_names : FnScope N_are_names ["thing"] (defScope s_are_names) := ⟨rfl, rfl, rfl, by decide +kernel, rfl, by decide +kernel, by decide +kernel⟩
def w_are_names (T : Wd) (d_are_distinct : DSp) (d_is_name : DSp) : WS := (wRet (wAndV (wCall (isiO T) (wCons (wVar 0) (wCons (wC (.ty "tuple")) wNil))) (wAndV (wCall allO (wCons (wLc (wIt (wVar 0)) (wgName 1) wYes (wCal d_is_name 1 0 (wCons (wVar 1) wNil) wNil) [1]) wNil)) (wCal d_are_distinct 1 0 (wCons (wVar 0) wNil) wNil))))
theorem j_are_names {T : Wd} {lv : Nat} {d_are_distinct : DSp} {d_is_name : DSp} (E : Env T) (h_is_name_1 : CalOk T lv "is_name" d_is_name 1 []) (h_are_distinct_1 : CalOk T lv "are_distinct" d_are_distinct 1 []) : JSs (defB T lv N_are_names (defScope s_are_names)) (defBody s_are_names) (w_are_names T d_are_distinct d_is_name) := by
  exact js_one (js_ret (je_and (je_isinstance E.ok ⟨(by kernel_rfl), E.b_isinstance⟩ (ja_cons (je_var (i := 0) (by kernel_rfl)) (ja_cons (je_gty (by kernel_rfl) E.b_tuple ⟨by decide +kernel, by decide⟩) ja_nil rfl) rfl) rfl) (je_and (je_all ⟨(by kernel_rfl), E.b_all⟩ (ja_cons (je_lc (own := [("one", 1)]) (ji_seq (je_var (i := 0) (by kernel_rfl))) (by kernel_rfl) (jgc_name (i := 1) (by kernel_rfl)) jts_nil (je_callC h_is_name_1 (by kernel_rfl) (ja_cons (je_var (i := 1) (by kernel_rfl)) ja_nil rfl) jk_nil rfl rfl) rfl) ja_nil rfl) rfl) (je_one (je_callC h_are_distinct_1 (by kernel_rfl) (ja_cons (je_var (i := 0) (by kernel_rfl)) ja_nil rfl) jk_nil rfl rfl)))))
def N_are_columns : List Str := ["thing"]
abbrev s_are_columns : Stmt := top 17
theorem sc_are_columns : FnScope N_are_columns ["thing"] (defScope s_are_columns) := ⟨rfl, rfl, rfl, by decide +kernel, rfl, by decide +kernel, by decide +kernel⟩
def w_are_columns (T : Wd) (d_are_names : DSp) : WS := (wRet (wAndV (wCal d_are_names 1 0 (wCons (wVar 0) wNil) wNil) (wChain leO leO (wC (.int 1)) (wCall lenO (wCons (wVar 0) wNil)) (wC (.int 6)))))
theorem j_are_columns {T : Wd} {lv : Nat} {d_are_names : DSp} (E : Env T) (h_are_names_1 : CalOk T lv "are_names" d_are_names 1 []) : JSs (defB T lv N_are_columns (defScope s_are_columns)) (defBody s_are_columns) (w_are_columns T d_are_names) := by
  exact js_one (js_ret (je_and (je_callC h_are_names_1 (by kernel_rfl) (ja_cons (je_var (i := 0) (by kernel_rfl)) ja_nil rfl) jk_nil rfl rfl) (je_one (je_chain jop_le jop_le je_int (je_len ⟨(by kernel_rfl), E.b_len⟩ (ja_cons (je_var (i := 0) (by kernel_rfl)) ja_nil rfl) rfl) je_int rfl))))
def N_is_number : List Str := ["thing"]
abbrev s_is_number : Stmt := top 18
theorem sc_is_number : FnScope N_is_number ["thing"] (defScope s_is_number) := ⟨rfl, rfl, rfl, by decide +kernel, rfl, by decide +kernel, by decide +kernel⟩
def w_is_number (T : Wd) (d_is_whole : DSp) : WS := (wRet (wAndV (wCal d_is_whole 1 0 (wCons (wVar 0) wNil) wNil) (wChain leO ltO (wC (.int 0)) (wVar 0) (wC (.int 1000000000000000000000000000000)))))
theorem j_is_number {T : Wd} {lv : Nat} {d_is_whole : DSp} (E : Env T) (h_is_whole_1 : CalOk T lv "is_whole" d_is_whole 1 []) : JSs (defB T lv N_is_number (defScope s_is_number)) (defBody s_is_number) (w_is_number T d_is_whole) := by
  exact js_one (js_ret (je_and (je_callC h_is_whole_1 (by kernel_rfl) (ja_cons (je_var (i := 0) (by kernel_rfl)) ja_nil rfl) jk_nil rfl rfl) (je_one (je_chain jop_le jop_lt je_int (je_var (i := 0) (by kernel_rfl)) (je_gint (by kernel_rfl) E.g_MOST) rfl))))
def N_is_cell : List Str := ["thing"]
abbrev s_is_cell : Stmt := top 19
theorem sc_is_cell : FnScope N_is_cell ["thing"] (defScope s_is_cell) := ⟨rfl, rfl, rfl, by decide +kernel, rfl, by decide +kernel, by decide +kernel⟩
def w_is_cell (T : Wd) (d_is_number : DSp) : WS := (wRet (wOrV (wBin isNO (wVar 0) (wC .non)) (wCal d_is_number 1 0 (wCons (wVar 0) wNil) wNil)))
theorem j_is_cell {T : Wd} {lv : Nat} {d_is_number : DSp} (E : Env T) (h_is_number_1 : CalOk T lv "is_number" d_is_number 1 []) : JSs (defB T lv N_is_cell (defScope s_is_cell)) (defBody s_is_cell) (w_is_cell T d_is_number) := by
  exact js_one (js_ret (je_or (je_cmp jop_is (je_var (i := 0) (by kernel_rfl)) je_non rfl) (je_one (je_callC h_is_number_1 (by kernel_rfl) (ja_cons (je_var (i := 0) (by kernel_rfl)) ja_nil rfl) jk_nil rfl rfl))))
def N_is_key : List Str := ["thing"]
abbrev s_is_key : Stmt := top 20
theorem sc_is_key : FnScope N_is_key ["thing"] (defScope s_is_key) := ⟨rfl, rfl, rfl, by decide +kernel, rfl, by decide +kernel, by decide +kernel⟩
def w_is_key (T : Wd) (d_is_whole : DSp) : WS := (wRet (wAndV (wCal d_is_whole 1 0 (wCons (wVar 0) wNil) wNil) (wBin geO (wVar 0) (wC (.int 1)))))
theorem j_is_key {T : Wd} {lv : Nat} {d_is_whole : DSp} (E : Env T) (h_is_whole_1 : CalOk T lv "is_whole" d_is_whole 1 []) : JSs (defB T lv N_is_key (defScope s_is_key)) (defBody s_is_key) (w_is_key T d_is_whole) := by
  exact js_one (js_ret (je_and (je_callC h_is_whole_1 (by kernel_rfl) (ja_cons (je_var (i := 0) (by kernel_rfl)) ja_nil rfl) jk_nil rfl rfl) (je_one (je_cmp jop_ge (je_var (i := 0) (by kernel_rfl)) je_int rfl))))
def N_is_row : List Str := ["thing", "columns", "cell"]
abbrev s_is_row : Stmt := top 22
theorem sc_is_row : FnScope N_is_row ["thing", "columns"] (defScope s_is_row) := ⟨rfl, rfl, rfl, by decide +kernel, rfl, by decide +kernel, by decide +kernel⟩
def w_is_row (T : Wd) (d_is_cell : DSp) : WS := (wRet (wAndV (wCall (isiO T) (wCons (wVar 0) (wCons (wC (.ty "tuple")) wNil))) (wAndV (wBin eqO (wCall lenO (wCons (wVar 0) wNil)) (wCall lenO (wCons (wVar 1) wNil))) (wCall allO (wCons (wLc (wIt (wVar 0)) (wgName 2) wYes (wCal d_is_cell 1 0 (wCons (wVar 2) wNil) wNil) [2]) wNil)))))
theorem j_is_row {T : Wd} {lv : Nat} {d_is_cell : DSp} (E : Env T) (h_is_cell_1 : CalOk T lv "is_cell" d_is_cell 1 []) : JSs (defB T lv N_is_row (defScope s_is_row)) (defBody s_is_row) (w_is_row T d_is_cell) := by
  exact js_one (js_ret (je_and (je_isinstance E.ok ⟨(by kernel_rfl), E.b_isinstance⟩ (ja_cons (je_var (i := 0) (by kernel_rfl)) (ja_cons (je_gty (by kernel_rfl) E.b_tuple ⟨by decide +kernel, by decide⟩) ja_nil rfl) rfl) rfl) (je_and (je_cmp jop_eq (je_len ⟨(by kernel_rfl), E.b_len⟩ (ja_cons (je_var (i := 0) (by kernel_rfl)) ja_nil rfl) rfl) (je_len ⟨(by kernel_rfl), E.b_len⟩ (ja_cons (je_var (i := 1) (by kernel_rfl)) ja_nil rfl) rfl) rfl) (je_one (je_all ⟨(by kernel_rfl), E.b_all⟩ (ja_cons (je_lc (own := [("cell", 2)]) (ji_seq (je_var (i := 0) (by kernel_rfl))) (by kernel_rfl) (jgc_name (i := 2) (by kernel_rfl)) jts_nil (je_callC h_is_cell_1 (by kernel_rfl) (ja_cons (je_var (i := 2) (by kernel_rfl)) ja_nil rfl) jk_nil rfl rfl) rfl) ja_nil rfl) rfl)))))
def N_Store_init : List Str := ["self", "columns", "rows"]
abbrev s_Store_init : Stmt := mth (top 25) 0
theorem sc_Store_init : FnScope N_Store_init ["self", "columns", "rows"] (defScope s_Store_init) := ⟨rfl, rfl, rfl, by decide +kernel, rfl, by decide +kernel, by decide +kernel⟩
def w_Store_init (T : Wd) (d_are_columns : DSp) : WS := (wSeq (wIf (wNotT (wTest (wCal d_are_columns 1 0 (wCons (wVar 1) wNil) wNil))) wNever wNext)
    (wSeq (wSetFld T "heads" (wVar 0) (wVar 1))
    (wSetFld T "kept" (wVar 0) (wFrzE (wCall dictO (wCons (wVar 2) wNil))))))
theorem j_Store_init {T : Wd} {lv : Nat} {d_are_columns : DSp} (E : Env T) (h_are_columns_1 : CalOk T lv "are_columns" d_are_columns 1 []) : JSs (defB T lv N_Store_init (defScope s_Store_init)) (defBody s_Store_init) (w_Store_init T d_are_columns) := by
  refine js_cons (js_if (jt_not (jt_val (je_callC h_are_columns_1 (by kernel_rfl) (ja_cons (je_var (i := 1) (by kernel_rfl)) ja_nil rfl) jk_nil rfl rfl) plT_call)) (js_one js_never) js_nil) ?_
  refine js_cons (js_fld E.ok (je_var (i := 0) (by kernel_rfl)) (je_var (i := 1) (by kernel_rfl)) rfl) ?_
  exact js_one (js_fld E.ok (je_var (i := 0) (by kernel_rfl)) (je_frzE (je_dictC ⟨(by kernel_rfl), E.b_dict⟩ (ja_cons (je_var (i := 2) (by kernel_rfl)) ja_nil rfl) rfl)) rfl)
def N_Store_setitem : List Str := ["self", "key", "row", "rows", "place"]
abbrev s_Store_setitem : Stmt := mth (top 25) 5
theorem sc_Store_setitem : FnScope N_Store_setitem ["self", "key", "row"] (defScope s_Store_setitem) := ⟨rfl, rfl, rfl, by decide +kernel, rfl, by decide +kernel, by decide +kernel⟩
def w_Store_setitem (T : Wd) (d_is_key : DSp) (d_is_row : DSp) : WS := (wSeq (wIf (wNotT (wTest (wCal d_is_key 1 0 (wCons (wVar 1) wNil) wNil))) wNever wNext)
    (wSeq (wIf (wNotT (wTest (wCal d_is_row 2 0 (wCons (wVar 2) (wCons (wFld T "heads" (wVar 0)) wNil)) wNil))) wNever wNext)
    (wSeq (wAsg (wFrzE (wDicP (wFld T "kept" (wVar 0)) (wVar 1) (wVar 2))) (wgName 3))
    (wSetFld T "kept" (wVar 0) (wFrzE (wDcM (wIt (wCall sortedO (wCons (wVar 3) wNil))) (wgName 4) wYes (wVar 4) (wBin itemO (wVar 3) (wVar 4)) [4]))))))
theorem j_Store_setitem {T : Wd} {lv : Nat} {d_is_key : DSp} {d_is_row : DSp} (E : Env T) (h_is_key_1 : CalOk T lv "is_key" d_is_key 1 []) (h_is_row_2 : CalOk T lv "is_row" d_is_row 2 []) : JSs (defB T lv N_Store_setitem (defScope s_Store_setitem)) (defBody s_Store_setitem) (w_Store_setitem T d_is_key d_is_row) := by
  refine js_cons (js_if (jt_not (jt_val (je_callC h_is_key_1 (by kernel_rfl) (ja_cons (je_var (i := 1) (by kernel_rfl)) ja_nil rfl) jk_nil rfl rfl) plT_call)) (js_one js_never) js_nil) ?_
  refine js_cons (js_if (jt_not (jt_val (je_callC h_is_row_2 (by kernel_rfl) (ja_cons (je_var (i := 2) (by kernel_rfl)) (ja_cons (je_fld E.ok (je_var (i := 0) (by kernel_rfl)) ab_name) ja_nil rfl) rfl) jk_nil rfl rfl) plT_call)) (js_one js_never) js_nil) ?_
  refine js_cons (js_asg (je_frzE (je_dicP (je_fld E.ok (je_var (i := 0) (by kernel_rfl)) ab_name) (je_var (i := 1) (by kernel_rfl)) (je_var (i := 2) (by kernel_rfl)))) (jg_name (i := 3) (by kernel_rfl)) rfl rfl rfl) ?_
  exact js_one (js_fldC E.ok (je_var (i := 0) (by kernel_rfl)) (je_frzE (je_dcM (own := [("place", 4)]) (ji_seq (je_sorted ⟨(by kernel_rfl), E.b_sorted⟩ (ja_cons (je_var (i := 3) (by kernel_rfl)) ja_nil rfl) rfl)) (by kernel_rfl) (jgc_name (i := 4) (by kernel_rfl)) jts_nil (je_var (i := 4) (by kernel_rfl)) (je_ix (je_var (i := 3) (by kernel_rfl)) (je_var (i := 4) (by kernel_rfl)) pix_name) rfl)) (by kernel_rfl))
def N_Store_columns : List Str := ["self"]
abbrev s_Store_columns : Stmt := mth (top 25) 7
theorem sc_Store_columns : FnScope N_Store_columns ["self"] (defScope s_Store_columns) := ⟨rfl, rfl, rfl, by decide +kernel, rfl, by decide +kernel, by decide +kernel⟩
def w_Store_columns (T : Wd) : WS := (wRet (wFld T "heads" (wVar 0)))
theorem j_Store_columns {T : Wd} {lv : Nat} (E : Env T) : JSs (defB T lv N_Store_columns (defScope s_Store_columns)) (defBody s_Store_columns) (w_Store_columns T) := by
  exact js_one (js_ret (je_fld E.ok (je_var (i := 0) (by kernel_rfl)) ab_name))
def N_Store_rows : List Str := ["self"]
abbrev s_Store_rows : Stmt := mth (top 25) 8
theorem sc_Store_rows : FnScope N_Store_rows ["self"] (defScope s_Store_rows) := ⟨rfl, rfl, rfl, by decide +kernel, rfl, by decide +kernel, by decide +kernel⟩
def w_Store_rows (T : Wd) : WS := (wRet (wListItems (wFld T "kept" (wVar 0))))
theorem j_Store_rows {T : Wd} {lv : Nat} (E : Env T) : JSs (defB T lv N_Store_rows (defScope s_Store_rows)) (defBody s_Store_rows) (w_Store_rows T) := by
  exact js_one (js_ret (je_listItems ⟨(by kernel_rfl), E.b_list⟩ (je_fld E.ok (je_var (i := 0) (by kernel_rfl)) ab_name) ab_attr rfl))
def N_Meanwhile_init : List Str := ["self", "fields", "born", "died", "stamp"]
abbrev s_Meanwhile_init : Stmt := mth (top 28) 0
theorem sc_Meanwhile_init : FnScope N_Meanwhile_init ["self", "fields", "born", "died", "stamp"] (defScope s_Meanwhile_init) := ⟨rfl, rfl, rfl, by decide +kernel, rfl, by decide +kernel, by decide +kernel⟩
def w_Meanwhile_init (T : Wd) (d_are_names : DSp) (d_is_name : DSp) : WS := (wSeq (wIf (wNotT (wTest (wCal d_are_names 1 0 (wCons (wVar 1) wNil) wNil))) wNever wNext)
    (wSeq (wIf (wNotT (wTest (wCall (isiO T) (wCons (wVar 2) (wCons (wC (.ty "bool")) wNil))))) wNever wNext)
    (wSeq (wIf (wNotT (wTest (wCall (isiO T) (wCons (wVar 3) (wCons (wC (.ty "bool")) wNil))))) wNever wNext)
    (wSeq (wIf (wAndT (wTest (wBin notNO (wVar 4) (wC .non))) (wOrT (wNotT (wTest (wCal d_is_name 1 0 (wCons (wVar 4) wNil) wNil))) (wTest (wBin (inO false) (wVar 4) (wVar 1))))) wNever wNext)
    (wSetFld T "told" (wVar 0) (wTup (wCons (wVar 1) (wCons (wVar 2) (wCons (wVar 3) (wCons (wVar 4) wNil))))))))))
theorem j_Meanwhile_init {T : Wd} {lv : Nat} {d_are_names : DSp} {d_is_name : DSp} (E : Env T) (h_are_names_1 : CalOk T lv "are_names" d_are_names 1 []) (h_is_name_1 : CalOk T lv "is_name" d_is_name 1 []) : JSs (defB T lv N_Meanwhile_init (defScope s_Meanwhile_init)) (defBody s_Meanwhile_init) (w_Meanwhile_init T d_are_names d_is_name) := by
  refine js_cons (js_if (jt_not (jt_val (je_callC h_are_names_1 (by kernel_rfl) (ja_cons (je_var (i := 1) (by kernel_rfl)) ja_nil rfl) jk_nil rfl rfl) plT_call)) (js_one js_never) js_nil) ?_
  refine js_cons (js_if (jt_not (jt_val (je_isinstance E.ok ⟨(by kernel_rfl), E.b_isinstance⟩ (ja_cons (je_var (i := 2) (by kernel_rfl)) (ja_cons (je_gty (by kernel_rfl) E.b_bool ⟨by decide +kernel, by decide⟩) ja_nil rfl) rfl) rfl) plT_call)) (js_one js_never) js_nil) ?_
  refine js_cons (js_if (jt_not (jt_val (je_isinstance E.ok ⟨(by kernel_rfl), E.b_isinstance⟩ (ja_cons (je_var (i := 3) (by kernel_rfl)) (ja_cons (je_gty (by kernel_rfl) E.b_bool ⟨by decide +kernel, by decide⟩) ja_nil rfl) rfl) rfl) plT_call)) (js_one js_never) js_nil) ?_
  refine js_cons (js_if (JW.jt (jw_and (jt_cmp jop_isnot (je_var (i := 4) (by kernel_rfl)) je_non rfl) (jw_and1 (JW.jt (jw_or (jt_not (jt_val (je_callC h_is_name_1 (by kernel_rfl) (ja_cons (je_var (i := 4) (by kernel_rfl)) ja_nil rfl) jk_nil rfl rfl) plT_call)) (jw_or1 (jt_cmp jop_in (je_var (i := 4) (by kernel_rfl)) (je_var (i := 1) (by kernel_rfl)) rfl))))))) (js_one js_never) js_nil) ?_
  exact js_one (js_fld E.ok (je_var (i := 0) (by kernel_rfl)) (je_tup (ja_cons (je_var (i := 1) (by kernel_rfl)) (ja_cons (je_var (i := 2) (by kernel_rfl)) (ja_cons (je_var (i := 3) (by kernel_rfl)) (ja_cons (je_var (i := 4) (by kernel_rfl)) ja_nil rfl) rfl) rfl) rfl)) rfl)
def N_Meanwhile_allows : List Str := ["self", "earlier", "later", "fields", "born", "died", "stamp", "before", "after", "heads", "key"]
abbrev s_Meanwhile_allows : Stmt := mth (top 28) 2
theorem sc_Meanwhile_allows : FnScope N_Meanwhile_allows ["self", "earlier", "later"] (defScope s_Meanwhile_allows) := ⟨rfl, rfl, rfl, by decide +kernel, rfl, by decide +kernel, by decide +kernel⟩
def w_Meanwhile_allows (T : Wd) (d_Store_columns : DSp) (d_Store_rows : DSp) (d_may_become : DSp) : WS := (wSeq (wAsg (wFld T "told" (wVar 0)) (wgTup 4 (wgCons (wgName 3) (wgCons (wgName 4) (wgCons (wgName 5) (wgCons (wgName 6) wgNil))))))
    (wSeq (wIf (wTest (wBin neO (wMeth1 "Store" "columns" d_Store_columns 1 0 (wVar 1) wNil wNil) (wMeth1 "Store" "columns" d_Store_columns 1 0 (wVar 2) wNil wNil))) (wRet (wC (.bl false))) wNext)
    (wSeq (wAsg (wTup (wCons (wFrzE (wCall dictO (wCons (wMeth1 "Store" "rows" d_Store_rows 1 0 (wVar 1) wNil wNil) wNil))) (wCons (wFrzE (wCall dictO (wCons (wMeth1 "Store" "rows" d_Store_rows 1 0 (wVar 2) wNil wNil) wNil))) wNil))) (wgTup 2 (wgCons (wgName 7) (wgCons (wgName 8) wgNil))))
    (wSeq (wIf (wAndT (wNotT (wTest (wVar 4))) (wTest (wCall anyO (wCons (wLc (wKeys (wVar 8)) (wgName 10) wYes (wBin (inO true) (wVar 10) (wVar 7)) [10]) wNil)))) (wRet (wC (.bl false))) wNext)
    (wSeq (wIf (wAndT (wNotT (wTest (wVar 5))) (wTest (wCall anyO (wCons (wLc (wKeys (wVar 7)) (wgName 10) wYes (wBin (inO true) (wVar 10) (wVar 8)) [10]) wNil)))) (wRet (wC (.bl false))) wNext)
    (wSeq (wAsg (wMeth1 "Store" "columns" d_Store_columns 1 0 (wVar 1) wNil wNil) (wgName 9))
    (wRet (wCall allO (wCons (wLc (wKeys (wVar 7)) (wgName 10) (wTest (wBin (inO false) (wVar 10) (wVar 8))) (wCal d_may_become 4 0 (wCons (wFld T "told" (wVar 0)) (wCons (wVar 9) (wCons (wBin itemO (wVar 7) (wVar 10)) (wCons (wBin itemO (wVar 8) (wVar 10)) wNil)))) wNil) [10]) wNil)))))))))
theorem j_Meanwhile_allows {T : Wd} {lv : Nat} {d_Store_columns : DSp} {d_Store_rows : DSp} {d_may_become : DSp} (E : Env T) (h_Store_columns_1 : MetOk T lv "Store" "columns" d_Store_columns 1 []) (h_Store_rows_1 : MetOk T lv "Store" "rows" d_Store_rows 1 []) (h_may_become_4 : CalOk T lv "may_become" d_may_become 4 []) : JSs (defB T lv N_Meanwhile_allows (defScope s_Meanwhile_allows)) (defBody s_Meanwhile_allows) (w_Meanwhile_allows T d_Store_columns d_Store_rows d_may_become) := by
  refine js_cons (js_asg (je_fld E.ok (je_var (i := 0) (by kernel_rfl)) ab_name) (jg_tup (jgs_cons (jg_name (i := 3) (by kernel_rfl)) (jgs_cons (jg_name (i := 4) (by kernel_rfl)) (jgs_cons (jg_name (i := 5) (by kernel_rfl)) (jgs_cons (jg_name (i := 6) (by kernel_rfl)) jgs_nil rfl) rfl) rfl) rfl) rfl) rfl rfl rfl) ?_
  refine js_cons (js_if (jt_cmp jop_ne (je_methC h_Store_columns_1 (je_var (i := 1) (by kernel_rfl)) ja_nil jk_nil rfl rfl (mtree_of ab_name rfl rfl rfl rfl)) (je_methC h_Store_columns_1 (je_var (i := 2) (by kernel_rfl)) ja_nil jk_nil rfl rfl (mtree_of ab_name rfl rfl rfl rfl)) rfl) (js_one (js_ret je_bl)) js_nil) ?_
  refine js_cons (js_asg2 (by kernel_rfl) (je_tup (ja_cons (je_frzE (je_dictC ⟨(by kernel_rfl), E.b_dict⟩ (ja_cons (je_methC h_Store_rows_1 (je_var (i := 1) (by kernel_rfl)) ja_nil jk_nil rfl rfl (mtree_of ab_name rfl rfl rfl rfl)) ja_nil rfl) rfl)) (ja_cons (je_frzE (je_dictC ⟨(by kernel_rfl), E.b_dict⟩ (ja_cons (je_methC h_Store_rows_1 (je_var (i := 2) (by kernel_rfl)) ja_nil jk_nil rfl rfl (mtree_of ab_name rfl rfl rfl rfl)) ja_nil rfl) rfl)) ja_nil rfl) rfl)) (jg_tup (jgs_cons (jg_name (i := 7) (by kernel_rfl)) (jgs_cons (jg_name (i := 8) (by kernel_rfl)) jgs_nil rfl) rfl) rfl)) ?_
  refine js_cons (js_if (JW.jt (jw_and (jt_not (jt_val (je_var (i := 4) (by kernel_rfl)) plT_name)) (jw_and1 (jt_val (je_any ⟨(by kernel_rfl), E.b_any⟩ (ja_cons (je_lc (own := [("key", 10)]) (ji_keys (je_var (i := 8) (by kernel_rfl))) (by kernel_rfl) (jgc_name (i := 10) (by kernel_rfl)) jts_nil (je_cmp jop_notin (je_var (i := 10) (by kernel_rfl)) (je_var (i := 7) (by kernel_rfl)) rfl) rfl) ja_nil rfl) rfl) plT_call)))) (js_one (js_ret je_bl)) js_nil) ?_
  refine js_cons (js_if (JW.jt (jw_and (jt_not (jt_val (je_var (i := 5) (by kernel_rfl)) plT_name)) (jw_and1 (jt_val (je_any ⟨(by kernel_rfl), E.b_any⟩ (ja_cons (je_lc (own := [("key", 10)]) (ji_keys (je_var (i := 7) (by kernel_rfl))) (by kernel_rfl) (jgc_name (i := 10) (by kernel_rfl)) jts_nil (je_cmp jop_notin (je_var (i := 10) (by kernel_rfl)) (je_var (i := 8) (by kernel_rfl)) rfl) rfl) ja_nil rfl) rfl) plT_call)))) (js_one (js_ret je_bl)) js_nil) ?_
  refine js_cons (js_asg (je_methC h_Store_columns_1 (je_var (i := 1) (by kernel_rfl)) ja_nil jk_nil rfl rfl (mtree_of ab_name rfl rfl rfl rfl)) (jg_name (i := 9) (by kernel_rfl)) rfl rfl rfl) ?_
  exact js_one (js_ret (je_all ⟨(by kernel_rfl), E.b_all⟩ (ja_cons (je_lc (own := [("key", 10)]) (ji_keys (je_var (i := 7) (by kernel_rfl))) (by kernel_rfl) (jgc_name (i := 10) (by kernel_rfl)) (jts_one (jt_cmp jop_in (je_var (i := 10) (by kernel_rfl)) (je_var (i := 8) (by kernel_rfl)) rfl)) (je_callC h_may_become_4 (by kernel_rfl) (ja_cons (je_fld E.ok (je_var (i := 0) (by kernel_rfl)) ab_name) (ja_cons (je_var (i := 9) (by kernel_rfl)) (ja_cons (je_ix (je_var (i := 7) (by kernel_rfl)) (je_var (i := 10) (by kernel_rfl)) pix_name) (ja_cons (je_ix (je_var (i := 8) (by kernel_rfl)) (je_var (i := 10) (by kernel_rfl)) pix_name) ja_nil rfl) rfl) rfl) rfl) jk_nil rfl rfl) rfl) ja_nil rfl) rfl))
def N_may_become : List Str := ["parts", "columns", "old", "new", "fields", "born", "died", "stamp", "fresh", "was", "now", "name"]
abbrev s_may_become : Stmt := top 29
theorem sc_may_become : FnScope N_may_become ["parts", "columns", "old", "new"] (defScope s_may_become) := ⟨rfl, rfl, rfl, by decide +kernel, rfl, by decide +kernel, by decide +kernel⟩
def w_may_become (T : Wd) (d_is_later : DSp) : WS := (wSeq (wAsg (wVar 0) (wgTup 4 (wgCons (wgName 4) (wgCons (wgName 5) (wgCons (wgName 6) (wgCons (wgName 7) wgNil))))))
    (wSeq (wAsg (wLc (wRng zip3I (wCons (wVar 1) (wCons (wVar 2) (wCons (wVar 3) wNil)))) (wgTup 3 (wgCons (wgName 11) (wgCons (wgName 9) (wgCons (wgName 10) wgNil)))) (wAndT (wTest (wBin neO (wVar 9) (wVar 10))) (wTest (wBin neO (wVar 11) (wVar 7)))) (wVar 11) [11, 9, 10]) (wgName 8))
    (wSeq (wIf (wTest (wCall anyO (wCons (wLc (wIt (wVar 8)) (wgName 11) wYes (wBin (inO true) (wVar 11) (wVar 4)) [11]) wNil))) (wRet (wC (.bl false))) wNext)
    (wSeq (wIf (wTest (wBin (inO true) (wVar 7) (wVar 1))) (wRet (wC (.bl true))) wNext)
    (wSeq (wPar 9 10 (wCons (wBin itemO (wVar 2) (wBW "tuple" tupIdxO (wVar 1) (wCons (wVar 7) wNil))) (wCons (wBin itemO (wVar 3) (wBW "tuple" tupIdxO (wVar 1) (wCons (wVar 7) wNil))) wNil)))
    (wRet (wIfE (wTest (wBin neO (wVar 8) (wLst wNil))) (wCal d_is_later 2 0 (wCons (wVar 9) (wCons (wVar 10) wNil)) wNil) (wBin eqO (wVar 9) (wVar 10)))))))))
theorem j_may_become {T : Wd} {lv : Nat} {d_is_later : DSp} (E : Env T) (h_is_later_2 : CalOk T lv "is_later" d_is_later 2 []) : JSs (defB T lv N_may_become (defScope s_may_become)) (defBody s_may_become) (w_may_become T d_is_later) := by
  refine js_cons (js_asg (je_var (i := 0) (by kernel_rfl)) (jg_tup (jgs_cons (jg_name (i := 4) (by kernel_rfl)) (jgs_cons (jg_name (i := 5) (by kernel_rfl)) (jgs_cons (jg_name (i := 6) (by kernel_rfl)) (jgs_cons (jg_name (i := 7) (by kernel_rfl)) jgs_nil rfl) rfl) rfl) rfl) rfl) rfl rfl rfl) ?_
  refine js_cons (js_setLc (i := 8) (own := [("name", 11), ("was", 9), ("now", 10)]) (by kernel_rfl) (ji_zip3 ⟨(by kernel_rfl), E.b_zip⟩ (ja_cons (je_var (i := 1) (by kernel_rfl)) (ja_cons (je_var (i := 2) (by kernel_rfl)) (ja_cons (je_var (i := 3) (by kernel_rfl)) ja_nil rfl) rfl) rfl) rfl) (by kernel_rfl) (jgc_tup (jgsc_cons (jgc_name (i := 11) (by kernel_rfl)) (jgsc_cons (jgc_name (i := 9) (by kernel_rfl)) (jgsc_cons (jgc_name (i := 10) (by kernel_rfl)) jgsc_nil rfl) rfl) rfl) rfl) (jts_one (JW.jt (jw_and (jt_cmp jop_ne (je_var (i := 9) (by kernel_rfl)) (je_var (i := 10) (by kernel_rfl)) rfl) (jw_and1 (jt_cmp jop_ne (je_var (i := 11) (by kernel_rfl)) (je_var (i := 7) (by kernel_rfl)) rfl))))) (je_var (i := 11) (by kernel_rfl)) rfl) ?_
  refine js_cons (js_if (jt_val (je_any ⟨(by kernel_rfl), E.b_any⟩ (ja_cons (je_lc (own := [("name", 11)]) (ji_seq (je_var (i := 8) (by kernel_rfl))) (by kernel_rfl) (jgc_name (i := 11) (by kernel_rfl)) jts_nil (je_cmp jop_notin (je_var (i := 11) (by kernel_rfl)) (je_var (i := 4) (by kernel_rfl)) rfl) rfl) ja_nil rfl) rfl) plT_call) (js_one (js_ret je_bl)) js_nil) ?_
  refine js_cons (js_if (jt_cmp jop_notin (je_var (i := 7) (by kernel_rfl)) (je_var (i := 1) (by kernel_rfl)) rfl) (js_one (js_ret je_bl)) js_nil) ?_
  refine js_cons (js_par (i := 9) (j := 10) (by kernel_rfl) (ja_cons (je_ix (je_var (i := 2) (by kernel_rfl)) (je_tupIdx (je_var (i := 1) (by kernel_rfl)) (ja_cons (je_var (i := 7) (by kernel_rfl)) ja_nil rfl) rfl ab_name rfl) pix_call) (ja_cons (je_ix (je_var (i := 3) (by kernel_rfl)) (je_tupIdx (je_var (i := 1) (by kernel_rfl)) (ja_cons (je_var (i := 7) (by kernel_rfl)) ja_nil rfl) rfl ab_name rfl) pix_call) ja_nil rfl) rfl)) ?_
  exact js_one (js_ret (je_if (jt_cmp jop_ne (je_var (i := 8) (by kernel_rfl)) (je_lst ja_nil) rfl) (je_callC h_is_later_2 (by kernel_rfl) (ja_cons (je_var (i := 9) (by kernel_rfl)) (ja_cons (je_var (i := 10) (by kernel_rfl)) ja_nil rfl) rfl) jk_nil rfl rfl) (je_cmp jop_eq (je_var (i := 9) (by kernel_rfl)) (je_var (i := 10) (by kernel_rfl)) rfl)))
def N_is_later : List Str := ["was", "now"]
abbrev s_is_later : Stmt := top 30
theorem sc_is_later : FnScope N_is_later ["was", "now"] (defScope s_is_later) := ⟨rfl, rfl, rfl, by decide +kernel, rfl, by decide +kernel, by decide +kernel⟩
def w_is_later (T : Wd) : WS := (wRet (wAndV (wBin notNO (wVar 1) (wC .non)) (wOrV (wBin isNO (wVar 0) (wC .non)) (wBin gtO (wVar 1) (wVar 0)))))
theorem j_is_later {T : Wd} {lv : Nat} (E : Env T) : JSs (defB T lv N_is_later (defScope s_is_later)) (defBody s_is_later) (w_is_later T) := by
  exact js_one (js_ret (je_and (je_cmp jop_isnot (je_var (i := 1) (by kernel_rfl)) je_non rfl) (je_one (je_or (je_cmp jop_is (je_var (i := 0) (by kernel_rfl)) je_non rfl) (je_one (je_cmp jop_gt (je_var (i := 1) (by kernel_rfl)) (je_var (i := 0) (by kernel_rfl)) rfl))))))
def N__law_spool : List Str := ["_law_script", "_law_at", "_law_cell"]
abbrev s__law_spool : Stmt := top 32
theorem sc__law_spool : FnScope N__law_spool ["_law_script", "_law_at"] (defScope s__law_spool) := ⟨rfl, rfl, rfl, by decide +kernel, rfl, by decide +kernel, by decide +kernel⟩
def w__law_spool (T : Wd) : WS := (wSeq (wAsg (wIfE (wTest (wBin ltO (wVar 1) (wCall lenO (wCons (wVar 0) wNil)))) (wBin itemO (wVar 0) (wVar 1)) (wC (.int 0))) (wgName 2))
    (wRet (wDicM [.inr "rest", .inr "seed", .inr "turn"] (wCons (wCall max2C (wCons (wC (.int 0)) (wCons (wBin subO (wCall absC (wCons (wVar 2) wNil)) (wBin powO (wC (.int 10)) (wC (.int 18)))) wNil))) (wCons (wBin addO (wBin mulA (wBin modO (wCall intC (wCons (wVar 2) wNil)) (wBin addO (wBin powO (wC (.int 10)) (wC (.int 41))) (wC (.int 109)))) (wC (.int 64))) (wVar 1)) (wCons (wC (.int 0)) wNil))))))
theorem j__law_spool {T : Wd} {lv : Nat} (E : Env T) : JSs (defB T lv N__law_spool (defScope s__law_spool)) (defBody s__law_spool) (w__law_spool T) := by
  refine js_cons (js_asg (je_if (jt_cmp jop_lt (je_var (i := 1) (by kernel_rfl)) (je_len ⟨(by kernel_rfl), E.b_len⟩ (ja_cons (je_var (i := 0) (by kernel_rfl)) ja_nil rfl) rfl) rfl) (je_ix (je_var (i := 0) (by kernel_rfl)) (je_var (i := 1) (by kernel_rfl)) pix_name) je_int) (jg_name (i := 2) (by kernel_rfl)) rfl rfl rfl) ?_
  exact js_one (js_ret (je_dicM (jps_cons (je_max ⟨(by kernel_rfl), E.b_max⟩ (ja_cons je_int (ja_cons (je_bin jop_sub (je_abs ⟨(by kernel_rfl), E.b_abs⟩ (ja_cons (je_var (i := 2) (by kernel_rfl)) ja_nil rfl) rfl) (je_bin jop_pow je_int je_int)) ja_nil rfl) rfl) rfl) (jps_cons (je_bin jop_add (je_bin jop_mulA (je_bin jop_mod (je_intC ⟨(by kernel_rfl), E.b_int⟩ (ja_cons (je_var (i := 2) (by kernel_rfl)) ja_nil rfl) rfl) (je_bin jop_add (je_bin jop_pow je_int je_int) je_int)) je_int) (je_var (i := 1) (by kernel_rfl))) (jps_cons je_int jps_nil))) rfl rfl (by simp) (by decide) (by decide)))
def N__law_pull : List Str := ["_law_spool_here", "_law_below", "_law_digit", "_law_stir"]
abbrev s__law_pull : Stmt := top 33
theorem sc__law_pull : FnScope N__law_pull ["_law_spool_here", "_law_below"] (defScope s__law_pull) := ⟨rfl, rfl, rfl, by decide +kernel, rfl, by decide +kernel, by decide +kernel⟩
def w__law_pull (T : Wd) : WS := (wSeq (wIf (wTest (wBin gtO (wBin itemO (wVar 0) (wC (.str "rest"))) (wC (.int 0)))) (wSeq (wAsg (wBin modO (wCall intC (wCons (wBin itemO (wVar 0) (wC (.str "rest"))) wNil)) (wVar 1)) (wgName 2))
    (wSeq (wAsg (wBin fdivO (wBin itemO (wVar 0) (wC (.str "rest"))) (wVar 1)) (wgSub (wVar 0) (wC (.str "rest"))))
    (wRet (wVar 2)))) wNext)
    (wSeq (wAsg (wBin addO (wBin itemO (wVar 0) (wC (.str "turn"))) (wC (.int 1))) (wgSub (wVar 0) (wC (.str "turn"))))
    (wSeq (wAsg (wBin powO (wCall intC (wCons (wBin addO (wBin itemO (wVar 0) (wC (.str "seed"))) (wBin mulA (wBin mulA (wC (.int 90001)) (wBin itemO (wVar 0) (wC (.str "turn")))) (wBin itemO (wVar 0) (wC (.str "turn"))))) wNil)) (wC (.int 2))) (wgName 3))
    (wSeq (wAsg (wBin addO (wBin modO (wCall intC (wCons (wVar 3) wNil)) (wC (.int 170141183460469231731687303715884105727))) (wBin mulA (wC (.int 7013)) (wBin itemO (wVar 0) (wC (.str "turn"))))) (wgName 3))
    (wSeq (wAsg (wBin modO (wCall intC (wCons (wBin powO (wVar 3) (wC (.int 3))) wNil)) (wC (.int 162259276829213363391578010288127))) (wgName 3))
    (wRet (wBin modO (wBin fdivO (wVar 3) (wC (.int 1000003))) (wVar 1))))))))
theorem j__law_pull {T : Wd} {lv : Nat} (E : Env T) : JSs (defB T lv N__law_pull (defScope s__law_pull)) (defBody s__law_pull) (w__law_pull T) := by
  refine js_cons (js_if (jt_cmp jop_gt (je_ix (je_var (i := 0) (by kernel_rfl)) je_str pix_const) je_int rfl) (js_cons (js_asg (je_bin jop_mod (je_intC ⟨(by kernel_rfl), E.b_int⟩ (ja_cons (je_ix (je_var (i := 0) (by kernel_rfl)) je_str pix_const) ja_nil rfl) rfl) (je_var (i := 1) (by kernel_rfl))) (jg_name (i := 2) (by kernel_rfl)) rfl rfl rfl)
    (js_cons (js_asg (je_bin jop_fdiv (je_ix (je_var (i := 0) (by kernel_rfl)) je_str pix_const) (je_var (i := 1) (by kernel_rfl))) (jg_sub (je_var (i := 0) (by kernel_rfl)) je_str (ss_const _ _)) rfl rfl rfl)
    (js_one (js_ret (je_var (i := 2) (by kernel_rfl)))))) js_nil) ?_
  refine js_cons (js_asg (je_bin jop_add (je_ix (je_var (i := 0) (by kernel_rfl)) je_str pix_const) je_int) (jg_sub (je_var (i := 0) (by kernel_rfl)) je_str (ss_const _ _)) rfl rfl rfl) ?_
  refine js_cons (js_asg (je_bin jop_pow (je_intC ⟨(by kernel_rfl), E.b_int⟩ (ja_cons (je_bin jop_add (je_ix (je_var (i := 0) (by kernel_rfl)) je_str pix_const) (je_bin jop_mulA (je_bin jop_mulA je_int (je_ix (je_var (i := 0) (by kernel_rfl)) je_str pix_const)) (je_ix (je_var (i := 0) (by kernel_rfl)) je_str pix_const))) ja_nil rfl) rfl) je_int) (jg_name (i := 3) (by kernel_rfl)) rfl rfl rfl) ?_
  refine js_cons (js_asg (je_bin jop_add (je_bin jop_mod (je_intC ⟨(by kernel_rfl), E.b_int⟩ (ja_cons (je_var (i := 3) (by kernel_rfl)) ja_nil rfl) rfl) je_int) (je_bin jop_mulA je_int (je_ix (je_var (i := 0) (by kernel_rfl)) je_str pix_const))) (jg_name (i := 3) (by kernel_rfl)) rfl rfl rfl) ?_
  refine js_cons (js_asg (je_bin jop_mod (je_intC ⟨(by kernel_rfl), E.b_int⟩ (ja_cons (je_bin jop_pow (je_var (i := 3) (by kernel_rfl)) je_int) ja_nil rfl) rfl) je_int) (jg_name (i := 3) (by kernel_rfl)) rfl rfl rfl) ?_
  exact js_one (js_ret (je_bin jop_mod (je_bin jop_fdiv (je_var (i := 3) (by kernel_rfl)) je_int) (je_var (i := 1) (by kernel_rfl))))
def N__law_like : List Str := ["_law_found", "_law_due", "_law_one", "_law_other"]
abbrev s__law_like : Stmt := top 34
theorem sc__law_like : FnScope N__law_like ["_law_found", "_law_due"] (defScope s__law_like) := ⟨rfl, rfl, rfl, by decide +kernel, rfl, by decide +kernel, by decide +kernel⟩
def w__law_like (T : Wd) (d__law_like : DSp) : WS := (wSeq (wIf (wOrT (wTest (wCall (isiO T) (wCons (wVar 1) (wCons (wC (.ty "bool")) wNil)))) (wTest (wCall (isiO T) (wCons (wVar 0) (wCons (wC (.ty "bool")) wNil))))) (wRet (wAndV (wCall (isiO T) (wCons (wVar 1) (wCons (wC (.ty "bool")) wNil))) (wAndV (wCall (isiO T) (wCons (wVar 0) (wCons (wC (.ty "bool")) wNil))) (wBin eqO (wVar 0) (wVar 1))))) wNext)
    (wSeq (wIf (wOrT (wTest (wBin isNO (wVar 1) (wC .non))) (wTest (wBin isNO (wVar 0) (wC .non)))) (wRet (wAndV (wBin isNO (wVar 1) (wC .non)) (wBin isNO (wVar 0) (wC .non)))) wNext)
    (wSeq (wIf (wTest (wCall (isiO T) (wCons (wVar 1) (wCons (wTup (wCons (wC (.ty "list")) (wCons (wC (.ty "tuple")) wNil))) wNil)))) (wSeq (wIf (wOrT (wTest (wBin neO (wCall (isiO T) (wCons (wVar 1) (wCons (wC (.ty "list")) wNil))) (wCall (isiO T) (wCons (wVar 0) (wCons (wC (.ty "list")) wNil))))) (wTest (wBin neO (wCall (isiO T) (wCons (wVar 1) (wCons (wC (.ty "tuple")) wNil))) (wCall (isiO T) (wCons (wVar 0) (wCons (wC (.ty "tuple")) wNil)))))) (wRet (wC (.bl false))) wNext)
    (wRet (wAndV (wBin eqO (wCall lenO (wCons (wVar 0) wNil)) (wCall lenO (wCons (wVar 1) wNil))) (wCall allO (wCons (wLc (wRng zipI (wCons (wVar 0) (wCons (wVar 1) wNil))) (wgTup 2 (wgCons (wgName 2) (wgCons (wgName 3) wgNil))) wYes (wCal d__law_like 2 0 (wCons (wVar 2) (wCons (wVar 3) wNil)) wNil) [2, 3]) wNil))))) wNext)
    (wSeq (wIf (wTest (wCall (isiO T) (wCons (wVar 1) (wCons (wC (.ty "int")) wNil)))) (wRet (wAndV (wCall (isiO T) (wCons (wVar 0) (wCons (wC (.ty "int")) wNil))) (wBin eqO (wVar 0) (wVar 1)))) wNext)
    (wRet (wAndV (wCall (isiO T) (wCons (wVar 0) (wCons (wC (.ty "str")) wNil))) (wBin eqO (wVar 0) (wVar 1))))))))
theorem j__law_like {T : Wd} {lv : Nat} {d__law_like : DSp} (E : Env T) (h__law_like_2 : CalOk T lv "_law_like" d__law_like 2 []) : JSs (defB T lv N__law_like (defScope s__law_like)) (defBody s__law_like) (w__law_like T d__law_like) := by
  refine js_cons (js_if (JW.jt (jw_or (jt_val (je_isinstance E.ok ⟨(by kernel_rfl), E.b_isinstance⟩ (ja_cons (je_var (i := 1) (by kernel_rfl)) (ja_cons (je_gty (by kernel_rfl) E.b_bool ⟨by decide +kernel, by decide⟩) ja_nil rfl) rfl) rfl) plT_call) (jw_or1 (jt_val (je_isinstance E.ok ⟨(by kernel_rfl), E.b_isinstance⟩ (ja_cons (je_var (i := 0) (by kernel_rfl)) (ja_cons (je_gty (by kernel_rfl) E.b_bool ⟨by decide +kernel, by decide⟩) ja_nil rfl) rfl) rfl) plT_call)))) (js_one (js_ret (je_and (je_isinstance E.ok ⟨(by kernel_rfl), E.b_isinstance⟩ (ja_cons (je_var (i := 1) (by kernel_rfl)) (ja_cons (je_gty (by kernel_rfl) E.b_bool ⟨by decide +kernel, by decide⟩) ja_nil rfl) rfl) rfl) (je_and (je_isinstance E.ok ⟨(by kernel_rfl), E.b_isinstance⟩ (ja_cons (je_var (i := 0) (by kernel_rfl)) (ja_cons (je_gty (by kernel_rfl) E.b_bool ⟨by decide +kernel, by decide⟩) ja_nil rfl) rfl) rfl) (je_one (je_cmp jop_eq (je_var (i := 0) (by kernel_rfl)) (je_var (i := 1) (by kernel_rfl)) rfl)))))) js_nil) ?_
  refine js_cons (js_if (JW.jt (jw_or (jt_cmp jop_is (je_var (i := 1) (by kernel_rfl)) je_non rfl) (jw_or1 (jt_cmp jop_is (je_var (i := 0) (by kernel_rfl)) je_non rfl)))) (js_one (js_ret (je_and (je_cmp jop_is (je_var (i := 1) (by kernel_rfl)) je_non rfl) (je_one (je_cmp jop_is (je_var (i := 0) (by kernel_rfl)) je_non rfl))))) js_nil) ?_
  refine js_cons (js_if (jt_val (je_isinstance E.ok ⟨(by kernel_rfl), E.b_isinstance⟩ (ja_cons (je_var (i := 1) (by kernel_rfl)) (ja_cons (je_tup (ja_cons (je_gty (by kernel_rfl) E.b_list ⟨by decide +kernel, by decide⟩) (ja_cons (je_gty (by kernel_rfl) E.b_tuple ⟨by decide +kernel, by decide⟩) ja_nil rfl) rfl)) ja_nil rfl) rfl) rfl) plT_call) (js_cons (js_if (JW.jt (jw_or (jt_cmp jop_ne (je_isinstance E.ok ⟨(by kernel_rfl), E.b_isinstance⟩ (ja_cons (je_var (i := 1) (by kernel_rfl)) (ja_cons (je_gty (by kernel_rfl) E.b_list ⟨by decide +kernel, by decide⟩) ja_nil rfl) rfl) rfl) (je_isinstance E.ok ⟨(by kernel_rfl), E.b_isinstance⟩ (ja_cons (je_var (i := 0) (by kernel_rfl)) (ja_cons (je_gty (by kernel_rfl) E.b_list ⟨by decide +kernel, by decide⟩) ja_nil rfl) rfl) rfl) rfl) (jw_or1 (jt_cmp jop_ne (je_isinstance E.ok ⟨(by kernel_rfl), E.b_isinstance⟩ (ja_cons (je_var (i := 1) (by kernel_rfl)) (ja_cons (je_gty (by kernel_rfl) E.b_tuple ⟨by decide +kernel, by decide⟩) ja_nil rfl) rfl) rfl) (je_isinstance E.ok ⟨(by kernel_rfl), E.b_isinstance⟩ (ja_cons (je_var (i := 0) (by kernel_rfl)) (ja_cons (je_gty (by kernel_rfl) E.b_tuple ⟨by decide +kernel, by decide⟩) ja_nil rfl) rfl) rfl) rfl)))) (js_one (js_ret je_bl)) js_nil)
    (js_one (js_ret (je_and (je_cmp jop_eq (je_len ⟨(by kernel_rfl), E.b_len⟩ (ja_cons (je_var (i := 0) (by kernel_rfl)) ja_nil rfl) rfl) (je_len ⟨(by kernel_rfl), E.b_len⟩ (ja_cons (je_var (i := 1) (by kernel_rfl)) ja_nil rfl) rfl) rfl) (je_one (je_all ⟨(by kernel_rfl), E.b_all⟩ (ja_cons (je_lc (own := [("_law_one", 2), ("_law_other", 3)]) (ji_zip ⟨(by kernel_rfl), E.b_zip⟩ (ja_cons (je_var (i := 0) (by kernel_rfl)) (ja_cons (je_var (i := 1) (by kernel_rfl)) ja_nil rfl) rfl) rfl) (by kernel_rfl) (jgc_tup (jgsc_cons (jgc_name (i := 2) (by kernel_rfl)) (jgsc_cons (jgc_name (i := 3) (by kernel_rfl)) jgsc_nil rfl) rfl) rfl) jts_nil (je_callC h__law_like_2 (by kernel_rfl) (ja_cons (je_var (i := 2) (by kernel_rfl)) (ja_cons (je_var (i := 3) (by kernel_rfl)) ja_nil rfl) rfl) jk_nil rfl rfl) rfl) ja_nil rfl) rfl)))))) js_nil) ?_
  refine js_cons (js_if (jt_val (je_isinstance E.ok ⟨(by kernel_rfl), E.b_isinstance⟩ (ja_cons (je_var (i := 1) (by kernel_rfl)) (ja_cons (je_gty (by kernel_rfl) E.b_int ⟨by decide +kernel, by decide⟩) ja_nil rfl) rfl) rfl) plT_call) (js_one (js_ret (je_and (je_isinstance E.ok ⟨(by kernel_rfl), E.b_isinstance⟩ (ja_cons (je_var (i := 0) (by kernel_rfl)) (ja_cons (je_gty (by kernel_rfl) E.b_int ⟨by decide +kernel, by decide⟩) ja_nil rfl) rfl) rfl) (je_one (je_cmp jop_eq (je_var (i := 0) (by kernel_rfl)) (je_var (i := 1) (by kernel_rfl)) rfl))))) js_nil) ?_
  exact js_one (js_ret (je_and (je_isinstance E.ok ⟨(by kernel_rfl), E.b_isinstance⟩ (ja_cons (je_var (i := 0) (by kernel_rfl)) (ja_cons (je_gty (by kernel_rfl) E.b_str ⟨by decide +kernel, by decide⟩) ja_nil rfl) rfl) rfl) (je_one (je_cmp jop_eq (je_var (i := 0) (by kernel_rfl)) (je_var (i := 1) (by kernel_rfl)) rfl))))
def N__law_names : List Str := ["_law_spool_here", "_law_many", "_law_letters", "_law_names_here", "_law_place", "_law_word", "_law_spot", "_law_words", "_law_k", "_law_one"]
abbrev s__law_names : Stmt := top 35
theorem sc__law_names : FnScope N__law_names ["_law_spool_here", "_law_many"] (defScope s__law_names) := ⟨rfl, rfl, rfl, by decide +kernel, rfl, by decide +kernel, by decide +kernel⟩
def w__law_names (T : Wd) (d__law_pull : DSp) : WS := (wSeq (wAsg (wTup (wCons (wC (.str "abcdefghijklmnopqrstuvwxyz")) (wCons (wLstM wNil) wNil))) (wgTup 2 (wgCons (wgName 2) (wgCons (wgName 3) wgNil))))
    (wSeq (wFor (wRng rng1 (wCons (wVar 1) wNil)) (wgName 4)
    (wSeq (wAsg (wBM "str" joinO (wC (.str "")) (wCons (wLc (wRng rng1 (wCons (wBin addO (wC (.int 1)) (wCal d__law_pull 2 0 (wCons (wVar 0) (wCons (wC (.int 8)) wNil)) wNil)) wNil)) (wgName 8) wYes (wBin itemO (wVar 2) (wCal d__law_pull 2 0 (wCons (wVar 0) (wCons (wC (.int 26)) wNil)) wNil)) [8]) wNil)) (wgName 5))
    (wSeq (wIf (wAndT (wTest (wBin neO (wVar 3) (wLst wNil))) (wTest (wBin eqO (wCal d__law_pull 2 0 (wCons (wVar 0) (wCons (wC (.int 3)) wNil)) wNil) (wC (.int 0))))) (wSeq (wAsg (wCal d__law_pull 2 0 (wCons (wVar 0) (wCons (wCall lenO (wCons (wBin itemO (wVar 3) (wUn negO (wC (.int 1)))) wNil)) wNil)) wNil) (wgName 6))
    (wAsg (wBin addO (wBin addO (wSl (wBin itemO (wVar 3) (wUn negO (wC (.int 1)))) wNoPart (wPart (wVar 6))) (wBin itemO (wVar 2) (wCal d__law_pull 2 0 (wCons (wVar 0) (wCons (wC (.int 26)) wNil)) wNil))) (wSl (wBin itemO (wVar 3) (wUn negO (wC (.int 1)))) (wPart (wBin addO (wVar 6) (wC (.int 1)))) wNoPart)) (wgName 5))) wNext)
    (wSeq (wAsg (wBin addO (wLst (wCons (wVar 5) wNil)) (wLc (wRng rng1 (wCons (wC (.int 8)) wNil)) (wgName 8) wYes (wBin mulA (wBin itemO (wVar 2) (wVar 8)) (wC (.int 7))) [8])) (wgName 7))
    (wDrop (wBM "list" appendO (wVar 3) (wCons (wBin itemO (wLc (wIt (wVar 7)) (wgName 9) (wAndT (wTest (wBin (inO true) (wVar 9) (wVar 3))) (wTest (wBin neO (wVar 9) (wC (.str "key"))))) (wVar 9) [9]) (wC (.int 0))) wNil)))))))
    (wRet (wCall tupleO (wCons (wVar 3) wNil)))))
theorem j__law_names {T : Wd} {lv : Nat} {d__law_pull : DSp} (E : Env T) (h__law_pull_2 : CalOk T lv "_law_pull" d__law_pull 2 []) : JSs (defB T lv N__law_names (defScope s__law_names)) (defBody s__law_names) (w__law_names T d__law_pull) := by
  refine js_cons (js_asg2 (by kernel_rfl) (je_tup (ja_cons je_str (ja_cons (je_lstM ja_nil) ja_nil rfl) rfl)) (jg_tup (jgs_cons (jg_name (i := 2) (by kernel_rfl)) (jgs_cons (jg_name (i := 3) (by kernel_rfl)) jgs_nil rfl) rfl) rfl)) ?_
  refine js_cons (js_for (ji_range1 ⟨(by kernel_rfl), E.b_range⟩ (ja_cons (je_var (i := 1) (by kernel_rfl)) ja_nil rfl) rfl) (jg_name (i := 4) (by kernel_rfl)) (js_cons (js_asg (je_join je_str (ja_cons (je_lc (own := [("_law_k", 8)]) (ji_range1 ⟨(by kernel_rfl), E.b_range⟩ (ja_cons (je_bin jop_add je_int (je_callC h__law_pull_2 (by kernel_rfl) (ja_cons (je_var (i := 0) (by kernel_rfl)) (ja_cons je_int ja_nil rfl) rfl) jk_nil rfl rfl)) ja_nil rfl) rfl) (by kernel_rfl) (jgc_name (i := 8) (by kernel_rfl)) jts_nil (je_ix (je_var (i := 2) (by kernel_rfl)) (je_callC h__law_pull_2 (by kernel_rfl) (ja_cons (je_var (i := 0) (by kernel_rfl)) (ja_cons je_int ja_nil rfl) rfl) jk_nil rfl rfl) pix_call) rfl) ja_nil rfl) rfl ab_const rfl) (jg_name (i := 5) (by kernel_rfl)) rfl rfl rfl)
    (js_cons (js_if (JW.jt (jw_and (jt_cmp jop_ne (je_var (i := 3) (by kernel_rfl)) (je_lst ja_nil) rfl) (jw_and1 (jt_cmp jop_eq (je_callC h__law_pull_2 (by kernel_rfl) (ja_cons (je_var (i := 0) (by kernel_rfl)) (ja_cons je_int ja_nil rfl) rfl) jk_nil rfl rfl) je_int rfl)))) (js_cons (js_asg (je_callC h__law_pull_2 (by kernel_rfl) (ja_cons (je_var (i := 0) (by kernel_rfl)) (ja_cons (je_len ⟨(by kernel_rfl), E.b_len⟩ (ja_cons (je_ix (je_var (i := 3) (by kernel_rfl)) (je_neg je_int) pix_un) ja_nil rfl) rfl) ja_nil rfl) rfl) jk_nil rfl rfl) (jg_name (i := 6) (by kernel_rfl)) rfl rfl rfl)
    (js_one (js_asg (je_bin jop_add (je_bin jop_add (je_sl (je_ix (je_var (i := 3) (by kernel_rfl)) (je_neg je_int) pix_un) jo_none (jo_some (je_var (i := 6) (by kernel_rfl)))) (je_ix (je_var (i := 2) (by kernel_rfl)) (je_callC h__law_pull_2 (by kernel_rfl) (ja_cons (je_var (i := 0) (by kernel_rfl)) (ja_cons je_int ja_nil rfl) rfl) jk_nil rfl rfl) pix_call)) (je_sl (je_ix (je_var (i := 3) (by kernel_rfl)) (je_neg je_int) pix_un) (jo_some (je_bin jop_add (je_var (i := 6) (by kernel_rfl)) je_int)) jo_none)) (jg_name (i := 5) (by kernel_rfl)) rfl rfl rfl))) js_nil)
    (js_cons (js_asg (je_bin jop_add (je_lst (ja_cons (je_var (i := 5) (by kernel_rfl)) ja_nil rfl)) (je_lc (own := [("_law_k", 8)]) (ji_range1 ⟨(by kernel_rfl), E.b_range⟩ (ja_cons je_int ja_nil rfl) rfl) (by kernel_rfl) (jgc_name (i := 8) (by kernel_rfl)) jts_nil (je_bin jop_mulA (je_ix (je_var (i := 2) (by kernel_rfl)) (je_var (i := 8) (by kernel_rfl)) pix_name) je_int) rfl)) (jg_name (i := 7) (by kernel_rfl)) rfl rfl rfl)
    (js_one (js_expr (je_append (je_var (i := 3) (by kernel_rfl)) (ja_cons (je_ix (je_lc (own := [("_law_one", 9)]) (ji_seq (je_var (i := 7) (by kernel_rfl))) (by kernel_rfl) (jgc_name (i := 9) (by kernel_rfl)) (jts_one (JW.jt (jw_and (jt_cmp jop_notin (je_var (i := 9) (by kernel_rfl)) (je_var (i := 3) (by kernel_rfl)) rfl) (jw_and1 (jt_cmp jop_ne (je_var (i := 9) (by kernel_rfl)) je_str rfl))))) (je_var (i := 9) (by kernel_rfl)) rfl) je_int pix_const) ja_nil rfl) rfl ab_name rfl) rfl))))) rfl) ?_
  exact js_one (js_ret (je_tupleC ⟨(by kernel_rfl), E.b_tuple⟩ (ja_cons (je_var (i := 3) (by kernel_rfl)) ja_nil rfl) rfl))
def N__law_cell_drawn : List Str := ["_law_spool_here", "_law_way"]
abbrev s__law_cell_drawn : Stmt := top 36
theorem sc__law_cell_drawn : FnScope N__law_cell_drawn ["_law_spool_here"] (defScope s__law_cell_drawn) := ⟨rfl, rfl, rfl, by decide +kernel, rfl, by decide +kernel, by decide +kernel⟩
def w__law_cell_drawn (T : Wd) (d__law_pull : DSp) : WS := (wSeq (wAsg (wCal d__law_pull 2 0 (wCons (wVar 0) (wCons (wC (.int 5)) wNil)) wNil) (wgName 1))
    (wSeq (wIf (wTest (wBin eqO (wVar 1) (wC (.int 0)))) (wRet (wC .non)) wNext)
    (wSeq (wIf (wTest (wBin eqO (wVar 1) (wC (.int 1)))) (wRet (wCal d__law_pull 2 0 (wCons (wVar 0) (wCons (wC (.int 12)) wNil)) wNil)) wNext)
    (wSeq (wIf (wTest (wBin eqO (wVar 1) (wC (.int 2)))) (wRet (wBin subO (wBin subO (wBin powO (wC (.int 10)) (wC (.int 30))) (wC (.int 1))) (wCal d__law_pull 2 0 (wCons (wVar 0) (wCons (wC (.int 3)) wNil)) wNil))) wNext)
    (wSeq (wIf (wTest (wBin eqO (wVar 1) (wC (.int 3)))) (wRet (wBin addO (wBin mulA (wBin powO (wC (.int 10)) (wC (.int 15))) (wCal d__law_pull 2 0 (wCons (wVar 0) (wCons (wBin powO (wC (.int 10)) (wC (.int 15))) wNil)) wNil)) (wCal d__law_pull 2 0 (wCons (wVar 0) (wCons (wBin powO (wC (.int 10)) (wC (.int 15))) wNil)) wNil))) wNext)
    (wRet (wCal d__law_pull 2 0 (wCons (wVar 0) (wCons (wC (.int 1000)) wNil)) wNil)))))))
theorem j__law_cell_drawn {T : Wd} {lv : Nat} {d__law_pull : DSp} (E : Env T) (h__law_pull_2 : CalOk T lv "_law_pull" d__law_pull 2 []) : JSs (defB T lv N__law_cell_drawn (defScope s__law_cell_drawn)) (defBody s__law_cell_drawn) (w__law_cell_drawn T d__law_pull) := by
  refine js_cons (js_asg (je_callC h__law_pull_2 (by kernel_rfl) (ja_cons (je_var (i := 0) (by kernel_rfl)) (ja_cons je_int ja_nil rfl) rfl) jk_nil rfl rfl) (jg_name (i := 1) (by kernel_rfl)) rfl rfl rfl) ?_
  refine js_cons (js_if (jt_cmp jop_eq (je_var (i := 1) (by kernel_rfl)) je_int rfl) (js_one (js_ret je_non)) js_nil) ?_
  refine js_cons (js_if (jt_cmp jop_eq (je_var (i := 1) (by kernel_rfl)) je_int rfl) (js_one (js_ret (je_callC h__law_pull_2 (by kernel_rfl) (ja_cons (je_var (i := 0) (by kernel_rfl)) (ja_cons je_int ja_nil rfl) rfl) jk_nil rfl rfl))) js_nil) ?_
  refine js_cons (js_if (jt_cmp jop_eq (je_var (i := 1) (by kernel_rfl)) je_int rfl) (js_one (js_ret (je_bin jop_sub (je_bin jop_sub (je_bin jop_pow je_int je_int) je_int) (je_callC h__law_pull_2 (by kernel_rfl) (ja_cons (je_var (i := 0) (by kernel_rfl)) (ja_cons je_int ja_nil rfl) rfl) jk_nil rfl rfl)))) js_nil) ?_
  refine js_cons (js_if (jt_cmp jop_eq (je_var (i := 1) (by kernel_rfl)) je_int rfl) (js_one (js_ret (je_bin jop_add (je_bin jop_mulA (je_bin jop_pow je_int je_int) (je_callC h__law_pull_2 (by kernel_rfl) (ja_cons (je_var (i := 0) (by kernel_rfl)) (ja_cons (je_bin jop_pow je_int je_int) ja_nil rfl) rfl) jk_nil rfl rfl)) (je_callC h__law_pull_2 (by kernel_rfl) (ja_cons (je_var (i := 0) (by kernel_rfl)) (ja_cons (je_bin jop_pow je_int je_int) ja_nil rfl) rfl) jk_nil rfl rfl)))) js_nil) ?_
  exact js_one (js_ret (je_callC h__law_pull_2 (by kernel_rfl) (ja_cons (je_var (i := 0) (by kernel_rfl)) (ja_cons je_int ja_nil rfl) rfl) jk_nil rfl rfl))
def N__law_row : List Str := ["_law_spool_here", "_law_many", "_law_place"]
abbrev s__law_row : Stmt := top 37
theorem sc__law_row : FnScope N__law_row ["_law_spool_here", "_law_many"] (defScope s__law_row) := ⟨rfl, rfl, rfl, by decide +kernel, rfl, by decide +kernel, by decide +kernel⟩
def w__law_row (T : Wd) (d__law_cell_drawn : DSp) : WS := (wRet (wCall tupleO (wCons (wLc (wRng rng1 (wCons (wVar 1) wNil)) (wgName 2) wYes (wCal d__law_cell_drawn 1 0 (wCons (wVar 0) wNil) wNil) [2]) wNil)))
theorem j__law_row {T : Wd} {lv : Nat} {d__law_cell_drawn : DSp} (E : Env T) (h__law_cell_drawn_1 : CalOk T lv "_law_cell_drawn" d__law_cell_drawn 1 []) : JSs (defB T lv N__law_row (defScope s__law_row)) (defBody s__law_row) (w__law_row T d__law_cell_drawn) := by
  exact js_one (js_ret (je_tupleC ⟨(by kernel_rfl), E.b_tuple⟩ (ja_cons (je_lc (own := [("_law_place", 2)]) (ji_range1 ⟨(by kernel_rfl), E.b_range⟩ (ja_cons (je_var (i := 1) (by kernel_rfl)) ja_nil rfl) rfl) (by kernel_rfl) (jgc_name (i := 2) (by kernel_rfl)) jts_nil (je_callC h__law_cell_drawn_1 (by kernel_rfl) (ja_cons (je_var (i := 0) (by kernel_rfl)) ja_nil rfl) jk_nil rfl rfl) rfl) ja_nil rfl) rfl))
def N__law_key : List Str := ["_law_spool_here", "_law_present", "_law_keys", "_law_way"]
abbrev s__law_key : Stmt := top 38
theorem sc__law_key : FnScope N__law_key ["_law_spool_here", "_law_present"] (defScope s__law_key) := ⟨rfl, rfl, rfl, by decide +kernel, rfl, by decide +kernel, by decide +kernel⟩
def w__law_key (T : Wd) (d__law_pull : DSp) : WS := (wSeq (wPar 2 3 (wCons (wCall sortedO (wCons (wCall listKO (wCons (wVar 1) wNil)) wNil)) (wCons (wCal d__law_pull 2 0 (wCons (wVar 0) (wCons (wC (.int 6)) wNil)) wNil) wNil)))
    (wSeq (wIf (wAndT (wTest (wBin ltO (wVar 3) (wC (.int 2)))) (wTest (wBin neO (wVar 2) (wLst wNil)))) (wRet (wBin itemO (wVar 2) (wCal d__law_pull 2 0 (wCons (wVar 0) (wCons (wCall lenO (wCons (wVar 2) wNil)) wNil)) wNil))) wNext)
    (wSeq (wIf (wTest (wBin eqO (wVar 3) (wC (.int 2)))) (wRet (wBin subO (wBin subO (wBin powO (wC (.int 10)) (wC (.int 30))) (wC (.int 1))) (wCal d__law_pull 2 0 (wCons (wVar 0) (wCons (wC (.int 5)) wNil)) wNil))) wNext)
    (wSeq (wIf (wTest (wBin eqO (wVar 3) (wC (.int 3)))) (wRet (wBin addO (wBin addO (wC (.int 1)) (wBin mulA (wBin powO (wC (.int 10)) (wC (.int 14))) (wCal d__law_pull 2 0 (wCons (wVar 0) (wCons (wBin powO (wC (.int 10)) (wC (.int 14))) wNil)) wNil))) (wCal d__law_pull 2 0 (wCons (wVar 0) (wCons (wBin powO (wC (.int 10)) (wC (.int 14))) wNil)) wNil))) wNext)
    (wRet (wBin addO (wC (.int 1)) (wCal d__law_pull 2 0 (wCons (wVar 0) (wCons (wC (.int 30)) wNil)) wNil)))))))
theorem j__law_key {T : Wd} {lv : Nat} {d__law_pull : DSp} (E : Env T) (h__law_pull_2 : CalOk T lv "_law_pull" d__law_pull 2 []) : JSs (defB T lv N__law_key (defScope s__law_key)) (defBody s__law_key) (w__law_key T d__law_pull) := by
  refine js_cons (js_par (i := 2) (j := 3) (by kernel_rfl) (ja_cons (je_sorted ⟨(by kernel_rfl), E.b_sorted⟩ (ja_cons (je_listK ⟨(by kernel_rfl), E.b_list⟩ (ja_cons (je_var (i := 1) (by kernel_rfl)) ja_nil rfl) rfl) ja_nil rfl) rfl) (ja_cons (je_callC h__law_pull_2 (by kernel_rfl) (ja_cons (je_var (i := 0) (by kernel_rfl)) (ja_cons je_int ja_nil rfl) rfl) jk_nil rfl rfl) ja_nil rfl) rfl)) ?_
  refine js_cons (js_if (JW.jt (jw_and (jt_cmp jop_lt (je_var (i := 3) (by kernel_rfl)) je_int rfl) (jw_and1 (jt_cmp jop_ne (je_var (i := 2) (by kernel_rfl)) (je_lst ja_nil) rfl)))) (js_one (js_ret (je_ix (je_var (i := 2) (by kernel_rfl)) (je_callC h__law_pull_2 (by kernel_rfl) (ja_cons (je_var (i := 0) (by kernel_rfl)) (ja_cons (je_len ⟨(by kernel_rfl), E.b_len⟩ (ja_cons (je_var (i := 2) (by kernel_rfl)) ja_nil rfl) rfl) ja_nil rfl) rfl) jk_nil rfl rfl) pix_call))) js_nil) ?_
  refine js_cons (js_if (jt_cmp jop_eq (je_var (i := 3) (by kernel_rfl)) je_int rfl) (js_one (js_ret (je_bin jop_sub (je_bin jop_sub (je_bin jop_pow je_int je_int) je_int) (je_callC h__law_pull_2 (by kernel_rfl) (ja_cons (je_var (i := 0) (by kernel_rfl)) (ja_cons je_int ja_nil rfl) rfl) jk_nil rfl rfl)))) js_nil) ?_
  refine js_cons (js_if (jt_cmp jop_eq (je_var (i := 3) (by kernel_rfl)) je_int rfl) (js_one (js_ret (je_bin jop_add (je_bin jop_add je_int (je_bin jop_mulA (je_bin jop_pow je_int je_int) (je_callC h__law_pull_2 (by kernel_rfl) (ja_cons (je_var (i := 0) (by kernel_rfl)) (ja_cons (je_bin jop_pow je_int je_int) ja_nil rfl) rfl) jk_nil rfl rfl))) (je_callC h__law_pull_2 (by kernel_rfl) (ja_cons (je_var (i := 0) (by kernel_rfl)) (ja_cons (je_bin jop_pow je_int je_int) ja_nil rfl) rfl) jk_nil rfl rfl)))) js_nil) ?_
  exact js_one (js_ret (je_bin jop_add je_int (je_callC h__law_pull_2 (by kernel_rfl) (ja_cons (je_var (i := 0) (by kernel_rfl)) (ja_cons je_int ja_nil rfl) rfl) jk_nil rfl rfl)))
def N__law_told : List Str := ["_law_kept", "_law_key_here"]
abbrev s__law_told : Stmt := top 39
theorem sc__law_told : FnScope N__law_told ["_law_kept"] (defScope s__law_told) := ⟨rfl, rfl, rfl, by decide +kernel, rfl, by decide +kernel, by decide +kernel⟩
def w__law_told (T : Wd) : WS := (wRet (wLc (wIt (wCall sortedO (wCons (wCall listKO (wCons (wVar 0) wNil)) wNil))) (wgName 1) wYes (wTup (wCons (wVar 1) (wCons (wBin itemO (wVar 0) (wVar 1)) wNil))) [1]))
theorem j__law_told {T : Wd} {lv : Nat} (E : Env T) : JSs (defB T lv N__law_told (defScope s__law_told)) (defBody s__law_told) (w__law_told T) := by
  exact js_one (js_ret (je_lc (own := [("_law_key_here", 1)]) (ji_seq (je_sorted ⟨(by kernel_rfl), E.b_sorted⟩ (ja_cons (je_listK ⟨(by kernel_rfl), E.b_list⟩ (ja_cons (je_var (i := 0) (by kernel_rfl)) ja_nil rfl) rfl) ja_nil rfl) rfl)) (by kernel_rfl) (jgc_name (i := 1) (by kernel_rfl)) jts_nil (je_tup (ja_cons (je_var (i := 1) (by kernel_rfl)) (ja_cons (je_ix (je_var (i := 0) (by kernel_rfl)) (je_var (i := 1) (by kernel_rfl)) pix_name) ja_nil rfl) rfl)) rfl))
def N__law_model : List Str := ["_law_spool_here", "_law_many", "_law_most", "_law_kept", "_law_k", "_law_key_here"]
abbrev s__law_model : Stmt := top 40
theorem sc__law_model : FnScope N__law_model ["_law_spool_here", "_law_many", "_law_most"] (defScope s__law_model) := ⟨rfl, rfl, rfl, by decide +kernel, rfl, by decide +kernel, by decide +kernel⟩
def w__law_model (T : Wd) (d__law_key : DSp) (d__law_pull : DSp) (d__law_row : DSp) : WS := (wSeq (wAsg wDicN (wgName 3))
    (wSeq (wFor (wRng rng1 (wCons (wCal d__law_pull 2 0 (wCons (wVar 0) (wCons (wBin addO (wVar 2) (wC (.int 1))) wNil)) wNil) wNil)) (wgName 4)
    (wSeq (wAsg (wCal d__law_key 2 0 (wCons (wVar 0) (wCons (wVar 3) wNil)) wNil) (wgName 5))
    (wAsg (wCal d__law_row 2 0 (wCons (wVar 0) (wCons (wVar 1) wNil)) wNil) (wgSub (wVar 3) (wVar 5)))))
    (wRet (wFrzE (wVar 3)))))
theorem j__law_model {T : Wd} {lv : Nat} {d__law_key : DSp} {d__law_pull : DSp} {d__law_row : DSp} (E : Env T) (h__law_pull_2 : CalOk T lv "_law_pull" d__law_pull 2 []) (h__law_key_2 : CalOk T lv "_law_key" d__law_key 2 []) (h__law_row_2 : CalOk T lv "_law_row" d__law_row 2 []) : JSs (defB T lv N__law_model (defScope s__law_model)) (defBody s__law_model) (w__law_model T d__law_key d__law_pull d__law_row) := by
  refine js_cons (js_asg je_dicN (jg_name (i := 3) (by kernel_rfl)) rfl rfl rfl) ?_
  refine js_cons (js_for (ji_range1 ⟨(by kernel_rfl), E.b_range⟩ (ja_cons (je_callC h__law_pull_2 (by kernel_rfl) (ja_cons (je_var (i := 0) (by kernel_rfl)) (ja_cons (je_bin jop_add (je_var (i := 2) (by kernel_rfl)) je_int) ja_nil rfl) rfl) jk_nil rfl rfl) ja_nil rfl) rfl) (jg_name (i := 4) (by kernel_rfl)) (js_cons (js_asg (je_callC h__law_key_2 (by kernel_rfl) (ja_cons (je_var (i := 0) (by kernel_rfl)) (ja_cons (je_var (i := 3) (by kernel_rfl)) ja_nil rfl) rfl) jk_nil rfl rfl) (jg_name (i := 5) (by kernel_rfl)) rfl rfl rfl)
    (js_one (js_asg (je_callC h__law_row_2 (by kernel_rfl) (ja_cons (je_var (i := 0) (by kernel_rfl)) (ja_cons (je_var (i := 1) (by kernel_rfl)) ja_nil rfl) rfl) jk_nil rfl rfl) (jg_sub (je_var (i := 3) (by kernel_rfl)) (je_var (i := 5) (by kernel_rfl)) (ss_name _ _)) rfl rfl rfl))) rfl) ?_
  exact js_one (js_ret (je_frzE (je_var (i := 3) (by kernel_rfl))))
def N__law_made : List Str := ["_law_heads", "_law_kept", "_law_keys", "_law_store", "_law_key_here"]
abbrev s__law_made : Stmt := top 41
theorem sc__law_made : FnScope N__law_made ["_law_heads", "_law_kept", "_law_keys"] (defScope s__law_made) := ⟨rfl, rfl, rfl, by decide +kernel, rfl, by decide +kernel, by decide +kernel⟩
def w__law_made (T : Wd) (d_Store_s1 : DSp) (d_Store_setitem : DSp) : WS := (wSeq (wAsg (wCal d_Store_s1 1 0 (wCons (wVar 0) wNil) wNil) (wgName 3))
    (wSeq (wFor (wIt (wVar 2)) (wgName 4)
    (wAsg (wBin itemO (wVar 1) (wVar 4)) (wgSubOwn "Store" d_Store_setitem (wVar 3) (wVar 4))))
    (wRet (wVar 3))))
theorem j__law_made {T : Wd} {lv : Nat} {d_Store_s1 : DSp} {d_Store_setitem : DSp} (E : Env T) (h_Store_1 : CalOk T lv "Store" d_Store_s1 1 []) (h_Store_setitem : SetOk T lv "Store" d_Store_setitem) : JSs (defB T lv N__law_made (defScope s__law_made)) (defBody s__law_made) (w__law_made T d_Store_s1 d_Store_setitem) := by
  refine js_cons (js_asg (je_callC h_Store_1 (by kernel_rfl) (ja_cons (je_var (i := 0) (by kernel_rfl)) ja_nil rfl) jk_nil rfl rfl) (jg_name (i := 3) (by kernel_rfl)) rfl rfl rfl) ?_
  refine js_cons (js_for (ji_seq (je_var (i := 2) (by kernel_rfl))) (jg_name (i := 4) (by kernel_rfl)) (js_one (js_asg (je_ix (je_var (i := 1) (by kernel_rfl)) (je_var (i := 4) (by kernel_rfl)) pix_name) (jg_subOwn h_Store_setitem (je_var (i := 3) (by kernel_rfl)) (je_var (i := 4) (by kernel_rfl)) (ss_name _ _)) rfl rfl rfl)) rfl) ?_
  exact js_one (js_ret (je_var (i := 3) (by kernel_rfl)))
def N__law_number_near : List Str := ["_law_spool_here", "_law_grain", "_law_way"]
abbrev s__law_number_near : Stmt := top 42
theorem sc__law_number_near : FnScope N__law_number_near ["_law_spool_here", "_law_grain"] (defScope s__law_number_near) := ⟨rfl, rfl, rfl, by decide +kernel, rfl, by decide +kernel, by decide +kernel⟩
def w__law_number_near (T : Wd) (d__law_pull : DSp) : WS := (wSeq (wAsg (wCal d__law_pull 2 0 (wCons (wVar 0) (wCons (wC (.int 6)) wNil)) wNil) (wgName 2))
    (wSeq (wIf (wTest (wBin eqO (wVar 2) (wC (.int 0)))) (wRet (wBin subO (wBin subO (wBin powO (wC (.int 10)) (wC (.int 30))) (wC (.int 1))) (wCal d__law_pull 2 0 (wCons (wVar 0) (wCons (wC (.int 3)) wNil)) wNil))) wNext)
    (wSeq (wIf (wTest (wBin eqO (wVar 2) (wC (.int 1)))) (wRet (wBin addO (wBin mulA (wBin powO (wC (.int 10)) (wC (.int 15))) (wCal d__law_pull 2 0 (wCons (wVar 0) (wCons (wBin powO (wC (.int 10)) (wC (.int 15))) wNil)) wNil)) (wCal d__law_pull 2 0 (wCons (wVar 0) (wCons (wBin powO (wC (.int 10)) (wC (.int 15))) wNil)) wNil))) wNext)
    (wSeq (wIf (wTest (wBin eqO (wVar 2) (wC (.int 2)))) (wRet (wCal d__law_pull 2 0 (wCons (wVar 0) (wCons (wC (.int 30)) wNil)) wNil)) wNext)
    (wRet (wBin addO (wBin mulA (wCal d__law_pull 2 0 (wCons (wVar 0) (wCons (wC (.int 6)) wNil)) wNil) (wVar 1)) (wBin itemO (wLst (wCons (wC (.int 0)) (wCons (wC (.int 0)) (wCons (wC (.int 1)) (wCons (wC (.int 1)) (wCons (wC (.int 2)) (wCons (wBin subO (wVar 1) (wC (.int 1))) wNil))))))) (wCal d__law_pull 2 0 (wCons (wVar 0) (wCons (wC (.int 6)) wNil)) wNil))))))))
theorem j__law_number_near {T : Wd} {lv : Nat} {d__law_pull : DSp} (E : Env T) (h__law_pull_2 : CalOk T lv "_law_pull" d__law_pull 2 []) : JSs (defB T lv N__law_number_near (defScope s__law_number_near)) (defBody s__law_number_near) (w__law_number_near T d__law_pull) := by
  refine js_cons (js_asg (je_callC h__law_pull_2 (by kernel_rfl) (ja_cons (je_var (i := 0) (by kernel_rfl)) (ja_cons je_int ja_nil rfl) rfl) jk_nil rfl rfl) (jg_name (i := 2) (by kernel_rfl)) rfl rfl rfl) ?_
  refine js_cons (js_if (jt_cmp jop_eq (je_var (i := 2) (by kernel_rfl)) je_int rfl) (js_one (js_ret (je_bin jop_sub (je_bin jop_sub (je_bin jop_pow je_int je_int) je_int) (je_callC h__law_pull_2 (by kernel_rfl) (ja_cons (je_var (i := 0) (by kernel_rfl)) (ja_cons je_int ja_nil rfl) rfl) jk_nil rfl rfl)))) js_nil) ?_
  refine js_cons (js_if (jt_cmp jop_eq (je_var (i := 2) (by kernel_rfl)) je_int rfl) (js_one (js_ret (je_bin jop_add (je_bin jop_mulA (je_bin jop_pow je_int je_int) (je_callC h__law_pull_2 (by kernel_rfl) (ja_cons (je_var (i := 0) (by kernel_rfl)) (ja_cons (je_bin jop_pow je_int je_int) ja_nil rfl) rfl) jk_nil rfl rfl)) (je_callC h__law_pull_2 (by kernel_rfl) (ja_cons (je_var (i := 0) (by kernel_rfl)) (ja_cons (je_bin jop_pow je_int je_int) ja_nil rfl) rfl) jk_nil rfl rfl)))) js_nil) ?_
  refine js_cons (js_if (jt_cmp jop_eq (je_var (i := 2) (by kernel_rfl)) je_int rfl) (js_one (js_ret (je_callC h__law_pull_2 (by kernel_rfl) (ja_cons (je_var (i := 0) (by kernel_rfl)) (ja_cons je_int ja_nil rfl) rfl) jk_nil rfl rfl))) js_nil) ?_
  exact js_one (js_ret (je_bin jop_add (je_bin jop_mulA (je_callC h__law_pull_2 (by kernel_rfl) (ja_cons (je_var (i := 0) (by kernel_rfl)) (ja_cons je_int ja_nil rfl) rfl) jk_nil rfl rfl) (je_var (i := 1) (by kernel_rfl))) (je_ix (je_lst (ja_cons je_int (ja_cons je_int (ja_cons je_int (ja_cons je_int (ja_cons je_int (ja_cons (je_bin jop_sub (je_var (i := 1) (by kernel_rfl)) je_int) ja_nil rfl) rfl) rfl) rfl) rfl) rfl)) (je_callC h__law_pull_2 (by kernel_rfl) (ja_cons (je_var (i := 0) (by kernel_rfl)) (ja_cons je_int ja_nil rfl) rfl) jk_nil rfl rfl) pix_call)))
def N__law_some : List Str := ["_law_spool_here", "_law_names_here", "_law_out_of", "_law_name"]
abbrev s__law_some : Stmt := top 43
theorem sc__law_some : FnScope N__law_some ["_law_spool_here", "_law_names_here", "_law_out_of"] (defScope s__law_some) := ⟨rfl, rfl, rfl, by decide +kernel, rfl, by decide +kernel, by decide +kernel⟩
def w__law_some (T : Wd) (d__law_pull : DSp) : WS := (wRet (wLcM (wIt (wVar 1)) (wgName 3) (wTest (wBin eqO (wCal d__law_pull 2 0 (wCons (wVar 0) (wCons (wVar 2) wNil)) wNil) (wC (.int 0)))) (wVar 3) [3]))
theorem j__law_some {T : Wd} {lv : Nat} {d__law_pull : DSp} (E : Env T) (h__law_pull_2 : CalOk T lv "_law_pull" d__law_pull 2 []) : JSs (defB T lv N__law_some (defScope s__law_some)) (defBody s__law_some) (w__law_some T d__law_pull) := by
  exact js_one (js_ret (je_lcM (own := [("_law_name", 3)]) (ji_seq (je_var (i := 1) (by kernel_rfl))) (by kernel_rfl) (jgc_name (i := 3) (by kernel_rfl)) (jts_one (jt_cmp jop_eq (je_callC h__law_pull_2 (by kernel_rfl) (ja_cons (je_var (i := 0) (by kernel_rfl)) (ja_cons (je_var (i := 2) (by kernel_rfl)) ja_nil rfl) rfl) jk_nil rfl rfl) je_int rfl)) (je_var (i := 3) (by kernel_rfl)) rfl))
def N__law_mean : List Str := ["_law_spool_here", "_law_columns", "_law_words", "_law_strange", "_law_fields", "_law_left", "_law_stamp", "_law_one", "_law_name"]
abbrev s__law_mean : Stmt := top 44
theorem sc__law_mean : FnScope N__law_mean ["_law_spool_here", "_law_columns"] (defScope s__law_mean) := ⟨rfl, rfl, rfl, by decide +kernel, rfl, by decide +kernel, by decide +kernel⟩
def w__law_mean_8 (T : Wd) (d__law_pull : DSp) (d__law_some : DSp) : WS := (wRet (wTup (wCons (wCall tupleO (wCons (wRevL (wVar 4)) wNil)) (wCons (wBin eqO (wCal d__law_pull 2 0 (wCons (wVar 0) (wCons (wC (.int 3)) wNil)) wNil) (wC (.int 0))) (wCons (wBin eqO (wCal d__law_pull 2 0 (wCons (wVar 0) (wCons (wC (.int 3)) wNil)) wNil) (wC (.int 0))) (wCons (wVar 6) wNil))))))
def w__law_mean_7 (T : Wd) (d__law_pull : DSp) (d__law_some : DSp) : WS := (wSeq (wIf (wTest (wBin (inO false) (wVar 6) (wVar 4))) (wAsg (wC .non) (wgName 6)) wNext)
    (w__law_mean_8 T d__law_pull d__law_some))
def w__law_mean_6 (T : Wd) (d__law_pull : DSp) (d__law_some : DSp) : WS := (wSeq (wAsg (wBin itemO (wVar 5) (wCal d__law_pull 2 0 (wCons (wVar 0) (wCons (wCall lenO (wCons (wVar 5) wNil)) wNil)) wNil)) (wgName 6))
    (w__law_mean_7 T d__law_pull d__law_some))
def w__law_mean_5 (T : Wd) (d__law_pull : DSp) (d__law_some : DSp) : WS := (wSeq (wAsg (wBin addO (wVar 5) (wLst (wCons (wC .non) (wCons (wC .non) (wCons (wBin itemO (wVar 3) (wUn negO (wC (.int 1)))) wNil))))) (wgName 5))
    (w__law_mean_6 T d__law_pull d__law_some))
def w__law_mean_4 (T : Wd) (d__law_pull : DSp) (d__law_some : DSp) : WS := (wSeq (wAsg (wLc (wIt (wVar 1)) (wgName 8) (wTest (wBin (inO true) (wVar 8) (wVar 4))) (wVar 8) [8]) (wgName 5))
    (w__law_mean_5 T d__law_pull d__law_some))
def w__law_mean_3 (T : Wd) (d__law_pull : DSp) (d__law_some : DSp) : WS := (wSeq (wIf (wTest (wBin eqO (wCal d__law_pull 2 0 (wCons (wVar 0) (wCons (wC (.int 4)) wNil)) wNil) (wC (.int 0)))) (wDrop (wBM "list" appendO (wVar 4) (wCons (wBin itemO (wVar 3) (wC (.int 0))) wNil))) wNext)
    (w__law_mean_4 T d__law_pull d__law_some))
def w__law_mean_2 (T : Wd) (d__law_pull : DSp) (d__law_some : DSp) : WS := (wSeq (wAsg (wCal d__law_some 3 0 (wCons (wVar 0) (wCons (wCall listO (wCons (wVar 1) wNil)) (wCons (wC (.int 2)) wNil))) wNil) (wgName 4))
    (w__law_mean_3 T d__law_pull d__law_some))
def w__law_mean_1 (T : Wd) (d__law_pull : DSp) (d__law_some : DSp) : WS := (wSeq (wAsg (wLc (wIt (wVar 2)) (wgName 7) (wTest (wBin (inO true) (wVar 7) (wVar 1))) (wVar 7) [7]) (wgName 3))
    (w__law_mean_2 T d__law_pull d__law_some))
def w__law_mean (T : Wd) (d__law_pull : DSp) (d__law_some : DSp) : WS := (wSeq (wAsg (wLst (wCons (wC (.str "ghost")) (wCons (wC (.str "phantom")) (wCons (wC (.str "spectre")) (wCons (wC (.str "wraith")) (wCons (wC (.str "spook")) (wCons (wC (.str "shade")) (wCons (wC (.str "banshee")) wNil)))))))) (wgName 2))
    (w__law_mean_1 T d__law_pull d__law_some))
theorem j__law_mean {T : Wd} {lv : Nat} {d__law_pull : DSp} {d__law_some : DSp} (E : Env T) (h__law_some_3 : CalOk T lv "_law_some" d__law_some 3 []) (h__law_pull_2 : CalOk T lv "_law_pull" d__law_pull 2 []) : JSs (defB T lv N__law_mean (defScope s__law_mean)) (defBody s__law_mean) (w__law_mean T d__law_pull d__law_some) := by
  refine js_cons (js_asg (je_lst (ja_cons je_str (ja_cons je_str (ja_cons je_str (ja_cons je_str (ja_cons je_str (ja_cons je_str (ja_cons je_str ja_nil rfl) rfl) rfl) rfl) rfl) rfl) rfl)) (jg_name (i := 2) (by kernel_rfl)) rfl rfl rfl) ?_
  refine js_cons (js_setLc (i := 3) (own := [("_law_one", 7)]) (by kernel_rfl) (ji_seq (je_var (i := 2) (by kernel_rfl))) (by kernel_rfl) (jgc_name (i := 7) (by kernel_rfl)) (jts_one (jt_cmp jop_notin (je_var (i := 7) (by kernel_rfl)) (je_var (i := 1) (by kernel_rfl)) rfl)) (je_var (i := 7) (by kernel_rfl)) rfl) ?_
  refine js_cons (js_asg (je_callC h__law_some_3 (by kernel_rfl) (ja_cons (je_var (i := 0) (by kernel_rfl)) (ja_cons (je_listC ⟨(by kernel_rfl), E.b_list⟩ (ja_cons (je_var (i := 1) (by kernel_rfl)) ja_nil rfl) rfl) (ja_cons je_int ja_nil rfl) rfl) rfl) jk_nil rfl rfl) (jg_name (i := 4) (by kernel_rfl)) rfl rfl rfl) ?_
  refine js_cons (js_if (jt_cmp jop_eq (je_callC h__law_pull_2 (by kernel_rfl) (ja_cons (je_var (i := 0) (by kernel_rfl)) (ja_cons je_int ja_nil rfl) rfl) jk_nil rfl rfl) je_int rfl) (js_one (js_expr (je_append (je_var (i := 4) (by kernel_rfl)) (ja_cons (je_ix (je_var (i := 3) (by kernel_rfl)) je_int pix_const) ja_nil rfl) rfl ab_name rfl) rfl)) js_nil) ?_
  refine js_cons (js_setLc (i := 5) (own := [("_law_name", 8)]) (by kernel_rfl) (ji_seq (je_var (i := 1) (by kernel_rfl))) (by kernel_rfl) (jgc_name (i := 8) (by kernel_rfl)) (jts_one (jt_cmp jop_notin (je_var (i := 8) (by kernel_rfl)) (je_var (i := 4) (by kernel_rfl)) rfl)) (je_var (i := 8) (by kernel_rfl)) rfl) ?_
  refine js_cons (js_asg (je_bin jop_add (je_var (i := 5) (by kernel_rfl)) (je_lst (ja_cons je_non (ja_cons je_non (ja_cons (je_ix (je_var (i := 3) (by kernel_rfl)) (je_neg je_int) pix_un) ja_nil rfl) rfl) rfl))) (jg_name (i := 5) (by kernel_rfl)) rfl rfl rfl) ?_
  refine js_cons (js_asg (je_ix (je_var (i := 5) (by kernel_rfl)) (je_callC h__law_pull_2 (by kernel_rfl) (ja_cons (je_var (i := 0) (by kernel_rfl)) (ja_cons (je_len ⟨(by kernel_rfl), E.b_len⟩ (ja_cons (je_var (i := 5) (by kernel_rfl)) ja_nil rfl) rfl) ja_nil rfl) rfl) jk_nil rfl rfl) pix_call) (jg_name (i := 6) (by kernel_rfl)) rfl rfl rfl) ?_
  refine js_cons (js_if (jt_cmp jop_in (je_var (i := 6) (by kernel_rfl)) (je_var (i := 4) (by kernel_rfl)) rfl) (js_one (js_asg je_non (jg_name (i := 6) (by kernel_rfl)) rfl rfl rfl)) js_nil) ?_
  exact js_one (js_ret (je_tup (ja_cons (je_tupleC ⟨(by kernel_rfl), E.b_tuple⟩ (ja_cons (je_revL (je_var (i := 4) (by kernel_rfl))) ja_nil rfl) rfl) (ja_cons (je_cmp jop_eq (je_callC h__law_pull_2 (by kernel_rfl) (ja_cons (je_var (i := 0) (by kernel_rfl)) (ja_cons je_int ja_nil rfl) rfl) jk_nil rfl rfl) je_int rfl) (ja_cons (je_cmp jop_eq (je_callC h__law_pull_2 (by kernel_rfl) (ja_cons (je_var (i := 0) (by kernel_rfl)) (ja_cons je_int ja_nil rfl) rfl) jk_nil rfl rfl) je_int rfl) (ja_cons (je_var (i := 6) (by kernel_rfl)) ja_nil rfl) rfl) rfl) rfl)))
def N__law_cell_near : List Str := ["_law_spool_here", "_law_plan", "_law_name", "_law_numbers", "_law_number", "_law_grain", "_law_low", "_law_some_here", "_law_test"]
abbrev s__law_cell_near : Stmt := top 45
theorem sc__law_cell_near : FnScope N__law_cell_near ["_law_spool_here", "_law_plan", "_law_name"] (defScope s__law_cell_near) := ⟨rfl, rfl, rfl, by decide +kernel, rfl, by decide +kernel, by decide +kernel⟩
def w__law_cell_near (T : Wd) (d__law_number_near : DSp) (d__law_pull : DSp) : WS := (wSeq (wIf (wTest (wBin eqO (wCal d__law_pull 2 0 (wCons (wVar 0) (wCons (wC (.int 5)) wNil)) wNil) (wC (.int 0)))) (wRet (wC .non)) wNext)
    (wSeq (wAsg (wBin addO (wLst (wCons (wC (.int 0)) wNil)) (wLc (wIt (wBin itemO (wVar 1) (wC (.str "tests")))) (wgName 8) (wAndT (wTest (wBin eqO (wBin itemO (wVar 8) (wC (.int 1))) (wVar 2))) (wAndT (wTest (wBin eqO (wCall lenO (wCons (wVar 8) wNil)) (wC (.int 3)))) (wTest (wBin notNO (wBin itemO (wVar 8) (wC (.int 2))) (wC .non))))) (wBin itemO (wVar 8) (wC (.int 2))) [8])) (wgName 3))
    (wSeq (wPar 4 5 (wCons (wBin itemO (wVar 3) (wCal d__law_pull 2 0 (wCons (wVar 0) (wCons (wCall lenO (wCons (wVar 3) wNil)) wNil)) wNil)) (wCons (wBW "dict" dgetO (wFrzE (wCall dictO (wCons (wBin itemO (wVar 1) (wC (.str "shown"))) wNil))) (wCons (wVar 2) (wCons (wC (.int 1)) wNil))) wNil)))
    (wSeq (wAsg (wBin mulA (wBin fdivO (wVar 4) (wVar 5)) (wVar 5)) (wgName 6))
    (wSeq (wAsg (wLst (wCons (wVar 4) (wCons (wBin addO (wVar 4) (wC (.int 1))) (wCons (wBin subO (wVar 4) (wC (.int 1))) (wCons (wVar 6) (wCons (wBin addO (wVar 6) (wC (.int 1))) (wCons (wBin addO (wVar 6) (wVar 5)) (wCons (wBin addO (wBin addO (wVar 6) (wVar 5)) (wC (.int 1))) (wCons (wBin addO (wVar 6) (wBin mulA (wC (.int 2)) (wVar 5))) wNil))))))))) (wgName 7))
    (wSeq (wAsg (wBin addO (wVar 7) (wLst (wCons (wCal d__law_number_near 2 0 (wCons (wVar 0) (wCons (wVar 5) wNil)) wNil) (wCons (wVar 4) (wCons (wVar 6) wNil))))) (wgName 7))
    (wRet (wCall max2C (wCons (wC (.int 0)) (wCons (wCall min2C (wCons (wBin subO (wBin powO (wC (.int 10)) (wC (.int 30))) (wC (.int 1))) (wCons (wBin itemO (wVar 7) (wCal d__law_pull 2 0 (wCons (wVar 0) (wCons (wCall lenO (wCons (wVar 7) wNil)) wNil)) wNil)) wNil))) wNil))))))))))
theorem j__law_cell_near {T : Wd} {lv : Nat} {d__law_number_near : DSp} {d__law_pull : DSp} (E : Env T) (h__law_pull_2 : CalOk T lv "_law_pull" d__law_pull 2 []) (h__law_number_near_2 : CalOk T lv "_law_number_near" d__law_number_near 2 []) : JSs (defB T lv N__law_cell_near (defScope s__law_cell_near)) (defBody s__law_cell_near) (w__law_cell_near T d__law_number_near d__law_pull) := by
  refine js_cons (js_if (jt_cmp jop_eq (je_callC h__law_pull_2 (by kernel_rfl) (ja_cons (je_var (i := 0) (by kernel_rfl)) (ja_cons je_int ja_nil rfl) rfl) jk_nil rfl rfl) je_int rfl) (js_one (js_ret je_non)) js_nil) ?_
  refine js_cons (js_asg (je_bin jop_add (je_lst (ja_cons je_int ja_nil rfl)) (je_lc (own := [("_law_test", 8)]) (ji_seq (je_ix (je_var (i := 1) (by kernel_rfl)) je_str pix_const)) (by kernel_rfl) (jgc_name (i := 8) (by kernel_rfl)) (jts_one (JW.jt (jw_and (jt_cmp jop_eq (je_ix (je_var (i := 8) (by kernel_rfl)) je_int pix_const) (je_var (i := 2) (by kernel_rfl)) rfl) (jw_and (jt_cmp jop_eq (je_len ⟨(by kernel_rfl), E.b_len⟩ (ja_cons (je_var (i := 8) (by kernel_rfl)) ja_nil rfl) rfl) je_int rfl) (jw_and1 (jt_cmp jop_isnot (je_ix (je_var (i := 8) (by kernel_rfl)) je_int pix_const) je_non rfl)))))) (je_ix (je_var (i := 8) (by kernel_rfl)) je_int pix_const) rfl)) (jg_name (i := 3) (by kernel_rfl)) rfl rfl rfl) ?_
  refine js_cons (js_par (i := 4) (j := 5) (by kernel_rfl) (ja_cons (je_ix (je_var (i := 3) (by kernel_rfl)) (je_callC h__law_pull_2 (by kernel_rfl) (ja_cons (je_var (i := 0) (by kernel_rfl)) (ja_cons (je_len ⟨(by kernel_rfl), E.b_len⟩ (ja_cons (je_var (i := 3) (by kernel_rfl)) ja_nil rfl) rfl) ja_nil rfl) rfl) jk_nil rfl rfl) pix_call) (ja_cons (je_dget (je_frzE (je_dictC ⟨(by kernel_rfl), E.b_dict⟩ (ja_cons (je_ix (je_var (i := 1) (by kernel_rfl)) je_str pix_const) ja_nil rfl) rfl)) (ja_cons (je_var (i := 2) (by kernel_rfl)) (ja_cons je_int ja_nil rfl) rfl) rfl ab_callN (by decide) rfl) ja_nil rfl) rfl)) ?_
  refine js_cons (js_asg (je_bin jop_mulA (je_bin jop_fdiv (je_var (i := 4) (by kernel_rfl)) (je_var (i := 5) (by kernel_rfl))) (je_var (i := 5) (by kernel_rfl))) (jg_name (i := 6) (by kernel_rfl)) rfl rfl rfl) ?_
  refine js_cons (js_asg (je_lst (ja_cons (je_var (i := 4) (by kernel_rfl)) (ja_cons (je_bin jop_add (je_var (i := 4) (by kernel_rfl)) je_int) (ja_cons (je_bin jop_sub (je_var (i := 4) (by kernel_rfl)) je_int) (ja_cons (je_var (i := 6) (by kernel_rfl)) (ja_cons (je_bin jop_add (je_var (i := 6) (by kernel_rfl)) je_int) (ja_cons (je_bin jop_add (je_var (i := 6) (by kernel_rfl)) (je_var (i := 5) (by kernel_rfl))) (ja_cons (je_bin jop_add (je_bin jop_add (je_var (i := 6) (by kernel_rfl)) (je_var (i := 5) (by kernel_rfl))) je_int) (ja_cons (je_bin jop_add (je_var (i := 6) (by kernel_rfl)) (je_bin jop_mulA je_int (je_var (i := 5) (by kernel_rfl)))) ja_nil rfl) rfl) rfl) rfl) rfl) rfl) rfl) rfl)) (jg_name (i := 7) (by kernel_rfl)) rfl rfl rfl) ?_
  refine js_cons (js_asg (je_bin jop_add (je_var (i := 7) (by kernel_rfl)) (je_lst (ja_cons (je_callC h__law_number_near_2 (by kernel_rfl) (ja_cons (je_var (i := 0) (by kernel_rfl)) (ja_cons (je_var (i := 5) (by kernel_rfl)) ja_nil rfl) rfl) jk_nil rfl rfl) (ja_cons (je_var (i := 4) (by kernel_rfl)) (ja_cons (je_var (i := 6) (by kernel_rfl)) ja_nil rfl) rfl) rfl))) (jg_name (i := 7) (by kernel_rfl)) rfl rfl rfl) ?_
  exact js_one (js_ret (je_max ⟨(by kernel_rfl), E.b_max⟩ (ja_cons je_int (ja_cons (je_min ⟨(by kernel_rfl), E.b_min⟩ (ja_cons (je_bin jop_sub (je_bin jop_pow je_int je_int) je_int) (ja_cons (je_ix (je_var (i := 7) (by kernel_rfl)) (je_callC h__law_pull_2 (by kernel_rfl) (ja_cons (je_var (i := 0) (by kernel_rfl)) (ja_cons (je_len ⟨(by kernel_rfl), E.b_len⟩ (ja_cons (je_var (i := 7) (by kernel_rfl)) ja_nil rfl) rfl) ja_nil rfl) rfl) jk_nil rfl rfl) pix_call) ja_nil rfl) rfl) rfl) ja_nil rfl) rfl) rfl))
def N__law_later : List Str := ["_law_spool_here", "_law_plan", "_law_mean_here", "_law_row_here", "_law_columns", "_law_cells", "_law_place", "_law_old"]
abbrev s__law_later : Stmt := top 47
theorem sc__law_later : FnScope N__law_later ["_law_spool_here", "_law_plan", "_law_mean_here", "_law_row_here"] (defScope s__law_later) := ⟨rfl, rfl, rfl, by decide +kernel, rfl, by decide +kernel, by decide +kernel⟩
def w__law_later_3 (T : Wd) (d__law_cell_near : DSp) (d__law_number_near : DSp) (d__law_pull : DSp) : WS := (wRet (wCall tupleO (wCons (wVar 5) wNil)))
def w__law_later_2 (T : Wd) (d__law_cell_near : DSp) (d__law_number_near : DSp) (d__law_pull : DSp) : WS := (wSeq (wIf (wAndT (wTest (wBin (inO false) (wBin itemO (wVar 2) (wC (.int 3))) (wVar 4))) (wTest (wBin neO (wCall tupleO (wCons (wVar 5) wNil)) (wVar 3)))) (wSeq (wAsg (wBW "tuple" tupIdxO (wVar 4) (wCons (wBin itemO (wVar 2) (wC (.int 3))) wNil)) (wgName 6))
    (wSeq (wAsg (wBin itemO (wVar 3) (wVar 6)) (wgName 7))
    (wIf (wTest (wBin isNO (wVar 7) (wC .non))) (wAsg (wCal d__law_number_near 2 0 (wCons (wVar 0) (wCons (wBW "dict" dgetO (wFrzE (wCall dictO (wCons (wBin itemO (wVar 1) (wC (.str "shown"))) wNil))) (wCons (wBin itemO (wVar 2) (wC (.int 3))) (wCons (wC (.int 1)) wNil))) wNil)) wNil) (wgSub (wVar 5) (wVar 6))) (wIf (wTest (wBin eqO (wVar 7) (wBin subO (wBin powO (wC (.int 10)) (wC (.int 30))) (wC (.int 1))))) (wRet (wVar 3)) (wAsg (wCall min2C (wCons (wBin subO (wBin powO (wC (.int 10)) (wC (.int 30))) (wC (.int 1))) (wCons (wBin addO (wBin addO (wVar 7) (wC (.int 1))) (wCal d__law_pull 2 0 (wCons (wVar 0) (wCons (wC (.int 12)) wNil)) wNil)) wNil))) (wgSub (wVar 5) (wVar 6))))))) wNext)
    (w__law_later_3 T d__law_cell_near d__law_number_near d__law_pull))
def w__law_later_1 (T : Wd) (d__law_cell_near : DSp) (d__law_number_near : DSp) (d__law_pull : DSp) : WS := (wSeq (wFor (wRng rng1 (wCons (wCall lenO (wCons (wVar 4) wNil)) wNil)) (wgName 6)
    (wIf (wAndT (wTest (wBin (inO false) (wBin itemO (wVar 4) (wVar 6)) (wBin itemO (wVar 2) (wC (.int 0))))) (wTest (wBin eqO (wCal d__law_pull 2 0 (wCons (wVar 0) (wCons (wC (.int 2)) wNil)) wNil) (wC (.int 0))))) (wAsg (wCal d__law_cell_near 3 0 (wCons (wVar 0) (wCons (wVar 1) (wCons (wBin itemO (wVar 4) (wVar 6)) wNil))) wNil) (wgSub (wVar 5) (wVar 6))) wNext))
    (w__law_later_2 T d__law_cell_near d__law_number_near d__law_pull))
def w__law_later (T : Wd) (d__law_cell_near : DSp) (d__law_number_near : DSp) (d__law_pull : DSp) : WS := (wSeq (wPar 4 5 (wCons (wBin itemO (wVar 1) (wC (.str "columns"))) (wCons (wCall listMO (wCons (wVar 3) wNil)) wNil)))
    (w__law_later_1 T d__law_cell_near d__law_number_near d__law_pull))
theorem j__law_later {T : Wd} {lv : Nat} {d__law_cell_near : DSp} {d__law_number_near : DSp} {d__law_pull : DSp} (E : Env T) (h__law_pull_2 : CalOk T lv "_law_pull" d__law_pull 2 []) (h__law_cell_near_3 : CalOk T lv "_law_cell_near" d__law_cell_near 3 []) (h__law_number_near_2 : CalOk T lv "_law_number_near" d__law_number_near 2 []) : JSs (defB T lv N__law_later (defScope s__law_later)) (defBody s__law_later) (w__law_later T d__law_cell_near d__law_number_near d__law_pull) := by
  refine js_cons (js_par (i := 4) (j := 5) (by kernel_rfl) (ja_cons (je_ix (je_var (i := 1) (by kernel_rfl)) je_str pix_const) (ja_cons (je_listM ⟨(by kernel_rfl), E.b_list⟩ (ja_cons (je_var (i := 3) (by kernel_rfl)) ja_nil rfl) rfl) ja_nil rfl) rfl)) ?_
  refine js_cons (js_for (ji_range1 ⟨(by kernel_rfl), E.b_range⟩ (ja_cons (je_len ⟨(by kernel_rfl), E.b_len⟩ (ja_cons (je_var (i := 4) (by kernel_rfl)) ja_nil rfl) rfl) ja_nil rfl) rfl) (jg_name (i := 6) (by kernel_rfl)) (js_one (js_if (JW.jt (jw_and (jt_cmp jop_in (je_ix (je_var (i := 4) (by kernel_rfl)) (je_var (i := 6) (by kernel_rfl)) pix_name) (je_ix (je_var (i := 2) (by kernel_rfl)) je_int pix_const) rfl) (jw_and1 (jt_cmp jop_eq (je_callC h__law_pull_2 (by kernel_rfl) (ja_cons (je_var (i := 0) (by kernel_rfl)) (ja_cons je_int ja_nil rfl) rfl) jk_nil rfl rfl) je_int rfl)))) (js_one (js_asg (je_callC h__law_cell_near_3 (by kernel_rfl) (ja_cons (je_var (i := 0) (by kernel_rfl)) (ja_cons (je_var (i := 1) (by kernel_rfl)) (ja_cons (je_ix (je_var (i := 4) (by kernel_rfl)) (je_var (i := 6) (by kernel_rfl)) pix_name) ja_nil rfl) rfl) rfl) jk_nil rfl rfl) (jg_sub (je_var (i := 5) (by kernel_rfl)) (je_var (i := 6) (by kernel_rfl)) (ss_name _ _)) rfl rfl rfl)) js_nil)) rfl) ?_
  refine js_cons (js_if (JW.jt (jw_and (jt_cmp jop_in (je_ix (je_var (i := 2) (by kernel_rfl)) je_int pix_const) (je_var (i := 4) (by kernel_rfl)) rfl) (jw_and1 (jt_cmp jop_ne (je_tupleC ⟨(by kernel_rfl), E.b_tuple⟩ (ja_cons (je_var (i := 5) (by kernel_rfl)) ja_nil rfl) rfl) (je_var (i := 3) (by kernel_rfl)) rfl)))) (js_cons (js_asg (je_tupIdx (je_var (i := 4) (by kernel_rfl)) (ja_cons (je_ix (je_var (i := 2) (by kernel_rfl)) je_int pix_const) ja_nil rfl) rfl ab_name rfl) (jg_name (i := 6) (by kernel_rfl)) rfl rfl rfl)
    (js_cons (js_asg (je_ix (je_var (i := 3) (by kernel_rfl)) (je_var (i := 6) (by kernel_rfl)) pix_name) (jg_name (i := 7) (by kernel_rfl)) rfl rfl rfl)
    (js_one (js_if (jt_cmp jop_is (je_var (i := 7) (by kernel_rfl)) je_non rfl) (js_one (js_asg (je_callC h__law_number_near_2 (by kernel_rfl) (ja_cons (je_var (i := 0) (by kernel_rfl)) (ja_cons (je_dget (je_frzE (je_dictC ⟨(by kernel_rfl), E.b_dict⟩ (ja_cons (je_ix (je_var (i := 1) (by kernel_rfl)) je_str pix_const) ja_nil rfl) rfl)) (ja_cons (je_ix (je_var (i := 2) (by kernel_rfl)) je_int pix_const) (ja_cons je_int ja_nil rfl) rfl) rfl ab_callN (by decide) rfl) ja_nil rfl) rfl) jk_nil rfl rfl) (jg_sub (je_var (i := 5) (by kernel_rfl)) (je_var (i := 6) (by kernel_rfl)) (ss_name _ _)) rfl rfl rfl)) (js_one (js_if (jt_cmp jop_eq (je_var (i := 7) (by kernel_rfl)) (je_bin jop_sub (je_bin jop_pow je_int je_int) je_int) rfl) (js_one (js_ret (je_var (i := 3) (by kernel_rfl)))) (js_one (js_asg (je_min ⟨(by kernel_rfl), E.b_min⟩ (ja_cons (je_bin jop_sub (je_bin jop_pow je_int je_int) je_int) (ja_cons (je_bin jop_add (je_bin jop_add (je_var (i := 7) (by kernel_rfl)) je_int) (je_callC h__law_pull_2 (by kernel_rfl) (ja_cons (je_var (i := 0) (by kernel_rfl)) (ja_cons je_int ja_nil rfl) rfl) jk_nil rfl rfl)) ja_nil rfl) rfl) rfl) (jg_sub (je_var (i := 5) (by kernel_rfl)) (je_var (i := 6) (by kernel_rfl)) (ss_name _ _)) rfl rfl rfl)))))))) js_nil) ?_
  exact js_one (js_ret (je_tupleC ⟨(by kernel_rfl), E.b_tuple⟩ (ja_cons (je_var (i := 5) (by kernel_rfl)) ja_nil rfl) rfl))
def N__law_row_may : List Str := ["_law_columns", "_law_mean_here", "_law_old", "_law_new", "_law_before", "_law_after", "_law_turned", "_law_was", "_law_now", "_law_name"]
abbrev s__law_row_may : Stmt := top 48
theorem sc__law_row_may : FnScope N__law_row_may ["_law_columns", "_law_mean_here", "_law_old", "_law_new"] (defScope s__law_row_may) := ⟨rfl, rfl, rfl, by decide +kernel, rfl, by decide +kernel, by decide +kernel⟩
def w__law_row_may (T : Wd) : WS := (wSeq (wAsg (wTup (wCons (wFrzE (wDictZip (wCons (wVar 0) (wCons (wVar 2) wNil)))) (wCons (wFrzE (wDictZip (wCons (wVar 0) (wCons (wVar 3) wNil)))) wNil))) (wgTup 2 (wgCons (wgName 4) (wgCons (wgName 5) wgNil))))
    (wSeq (wAsg (wLc (wIt (wVar 0)) (wgName 9) (wTest (wBin neO (wBin itemO (wVar 4) (wVar 9)) (wBin itemO (wVar 5) (wVar 9)))) (wVar 9) [9]) (wgName 6))
    (wSeq (wIf (wTest (wBin neO (wLc (wIt (wVar 6)) (wgName 9) (wAndT (wTest (wBin (inO true) (wVar 9) (wBin itemO (wVar 1) (wC (.int 0))))) (wTest (wBin neO (wVar 9) (wBin itemO (wVar 1) (wC (.int 3)))))) (wVar 9) [9]) (wLst wNil))) (wRet (wC (.bl false))) wNext)
    (wSeq (wIf (wTest (wBin (inO true) (wBin itemO (wVar 1) (wC (.int 3))) (wVar 0))) (wRet (wC (.bl true))) wNext)
    (wSeq (wPar 7 8 (wCons (wBin itemO (wVar 4) (wBin itemO (wVar 1) (wC (.int 3)))) (wCons (wBin itemO (wVar 5) (wBin itemO (wVar 1) (wC (.int 3)))) wNil)))
    (wSeq (wIf (wTest (wBin eqO (wLc (wIt (wVar 6)) (wgName 9) (wTest (wBin (inO false) (wVar 9) (wBin itemO (wVar 1) (wC (.int 0))))) (wVar 9) [9]) (wLst wNil))) (wRet (wBin eqO (wVar 7) (wVar 8))) wNext)
    (wRet (wAndV (wBin notNO (wVar 8) (wC .non)) (wOrV (wBin isNO (wVar 7) (wC .non)) (wBin ltO (wVar 7) (wVar 8)))))))))))
theorem j__law_row_may {T : Wd} {lv : Nat} (E : Env T) : JSs (defB T lv N__law_row_may (defScope s__law_row_may)) (defBody s__law_row_may) (w__law_row_may T) := by
  refine js_cons (js_asg2 (by kernel_rfl) (je_tup (ja_cons (je_frzE (je_dictZip ⟨(by kernel_rfl), E.b_dict⟩ ⟨(by kernel_rfl), E.b_zip⟩ (ja_cons (je_var (i := 0) (by kernel_rfl)) (ja_cons (je_var (i := 2) (by kernel_rfl)) ja_nil rfl) rfl) rfl)) (ja_cons (je_frzE (je_dictZip ⟨(by kernel_rfl), E.b_dict⟩ ⟨(by kernel_rfl), E.b_zip⟩ (ja_cons (je_var (i := 0) (by kernel_rfl)) (ja_cons (je_var (i := 3) (by kernel_rfl)) ja_nil rfl) rfl) rfl)) ja_nil rfl) rfl)) (jg_tup (jgs_cons (jg_name (i := 4) (by kernel_rfl)) (jgs_cons (jg_name (i := 5) (by kernel_rfl)) jgs_nil rfl) rfl) rfl)) ?_
  refine js_cons (js_setLc (i := 6) (own := [("_law_name", 9)]) (by kernel_rfl) (ji_seq (je_var (i := 0) (by kernel_rfl))) (by kernel_rfl) (jgc_name (i := 9) (by kernel_rfl)) (jts_one (jt_cmp jop_ne (je_ix (je_var (i := 4) (by kernel_rfl)) (je_var (i := 9) (by kernel_rfl)) pix_name) (je_ix (je_var (i := 5) (by kernel_rfl)) (je_var (i := 9) (by kernel_rfl)) pix_name) rfl)) (je_var (i := 9) (by kernel_rfl)) rfl) ?_
  refine js_cons (js_if (jt_cmp jop_ne (je_lc (own := [("_law_name", 9)]) (ji_seq (je_var (i := 6) (by kernel_rfl))) (by kernel_rfl) (jgc_name (i := 9) (by kernel_rfl)) (jts_one (JW.jt (jw_and (jt_cmp jop_notin (je_var (i := 9) (by kernel_rfl)) (je_ix (je_var (i := 1) (by kernel_rfl)) je_int pix_const) rfl) (jw_and1 (jt_cmp jop_ne (je_var (i := 9) (by kernel_rfl)) (je_ix (je_var (i := 1) (by kernel_rfl)) je_int pix_const) rfl))))) (je_var (i := 9) (by kernel_rfl)) rfl) (je_lst ja_nil) rfl) (js_one (js_ret je_bl)) js_nil) ?_
  refine js_cons (js_if (jt_cmp jop_notin (je_ix (je_var (i := 1) (by kernel_rfl)) je_int pix_const) (je_var (i := 0) (by kernel_rfl)) rfl) (js_one (js_ret je_bl)) js_nil) ?_
  refine js_cons (js_par (i := 7) (j := 8) (by kernel_rfl) (ja_cons (je_ix (je_var (i := 4) (by kernel_rfl)) (je_ix (je_var (i := 1) (by kernel_rfl)) je_int pix_const) pix_sub) (ja_cons (je_ix (je_var (i := 5) (by kernel_rfl)) (je_ix (je_var (i := 1) (by kernel_rfl)) je_int pix_const) pix_sub) ja_nil rfl) rfl)) ?_
  refine js_cons (js_if (jt_cmp jop_eq (je_lc (own := [("_law_name", 9)]) (ji_seq (je_var (i := 6) (by kernel_rfl))) (by kernel_rfl) (jgc_name (i := 9) (by kernel_rfl)) (jts_one (jt_cmp jop_in (je_var (i := 9) (by kernel_rfl)) (je_ix (je_var (i := 1) (by kernel_rfl)) je_int pix_const) rfl)) (je_var (i := 9) (by kernel_rfl)) rfl) (je_lst ja_nil) rfl) (js_one (js_ret (je_cmp jop_eq (je_var (i := 7) (by kernel_rfl)) (je_var (i := 8) (by kernel_rfl)) rfl))) js_nil) ?_
  exact js_one (js_ret (je_and (je_cmp jop_isnot (je_var (i := 8) (by kernel_rfl)) je_non rfl) (je_one (je_or (je_cmp jop_is (je_var (i := 7) (by kernel_rfl)) je_non rfl) (je_one (je_cmp jop_lt (je_var (i := 7) (by kernel_rfl)) (je_var (i := 8) (by kernel_rfl)) rfl))))))
def N__law_may : List Str := ["_law_columns", "_law_mean_here", "_law_earlier", "_law_later_here", "_law_key_here"]
abbrev s__law_may : Stmt := top 49
theorem sc__law_may : FnScope N__law_may ["_law_columns", "_law_mean_here", "_law_earlier", "_law_later_here"] (defScope s__law_may) := ⟨rfl, rfl, rfl, by decide +kernel, rfl, by decide +kernel, by decide +kernel⟩
def w__law_may (T : Wd) (d__law_row_may : DSp) : WS := (wSeq (wIf (wAndT (wNotT (wTest (wBin itemO (wVar 1) (wC (.int 1))))) (wTest (wBin neO (wLc (wKeys (wVar 3)) (wgName 4) (wTest (wBin (inO true) (wVar 4) (wVar 2))) (wVar 4) [4]) (wLst wNil)))) (wRet (wC (.bl false))) wNext)
    (wSeq (wIf (wAndT (wNotT (wTest (wBin itemO (wVar 1) (wC (.int 2))))) (wTest (wBin neO (wLc (wKeys (wVar 2)) (wgName 4) (wTest (wBin (inO true) (wVar 4) (wVar 3))) (wVar 4) [4]) (wLst wNil)))) (wRet (wC (.bl false))) wNext)
    (wRet (wCall allO (wCons (wLc (wKeys (wVar 2)) (wgName 4) (wTest (wBin (inO false) (wVar 4) (wVar 3))) (wCal d__law_row_may 4 0 (wCons (wVar 0) (wCons (wVar 1) (wCons (wBin itemO (wVar 2) (wVar 4)) (wCons (wBin itemO (wVar 3) (wVar 4)) wNil)))) wNil) [4]) wNil)))))
theorem j__law_may {T : Wd} {lv : Nat} {d__law_row_may : DSp} (E : Env T) (h__law_row_may_4 : CalOk T lv "_law_row_may" d__law_row_may 4 []) : JSs (defB T lv N__law_may (defScope s__law_may)) (defBody s__law_may) (w__law_may T d__law_row_may) := by
  refine js_cons (js_if (JW.jt (jw_and (jt_not (jt_val (je_ix (je_var (i := 1) (by kernel_rfl)) je_int pix_const) plT_subg)) (jw_and1 (jt_cmp jop_ne (je_lc (own := [("_law_key_here", 4)]) (ji_keys (je_var (i := 3) (by kernel_rfl))) (by kernel_rfl) (jgc_name (i := 4) (by kernel_rfl)) (jts_one (jt_cmp jop_notin (je_var (i := 4) (by kernel_rfl)) (je_var (i := 2) (by kernel_rfl)) rfl)) (je_var (i := 4) (by kernel_rfl)) rfl) (je_lst ja_nil) rfl)))) (js_one (js_ret je_bl)) js_nil) ?_
  refine js_cons (js_if (JW.jt (jw_and (jt_not (jt_val (je_ix (je_var (i := 1) (by kernel_rfl)) je_int pix_const) plT_subg)) (jw_and1 (jt_cmp jop_ne (je_lc (own := [("_law_key_here", 4)]) (ji_keys (je_var (i := 2) (by kernel_rfl))) (by kernel_rfl) (jgc_name (i := 4) (by kernel_rfl)) (jts_one (jt_cmp jop_notin (je_var (i := 4) (by kernel_rfl)) (je_var (i := 3) (by kernel_rfl)) rfl)) (je_var (i := 4) (by kernel_rfl)) rfl) (je_lst ja_nil) rfl)))) (js_one (js_ret je_bl)) js_nil) ?_
  exact js_one (js_ret (je_all ⟨(by kernel_rfl), E.b_all⟩ (ja_cons (je_lc (own := [("_law_key_here", 4)]) (ji_keys (je_var (i := 2) (by kernel_rfl))) (by kernel_rfl) (jgc_name (i := 4) (by kernel_rfl)) (jts_one (jt_cmp jop_in (je_var (i := 4) (by kernel_rfl)) (je_var (i := 3) (by kernel_rfl)) rfl)) (je_callC h__law_row_may_4 (by kernel_rfl) (ja_cons (je_var (i := 0) (by kernel_rfl)) (ja_cons (je_var (i := 1) (by kernel_rfl)) (ja_cons (je_ix (je_var (i := 2) (by kernel_rfl)) (je_var (i := 4) (by kernel_rfl)) pix_name) (ja_cons (je_ix (je_var (i := 3) (by kernel_rfl)) (je_var (i := 4) (by kernel_rfl)) pix_name) ja_nil rfl) rfl) rfl) rfl) jk_nil rfl rfl) rfl) ja_nil rfl) rfl))
def N__law_spoilt : List Str := ["_law_spool_here", "_law_heads", "_law_mean_here", "_law_later_here", "_law_found", "_law_keys", "_law_way", "_law_key_here", "_law_row_here", "_law_place", "_law_cell", "_law_old"]
abbrev s__law_spoilt : Stmt := top 50
theorem sc__law_spoilt : FnScope N__law_spoilt ["_law_spool_here", "_law_heads", "_law_mean_here", "_law_later_here"] (defScope s__law_spoilt) := ⟨rfl, rfl, rfl, by decide +kernel, rfl, by decide +kernel, by decide +kernel⟩
def w__law_spoilt_9 (T : Wd) (d__law_cell_drawn : DSp) (d__law_key : DSp) (d__law_pull : DSp) (d__law_row : DSp) : WS := (wRet (wFrzE (wVar 4)))
def w__law_spoilt_8 (T : Wd) (d__law_cell_drawn : DSp) (d__law_key : DSp) (d__law_pull : DSp) (d__law_row : DSp) : WS := (wSeq (wAsg (wBin addO (wBin addO (wSl (wVar 8) wNoPart (wPart (wVar 9))) (wTup (wCons (wVar 10) wNil))) (wSl (wVar 8) (wPart (wBin addO (wVar 9) (wC (.int 1)))) wNoPart)) (wgSub (wVar 4) (wVar 7)))
    (w__law_spoilt_9 T d__law_cell_drawn d__law_key d__law_pull d__law_row))
def w__law_spoilt_7 (T : Wd) (d__law_cell_drawn : DSp) (d__law_key : DSp) (d__law_pull : DSp) (d__law_row : DSp) : WS := (wSeq (wIf (wAndT (wTest (wBin ltO (wVar 6) (wC (.int 4)))) (wTest (wBin (inO false) (wBin itemO (wVar 2) (wC (.int 3))) (wVar 1)))) (wSeq (wAsg (wBW "tuple" tupIdxO (wVar 1) (wCons (wBin itemO (wVar 2) (wC (.int 3))) wNil)) (wgName 9))
    (wSeq (wAsg (wIfE (wTest (wBin notNO (wBin itemO (wVar 8) (wVar 9)) (wC .non))) (wBin itemO (wVar 8) (wVar 9)) (wC (.int 5))) (wgName 11))
    (wAsg (wBin itemO (wLst (wCons (wC .non) (wCons (wCall max2C (wCons (wC (.int 0)) (wCons (wBin subO (wVar 11) (wC (.int 1))) wNil))) (wCons (wCall min2C (wCons (wBin subO (wBin powO (wC (.int 10)) (wC (.int 30))) (wC (.int 1))) (wCons (wBin addO (wVar 11) (wC (.int 1))) wNil))) (wCons (wVar 11) (wCons (wC (.int 0)) wNil)))))) (wCal d__law_pull 2 0 (wCons (wVar 0) (wCons (wC (.int 5)) wNil)) wNil)) (wgName 10)))) wNext)
    (w__law_spoilt_8 T d__law_cell_drawn d__law_key d__law_pull d__law_row))
def w__law_spoilt_6 (T : Wd) (d__law_cell_drawn : DSp) (d__law_key : DSp) (d__law_pull : DSp) (d__law_row : DSp) : WS := (wSeq (wAsg (wCal d__law_cell_drawn 1 0 (wCons (wVar 0) wNil) wNil) (wgName 10))
    (w__law_spoilt_7 T d__law_cell_drawn d__law_key d__law_pull d__law_row))
def w__law_spoilt_5 (T : Wd) (d__law_cell_drawn : DSp) (d__law_key : DSp) (d__law_pull : DSp) (d__law_row : DSp) : WS := (wSeq (wPar 8 9 (wCons (wBin itemO (wVar 4) (wVar 7)) (wCons (wCal d__law_pull 2 0 (wCons (wVar 0) (wCons (wCall lenO (wCons (wVar 1) wNil)) wNil)) wNil) wNil)))
    (w__law_spoilt_6 T d__law_cell_drawn d__law_key d__law_pull d__law_row))
def w__law_spoilt_4 (T : Wd) (d__law_cell_drawn : DSp) (d__law_key : DSp) (d__law_pull : DSp) (d__law_row : DSp) : WS := (wSeq (wIf (wTest (wBin eqO (wVar 6) (wC (.int 1)))) (wSeq (wDrop (wBW "dict" dpopO (wVar 4) (wCons (wVar 7) wNil)))
    (wRet (wFrzE (wVar 4)))) wNext)
    (w__law_spoilt_5 T d__law_cell_drawn d__law_key d__law_pull d__law_row))
def w__law_spoilt_3 (T : Wd) (d__law_cell_drawn : DSp) (d__law_key : DSp) (d__law_pull : DSp) (d__law_row : DSp) : WS := (wSeq (wAsg (wBin itemO (wVar 5) (wCal d__law_pull 2 0 (wCons (wVar 0) (wCons (wCall lenO (wCons (wVar 5) wNil)) wNil)) wNil)) (wgName 7))
    (w__law_spoilt_4 T d__law_cell_drawn d__law_key d__law_pull d__law_row))
def w__law_spoilt_2 (T : Wd) (d__law_cell_drawn : DSp) (d__law_key : DSp) (d__law_pull : DSp) (d__law_row : DSp) : WS := (wSeq (wIf (wOrT (wTest (wBin eqO (wVar 6) (wC (.int 0)))) (wTest (wBin eqO (wVar 5) (wLst wNil)))) (wSeq (wAsg (wCal d__law_row 2 0 (wCons (wVar 0) (wCons (wCall lenO (wCons (wVar 1) wNil)) wNil)) wNil) (wgSub (wVar 4) (wCal d__law_key 2 0 (wCons (wVar 0) (wCons (wVar 4) wNil)) wNil)))
    (wRet (wFrzE (wVar 4)))) wNext)
    (w__law_spoilt_3 T d__law_cell_drawn d__law_key d__law_pull d__law_row))
def w__law_spoilt_1 (T : Wd) (d__law_cell_drawn : DSp) (d__law_key : DSp) (d__law_pull : DSp) (d__law_row : DSp) : WS := (wSeq (wAsg (wCal d__law_pull 2 0 (wCons (wVar 0) (wCons (wC (.int 6)) wNil)) wNil) (wgName 6))
    (w__law_spoilt_2 T d__law_cell_drawn d__law_key d__law_pull d__law_row))
def w__law_spoilt (T : Wd) (d__law_cell_drawn : DSp) (d__law_key : DSp) (d__law_pull : DSp) (d__law_row : DSp) : WS := (wSeq (wPar 4 5 (wCons (wCall dictO (wCons (wVar 3) wNil)) (wCons (wCall sortedO (wCons (wCall listKO (wCons (wVar 3) wNil)) wNil)) wNil)))
    (w__law_spoilt_1 T d__law_cell_drawn d__law_key d__law_pull d__law_row))
theorem j__law_spoilt {T : Wd} {lv : Nat} {d__law_cell_drawn : DSp} {d__law_key : DSp} {d__law_pull : DSp} {d__law_row : DSp} (E : Env T) (h__law_pull_2 : CalOk T lv "_law_pull" d__law_pull 2 []) (h__law_row_2 : CalOk T lv "_law_row" d__law_row 2 []) (h__law_key_2 : CalOk T lv "_law_key" d__law_key 2 []) (h__law_cell_drawn_1 : CalOk T lv "_law_cell_drawn" d__law_cell_drawn 1 []) : JSs (defB T lv N__law_spoilt (defScope s__law_spoilt)) (defBody s__law_spoilt) (w__law_spoilt T d__law_cell_drawn d__law_key d__law_pull d__law_row) := by
  refine js_cons (js_par (i := 4) (j := 5) (by kernel_rfl) (ja_cons (je_dictC ⟨(by kernel_rfl), E.b_dict⟩ (ja_cons (je_var (i := 3) (by kernel_rfl)) ja_nil rfl) rfl) (ja_cons (je_sorted ⟨(by kernel_rfl), E.b_sorted⟩ (ja_cons (je_listK ⟨(by kernel_rfl), E.b_list⟩ (ja_cons (je_var (i := 3) (by kernel_rfl)) ja_nil rfl) rfl) ja_nil rfl) rfl) ja_nil rfl) rfl)) ?_
  refine js_cons (js_asg (je_callC h__law_pull_2 (by kernel_rfl) (ja_cons (je_var (i := 0) (by kernel_rfl)) (ja_cons je_int ja_nil rfl) rfl) jk_nil rfl rfl) (jg_name (i := 6) (by kernel_rfl)) rfl rfl rfl) ?_
  refine js_cons (js_if (JW.jt (jw_or (jt_cmp jop_eq (je_var (i := 6) (by kernel_rfl)) je_int rfl) (jw_or1 (jt_cmp jop_eq (je_var (i := 5) (by kernel_rfl)) (je_lst ja_nil) rfl)))) (js_cons (js_asg (je_callC h__law_row_2 (by kernel_rfl) (ja_cons (je_var (i := 0) (by kernel_rfl)) (ja_cons (je_len ⟨(by kernel_rfl), E.b_len⟩ (ja_cons (je_var (i := 1) (by kernel_rfl)) ja_nil rfl) rfl) ja_nil rfl) rfl) jk_nil rfl rfl) (jg_sub (je_var (i := 4) (by kernel_rfl)) (je_callC h__law_key_2 (by kernel_rfl) (ja_cons (je_var (i := 0) (by kernel_rfl)) (ja_cons (je_var (i := 4) (by kernel_rfl)) ja_nil rfl) rfl) jk_nil rfl rfl) (ss_call _ _)) rfl rfl rfl)
    (js_one (js_ret (je_frzE (je_var (i := 4) (by kernel_rfl)))))) js_nil) ?_
  refine js_cons (js_asg (je_ix (je_var (i := 5) (by kernel_rfl)) (je_callC h__law_pull_2 (by kernel_rfl) (ja_cons (je_var (i := 0) (by kernel_rfl)) (ja_cons (je_len ⟨(by kernel_rfl), E.b_len⟩ (ja_cons (je_var (i := 5) (by kernel_rfl)) ja_nil rfl) rfl) ja_nil rfl) rfl) jk_nil rfl rfl) pix_call) (jg_name (i := 7) (by kernel_rfl)) rfl rfl rfl) ?_
  refine js_cons (js_if (jt_cmp jop_eq (je_var (i := 6) (by kernel_rfl)) je_int rfl) (js_cons (js_expr (je_dpop (je_var (i := 4) (by kernel_rfl)) (ja_cons (je_var (i := 7) (by kernel_rfl)) ja_nil rfl) rfl ab_name rfl) rfl)
    (js_one (js_ret (je_frzE (je_var (i := 4) (by kernel_rfl)))))) js_nil) ?_
  refine js_cons (js_par (i := 8) (j := 9) (by kernel_rfl) (ja_cons (je_ix (je_var (i := 4) (by kernel_rfl)) (je_var (i := 7) (by kernel_rfl)) pix_name) (ja_cons (je_callC h__law_pull_2 (by kernel_rfl) (ja_cons (je_var (i := 0) (by kernel_rfl)) (ja_cons (je_len ⟨(by kernel_rfl), E.b_len⟩ (ja_cons (je_var (i := 1) (by kernel_rfl)) ja_nil rfl) rfl) ja_nil rfl) rfl) jk_nil rfl rfl) ja_nil rfl) rfl)) ?_
  refine js_cons (js_asg (je_callC h__law_cell_drawn_1 (by kernel_rfl) (ja_cons (je_var (i := 0) (by kernel_rfl)) ja_nil rfl) jk_nil rfl rfl) (jg_name (i := 10) (by kernel_rfl)) rfl rfl rfl) ?_
  refine js_cons (js_if (JW.jt (jw_and (jt_cmp jop_lt (je_var (i := 6) (by kernel_rfl)) je_int rfl) (jw_and1 (jt_cmp jop_in (je_ix (je_var (i := 2) (by kernel_rfl)) je_int pix_const) (je_var (i := 1) (by kernel_rfl)) rfl)))) (js_cons (js_asg (je_tupIdx (je_var (i := 1) (by kernel_rfl)) (ja_cons (je_ix (je_var (i := 2) (by kernel_rfl)) je_int pix_const) ja_nil rfl) rfl ab_name rfl) (jg_name (i := 9) (by kernel_rfl)) rfl rfl rfl)
    (js_cons (js_asg (je_if (jt_cmp jop_isnot (je_ix (je_var (i := 8) (by kernel_rfl)) (je_var (i := 9) (by kernel_rfl)) pix_name) je_non rfl) (je_ix (je_var (i := 8) (by kernel_rfl)) (je_var (i := 9) (by kernel_rfl)) pix_name) je_int) (jg_name (i := 11) (by kernel_rfl)) rfl rfl rfl)
    (js_one (js_asg (je_ix (je_lst (ja_cons je_non (ja_cons (je_max ⟨(by kernel_rfl), E.b_max⟩ (ja_cons je_int (ja_cons (je_bin jop_sub (je_var (i := 11) (by kernel_rfl)) je_int) ja_nil rfl) rfl) rfl) (ja_cons (je_min ⟨(by kernel_rfl), E.b_min⟩ (ja_cons (je_bin jop_sub (je_bin jop_pow je_int je_int) je_int) (ja_cons (je_bin jop_add (je_var (i := 11) (by kernel_rfl)) je_int) ja_nil rfl) rfl) rfl) (ja_cons (je_var (i := 11) (by kernel_rfl)) (ja_cons je_int ja_nil rfl) rfl) rfl) rfl) rfl)) (je_callC h__law_pull_2 (by kernel_rfl) (ja_cons (je_var (i := 0) (by kernel_rfl)) (ja_cons je_int ja_nil rfl) rfl) jk_nil rfl rfl) pix_call) (jg_name (i := 10) (by kernel_rfl)) rfl rfl rfl)))) js_nil) ?_
  refine js_cons (js_asg (je_bin jop_add (je_bin jop_add (je_sl (je_var (i := 8) (by kernel_rfl)) jo_none (jo_some (je_var (i := 9) (by kernel_rfl)))) (je_tup (ja_cons (je_var (i := 10) (by kernel_rfl)) ja_nil rfl))) (je_sl (je_var (i := 8) (by kernel_rfl)) (jo_some (je_bin jop_add (je_var (i := 9) (by kernel_rfl)) je_int)) jo_none)) (jg_sub (je_var (i := 4) (by kernel_rfl)) (je_var (i := 7) (by kernel_rfl)) (ss_name _ _)) rfl rfl rfl) ?_
  exact js_one (js_ret (je_frzE (je_var (i := 4) (by kernel_rfl))))
def N__law_right_at : List Str := ["_law_spool_here", "_law_heads", "_law_mean_here", "_law_plan", "_law_earlier", "_law_later_here", "_law_key_here", "_law_what", "_law_first", "_law_rows", "_law_other", "_law_second", "_law_checks", "_law_empty", "_law_free", "_law_told_here", "_law_k"]
abbrev s__law_right_at : Stmt := top 51
theorem sc__law_right_at : FnScope N__law_right_at ["_law_spool_here"] (defScope s__law_right_at) := ⟨rfl, rfl, rfl, by decide +kernel, rfl, by decide +kernel, by decide +kernel⟩
def w__law_right_at_13 (T : Wd) (d_Meanwhile : DSp) (d_Meanwhile_allows : DSp) (d_Store_rows : DSp) (d_Store_s1 : DSp) (d__law_key : DSp) (d__law_later : DSp) (d__law_like : DSp) (d__law_made : DSp) (d__law_may : DSp) (d__law_mean : DSp) (d__law_model : DSp) (d__law_names : DSp) (d__law_pull : DSp) (d__law_row : DSp) (d__law_spoilt : DSp) (d__law_told : DSp) : WS := (wRet (wCal d__law_like 2 0 (wCons (wVar 15) (wCons (wLst (wCons (wC (.bl true)) (wCons (wC (.bl false)) (wCons (wC (.bl false)) wNil)))) wNil)) wNil))
def w__law_right_at_12 (T : Wd) (d_Meanwhile : DSp) (d_Meanwhile_allows : DSp) (d_Store_rows : DSp) (d_Store_s1 : DSp) (d__law_key : DSp) (d__law_later : DSp) (d__law_like : DSp) (d__law_made : DSp) (d__law_may : DSp) (d__law_mean : DSp) (d__law_model : DSp) (d__law_names : DSp) (d__law_pull : DSp) (d__law_row : DSp) (d__law_spoilt : DSp) (d__law_told : DSp) : WS := (wSeq (wAsg (wLst (wCons (wMeth1 "Meanwhile" "allows" d_Meanwhile_allows 3 0 (wVar 7) (wCons (wVar 8) (wCons (wVar 8) wNil)) wNil) (wCons (wMeth1 "Meanwhile" "allows" d_Meanwhile_allows 3 0 (wVar 14) (wCons (wVar 8) (wCons (wVar 13) wNil)) wNil) (wCons (wMeth1 "Meanwhile" "allows" d_Meanwhile_allows 3 0 (wVar 14) (wCons (wVar 13) (wCons (wVar 8) wNil)) wNil) wNil)))) (wgName 15))
    (w__law_right_at_13 T d_Meanwhile d_Meanwhile_allows d_Store_rows d_Store_s1 d__law_key d__law_later d__law_like d__law_made d__law_may d__law_mean d__law_model d__law_names d__law_pull d__law_row d__law_spoilt d__law_told))
def w__law_right_at_11 (T : Wd) (d_Meanwhile : DSp) (d_Meanwhile_allows : DSp) (d_Store_rows : DSp) (d_Store_s1 : DSp) (d__law_key : DSp) (d__law_later : DSp) (d__law_like : DSp) (d__law_made : DSp) (d__law_may : DSp) (d__law_mean : DSp) (d__law_model : DSp) (d__law_names : DSp) (d__law_pull : DSp) (d__law_row : DSp) (d__law_spoilt : DSp) (d__law_told : DSp) : WS := (wSeq (wAsg (wCal d_Meanwhile 4 0 (wCons (wVar 1) (wCons (wC (.bl true)) (wCons (wC (.bl true)) (wCons (wC .non) wNil)))) wNil) (wgName 14))
    (w__law_right_at_12 T d_Meanwhile d_Meanwhile_allows d_Store_rows d_Store_s1 d__law_key d__law_later d__law_like d__law_made d__law_may d__law_mean d__law_model d__law_names d__law_pull d__law_row d__law_spoilt d__law_told))
def w__law_right_at_10 (T : Wd) (d_Meanwhile : DSp) (d_Meanwhile_allows : DSp) (d_Store_rows : DSp) (d_Store_s1 : DSp) (d__law_key : DSp) (d__law_later : DSp) (d__law_like : DSp) (d__law_made : DSp) (d__law_may : DSp) (d__law_mean : DSp) (d__law_model : DSp) (d__law_names : DSp) (d__law_pull : DSp) (d__law_row : DSp) (d__law_spoilt : DSp) (d__law_told : DSp) : WS := (wSeq (wAsg (wCal d_Store_s1 1 0 (wCons (wIfE (wTest (wBin gtO (wCall lenO (wCons (wVar 1) wNil)) (wC (.int 1)))) (wRevT (wVar 1)) (wTup (wCons (wC (.str "other")) (wCons (wC (.str "another")) wNil)))) wNil) wNil) (wgName 13))
    (w__law_right_at_11 T d_Meanwhile d_Meanwhile_allows d_Store_rows d_Store_s1 d__law_key d__law_later d__law_like d__law_made d__law_may d__law_mean d__law_model d__law_names d__law_pull d__law_row d__law_spoilt d__law_told))
def w__law_right_at_9 (T : Wd) (d_Meanwhile : DSp) (d_Meanwhile_allows : DSp) (d_Store_rows : DSp) (d_Store_s1 : DSp) (d__law_key : DSp) (d__law_later : DSp) (d__law_like : DSp) (d__law_made : DSp) (d__law_may : DSp) (d__law_mean : DSp) (d__law_model : DSp) (d__law_names : DSp) (d__law_pull : DSp) (d__law_row : DSp) (d__law_spoilt : DSp) (d__law_told : DSp) : WS := (wSeq (wFor (wIt (wBin addO (wVar 9) (wLst (wCons (wVar 5) wNil)))) (wgName 10)
    (wSeq (wAsg (wCal d__law_made 3 0 (wCons (wVar 1) (wCons (wVar 10) (wCons (wRevL (wCall listKO (wCons (wVar 10) wNil))) wNil))) wNil) (wgName 11))
    (wSeq (wAsg (wLstM (wCons (wCal d__law_like 2 0 (wCons (wMeth1 "Meanwhile" "allows" d_Meanwhile_allows 3 0 (wVar 7) (wCons (wVar 8) (wCons (wVar 11) wNil)) wNil) (wCons (wCal d__law_may 4 0 (wCons (wVar 1) (wCons (wVar 2) (wCons (wVar 4) (wCons (wVar 10) wNil)))) wNil) wNil)) wNil) wNil)) (wgName 12))
    (wSeq (wDrop (wBM "list" appendO (wVar 12) (wCons (wCal d__law_like 2 0 (wCons (wMeth1 "Meanwhile" "allows" d_Meanwhile_allows 3 0 (wVar 7) (wCons (wVar 11) (wCons (wVar 8) wNil)) wNil) (wCons (wCal d__law_may 4 0 (wCons (wVar 1) (wCons (wVar 2) (wCons (wVar 10) (wCons (wVar 4) wNil)))) wNil) wNil)) wNil) wNil)))
    (wSeq (wDrop (wBM "list" appendO (wVar 12) (wCons (wAndV (wCal d__law_like 2 0 (wCons (wMeth1 "Store" "rows" d_Store_rows 1 0 (wVar 8) wNil wNil) (wCons (wCal d__law_told 1 0 (wCons (wVar 4) wNil) wNil) wNil)) wNil) (wCal d__law_like 2 0 (wCons (wMeth1 "Store" "rows" d_Store_rows 1 0 (wVar 11) wNil wNil) (wCons (wCal d__law_told 1 0 (wCons (wVar 10) wNil) wNil) wNil)) wNil)) wNil)))
    (wIf (wTest (wBin (inO false) (wC (.bl false)) (wVar 12))) (wRet (wC (.bl false))) wNext))))))
    (w__law_right_at_10 T d_Meanwhile d_Meanwhile_allows d_Store_rows d_Store_s1 d__law_key d__law_later d__law_like d__law_made d__law_may d__law_mean d__law_model d__law_names d__law_pull d__law_row d__law_spoilt d__law_told))
def w__law_right_at_8 (T : Wd) (d_Meanwhile : DSp) (d_Meanwhile_allows : DSp) (d_Store_rows : DSp) (d_Store_s1 : DSp) (d__law_key : DSp) (d__law_later : DSp) (d__law_like : DSp) (d__law_made : DSp) (d__law_may : DSp) (d__law_mean : DSp) (d__law_model : DSp) (d__law_names : DSp) (d__law_pull : DSp) (d__law_row : DSp) (d__law_spoilt : DSp) (d__law_told : DSp) : WS := (wSeq (wDrop (wBM "list" appendO (wVar 9) (wCons (wCal d__law_spoilt 4 0 (wCons (wVar 0) (wCons (wVar 1) (wCons (wVar 2) (wCons (wVar 4) wNil)))) wNil) wNil)))
    (w__law_right_at_9 T d_Meanwhile d_Meanwhile_allows d_Store_rows d_Store_s1 d__law_key d__law_later d__law_like d__law_made d__law_may d__law_mean d__law_model d__law_names d__law_pull d__law_row d__law_spoilt d__law_told))
def w__law_right_at_7 (T : Wd) (d_Meanwhile : DSp) (d_Meanwhile_allows : DSp) (d_Store_rows : DSp) (d_Store_s1 : DSp) (d__law_key : DSp) (d__law_later : DSp) (d__law_like : DSp) (d__law_made : DSp) (d__law_may : DSp) (d__law_mean : DSp) (d__law_model : DSp) (d__law_names : DSp) (d__law_pull : DSp) (d__law_row : DSp) (d__law_spoilt : DSp) (d__law_told : DSp) : WS := (wSeq (wAsg (wBin addMO (wLst (wCons (wVar 5) wNil)) (wLc (wRng rng1 (wCons (wC (.int 3)) wNil)) (wgName 16) wYes (wCal d__law_spoilt 4 0 (wCons (wVar 0) (wCons (wVar 1) (wCons (wVar 2) (wCons (wVar 5) wNil)))) wNil) [16])) (wgName 9))
    (w__law_right_at_8 T d_Meanwhile d_Meanwhile_allows d_Store_rows d_Store_s1 d__law_key d__law_later d__law_like d__law_made d__law_may d__law_mean d__law_model d__law_names d__law_pull d__law_row d__law_spoilt d__law_told))
def w__law_right_at_6 (T : Wd) (d_Meanwhile : DSp) (d_Meanwhile_allows : DSp) (d_Store_rows : DSp) (d_Store_s1 : DSp) (d__law_key : DSp) (d__law_later : DSp) (d__law_like : DSp) (d__law_made : DSp) (d__law_may : DSp) (d__law_mean : DSp) (d__law_model : DSp) (d__law_names : DSp) (d__law_pull : DSp) (d__law_row : DSp) (d__law_spoilt : DSp) (d__law_told : DSp) : WS := (wSeq (wAsg (wCal d__law_made 3 0 (wCons (wVar 1) (wCons (wVar 4) (wCons (wCall listKO (wCons (wVar 4) wNil)) wNil))) wNil) (wgName 8))
    (w__law_right_at_7 T d_Meanwhile d_Meanwhile_allows d_Store_rows d_Store_s1 d__law_key d__law_later d__law_like d__law_made d__law_may d__law_mean d__law_model d__law_names d__law_pull d__law_row d__law_spoilt d__law_told))
def w__law_right_at_5 (T : Wd) (d_Meanwhile : DSp) (d_Meanwhile_allows : DSp) (d_Store_rows : DSp) (d_Store_s1 : DSp) (d__law_key : DSp) (d__law_later : DSp) (d__law_like : DSp) (d__law_made : DSp) (d__law_may : DSp) (d__law_mean : DSp) (d__law_model : DSp) (d__law_names : DSp) (d__law_pull : DSp) (d__law_row : DSp) (d__law_spoilt : DSp) (d__law_told : DSp) : WS := (wSeq (wFrzD 5 (wAsg (wCal d_Meanwhile 4 0 (wCons (wBin itemO (wVar 2) (wC (.int 0))) (wCons (wBin itemO (wVar 2) (wC (.int 1))) (wCons (wBin itemO (wVar 2) (wC (.int 2))) (wCons (wBin itemO (wVar 2) (wC (.int 3))) wNil)))) wNil) (wgName 7)))
    (w__law_right_at_6 T d_Meanwhile d_Meanwhile_allows d_Store_rows d_Store_s1 d__law_key d__law_later d__law_like d__law_made d__law_may d__law_mean d__law_model d__law_names d__law_pull d__law_row d__law_spoilt d__law_told))
def w__law_right_at_4 (T : Wd) (d_Meanwhile : DSp) (d_Meanwhile_allows : DSp) (d_Store_rows : DSp) (d_Store_s1 : DSp) (d__law_key : DSp) (d__law_later : DSp) (d__law_like : DSp) (d__law_made : DSp) (d__law_may : DSp) (d__law_mean : DSp) (d__law_model : DSp) (d__law_names : DSp) (d__law_pull : DSp) (d__law_row : DSp) (d__law_spoilt : DSp) (d__law_told : DSp) : WS := (wSeq (wIf (wTest (wBin itemO (wVar 2) (wC (.int 1)))) (wAsg (wCal d__law_row 2 0 (wCons (wVar 0) (wCons (wCall lenO (wCons (wVar 1) wNil)) wNil)) wNil) (wgSub (wVar 5) (wCal d__law_key 2 0 (wCons (wVar 0) (wCons (wVar 5) wNil)) wNil))) wNext)
    (w__law_right_at_5 T d_Meanwhile d_Meanwhile_allows d_Store_rows d_Store_s1 d__law_key d__law_later d__law_like d__law_made d__law_may d__law_mean d__law_model d__law_names d__law_pull d__law_row d__law_spoilt d__law_told))
def w__law_right_at_3 (T : Wd) (d_Meanwhile : DSp) (d_Meanwhile_allows : DSp) (d_Store_rows : DSp) (d_Store_s1 : DSp) (d__law_key : DSp) (d__law_later : DSp) (d__law_like : DSp) (d__law_made : DSp) (d__law_may : DSp) (d__law_mean : DSp) (d__law_model : DSp) (d__law_names : DSp) (d__law_pull : DSp) (d__law_row : DSp) (d__law_spoilt : DSp) (d__law_told : DSp) : WS := (wSeq (wFor (wKeys (wVar 4)) (wgName 6)
    (wIf (wOrT (wNotT (wTest (wBin itemO (wVar 2) (wC (.int 2))))) (wTest (wBin gtO (wCal d__law_pull 2 0 (wCons (wVar 0) (wCons (wC (.int 4)) wNil)) wNil) (wC (.int 0))))) (wAsg (wCal d__law_later 4 0 (wCons (wVar 0) (wCons (wVar 3) (wCons (wVar 2) (wCons (wBin itemO (wVar 4) (wVar 6)) wNil)))) wNil) (wgSub (wVar 5) (wVar 6))) wNext))
    (w__law_right_at_4 T d_Meanwhile d_Meanwhile_allows d_Store_rows d_Store_s1 d__law_key d__law_later d__law_like d__law_made d__law_may d__law_mean d__law_model d__law_names d__law_pull d__law_row d__law_spoilt d__law_told))
def w__law_right_at_2 (T : Wd) (d_Meanwhile : DSp) (d_Meanwhile_allows : DSp) (d_Store_rows : DSp) (d_Store_s1 : DSp) (d__law_key : DSp) (d__law_later : DSp) (d__law_like : DSp) (d__law_made : DSp) (d__law_may : DSp) (d__law_mean : DSp) (d__law_model : DSp) (d__law_names : DSp) (d__law_pull : DSp) (d__law_row : DSp) (d__law_spoilt : DSp) (d__law_told : DSp) : WS := (wSeq (wAsg (wTup (wCons (wCal d__law_model 3 0 (wCons (wVar 0) (wCons (wCall lenO (wCons (wVar 1) wNil)) (wCons (wC (.int 6)) wNil))) wNil) (wCons wDicN wNil))) (wgTup 2 (wgCons (wgName 4) (wgCons (wgName 5) wgNil))))
    (w__law_right_at_3 T d_Meanwhile d_Meanwhile_allows d_Store_rows d_Store_s1 d__law_key d__law_later d__law_like d__law_made d__law_may d__law_mean d__law_model d__law_names d__law_pull d__law_row d__law_spoilt d__law_told))
def w__law_right_at_1 (T : Wd) (d_Meanwhile : DSp) (d_Meanwhile_allows : DSp) (d_Store_rows : DSp) (d_Store_s1 : DSp) (d__law_key : DSp) (d__law_later : DSp) (d__law_like : DSp) (d__law_made : DSp) (d__law_may : DSp) (d__law_mean : DSp) (d__law_model : DSp) (d__law_names : DSp) (d__law_pull : DSp) (d__law_row : DSp) (d__law_spoilt : DSp) (d__law_told : DSp) : WS := (wSeq (wAsg (wTup (wCons (wCal d__law_mean 2 0 (wCons (wVar 0) (wCons (wVar 1) wNil)) wNil) (wCons (wFrzE (wDicM [.inr "columns", .inr "shown", .inr "tests"] (wCons (wVar 1) (wCons (wTup wNil) (wCons (wTup wNil) wNil))))) wNil))) (wgTup 2 (wgCons (wgName 2) (wgCons (wgName 3) wgNil))))
    (w__law_right_at_2 T d_Meanwhile d_Meanwhile_allows d_Store_rows d_Store_s1 d__law_key d__law_later d__law_like d__law_made d__law_may d__law_mean d__law_model d__law_names d__law_pull d__law_row d__law_spoilt d__law_told))
def w__law_right_at (T : Wd) (d_Meanwhile : DSp) (d_Meanwhile_allows : DSp) (d_Store_rows : DSp) (d_Store_s1 : DSp) (d__law_key : DSp) (d__law_later : DSp) (d__law_like : DSp) (d__law_made : DSp) (d__law_may : DSp) (d__law_mean : DSp) (d__law_model : DSp) (d__law_names : DSp) (d__law_pull : DSp) (d__law_row : DSp) (d__law_spoilt : DSp) (d__law_told : DSp) : WS := (wSeq (wAsg (wCal d__law_names 2 0 (wCons (wVar 0) (wCons (wBin addO (wC (.int 1)) (wCal d__law_pull 2 0 (wCons (wVar 0) (wCons (wC (.int 6)) wNil)) wNil)) wNil)) wNil) (wgName 1))
    (w__law_right_at_1 T d_Meanwhile d_Meanwhile_allows d_Store_rows d_Store_s1 d__law_key d__law_later d__law_like d__law_made d__law_may d__law_mean d__law_model d__law_names d__law_pull d__law_row d__law_spoilt d__law_told))
theorem j__law_right_at {T : Wd} {lv : Nat} {d_Meanwhile : DSp} {d_Meanwhile_allows : DSp} {d_Store_rows : DSp} {d_Store_s1 : DSp} {d__law_key : DSp} {d__law_later : DSp} {d__law_like : DSp} {d__law_made : DSp} {d__law_may : DSp} {d__law_mean : DSp} {d__law_model : DSp} {d__law_names : DSp} {d__law_pull : DSp} {d__law_row : DSp} {d__law_spoilt : DSp} {d__law_told : DSp} (E : Env T) (h__law_pull_2 : CalOk T lv "_law_pull" d__law_pull 2 []) (h__law_names_2 : CalOk T lv "_law_names" d__law_names 2 []) (h__law_mean_2 : CalOk T lv "_law_mean" d__law_mean 2 []) (h__law_model_3 : CalOk T lv "_law_model" d__law_model 3 []) (h__law_later_4 : CalOk T lv "_law_later" d__law_later 4 []) (h__law_row_2 : CalOk T lv "_law_row" d__law_row 2 []) (h__law_key_2 : CalOk T lv "_law_key" d__law_key 2 []) (h_Meanwhile_4 : CalOk T lv "Meanwhile" d_Meanwhile 4 []) (h__law_made_3 : CalOk T lv "_law_made" d__law_made 3 []) (h__law_spoilt_4 : CalOk T lv "_law_spoilt" d__law_spoilt 4 []) (h_Meanwhile_allows_3 : MetOk T lv "Meanwhile" "allows" d_Meanwhile_allows 3 []) (h__law_may_4 : CalOk T lv "_law_may" d__law_may 4 []) (h__law_like_2 : CalOk T lv "_law_like" d__law_like 2 []) (h_Store_rows_1 : MetOk T lv "Store" "rows" d_Store_rows 1 []) (h__law_told_1 : CalOk T lv "_law_told" d__law_told 1 []) (h_Store_1 : CalOk T lv "Store" d_Store_s1 1 []) : JSs (defB T lv N__law_right_at (defScope s__law_right_at)) (defBody s__law_right_at) (w__law_right_at T d_Meanwhile d_Meanwhile_allows d_Store_rows d_Store_s1 d__law_key d__law_later d__law_like d__law_made d__law_may d__law_mean d__law_model d__law_names d__law_pull d__law_row d__law_spoilt d__law_told) := by
  refine js_cons (js_asg (je_callC h__law_names_2 (by kernel_rfl) (ja_cons (je_var (i := 0) (by kernel_rfl)) (ja_cons (je_bin jop_add je_int (je_callC h__law_pull_2 (by kernel_rfl) (ja_cons (je_var (i := 0) (by kernel_rfl)) (ja_cons je_int ja_nil rfl) rfl) jk_nil rfl rfl)) ja_nil rfl) rfl) jk_nil rfl rfl) (jg_name (i := 1) (by kernel_rfl)) rfl rfl rfl) ?_
  refine js_cons (js_asg2 (by kernel_rfl) (je_tup (ja_cons (je_callC h__law_mean_2 (by kernel_rfl) (ja_cons (je_var (i := 0) (by kernel_rfl)) (ja_cons (je_var (i := 1) (by kernel_rfl)) ja_nil rfl) rfl) jk_nil rfl rfl) (ja_cons (je_frzE (je_dicM (jps_cons (je_var (i := 1) (by kernel_rfl)) (jps_cons (je_tup ja_nil) (jps_cons (je_tup ja_nil) jps_nil))) rfl rfl (by simp) (by decide) (by decide))) ja_nil rfl) rfl)) (jg_tup (jgs_cons (jg_name (i := 2) (by kernel_rfl)) (jgs_cons (jg_name (i := 3) (by kernel_rfl)) jgs_nil rfl) rfl) rfl)) ?_
  refine js_cons (js_asg2 (by kernel_rfl) (je_tup (ja_cons (je_callC h__law_model_3 (by kernel_rfl) (ja_cons (je_var (i := 0) (by kernel_rfl)) (ja_cons (je_len ⟨(by kernel_rfl), E.b_len⟩ (ja_cons (je_var (i := 1) (by kernel_rfl)) ja_nil rfl) rfl) (ja_cons je_int ja_nil rfl) rfl) rfl) jk_nil rfl rfl) (ja_cons je_dicN ja_nil rfl) rfl)) (jg_tup (jgs_cons (jg_name (i := 4) (by kernel_rfl)) (jgs_cons (jg_name (i := 5) (by kernel_rfl)) jgs_nil rfl) rfl) rfl)) ?_
  refine js_cons (js_for (ji_keys (je_var (i := 4) (by kernel_rfl))) (jg_name (i := 6) (by kernel_rfl)) (js_one (js_if (JW.jt (jw_or (jt_not (jt_val (je_ix (je_var (i := 2) (by kernel_rfl)) je_int pix_const) plT_subg)) (jw_or1 (jt_cmp jop_gt (je_callC h__law_pull_2 (by kernel_rfl) (ja_cons (je_var (i := 0) (by kernel_rfl)) (ja_cons je_int ja_nil rfl) rfl) jk_nil rfl rfl) je_int rfl)))) (js_one (js_asg (je_callC h__law_later_4 (by kernel_rfl) (ja_cons (je_var (i := 0) (by kernel_rfl)) (ja_cons (je_var (i := 3) (by kernel_rfl)) (ja_cons (je_var (i := 2) (by kernel_rfl)) (ja_cons (je_ix (je_var (i := 4) (by kernel_rfl)) (je_var (i := 6) (by kernel_rfl)) pix_name) ja_nil rfl) rfl) rfl) rfl) jk_nil rfl rfl) (jg_sub (je_var (i := 5) (by kernel_rfl)) (je_var (i := 6) (by kernel_rfl)) (ss_name _ _)) rfl rfl rfl)) js_nil)) rfl) ?_
  refine js_cons (js_if (jt_val (je_ix (je_var (i := 2) (by kernel_rfl)) je_int pix_const) plT_subg) (js_one (js_asg (je_callC h__law_row_2 (by kernel_rfl) (ja_cons (je_var (i := 0) (by kernel_rfl)) (ja_cons (je_len ⟨(by kernel_rfl), E.b_len⟩ (ja_cons (je_var (i := 1) (by kernel_rfl)) ja_nil rfl) rfl) ja_nil rfl) rfl) jk_nil rfl rfl) (jg_sub (je_var (i := 5) (by kernel_rfl)) (je_callC h__law_key_2 (by kernel_rfl) (ja_cons (je_var (i := 0) (by kernel_rfl)) (ja_cons (je_var (i := 5) (by kernel_rfl)) ja_nil rfl) rfl) jk_nil rfl rfl) (ss_call _ _)) rfl rfl rfl)) js_nil) ?_
  refine js_cons (js_frzD 5 (js_asg (je_callC h_Meanwhile_4 (by kernel_rfl) (ja_cons (je_ix (je_var (i := 2) (by kernel_rfl)) je_int pix_const) (ja_cons (je_ix (je_var (i := 2) (by kernel_rfl)) je_int pix_const) (ja_cons (je_ix (je_var (i := 2) (by kernel_rfl)) je_int pix_const) (ja_cons (je_ix (je_var (i := 2) (by kernel_rfl)) je_int pix_const) ja_nil rfl) rfl) rfl) rfl) jk_nil rfl rfl) (jg_name (i := 7) (by kernel_rfl)) rfl rfl rfl)) ?_
  refine js_cons (js_asg (je_callC h__law_made_3 (by kernel_rfl) (ja_cons (je_var (i := 1) (by kernel_rfl)) (ja_cons (je_var (i := 4) (by kernel_rfl)) (ja_cons (je_listK ⟨(by kernel_rfl), E.b_list⟩ (ja_cons (je_var (i := 4) (by kernel_rfl)) ja_nil rfl) rfl) ja_nil rfl) rfl) rfl) jk_nil rfl rfl) (jg_name (i := 8) (by kernel_rfl)) rfl rfl rfl) ?_
  refine js_cons (js_asg (je_bin jop_addM (je_lst (ja_cons (je_var (i := 5) (by kernel_rfl)) ja_nil rfl)) (je_lc (own := [("_law_k", 16)]) (ji_range1 ⟨(by kernel_rfl), E.b_range⟩ (ja_cons je_int ja_nil rfl) rfl) (by kernel_rfl) (jgc_name (i := 16) (by kernel_rfl)) jts_nil (je_callC h__law_spoilt_4 (by kernel_rfl) (ja_cons (je_var (i := 0) (by kernel_rfl)) (ja_cons (je_var (i := 1) (by kernel_rfl)) (ja_cons (je_var (i := 2) (by kernel_rfl)) (ja_cons (je_var (i := 5) (by kernel_rfl)) ja_nil rfl) rfl) rfl) rfl) jk_nil rfl rfl) rfl)) (jg_name (i := 9) (by kernel_rfl)) rfl rfl rfl) ?_
  refine js_cons (js_expr (je_append (je_var (i := 9) (by kernel_rfl)) (ja_cons (je_callC h__law_spoilt_4 (by kernel_rfl) (ja_cons (je_var (i := 0) (by kernel_rfl)) (ja_cons (je_var (i := 1) (by kernel_rfl)) (ja_cons (je_var (i := 2) (by kernel_rfl)) (ja_cons (je_var (i := 4) (by kernel_rfl)) ja_nil rfl) rfl) rfl) rfl) jk_nil rfl rfl) ja_nil rfl) rfl ab_name rfl) rfl) ?_
  refine js_cons (js_for (ji_seq (je_bin jop_add (je_var (i := 9) (by kernel_rfl)) (je_lst (ja_cons (je_var (i := 5) (by kernel_rfl)) ja_nil rfl)))) (jg_name (i := 10) (by kernel_rfl)) (js_cons (js_asg (je_callC h__law_made_3 (by kernel_rfl) (ja_cons (je_var (i := 1) (by kernel_rfl)) (ja_cons (je_var (i := 10) (by kernel_rfl)) (ja_cons (je_revL (je_listK ⟨(by kernel_rfl), E.b_list⟩ (ja_cons (je_var (i := 10) (by kernel_rfl)) ja_nil rfl) rfl)) ja_nil rfl) rfl) rfl) jk_nil rfl rfl) (jg_name (i := 11) (by kernel_rfl)) rfl rfl rfl)
    (js_cons (js_asg (je_lstM (ja_cons (je_callC h__law_like_2 (by kernel_rfl) (ja_cons (je_methC h_Meanwhile_allows_3 (je_var (i := 7) (by kernel_rfl)) (ja_cons (je_var (i := 8) (by kernel_rfl)) (ja_cons (je_var (i := 11) (by kernel_rfl)) ja_nil rfl) rfl) jk_nil rfl rfl (mtree_of ab_name rfl rfl rfl rfl)) (ja_cons (je_callC h__law_may_4 (by kernel_rfl) (ja_cons (je_var (i := 1) (by kernel_rfl)) (ja_cons (je_var (i := 2) (by kernel_rfl)) (ja_cons (je_var (i := 4) (by kernel_rfl)) (ja_cons (je_var (i := 10) (by kernel_rfl)) ja_nil rfl) rfl) rfl) rfl) jk_nil rfl rfl) ja_nil rfl) rfl) jk_nil rfl rfl) ja_nil rfl)) (jg_name (i := 12) (by kernel_rfl)) rfl rfl rfl)
    (js_cons (js_expr (je_append (je_var (i := 12) (by kernel_rfl)) (ja_cons (je_callC h__law_like_2 (by kernel_rfl) (ja_cons (je_methC h_Meanwhile_allows_3 (je_var (i := 7) (by kernel_rfl)) (ja_cons (je_var (i := 11) (by kernel_rfl)) (ja_cons (je_var (i := 8) (by kernel_rfl)) ja_nil rfl) rfl) jk_nil rfl rfl (mtree_of ab_name rfl rfl rfl rfl)) (ja_cons (je_callC h__law_may_4 (by kernel_rfl) (ja_cons (je_var (i := 1) (by kernel_rfl)) (ja_cons (je_var (i := 2) (by kernel_rfl)) (ja_cons (je_var (i := 10) (by kernel_rfl)) (ja_cons (je_var (i := 4) (by kernel_rfl)) ja_nil rfl) rfl) rfl) rfl) jk_nil rfl rfl) ja_nil rfl) rfl) jk_nil rfl rfl) ja_nil rfl) rfl ab_name rfl) rfl)
    (js_cons (js_expr (je_append (je_var (i := 12) (by kernel_rfl)) (ja_cons (je_and (je_callC h__law_like_2 (by kernel_rfl) (ja_cons (je_methC h_Store_rows_1 (je_var (i := 8) (by kernel_rfl)) ja_nil jk_nil rfl rfl (mtree_of ab_name rfl rfl rfl rfl)) (ja_cons (je_callC h__law_told_1 (by kernel_rfl) (ja_cons (je_var (i := 4) (by kernel_rfl)) ja_nil rfl) jk_nil rfl rfl) ja_nil rfl) rfl) jk_nil rfl rfl) (je_one (je_callC h__law_like_2 (by kernel_rfl) (ja_cons (je_methC h_Store_rows_1 (je_var (i := 11) (by kernel_rfl)) ja_nil jk_nil rfl rfl (mtree_of ab_name rfl rfl rfl rfl)) (ja_cons (je_callC h__law_told_1 (by kernel_rfl) (ja_cons (je_var (i := 10) (by kernel_rfl)) ja_nil rfl) jk_nil rfl rfl) ja_nil rfl) rfl) jk_nil rfl rfl))) ja_nil rfl) rfl ab_name rfl) rfl)
    (js_one (js_if (jt_cmp jop_in je_bl (je_var (i := 12) (by kernel_rfl)) rfl) (js_one (js_ret je_bl)) js_nil)))))) rfl) ?_
  refine js_cons (js_asg (je_callC h_Store_1 (by kernel_rfl) (ja_cons (je_if (jt_cmp jop_gt (je_len ⟨(by kernel_rfl), E.b_len⟩ (ja_cons (je_var (i := 1) (by kernel_rfl)) ja_nil rfl) rfl) je_int rfl) (je_revT (je_var (i := 1) (by kernel_rfl))) (je_tup (ja_cons je_str (ja_cons je_str ja_nil rfl) rfl))) ja_nil rfl) jk_nil rfl rfl) (jg_name (i := 13) (by kernel_rfl)) rfl rfl rfl) ?_
  refine js_cons (js_asg (je_callC h_Meanwhile_4 (by kernel_rfl) (ja_cons (je_var (i := 1) (by kernel_rfl)) (ja_cons je_bl (ja_cons je_bl (ja_cons je_non ja_nil rfl) rfl) rfl) rfl) jk_nil rfl rfl) (jg_name (i := 14) (by kernel_rfl)) rfl rfl rfl) ?_
  refine js_cons (js_asg (je_lst (ja_cons (je_methC h_Meanwhile_allows_3 (je_var (i := 7) (by kernel_rfl)) (ja_cons (je_var (i := 8) (by kernel_rfl)) (ja_cons (je_var (i := 8) (by kernel_rfl)) ja_nil rfl) rfl) jk_nil rfl rfl (mtree_of ab_name rfl rfl rfl rfl)) (ja_cons (je_methC h_Meanwhile_allows_3 (je_var (i := 14) (by kernel_rfl)) (ja_cons (je_var (i := 8) (by kernel_rfl)) (ja_cons (je_var (i := 13) (by kernel_rfl)) ja_nil rfl) rfl) jk_nil rfl rfl (mtree_of ab_name rfl rfl rfl rfl)) (ja_cons (je_methC h_Meanwhile_allows_3 (je_var (i := 14) (by kernel_rfl)) (ja_cons (je_var (i := 13) (by kernel_rfl)) (ja_cons (je_var (i := 8) (by kernel_rfl)) ja_nil rfl) rfl) jk_nil rfl rfl (mtree_of ab_name rfl rfl rfl rfl)) ja_nil rfl) rfl) rfl)) (jg_name (i := 15) (by kernel_rfl)) rfl rfl rfl) ?_
  exact js_one (js_ret (je_callC h__law_like_2 (by kernel_rfl) (ja_cons (je_var (i := 15) (by kernel_rfl)) (ja_cons (je_lst (ja_cons je_bl (ja_cons je_bl (ja_cons je_bl ja_nil rfl) rfl) rfl)) ja_nil rfl) rfl) jk_nil rfl rfl))
def N_law : List Str := ["_law_script", "_law_at"]
abbrev s_law : Stmt := top 52
theorem sc_law : FnScope N_law ["_law_script"] (defScope s_law) := ⟨rfl, rfl, rfl, by decide +kernel, rfl, by decide +kernel, by decide +kernel⟩
def w_law (T : Wd) (d__law_right_at : DSp) (d__law_spool : DSp) : WS := (wRet (wCall allO (wCons (wLc (wRng rng1 (wCons (wCall max2C (wCons (wC (.int 1)) (wCons (wCall min2C (wCons (wCall lenO (wCons (wVar 0) wNil)) (wCons (wC (.int 12)) wNil))) wNil))) wNil)) (wgName 1) wYes (wCal d__law_right_at 1 0 (wCons (wCal d__law_spool 2 0 (wCons (wVar 0) (wCons (wVar 1) wNil)) wNil) wNil) wNil) [1]) wNil)))
theorem j_law {T : Wd} {lv : Nat} {d__law_right_at : DSp} {d__law_spool : DSp} (E : Env T) (h__law_spool_2 : CalOk T lv "_law_spool" d__law_spool 2 []) (h__law_right_at_1 : CalOk T lv "_law_right_at" d__law_right_at 1 []) : JSs (defB T lv N_law (defScope s_law)) (defBody s_law) (w_law T d__law_right_at d__law_spool) := by
  exact js_one (js_ret (je_all ⟨(by kernel_rfl), E.b_all⟩ (ja_cons (je_lc (own := [("_law_at", 1)]) (ji_range1 ⟨(by kernel_rfl), E.b_range⟩ (ja_cons (je_max ⟨(by kernel_rfl), E.b_max⟩ (ja_cons je_int (ja_cons (je_min ⟨(by kernel_rfl), E.b_min⟩ (ja_cons (je_len ⟨(by kernel_rfl), E.b_len⟩ (ja_cons (je_var (i := 0) (by kernel_rfl)) ja_nil rfl) rfl) (ja_cons je_int ja_nil rfl) rfl) rfl) ja_nil rfl) rfl) rfl) ja_nil rfl) rfl) (by kernel_rfl) (jgc_name (i := 1) (by kernel_rfl)) jts_nil (je_callC h__law_right_at_1 (by kernel_rfl) (ja_cons (je_callC h__law_spool_2 (by kernel_rfl) (ja_cons (je_var (i := 0) (by kernel_rfl)) (ja_cons (je_var (i := 1) (by kernel_rfl)) ja_nil rfl) rfl) jk_nil rfl rfl) ja_nil rfl) jk_nil rfl rfl) rfl) ja_nil rfl) rfl))
end
end K49

/-! PA: words for the plain side (the equations of the readings are printed by mkpa.py). -/
namespace G
open PySem PySem.Spec PyProof.Rows L2
/-- isinstance's answers -/
def tyA : List String := ["NoneType", "bool", "int", "str", "tuple", "list", "dict"]
def tyB : List String := ["bool", "int", "str", "tuple", "list", "dict", "set"]
def okB (m : String) : Bool := tyB.contains m
def isiTab : TyN → TyN → Option Bool
  | .bi a, .bi b => if (tyA.contains a && okB b) = true then some (a == b || (a == "bool" && b == "int")) else none
  | .own a, .own b => if a = b then some true else none
  | _, _ => none
theorem isiTab_ok (T : Wd) : ∀ t c b, isiTab t c = some b → PySem.W.kitOne T.K (tvT T t) (tvT T c) = some b := by
  intro t c b h
  cases t with
  | own a =>
    cases c with
    | bi n => cases h
    | own a' =>
      have h : (if a = a' then some true else none) = some b := h
      by_cases e : a = a'
      · rw [if_pos e] at h
        cases h
        subst e
        show (if ((Value.ref (T.adr a)) == (Value.ref (T.adr a))) = true then some true else _) = _
        rw [if_pos (by simp)]
      · rw [if_neg e] at h; cases h
  | bi a =>
    cases c with
    | own n => cases h
    | bi n =>
      have h : (if (tyA.contains a && okB n) = true then some (a == n || (a == "bool" && n == "int")) else none) = some b := h
      by_cases e : (tyA.contains a && okB n) = true
      · rw [if_pos e] at h
        cases h
        rw [Bool.and_eq_true] at e
        obtain ⟨e1, e2⟩ := e
        have m1 : a ∈ tyA := by simpa using e1
        have m2 : n ∈ tyB := by simpa [okB] using e2
        simp only [tyA, tyB, List.mem_cons, List.not_mem_nil, or_false] at m1 m2
        rcases m1 with rfl | rfl | rfl | rfl | rfl | rfl | rfl <;> rcases m2 with rfl | rfl | rfl | rfl | rfl | rfl | rfl <;> kernel_rfl
      · rw [if_neg e] at h; cases h
/-- the world's answers about types are those of the table; these classes are known; they have no attribute of the field's name -/
structure Pure (T : Wd) (cls : List Str) (noA : List (Str × Str)) : Prop where
  isi : T.isi = isiTab
  cls : ∀ C, C ∈ cls → T.cls C = true
  noA : ∀ C f, (C, f) ∈ noA → T.noA C f = true
theorem rt_ok {T : Wd} {Q : QD} {EQ : EK} {d : D} {M : MS} (h : Q d M) : (endsD T Q EQ).rt d M := ⟨d, M, Cv.refl, h⟩
theorem nx_ok {T : Wd} {Q : QD} {EQ : EK} {env : EnvD} {M : MS} (h : Q .non M) : (endsD T Q EQ).nx env M := ⟨M, fun _ _ h => h, h⟩
theorem rt_cv {T : Wd} {Q : QD} {EQ : EK} {d d' : D} {M M' : MS} (c : Cv T d M d' M') (h : Q d' M') : (endsD T Q EQ).rt d M := ⟨d', M', c, h⟩
/-- what is frozen on its way out -/
theorem rt_frz {T : Wd} {Q : QD} {EQ : EK} {a : Addr} {m : MO} {M : MS} (h : M a = some m) (q : Q (frzMO m) (M.del a)) (hn : notDic m = true := by rfl) : (endsD T Q EQ).rt (.ref a) M :=
  rt_cv (Cv.frz (show frzD M (.ref a) = some (frzMO m, M.del a) by show (M a).bind (fun m => if notDic m = true then some (frzMO m, M.del a) else none) = _; rw [h]; show (if notDic m = true then _ else _) = _; rw [if_pos hn])) q
@[simp] theorem getE_zero {d : Option D} {r : EnvD} : getE (d :: r) 0 = d := rfl
@[simp] theorem getE_succ {d : Option D} {r : EnvD} {i : Nat} : getE (d :: r) (i + 1) = getE r i := rfl
@[simp] theorem wipe_nil {env : EnvD} : wipeD env [] = env := rfl
@[simp] theorem wipe_cons {env : EnvD} {v : Nat} {vs : List Nat} : wipeD env (v :: vs) = (wipeD env vs).set v none := rfl
@[simp] theorem s_chain {o' : D → D → MS → QD → Prop} {wc : WE} {env : EnvD} {Q : QD} {EQ : EK} {y : D} {b : Bool} {M : MS} : chainK o' wc env Q EQ y (.bl b) M = (if b = true then wc env M (fun w M4 => o' y w M4 Q) EQ else Q (.bl false) M) := by
  cases b <;> rfl
@[simp] theorem s_wCal {d : DSp} {np nk : Nat} {wa wk : WA} {env : EnvD} {M : MS} {Q : QD} {EQ : EK} : wCal d np nk wa wk env M Q EQ = (wa env M (fun ds M1 => wk env M1 (fun es M2 => ds.length = np ∧ es.length = nk ∧ d (ds ++ es) M2 Q EQ) EQ) EQ) := by
  simp [wCal, wCal0]
@[simp] theorem s_wFld {T : Wd} {f : Str} {w : WE} {env : EnvD} {M : MS} {Q : QD} {EQ : EK} : wFld T f w env M Q EQ = w env M (fun x M1 => fldO T f x M1 Q) EQ := rfl
@[simp] theorem s_wRng {o : List D → MS → ((MS → Prop) → List D → MS → Prop) → Prop} {wa : WA} {env : EnvD} {M : MS} {Q : (MS → Prop) → List D → MS → Prop} {EQ : EK} : wRng o wa env M Q EQ = wa env M (fun ds M1 => o ds M1 Q) EQ := rfl
@[simp] theorem s_wVar {i : Nat} {env : EnvD} {M : MS} {Q : QD} {EQ : EK} : wVar i env M Q EQ = (match getE env i with
  | some d => Q d M
  | none => False) := rfl
@[simp] theorem s_wC {d : D} {env : EnvD} {M : MS} {Q : QD} {EQ : EK} : wC d env M Q EQ = (Q d M) := rfl
@[simp] theorem s_wBin {o : D → D → MS → QD → Prop} {wa wb : WE} {env : EnvD} {M : MS} {Q : QD} {EQ : EK} : wBin o wa wb env M Q EQ = (wa env M (fun x M1 => wb env M1 (fun y M2 => o x y M2 Q) EQ) EQ) := rfl
@[simp] theorem s_wUn {o : D → MS → QD → Prop} {wa : WE} {env : EnvD} {M : MS} {Q : QD} {EQ : EK} : wUn o wa env M Q EQ = (wa env M (fun x M1 => o x M1 Q) EQ) := rfl
@[simp] theorem s_wNil {env : EnvD} {M : MS} {Q : (List D → MS → Prop)} {EQ : EK} : wNil  env M Q EQ = (Q [] M) := rfl
@[simp] theorem s_wCons {wa : WE} {wr : WA} {env : EnvD} {M : MS} {Q : (List D → MS → Prop)} {EQ : EK} : wCons wa wr env M Q EQ = (wa env M (fun x M1 => wr env M1 (fun xs M2 => Q (x :: xs) M2) EQ) EQ) := rfl
@[simp] theorem s_wCall {o : List D → MS → QD → Prop} {wa : WA} {env : EnvD} {M : MS} {Q : QD} {EQ : EK} : wCall o wa env M Q EQ = (wa env M (fun xs M1 => o xs M1 Q) EQ) := rfl
@[simp] theorem s_wTup {wa : WA} {env : EnvD} {M : MS} {Q : QD} {EQ : EK} : wTup wa env M Q EQ = (wa env M (fun xs M1 => xs.length ≤ sizeLine ∧ Q (.tup xs) M1) EQ) := rfl
@[simp] theorem s_wLst {wa : WA} {env : EnvD} {M : MS} {Q : QD} {EQ : EK} : wLst wa env M Q EQ = (wa env M (fun xs M1 => xs.length ≤ sizeLine ∧ Q (.lst xs) M1) EQ) := rfl
@[simp] theorem s_wTest {w : WE} {env : EnvD} {M : MS} {Q : (Bool → MS → Prop)} {EQ : EK} : wTest w env M Q EQ = (w env M (fun d M1 => match d with
  | .bl b => Q b M1
  | _ => False) EQ) := rfl
@[simp] theorem s_wAndT {a b : WT} {env : EnvD} {M : MS} {Q : (Bool → MS → Prop)} {EQ : EK} : wAndT a b env M Q EQ = (a env M (fun c M1 => if c = true then b env M1 Q EQ else Q false M1) EQ) := rfl
@[simp] theorem s_wOrT {a b : WT} {env : EnvD} {M : MS} {Q : (Bool → MS → Prop)} {EQ : EK} : wOrT a b env M Q EQ = (a env M (fun c M1 => if c = true then Q true M1 else b env M1 Q EQ) EQ) := rfl
@[simp] theorem s_wNotT {a : WT} {env : EnvD} {M : MS} {Q : (Bool → MS → Prop)} {EQ : EK} : wNotT a env M Q EQ = (a env M (fun c M1 => Q (!c) M1) EQ) := rfl
@[simp] theorem s_wIfE {c : WT} {a b : WE} {env : EnvD} {M : MS} {Q : QD} {EQ : EK} : wIfE c a b env M Q EQ = (c env M (fun k M1 => if k = true then a env M1 Q EQ else b env M1 Q EQ) EQ) := rfl
@[simp] theorem s_wNext {env : EnvD} {M : MS} {K : KD} : wNext  env M K = (K.nx env M) := rfl
@[simp] theorem s_wSeq {a b : WS} {env : EnvD} {M : MS} {K : KD} : wSeq a b env M K = (a env M { K with nx := fun env1 M1 => b env1 M1 K }) := rfl
@[simp] theorem s_wNever {env : EnvD} {M : MS} {K : KD} : wNever  env M K = (False) := rfl
@[simp] theorem s_wBreak {env : EnvD} {M : MS} {K : KD} : wBreak  env M K = (K.bk env M) := rfl
@[simp] theorem s_wCont {env : EnvD} {M : MS} {K : KD} : wCont  env M K = (K.ct env M) := rfl
@[simp] theorem s_wDrop {w : WE} {env : EnvD} {M : MS} {K : KD} : wDrop w env M K = (w env M (fun _ M1 => K.nx env M1) (fun x M1 => K.ex x env M1)) := rfl
@[simp] theorem s_wRet {w : WE} {env : EnvD} {M : MS} {K : KD} : wRet w env M K = (w env M K.rt (fun x M1 => K.ex x env M1)) := rfl
@[simp] theorem s_wRetN {env : EnvD} {M : MS} {K : KD} : wRetN  env M K = (K.rt .non M) := rfl
@[simp] theorem s_wIf {c : WT} {a b : WS} {env : EnvD} {M : MS} {K : KD} : wIf c a b env M K = (c env M (fun k M1 => if k = true then a env M1 K else b env M1 K) (fun x M1 => K.ex x env M1)) := rfl
@[simp] theorem s_wgName {i : Nat} {d : D} {env : EnvD} {M : MS} {Q : (EnvD → MS → Prop)} {EQ : EK} : wgName i d env M Q EQ = (Q (env.set i (some d)) M) := rfl
@[simp] theorem s_wgNil {ds : List D} {env : EnvD} {M : MS} {Q : (EnvD → MS → Prop)} {EQ : EK} : wgNil  ds env M Q EQ = (match ds with
  | [] => Q env M
  | _ => False) := rfl
@[simp] theorem s_wgCons {w : WG} {r : WGs} {ds : List D} {env : EnvD} {M : MS} {Q : (EnvD → MS → Prop)} {EQ : EK} : wgCons w r ds env M Q EQ = (match ds with
  | d :: ds' => w d env M (fun env1 M1 => r ds' env1 M1 Q EQ) EQ
  | [] => False) := rfl
@[simp] theorem s_wgTup {n : Nat} {r : WGs} {d : D} {env : EnvD} {M : MS} {Q : (EnvD → MS → Prop)} {EQ : EK} : wgTup n r d env M Q EQ = (match asT d with
  | some xs => xs.length = n ∧ r xs env M Q (fun _ _ => False)
  | none => False) := rfl
@[simp] theorem s_wAsg {w : WE} {g : WG} {env : EnvD} {M : MS} {K : KD} : wAsg w g env M K = (w env M (fun d M1 => g d env M1 K.nx (fun x M2 => K.ex x env M2)) (fun x M1 => K.ex x env M1)) := rfl
@[simp] theorem s_wPar {i j : Nat} {wa : WA} {env : EnvD} {M : MS} {K : KD} : wPar i j wa env M K = (wa env M (fun ds M1 => match ds with
  | [d, e] => K.nx ((env.set i (some d)).set j (some e)) M1
  | _ => False) (fun x M1 => K.ex x env M1)) := rfl
@[simp] theorem s_wNoPart {env : EnvD} {M : MS} {Q : (Option Int → MS → Prop)} {EQ : EK} : wNoPart  env M Q EQ = (Q none M) := rfl
@[simp] theorem s_wPart {w : WE} {env : EnvD} {M : MS} {Q : (Option Int → MS → Prop)} {EQ : EK} : wPart w env M Q EQ = (w env M (fun d M1 => match d with
  | .int i => Q (some i) M1
  | _ => False) EQ) := rfl
@[simp] theorem s_wSl {w : WE} {l u : WO} {env : EnvD} {M : MS} {Q : QD} {EQ : EK} : wSl w l u env M Q EQ = (w env M (fun x M1 => l env M1 (fun lo M2 => u env M2 (fun hi M3 => sliceO x lo hi M3 Q) EQ) EQ) EQ) := rfl
@[simp] theorem s_wCal0 {d : DSp} {np nk : Nat} {fd : List D} {wa wk : WA} {env : EnvD} {M : MS} {Q : QD} {EQ : EK} : wCal0 d np nk fd wa wk env M Q EQ = (wa env M (fun ds M1 => wk env M1 (fun es M2 => fd.length + ds.length = np ∧ es.length = nk ∧ d ((fd ++ ds) ++ es) M2 Q EQ) EQ) EQ) := rfl
@[simp] theorem s_wSetFld {T : Wd} {f : Str} {wa wv : WE} {env : EnvD} {M : MS} {K : KD} : wSetFld T f wa wv env M K = (wv env M (fun v M1 => wa env M1 (fun d M2 => stFld T f d v M2 (fun M3 => K.nx env M3)) (fun x M2 => K.ex x env M2)) (fun x M1 => K.ex x env M1)) := rfl
@[simp] theorem s_wBM {ty : String} {o : D → List D → MS → QD → Prop} {w : WE} {wa : WA} {env : EnvD} {M : MS} {Q : QD} {EQ : EK} : wBM ty o w wa env M Q EQ = (w env M (fun d M1 => bmTy M1 d = some ty ∧ wa env M1 (fun ds M2 => o d ds M2 Q) EQ) EQ) := rfl
@[simp] theorem s_wgSub {wo wi : WE} {v : D} {env : EnvD} {M : MS} {Q : (EnvD → MS → Prop)} {EQ : EK} : wgSub wo wi v env M Q EQ = (wo env M (fun d M1 => wi env M1 (fun i M2 => setItO d i v M2 (fun M3 => Q env M3)) EQ) EQ) := rfl
@[simp] theorem s_wDel {wo wi : WE} {env : EnvD} {M : MS} {K : KD} : wDel wo wi env M K = (wo env M (fun d M1 => wi env M1 (fun i M2 => delO d i M2 (fun M3 => K.nx env M3)) (fun x M2 => K.ex x env M2)) (fun x M1 => K.ex x env M1)) := rfl
@[simp] theorem s_wChain {o o' : D → D → MS → QD → Prop} {wa wb wc : WE} {env : EnvD} {M : MS} {Q : QD} {EQ : EK} : wChain o o' wa wb wc env M Q EQ = (wa env M (fun x M1 => wb env M1 (fun y M2 => o x y M2 (chainK o' wc env Q EQ y)) EQ) EQ) := rfl
@[simp] theorem s_wAndV {a b : WE} {env : EnvD} {M : MS} {Q : QD} {EQ : EK} : wAndV a b env M Q EQ = (wTest a env M (fun c M1 => if c = true then b env M1 Q EQ else Q (.bl false) M1) EQ) := rfl
@[simp] theorem s_wOrV {a b : WE} {env : EnvD} {M : MS} {Q : QD} {EQ : EK} : wOrV a b env M Q EQ = (wTest a env M (fun c M1 => if c = true then Q (.bl true) M1 else b env M1 Q EQ) EQ) := rfl
@[simp] theorem s_wNotV {a : WE} {env : EnvD} {M : MS} {Q : QD} {EQ : EK} : wNotV a env M Q EQ = (wTest a env M (fun c M1 => Q (.bl (!c)) M1) EQ) := rfl
@[simp] theorem s_wLstM {wa : WA} {env : EnvD} {M : MS} {Q : QD} {EQ : EK} : wLstM wa env M Q EQ = (wa env M (fun xs M1 => xs.length ≤ sizeLine ∧ ∀ a, M1 a = none → Q (.ref a) (M1.set a (.lst xs))) EQ) := rfl
@[simp] theorem s_wFor {wi : WI} {wg : WG} {wb : WS} {env : EnvD} {M : MS} {K : KD} : wFor wi wg wb env M K = (wi env M (fun Kp xs M1 => forD wg wb K Kp xs env M1) (fun y M1 => K.ex y env M1)) := rfl
@[simp] theorem s_wLc {wi : WI} {wg : WG} {wt : WT} {we : WE} {vs : List Nat} {env : EnvD} {M : MS} {Q : QD} {EQ : EK} : wLc wi wg wt we vs env M Q EQ = (wi env M (fun Kp xs M1 => lcD wg wt we Kp (wipeD env vs) (fun ys M2 => Q (.lst ys) M2) xs [] M1) EQ) := rfl
@[simp] theorem s_wLcM {wi : WI} {wg : WG} {wt : WT} {we : WE} {vs : List Nat} {env : EnvD} {M : MS} {Q : QD} {EQ : EK} : wLcM wi wg wt we vs env M Q EQ = (wi env M (fun Kp xs M1 => lcD wg wt we Kp (wipeD env vs) (fun ys M2 => ∀ a, M2 a = none → Q (.ref a) (M2.set a (.lst ys))) xs [] M1) EQ) := rfl
@[simp] theorem s_wIt {w : WE} {env : EnvD} {M : MS} {Q : ((MS → Prop) → List D → MS → Prop)} {EQ : EK} : wIt w env M Q EQ = (w env M (fun d M1 => seqI d M1 Q) EQ) := rfl
@[simp] theorem s_wYes {env : EnvD} {M : MS} {Q : (Bool → MS → Prop)} {EQ : EK} : wYes  env M Q EQ = (Q true M) := rfl
@[simp] theorem s_wTry0 {wb : WS} {env : EnvD} {M : MS} {K : KD} : wTry0 wb env M K = (wb env M { K with ex := fun _ _ _ => False }) := rfl
@[simp] theorem s_wgStar {k : Nat} {r : WGs} {d : D} {env : EnvD} {M : MS} {Q : (EnvD → MS → Prop)} {EQ : EK} : wgStar k r d env M Q EQ = (∃ xs, asS M d = some xs ∧ k ≤ xs.length ∧ r (xs.take k ++ [.lst (xs.drop k)]) env M Q (fun _ _ => False)) := rfl
@[simp] theorem s_wMeth1 {C : Str} {m : Str} {d : DSp} {np nk : Nat} {w : WE} {wa wk : WA} {env : EnvD} {M : MS} {Q : QD} {EQ : EK} : wMeth1 C m d np nk w wa wk env M Q EQ = (w env M (meth1O C m d np nk wa wk env Q EQ) EQ) := rfl
@[simp] theorem s_wEqOwn {C : Str} {d : DSp} {wa wb : WE} {env : EnvD} {M : MS} {Q : QD} {EQ : EK} : wEqOwn C d wa wb env M Q EQ = (wa env M (fun x M1 => wb env M1 (fun y M2 => ∃ fs gs, insD M2 x = some (C, fs) ∧ insD M2 y = some (C, gs) ∧ d [x, y] M2 (fun r M3 => ∃ k, r = .bl k ∧ Q r M3) EQ) EQ) EQ) := rfl
@[simp] theorem s_wDicM {ks : List Key} {wa : WA} {env : EnvD} {M : MS} {Q : QD} {EQ : EK} : wDicM ks wa env M Q EQ = (wa env M (fun ds M1 => ∀ a, M1 a = none → Q (.ref a) (M1.set a (.dic (mergeD [] (ks.zip ds))))) EQ) := rfl
section
variable {M : MS} {Q : QD} {i j : Int} {a b : Str} {xs ys : List D} {p : Bool} {x y : D}
@[simp] theorem s_sub : subO (.int i) (.int j) M Q = Q (.int (i - j)) M := by simp [subO, intsO, CYes]
@[simp] theorem s_mod : modO (.int i) (.int j) M Q = (0 < j ∧ Q (.int (i % j)) M) := rfl
@[simp] theorem s_fdiv : fdivO (.int i) (.int j) M Q = (CDivW i j ∧ Q (.int (i / j)) M) := rfl
@[simp] theorem s_pow : powO (.int i) (.int j) M Q = (CPowW i j ∧ Q (.int (i ^ j.toNat)) M) := rfl
@[simp] theorem s_lt : ltO (.int i) (.int j) M Q = Q (.bl (decide (i < j))) M := by simp [ltO, intsO, CYes]
@[simp] theorem s_le : leO (.int i) (.int j) M Q = Q (.bl (decide (i ≤ j))) M := by simp [leO, intsO, CYes]
@[simp] theorem s_gt : gtO (.int i) (.int j) M Q = Q (.bl (decide (j < i))) M := by simp [gtO, intsO, CYes]
@[simp] theorem s_ge : geO (.int i) (.int j) M Q = Q (.bl (decide (j ≤ i))) M := by simp [geO, intsO, CYes]
@[simp] theorem s_neg : negO (.int i) M Q = Q (.int (-i)) M := rfl
@[simp] theorem s_add_int : addO (.int i) (.int j) M Q = Q (.int (i + j)) M := rfl
@[simp] theorem s_add_str : addO (.str a) (.str b) M Q = (a.length + b.length ≤ sizeLine ∧ Q (.str (a ++ b)) M) := rfl
@[simp] theorem s_add_tup : addO (.tup xs) (.tup ys) M Q = (xs.length + ys.length ≤ sizeLine ∧ Q (.tup (xs ++ ys)) M) := rfl
@[simp] theorem s_add_lst : addO (.lst xs) (.lst ys) M Q = (xs.length + ys.length ≤ sizeLine ∧ Q (.lst (xs ++ ys)) M) := rfl
theorem s_add_refs {u v : Addr} (h1 : M u = some (.lst xs)) (h2 : M v = some (.lst ys)) : addO (.ref u) (.ref v) M Q = (xs.length + ys.length ≤ sizeLine ∧ Q (.lst (xs ++ ys)) M) := by
  show (match lstMO (M u), lstMO (M v) with | some xs, some ys => xs.length + ys.length ≤ sizeLine ∧ Q (.lst (xs ++ ys)) M | _, _ => False) = _
  rw [h1, h2]; rfl
theorem s_add_refl {u : Addr} (h1 : M u = some (.lst xs)) : addO (.ref u) (.lst ys) M Q = (xs.length + ys.length ≤ sizeLine ∧ Q (.lst (xs ++ ys)) M) := by
  show (match lstMO (M u), some ys with | some xs, some ys => xs.length + ys.length ≤ sizeLine ∧ Q (.lst (xs ++ ys)) M | _, _ => False) = _
  rw [h1]; rfl
theorem s_add_lref {v : Addr} (h2 : M v = some (.lst ys)) : addO (.lst xs) (.ref v) M Q = (xs.length + ys.length ≤ sizeLine ∧ Q (.lst (xs ++ ys)) M) := by
  show (match some xs, lstMO (M v) with | some xs, some ys => xs.length + ys.length ≤ sizeLine ∧ Q (.lst (xs ++ ys)) M | _, _ => False) = _
  rw [h2]; rfl
@[simp] theorem s_mul_int : mulA (.int i) (.int j) M Q = (i.natAbs.log2 + j.natAbs.log2 < 1000000 ∧ Q (.int (i * j)) M) := rfl
@[simp] theorem s_mul_tup : mulA (.tup xs) (.int j) M Q = (xs ≠ [] ∧ 1 ≤ j ∧ j ≤ 1000 ∧ xs.length ≤ 1000 ∧ Q (.tup (List.replicate j.toNat xs).flatten) M) := rfl
@[simp] theorem s_mul_str {k : Int} : mulA (.str a) (.int k) M Q = (1 ≤ k ∧ k ≤ 1000 ∧ a.length ≤ 10000 ∧ Q (.str (Txt.mul a k)) M) := rfl
@[simp] theorem s_mul_lst : mulA (.lst xs) (.int j) M Q = (-(2 ^ 63) ≤ j ∧ j < 2 ^ 63 ∧ xs.length * j.toNat ≤ sizeLine ∧ Q (.lst (List.replicate j.toNat xs).flatten) M) := rfl
/-- scalars -/
@[simp] theorem s_eq_int : eqO (.int i) (.int j) M Q = Q (.bl (decide (i = j))) M := rfl
@[simp] theorem s_eq_str : eqO (.str a) (.str b) M Q = Q (.bl (decide (a = b))) M := rfl
@[simp] theorem s_eq_bl {q : Bool} : eqO (.bl p) (.bl q) M Q = Q (.bl (decide (p = q))) M := rfl
@[simp] theorem s_eq_nn : eqO .non .non M Q = Q (.bl true) M := rfl
@[simp] theorem s_eq_ni : eqO .non (.int i) M Q = Q (.bl false) M := rfl
@[simp] theorem s_eq_in : eqO (.int i) .non M Q = Q (.bl false) M := rfl
@[simp] theorem s_eq_ns : eqO .non (.str a) M Q = Q (.bl false) M := rfl
@[simp] theorem s_eq_sn : eqO (.str a) .non M Q = Q (.bl false) M := rfl
@[simp] theorem s_eq_is : eqO (.int i) (.str a) M Q = Q (.bl false) M := rfl
@[simp] theorem s_eq_si : eqO (.str a) (.int i) M Q = Q (.bl false) M := rfl
@[simp] theorem s_eq_sb : eqO (.str a) (.bl p) M Q = Q (.bl false) M := rfl
@[simp] theorem s_eq_bs : eqO (.bl p) (.str a) M Q = Q (.bl false) M := rfl
@[simp] theorem s_ne_int : neO (.int i) (.int j) M Q = Q (.bl (!decide (i = j))) M := rfl
@[simp] theorem s_ne_str : neO (.str a) (.str b) M Q = Q (.bl (!decide (a = b))) M := rfl
@[simp] theorem s_ne_bl {q : Bool} : neO (.bl p) (.bl q) M Q = Q (.bl (!decide (p = q))) M := rfl
/-- plain data -/
theorem s_eq_P {u v : PyData} (hs : scalD x y = none) (h1 : topP M x = some u) (h2 : topP M y = some v) : eqO x y M Q = (SeqAt.shaped u = true ∧ SeqAt.shaped v = true ∧ Q (.bl (PyData.eqv u v)) M) := by
  unfold eqO; rw [hs, h1, h2]
theorem s_ne_P {u v : PyData} (hs : scalD x y = none) (h1 : topP M x = some u) (h2 : topP M y = some v) : neO x y M Q = (SeqAt.shaped u = true ∧ SeqAt.shaped v = true ∧ Q (.bl (!PyData.eqv u v)) M) := by
  unfold neO; rw [hs, h1, h2]
@[simp] theorem s_is : isNO x .non M Q = Q (.bl (isND x)) M := rfl
@[simp] theorem s_isnot : notNO x .non M Q = Q (.bl (!isND x)) M := rfl
@[simp] theorem s_nd_non : isND .non = true := rfl
@[simp] theorem s_nd_int : isND (.int i) = false := rfl
@[simp] theorem s_nd_str : isND (.str a) = false := rfl
@[simp] theorem s_nd_bl : isND (.bl p) = false := rfl
@[simp] theorem s_nd_tup : isND (.tup xs) = false := rfl
@[simp] theorem s_nd_lst : isND (.lst xs) = false := rfl
@[simp] theorem s_nd_ref {u : Addr} : isND (.ref u) = false := rfl
@[simp] theorem s_nd_ins {C : Str} {fs : List (Str × D)} : isND (.ins C fs) = false := rfl
/-- in -/
@[simp] theorem s_in_tup {neg : Bool} : inO neg x (.tup xs) M Q = (flatD x = true ∧ xs.all flatD = true ∧ Q (.bl (if neg then !inF x xs else inF x xs)) M) := rfl
@[simp] theorem s_in_lst {neg : Bool} : inO neg x (.lst xs) M Q = (flatD x = true ∧ xs.all flatD = true ∧ Q (.bl (if neg then !inF x xs else inF x xs)) M) := rfl
theorem s_in_ref {neg : Bool} {u : Addr} (h : M u = some (.lst xs)) : inO neg x (.ref u) M Q = (flatD x = true ∧ xs.all flatD = true ∧ Q (.bl (if neg then !inF x xs else inF x xs)) M) := by
  show (match dicMO (M u) with
    | some kvs => (match keyD x with
      | some k => Q (.bl (if neg then !(valD kvs k).isSome else (valD kvs k).isSome)) M
      | none => False)
    | none => (match (none : Option (List D)).or (lstMO (M u)) with
      | some xs => flatD x = true ∧ xs.all flatD = true ∧ Q (.bl (if neg then !inF x xs else inF x xs)) M
      | none => False)) = _
  rw [h]; rfl
@[simp] theorem s_fl_non : flatD .non = true := rfl
@[simp] theorem s_fl_int : flatD (.int i) = true := rfl
@[simp] theorem s_fl_str : flatD (.str a) = true := rfl
@[simp] theorem s_fl_bl : flatD (.bl p) = true := rfl
/-- is a sign among those of a text -/
def hasSign (t : Str) (c : Nat) : Bool := decide (c ∈ t.cps.toList)
@[simp] theorem s_in_sign {c : Nat} {neg : Bool} : inO neg (.str ⟨#[c]⟩) (.str a) M Q = Q (.bl (if neg then !hasSign a c else hasSign a c)) M := rfl
/-- items -/
@[simp] theorem s_item_tup : itemO (.tup xs) (.int i) M Q = (match atI xs i with | some d => Q d M | none => False) := rfl
@[simp] theorem s_item_tpl : itemO (.tpl xs) (.int i) M Q = (match atI xs i with | some d => Q d M | none => False) := rfl
@[simp] theorem s_item_lst : itemO (.lst xs) (.int i) M Q = (match atI xs i with | some d => Q d M | none => False) := rfl
@[simp] theorem s_item_scr : itemO (.scr xs) (.int i) M Q = (match atI xs i with | some d => Q d M | none => False) := rfl
@[simp] theorem s_item_str : itemO (.str a) (.int i) M Q = (a.length ≤ sizeLine ∧ match atI a.cps.toList i with | some c => Q (.str ⟨#[c]⟩) M | none => False) := rfl
theorem s_item_ref {u : Addr} (h : M u = some (.lst xs)) : itemO (.ref u) (.int i) M Q = (match atI xs i with | some d => Q d M | none => False) := by
  unfold itemO
  have e1 : asD M (.ref u) = none := by show dicMO (M u) = none; rw [h]; rfl
  have e2 : (asT (.ref u)).or (asS M (.ref u)) = some xs := by show (none : Option (List D)).or (lstMO (M u)) = some xs; rw [h]; rfl
  rw [e1]; simp only [e2] <;> rfl
theorem s_item_dic {u : Addr} {kvs : List (Key × D)} {k : Key} (h : M u = some (.dic kvs)) (hk : keyD y = some k) : itemO (.ref u) y M Q = (match valD kvs k with | some d => Q d M | none => False) := by
  unfold itemO
  have e1 : asD M (.ref u) = some kvs := by show dicMO (M u) = _; rw [h]; rfl
  rw [e1]; simp only [hk] <;> rfl
/-- slices -/
@[simp] theorem s_slice_str {lo hi : Option Int} : sliceO (.str a) lo hi M Q = (a.length ≤ sizeLine ∧ Q (.str (cutS a lo hi)) M) := rfl
@[simp] theorem s_slice_tup {lo hi : Option Int} : sliceO (.tup xs) lo hi M Q = Q (.tup (cutD xs lo hi)) M := rfl
@[simp] theorem s_slice_lst {lo hi : Option Int} : sliceO (.lst xs) lo hi M Q = Q (.lst (cutD xs lo hi)) M := rfl
theorem s_slice_ref {u : Addr} {lo hi : Option Int} (h : M u = some (.lst xs)) : sliceO (.ref u) lo hi M Q = Q (.lst (cutD xs lo hi)) M := by
  show (match lstMO (M u) with | some xs => Q (.lst (cutD xs lo hi)) M | none => False) = _
  rw [h]; rfl
/-- calls -/
@[simp] theorem s_len_str : lenO [.str a] M Q = (a.length ≤ sizeLine ∧ Q (.int a.length) M) := rfl
@[simp] theorem s_len_set {ks : List Key} : lenO [.set ks] M Q = Q (.int ks.length) M := rfl
@[simp] theorem s_len_tup : lenO [.tup xs] M Q = Q (.int xs.length) M := rfl
@[simp] theorem s_len_tpl : lenO [.tpl xs] M Q = Q (.int xs.length) M := rfl
@[simp] theorem s_len_lst : lenO [.lst xs] M Q = Q (.int xs.length) M := rfl
@[simp] theorem s_len_scr : lenO [.scr xs] M Q = Q (.int xs.length) M := rfl
theorem s_len_ref {u : Addr} (h : M u = some (.lst xs)) : lenO [.ref u] M Q = Q (.int xs.length) M := by
  have e1 : asD M (.ref u) = none := by show dicMO (M u) = none; rw [h]; rfl
  have e2 : (asT (.ref u)).or (asS M (.ref u)) = some xs := by show (none : Option (List D)).or (lstMO (M u)) = some xs; rw [h]; rfl
  unfold lenO
  simp only [e1, e2]
theorem s_all_lst {ds : List D} : allO [.lst ds] M Q = (match blsD ds with | some bs => Q (.bl (bs.all id)) M | none => False) := rfl
theorem s_any_lst {ds : List D} : anyO [.lst ds] M Q = (match blsD ds with | some bs => Q (.bl (bs.any id)) M | none => False) := rfl
@[simp] theorem s_tup_tup : tupleO [.tup xs] M Q = Q (.tup xs) M := rfl
@[simp] theorem s_tup_lst : tupleO [.lst xs] M Q = Q (.tup xs) M := rfl
theorem s_tup_ref {u : Addr} (h : M u = some (.lst xs)) : tupleO [.ref u] M Q = Q (.tup xs) M := by
  show (match lstMO (M u) with | some ys => Q (.tup ys) M | none => False) = _
  rw [h]; rfl
@[simp] theorem s_list_tup : listO [.tup xs] M Q = Q (.lst xs) M := rfl
@[simp] theorem s_list_lst : listO [.lst xs] M Q = Q (.lst xs) M := rfl
theorem s_list_ref {u : Addr} (h : M u = some (.lst xs)) : listO [.ref u] M Q = Q (.lst xs) M := by
  show (match (none : Option (List D)).or (lstMO (M u)) with | some ys => Q (.lst ys) M | none => False) = _
  rw [h]; rfl
@[simp] theorem s_int_int : intC [.int i] M Q = Q (.int i) M := rfl
@[simp] theorem s_int_str : intC [.str a] M Q = (match PySem.intText? a with | some n => a.length ≤ 640 ∧ Q (.int n) M | none => False) := rfl
@[simp] theorem s_str_int : strC [.int i] M Q = (i.natAbs.log2 < 1920 ∧ Q (.str (toString i)) M) := rfl
@[simp] theorem s_abs : absC [.int i] M Q = Q (.int (if i < 0 then -i else i)) M := rfl
@[simp] theorem s_max : max2C [.int i, .int j] M Q = Q (.int (if j > i then j else i)) M := rfl
@[simp] theorem s_min : min2C [.int i, .int j] M Q = Q (.int (if j < i then j else i)) M := rfl
@[simp] theorem s_set_tup : setC [.tup xs] M Q = (match keysD xs with | some ks => ks.length ≤ 1000 ∧ Q (.set (uniq ks)) M | none => False) := rfl
@[simp] theorem s_set_lst : setC [.lst xs] M Q = (match keysD xs with | some ks => ks.length ≤ 1000 ∧ Q (.set (uniq ks)) M | none => False) := rfl
/-- walks -/
@[simp] theorem s_seq_str {R : (MS → Prop) → List D → MS → Prop} : seqI (.str a) M R = R (fun _ => True) (signsD a) M := rfl
@[simp] theorem s_seq_tup {R : (MS → Prop) → List D → MS → Prop} : seqI (.tup xs) M R = R (fun _ => True) xs M := rfl
@[simp] theorem s_seq_tpl {R : (MS → Prop) → List D → MS → Prop} : seqI (.tpl xs) M R = R (fun _ => True) xs M := rfl
@[simp] theorem s_seq_lst {R : (MS → Prop) → List D → MS → Prop} : seqI (.lst xs) M R = R (fun _ => True) xs M := by
  have e : (fun M' => asS M' (.lst xs) = some xs) = fun _ => True := by funext z; exact propext ⟨fun _ => trivial, fun _ => rfl⟩
  show R (fun M' => asS M' (.lst xs) = some xs) xs M = _
  rw [e]
@[simp] theorem s_seq_scr {R : (MS → Prop) → List D → MS → Prop} : seqI (.scr xs) M R = R (fun _ => True) xs M := by
  have e : (fun M' => asS M' (.scr xs) = some xs) = fun _ => True := by funext z; exact propext ⟨fun _ => trivial, fun _ => rfl⟩
  show R (fun M' => asS M' (.scr xs) = some xs) xs M = _
  rw [e]
theorem s_seq_ref {u : Addr} {R : (MS → Prop) → List D → MS → Prop} (h : M u = some (.lst xs)) : seqI (.ref u) M R = R (fun M' => lstMO (M' u) = some xs) xs M := by
  show (match lstMO (M u) with | some xs => R (fun M' => asS M' (.ref u) = some xs) xs M | none => (match (none : Option (List D)) with | some xs => R (fun _ => True) xs M | none => False)) = _
  rw [h]; rfl
@[simp] theorem s_rng1 {R : (MS → Prop) → List D → MS → Prop} : rng1 [.int j] M R = (-(2 ^ 62) ≤ j ∧ j < 2 ^ 62 ∧ R (fun _ => True) (rangeD 0 j.toNat) M) := by
  refine propext ⟨fun ⟨k, e, h⟩ => ?_, fun h => ⟨j, rfl, h⟩⟩
  injection e with e1 e2; injection e1 with e1; subst e1; exact h
@[simp] theorem s_rng2 {R : (MS → Prop) → List D → MS → Prop} : rng2 [.int i, .int j] M R = ((-(2 ^ 62) ≤ i ∧ i < 2 ^ 62 ∧ -(2 ^ 62) ≤ j ∧ j < 2 ^ 62) ∧ R (fun _ => True) (rangeD i (j - i).toNat) M) := by
  refine propext ⟨fun ⟨k, l, e, h⟩ => ?_, fun h => ⟨i, j, rfl, h⟩⟩
  injection e with e1 e2; injection e1 with e1; injection e2 with e2 e3; injection e2 with e2; subst e1 e2; exact h
@[simp] theorem s_zip_tup {R : (MS → Prop) → List D → MS → Prop} (h : R (fun _ => True) (zipD xs ys) M) : zipI [.tup xs, .tup ys] M R := ⟨_, _, xs, ys, rfl, .inr ⟨rfl, rfl, h⟩⟩
@[simp] theorem s_zip_lst {R : (MS → Prop) → List D → MS → Prop} (h : R (fun _ => True) (zipD xs ys) M) : zipI [.lst xs, .lst ys] M R := by
  refine ⟨_, _, xs, ys, rfl, .inl ⟨rfl, rfl, ?_⟩⟩
  have e : (fun M' => asS M' (.lst xs) = some xs ∧ asS M' (.lst ys) = some ys) = fun _ => True := by funext z; exact propext ⟨fun _ => trivial, fun _ => ⟨rfl, rfl⟩⟩
  rw [e]; exact h
@[simp] theorem s_enum_lst {R : (MS → Prop) → List D → MS → Prop} (h : R (fun _ => True) (enumD 0 xs) M) : enumI [.lst xs] M R := by
  refine ⟨_, xs, rfl, rfl, ?_⟩
  have e : (fun M' => asS M' (.lst xs) = some xs) = fun _ => True := by funext z; exact propext ⟨fun _ => trivial, fun _ => rfl⟩
  rw [e]; exact h
theorem s_enumK_lst {c : Int} {R : (MS → Prop) → List D → MS → Prop} (h : R (fun _ => True) (enumD c xs) M) : enumKI c [.lst xs] M R := by
  refine ⟨_, xs, rfl, rfl, ?_⟩
  have e : (fun M' => asS M' (.lst xs) = some xs) = fun _ => True := by funext z; exact propext ⟨fun _ => trivial, fun _ => rfl⟩
  rw [e]; exact h
/-- types -/
@[simp] theorem s_ty_non : tyD M .non = some (.bi "NoneType") := rfl
@[simp] theorem s_ty_bl : tyD M (.bl p) = some (.bi "bool") := rfl
@[simp] theorem s_ty_int : tyD M (.int i) = some (.bi "int") := rfl
@[simp] theorem s_ty_str : tyD M (.str a) = some (.bi "str") := rfl
@[simp] theorem s_ty_tup : tyD M (.tup xs) = some (.bi "tuple") := rfl
@[simp] theorem s_ty_lst : tyD M (.lst xs) = some (.bi "list") := rfl
@[simp] theorem s_ty_dic {kvs : List (Key × D)} : tyD M (.dic kvs) = some (.bi "dict") := rfl
@[simp] theorem s_ty_ins {C : Str} {fs : List (Str × D)} : tyD M (.ins C fs) = some (.own C) := rfl
theorem s_ty_ref {u : Addr} {m : MO} (h : M u = some m) : tyD M (.ref u) = tyMO (some m) := by show tyMO (M u) = _; rw [h]
/-- isinstance(x, t) -/
theorem isi_bi {T : Wd} {cls : List Str} {noA : List (Str × Str)} {n m : String} (P : Pure T cls noA) (h : tyD M x = some (.bi n)) (ha : tyA.contains n = true) (hb : okB m = true) : isiO T [x, .ty m] M Q = Q (.bl (n == m || (n == "bool" && m == "int"))) M := by
  unfold isiO isiD
  simp only [h, ownOk, clsD, P.isi, isiTab, ha, hb, Bool.and_self, if_true]
theorem isi_bi2 {T : Wd} {cls : List Str} {noA : List (Str × Str)} {n m m' : String} (P : Pure T cls noA) (h : tyD M x = some (.bi n)) (ha : tyA.contains n = true) (hb : okB m = true) (hb' : okB m' = true) : isiO T [x, .tup [.ty m, .ty m']] M Q = Q (.bl ((n == m || (n == "bool" && m == "int")) || (n == m' || (n == "bool" && m' == "int")))) M := by
  unfold isiO isiD
  simp only [h, ownOk, clsL, clsD, isiAny, P.isi, isiTab, ha, hb, hb', Bool.and_self, if_true]
  cases (n == m || (n == "bool" && m == "int")) <;> cases (n == m' || (n == "bool" && m' == "int")) <;> rfl
theorem isi_own {T : Wd} {cls : List Str} {noA : List (Str × Str)} {C : Str} (P : Pure T cls noA) (h : tyD M x = some (.own C)) (hC : C ∈ cls) : isiO T [x, .cls C] M Q = Q (.bl true) M := by
  unfold isiO isiD; simp [h, ownOk, clsD, P.isi, isiTab, P.cls C hC]
/-- attributes -/
theorem s_fld {T : Wd} {cls : List Str} {noA : List (Str × Str)} {f C : Str} {fs : List (Str × D)} {v : D} (P : Pure T cls noA) (h : insD M x = some (C, fs)) (hC : C ∈ cls) (hA : (C, f) ∈ noA) (hv : fs.lookup f = some v) : fldO T f x M Q = Q v M := by
  unfold fldO; simp [h, P.cls C hC, P.noA C f hA, hv]
theorem s_stfld {T : Wd} {cls : List Str} {noA : List (Str × Str)} {f C : Str} {fs : List (Str × D)} {v : D} {u : Addr} {R : MS → Prop} (P : Pure T cls noA) (h : M u = some (.ins C fs)) (hC : C ∈ cls) (hA : (C, f) ∈ noA) (hl : fs.length < 1000) (q : R (M.set u (.ins C (putD f v fs)))) : stFld T f (.ref u) v M R := by
  unfold stFld; simp [h, P.cls C hC, P.noA C f hA, hl, q]
end
/-- all([.. for ..]) -/
theorem blsD_map {α : Type} (f : α → Bool) : ∀ (xs : List α), blsD (xs.map fun x => .bl (f x)) = some (xs.map f)
  | [] => rfl
  | x :: r => by
    show (blsD (r.map fun x => .bl (f x))).map (f x :: ·) = _
    rw [blsD_map f r]; rfl
theorem all_bl {α : Type} {M : MS} {Q : QD} (f : α → Bool) (xs : List α) : allO [.lst (xs.map fun x => .bl (f x))] M Q = Q (.bl (xs.all f)) M := by
  rw [s_all_lst, blsD_map]
  show Q (.bl ((xs.map f).all id)) M = _
  rw [List.all_map]; rfl
theorem any_bl {α : Type} {M : MS} {Q : QD} (f : α → Bool) (xs : List α) : anyO [.lst (xs.map fun x => .bl (f x))] M Q = Q (.bl (xs.any f)) M := by
  rw [s_any_lst, blsD_map]
  show Q (.bl ((xs.map f).any id)) M = _
  rw [List.any_map]; rfl
theorem strsD_map {α : Type} (f : α → Str) : ∀ (xs : List α), strsD (xs.map fun x => .str (f x)) = some (xs.map f)
  | [] => rfl
  | x :: r => by
    unfold strsD
    simp only [List.map_cons]
    rw [strsD_map f r]
    rfl
theorem keysD_strs : ∀ (xs : List Str), keysD (xs.map D.str) = some (xs.map Sum.inr)
  | [] => rfl
  | x :: r => by
    show (match (some (Sum.inr x : Key)), keysD (r.map D.str) with | some k, some ks => some (k :: ks) | _, _ => none) = _
    rw [keysD_strs r]; rfl
/-- a comprehension over plain items: what each item gives -/
theorem lc_all {α : Type} {wg : WG} {wt : WT} {we : WE} {env : EnvD} {Q : List D → MS → Prop} {M : MS} {Kp : MS → Prop} (e : α → D) (g : α → D) (xs : List α) (hK : Kp M) (hl : xs.length ≤ sizeLine)
    (step : ∀ x ∈ xs, ∀ (acc : List D) (Z : List D → MS → Prop), acc.length < sizeLine → Z (acc ++ [g x]) M → wg (e x) env M (fun env1 M1 => wt env1 M1 (fun b M2 => if b = true then we env1 M2 (fun y M3 => acc.length < sizeLine ∧ Kp M3 ∧ Z (acc ++ [y]) M3) noE else Kp M2 ∧ Z acc M2) noE) noE)
    (h : Q (xs.map g) M) : lcD wg wt we Kp env Q (xs.map e) [] M := by
  have main : ∀ (xs : List α) (acc : List D), acc.length + xs.length ≤ sizeLine → (∀ x ∈ xs, ∀ (acc : List D) (Z : List D → MS → Prop), acc.length < sizeLine → Z (acc ++ [g x]) M → wg (e x) env M (fun env1 M1 => wt env1 M1 (fun b M2 => if b = true then we env1 M2 (fun y M3 => acc.length < sizeLine ∧ Kp M3 ∧ Z (acc ++ [y]) M3) noE else Kp M2 ∧ Z acc M2) noE) noE) →
      Q (acc ++ xs.map g) M → lcD wg wt we Kp env Q (xs.map e) acc M := by
    intro xs
    induction xs with
    | nil => intro acc _ _ h; rw [List.map_nil, List.append_nil] at h; exact h
    | cons x r ih =>
      intro acc hl st h
      rw [List.length_cons] at hl
      refine st x (List.mem_cons_self ..) acc _ (by omega) ?_
      exact ih (acc ++ [g x]) (by rw [List.length_append, List.length_singleton]; omega) (fun y hy => st y (List.mem_cons_of_mem _ hy)) (by rw [List.append_assoc]; exact h)
  exact main xs [] (by simpa using hl) step (by simpa using h)
end G

/-! PB: the words of the package in plain Lean; the contracts of its small defs. -/
namespace G
open PySem PySem.Spec PyProof.Rows L2
section
variable {T : Wd} {cls : List Str} {noA : List (Str × Str)} {M : MS} {Q : QD} {m m' : String}
theorem isi_non (P : Pure T cls noA) (hb : okB m = true) : isiO T [.non, .ty m] M Q = Q (.bl ("NoneType" == m)) M := by rw [isi_bi P rfl (by decide) hb]; simp
theorem isi_bl (P : Pure T cls noA) (hb : okB m = true) {p : Bool} : isiO T [.bl p, .ty m] M Q = Q (.bl ("bool" == m || m == "int")) M := by rw [isi_bi P rfl (by decide) hb]; simp
theorem isi_int (P : Pure T cls noA) (hb : okB m = true) {i : Int} : isiO T [.int i, .ty m] M Q = Q (.bl ("int" == m)) M := by rw [isi_bi P rfl (by decide) hb]; simp
theorem isi_str (P : Pure T cls noA) (hb : okB m = true) {a : Str} : isiO T [.str a, .ty m] M Q = Q (.bl ("str" == m)) M := by rw [isi_bi P rfl (by decide) hb]; simp
theorem isi_tup (P : Pure T cls noA) (hb : okB m = true) {xs : List D} : isiO T [.tup xs, .ty m] M Q = Q (.bl ("tuple" == m)) M := by rw [isi_bi P rfl (by decide) hb]; simp
theorem isi_tpl (P : Pure T cls noA) (hb : okB m = true) {xs : List D} : isiO T [.tpl xs, .ty m] M Q = Q (.bl ("tuple" == m)) M := by rw [isi_bi P rfl (by decide) hb]; simp
theorem isi_dic (P : Pure T cls noA) (hb : okB m = true) {xs : List (Key × D)} : isiO T [.dic xs, .ty m] M Q = Q (.bl ("dict" == m)) M := by rw [isi_bi P rfl (by decide) hb]; simp
theorem isi2_tpl (P : Pure T cls noA) (hb : okB m = true) (hb' : okB m' = true) {xs : List D} : isiO T [.tpl xs, .tup [.ty m, .ty m']] M Q = Q (.bl ("tuple" == m || "tuple" == m')) M := by rw [isi_bi2 P rfl (by decide) hb hb']; simp
theorem isi_lst (P : Pure T cls noA) (hb : okB m = true) {xs : List D} : isiO T [.lst xs, .ty m] M Q = Q (.bl ("list" == m)) M := by rw [isi_bi P rfl (by decide) hb]; simp
theorem isi2_non (P : Pure T cls noA) (hb : okB m = true) (hb' : okB m' = true) : isiO T [.non, .tup [.ty m, .ty m']] M Q = Q (.bl ("NoneType" == m || "NoneType" == m')) M := by rw [isi_bi2 P rfl (by decide) hb hb']; simp
theorem isi2_int (P : Pure T cls noA) (hb : okB m = true) (hb' : okB m' = true) {i : Int} : isiO T [.int i, .tup [.ty m, .ty m']] M Q = Q (.bl ("int" == m || "int" == m')) M := by rw [isi_bi2 P rfl (by decide) hb hb']; simp
theorem isi2_str (P : Pure T cls noA) (hb : okB m = true) (hb' : okB m' = true) {a : Str} : isiO T [.str a, .tup [.ty m, .ty m']] M Q = Q (.bl ("str" == m || "str" == m')) M := by rw [isi_bi2 P rfl (by decide) hb hb']; simp
theorem isi2_tup (P : Pure T cls noA) (hb : okB m = true) (hb' : okB m' = true) {xs : List D} : isiO T [.tup xs, .tup [.ty m, .ty m']] M Q = Q (.bl ("tuple" == m || "tuple" == m')) M := by rw [isi_bi2 P rfl (by decide) hb hb']; simp
theorem isi2_lst (P : Pure T cls noA) (hb : okB m = true) (hb' : okB m' = true) {xs : List D} : isiO T [.lst xs, .tup [.ty m, .ty m']] M Q = Q (.bl ("list" == m || "list" == m')) M := by rw [isi_bi2 P rfl (by decide) hb hb']; simp
end
@[simp] theorem tyB_int : okB "int" = true := by decide
@[simp] theorem tyB_bool : okB "bool" = true := by decide
@[simp] theorem tyB_str : okB "str" = true := by decide
@[simp] theorem tyB_tuple : okB "tuple" = true := by decide
@[simp] theorem tyB_list : okB "list" = true := by decide
@[simp] theorem tyB_dict : okB "dict" = true := by decide
theorem two_fits : (2 : Nat) ≤ sizeLine := by decide
theorem one_fits : (1 : Nat) ≤ sizeLine := by decide
theorem signs_len (s : Str) : (s.cps.toList).length = s.length := by rw [Array.length_toList]; rfl
end G
namespace SB
open PySem PySem.Spec PyProof.Rows L2 G
abbrev letters : Str := "abcdefghijklmnopqrstuvwxyz"
abbrev digits : Str := "0123456789"
def nameB (s : Str) : Bool := decide (1 ≤ s.length) && decide (s.length ≤ 8) && !decide (s = "key") && s.cps.toList.all (hasSign letters)
def itemB (s : Str) : Bool := nameB s || decide (s = "key")
def wholeB : D → Bool
  | .int _ => true
  | _ => false
def numB : D → Bool
  | .int i => decide (0 ≤ i) && decide (i < 10 ^ 30)
  | _ => false
def cellB : D → Bool
  | .non => true
  | d => numB d
/-- values that a test of kinds can be asked of -/
def kindB : D → Bool
  | .non => true | .bl _ => true | .int _ => true | .str _ => true | .tup _ => true | .lst _ => true
  | _ => false
abbrev MOST : Int := 1000000000000000000000000000000
def d_is_whole : DSp := fun ds M Q _ => ∃ x, ds = [x] ∧ kindB x = true ∧ Q (.bl (wholeB x)) M
def d_is_name : DSp := fun ds M Q _ => ∃ s, ds = [.str s] ∧ s.length ≤ sizeLine ∧ Q (.bl (nameB s)) M
def d_is_item : DSp := fun ds M Q _ => ∃ s, ds = [.str s] ∧ s.length ≤ sizeLine ∧ Q (.bl (itemB s)) M
def d_are_distinct : DSp := fun ds M Q _ => ∃ ns : List Str, ds = [.tup (ns.map .str)] ∧ ns.length ≤ 1000 ∧ Q (.bl (decide ns.Nodup)) M
def d_are_items : DSp := fun ds M Q _ => ∃ ns : List Str, ds = [.tup (ns.map .str)] ∧ ns.length ≤ 1000 ∧ (∀ n ∈ ns, n.length ≤ sizeLine) ∧ Q (.bl (ns.all itemB && decide ns.Nodup)) M
def d_is_number : DSp := fun ds M Q _ => ∃ x, ds = [x] ∧ kindB x = true ∧ Q (.bl (numB x)) M
def d_is_cell : DSp := fun ds M Q _ => ∃ x, ds = [x] ∧ kindB x = true ∧ Q (.bl (cellB x)) M
/-- the keys of a set: as many as the names, where these are unlike -/
theorem addKey_len (ks : List Key) (k : Key) : (addKey ks k).length = if hasK ks k = true then ks.length else ks.length + 1 := by
  unfold addKey
  split
  · rfl
  · rw [List.length_append]; rfl
theorem hasK_iff {ks : List Key} {k : Key} : hasK ks k = true ↔ k ∈ ks := by
  unfold hasK
  rw [List.any_eq_true]
  constructor
  · rintro ⟨x, hx, e⟩
    have := of_decide_eq_true e
    subst this; exact hx
  · exact fun h => ⟨k, h, decide_eq_true rfl⟩
theorem uniq_le : ∀ (ks acc : List Key), (ks.foldl addKey acc).length ≤ acc.length + ks.length
  | [], acc => by simp
  | k :: r, acc => by
    have h := uniq_le r (addKey acc k)
    rw [addKey_len] at h
    rw [List.foldl_cons, List.length_cons]
    split at h <;> omega
theorem uniq_len : ∀ (ks acc : List Key), (ks.foldl addKey acc).length = acc.length + ks.length ↔ (ks.Nodup ∧ ∀ k ∈ ks, k ∉ acc)
  | [], acc => by simp
  | k :: r, acc => by
    rw [List.foldl_cons, List.length_cons]
    by_cases h : hasK acc k = true
    · have e : addKey acc k = acc := by unfold addKey; rw [if_pos h]
      rw [e]
      have hl := uniq_le r acc
      have hm := hasK_iff.mp h
      constructor
      · intro z; omega
      · rintro ⟨_, z⟩; exact absurd hm (z k (List.mem_cons_self ..))
    · have e : addKey acc k = acc ++ [k] := by unfold addKey; rw [if_neg h]
      have hn : k ∉ acc := fun z => h (hasK_iff.mpr z)
      have ih := uniq_len r (acc ++ [k])
      rw [e]
      rw [List.length_append, List.length_singleton] at ih
      rw [show acc.length + (r.length + 1) = acc.length + 1 + r.length by omega, ih, List.nodup_cons]
      constructor
      · rintro ⟨a, b⟩
        refine ⟨⟨fun z => b k z (by simp), a⟩, fun x hx => ?_⟩
        rcases List.mem_cons.mp hx with z | z
        · rw [z]; exact hn
        · exact fun y => b x z (List.mem_append_left _ y)
      · rintro ⟨⟨a, b⟩, d⟩
        refine ⟨b, fun x hx z => ?_⟩
        rcases List.mem_append.mp z with z | z
        · exact d x (List.mem_cons_of_mem _ hx) z
        · rw [List.mem_singleton.mp z] at hx; exact a hx
theorem uniq_names (ns : List Str) : ((uniq (ns.map Sum.inr)).length : Int) = ns.length ↔ ns.Nodup := by
  have h := uniq_len (ns.map (Sum.inr : Str → Key)) []
  rw [List.length_map] at h
  unfold uniq
  constructor
  · intro e
    have := (h.mp (by simp; omega)).1
    exact List.Pairwise.of_map _ (fun a b hab hc => hab (by rw [hc])) this
  · intro e
    have hm : (ns.map (Sum.inr : Str → Key)).Nodup := by
      refine List.Pairwise.map _ (fun a b hab hc => hab (Sum.inr.inj hc)) e
    have := h.mpr ⟨hm, by simp⟩
    simp at this
    exact_mod_cast this
end SB

/-! PD: plain data that is equal to itself. -/
namespace G
open PySem PySem.Spec PyProof.Rows L2
/-- plain data, at most so deep -/
def okD : Nat → D → Bool
  | _, .non => true
  | _, .int _ => true
  | _, .bl _ => true
  | _, .str s => PyData.strOk s
  | n + 1, .tup xs => xs.all (okD n)
  | n + 1, .lst xs => xs.all (okD n)
  | _, _ => false
theorem okL_toP {n : Nat} (h : ∀ d, okD n d = true → ∃ p, toP d = some p ∧ p.canLay0 = true ∧ p.depth ≤ n) : ∀ (xs : List D), xs.all (okD n) = true → ∃ ps, toPL xs = some ps ∧ PyData.canLayAll0 ps = true ∧ PyData.depthAll ps ≤ n
  | [], _ => ⟨[], rfl, by simp [PyData.canLayAll0], by simp [PyData.depthAll]⟩
  | x :: r, e => by
    rw [List.all_cons, Bool.and_eq_true] at e
    obtain ⟨p, h1, h2, h3⟩ := h x e.1
    obtain ⟨ps, g1, g2, g3⟩ := okL_toP h r e.2
    refine ⟨p :: ps, ?_, ?_, ?_⟩
    · unfold toPL; rw [h1, g1]
    · simp [PyData.canLayAll0, h2, g2]
    · simp only [PyData.depthAll]; omega
theorem okD_toP : ∀ (n : Nat) (d : D), okD n d = true → ∃ p, toP d = some p ∧ p.canLay0 = true ∧ p.depth ≤ n
  | n, .non, _ => ⟨.none, rfl, by simp [PyData.canLay0], by simp [PyData.depth]⟩
  | n, .int i, _ => ⟨.int i, rfl, by simp [PyData.canLay0], by simp [PyData.depth]⟩
  | n, .bl b, _ => ⟨.bool b, rfl, by simp [PyData.canLay0], by simp [PyData.depth]⟩
  | n, .str s, h => ⟨.str s, rfl, by
      have h : PyData.strOk s = true := by cases n <;> simpa [okD] using h
      simp [PyData.canLay0, h], by simp [PyData.depth]⟩
  | n + 1, .tup xs, h => by
    obtain ⟨ps, h1, h2, h3⟩ := okL_toP (okD_toP n) xs (by simpa [okD] using h)
    refine ⟨.tuple ps, ?_, ?_, ?_⟩
    · unfold toP; rw [h1]; rfl
    · simp [PyData.canLay0, h2]
    · simp only [PyData.depth]; omega
  | n + 1, .lst xs, h => by
    obtain ⟨ps, h1, h2, h3⟩ := okL_toP (okD_toP n) xs (by simpa [okD] using h)
    refine ⟨.list ps, ?_, ?_, ?_⟩
    · unfold toP; rw [h1]; rfl
    · simp [PyData.canLay0, h2]
    · simp only [PyData.depth]; omega
  | 0, .tup _, h => by simp [okD] at h
  | 0, .lst _, h => by simp [okD] at h
  | n, .tpl _, h => by cases n <;> simp [okD] at h
  | n, .dic _, h => by cases n <;> simp [okD] at h
  | n, .ins _ _, h => by cases n <;> simp [okD] at h
  | n, .set _, h => by cases n <;> simp [okD] at h
  | n, .ref _, h => by cases n <;> simp [okD] at h
  | n, .ty _, h => by cases n <;> simp [okD] at h
  | n, .scr _, h => by cases n <;> simp [okD] at h
  | n, .cls _, h => by cases n <;> simp [okD] at h
  | n, .exc _ _ _ _, h => by cases n <;> simp [okD] at h
theorem shaped_of {p : PyData} {n : Nat} (h : p.canLay0 = true) (h2 : p.depth ≤ n) (hn : n ≤ 64) : SeqAt.shaped p = true := by
  unfold SeqAt.shaped
  rw [h, Bool.true_and]
  exact decide_eq_true (Nat.le_trans h2 hn)
section
variable {M : MS} {Q : QD} {n : Nat} {d : D} {xs ys : List D}
theorem eq_same (h : okD n d = true) (hn : n ≤ 64) (q : Q (.bl true) M) : eqO d d M Q := by
  obtain ⟨p, h1, h2, h3⟩ := okD_toP n d h
  have hs := shaped_of h2 h3 hn
  cases e : scalD d d with
  | some b =>
    have hb : b = true := by
      cases d <;> simp [scalD] at e <;> first | exact e.symm | exact e
    subst hb
    unfold eqO; rw [e]; exact q
  | none =>
    have ht : topP M d = some p := by
      cases d <;> first | exact h1 | (cases h1)
    rw [s_eq_P e ht ht]
    refine ⟨hs, hs, ?_⟩
    rw [SeqAt.eqv_refl p h2]
    exact q
theorem okL_list (h : xs.all (okD n) = true) (hn : n + 1 ≤ 64) : ∃ ps, toPL xs = some ps ∧ SeqAt.shaped (.list ps) = true ∧ PyData.eqv (.list ps) (.list ps) = true := by
  obtain ⟨ps, h1, h2, h3⟩ := okL_toP (okD_toP n) xs h
  have hc : (PyData.list ps).canLay0 = true := by simp [PyData.canLay0, h2]
  exact ⟨ps, h1, shaped_of hc (by simp only [PyData.depth]; omega) hn, SeqAt.eqv_refl _ hc⟩
/-- two lists that may change -/
theorem eq_refs {a b : Addr} (h : xs.all (okD n) = true) (hn : n + 1 ≤ 64) (h1 : M a = some (.lst xs)) (h2 : M b = some (.lst xs)) (q : Q (.bl true) M) : eqO (.ref a) (.ref b) M Q := by
  obtain ⟨ps, e, hs, he⟩ := okL_list h hn
  have t1 : topP M (.ref a) = some (.list ps) := by show (match lstMO (M a) with | some xs => (toPL xs).map PyData.list | none => none) = _; rw [h1]; show (toPL xs).map _ = _; rw [e]; rfl
  have t2 : topP M (.ref b) = some (.list ps) := by show (match lstMO (M b) with | some xs => (toPL xs).map PyData.list | none => none) = _; rw [h2]; show (toPL xs).map _ = _; rw [e]; rfl
  rw [s_eq_P rfl t1 t2]
  refine ⟨hs, hs, ?_⟩
  rw [he]; exact q
/-- xs != [] -/
theorem ne_nil_ref {a : Addr} (h : xs.all (okD n) = true) (hn : n + 1 ≤ 64) (h1 : M a = some (.lst xs)) (q : Q (.bl (!xs.isEmpty)) M) : neO (.ref a) (.lst []) M Q := by
  obtain ⟨ps, e, hs, he⟩ := okL_list h hn
  have t1 : topP M (.ref a) = some (.list ps) := by show (match lstMO (M a) with | some xs => (toPL xs).map PyData.list | none => none) = _; rw [h1]; show (toPL xs).map _ = _; rw [e]; rfl
  rw [s_ne_P (v := .list []) rfl t1 rfl]
  refine ⟨hs, by decide, ?_⟩
  have : PyData.eqv (.list ps) (.list []) = xs.isEmpty := by
    cases xs with
    | nil => cases e; rfl
    | cons x r =>
      cases ps with
      | nil =>
        unfold toPL at e
        split at e <;> cases e
      | cons p ps => rfl
  rw [this]; exact q
theorem ne_nil_lst (h : xs.all (okD n) = true) (hn : n + 1 ≤ 64) (q : Q (.bl (!xs.isEmpty)) M) : neO (.lst xs) (.lst []) M Q := by
  obtain ⟨ps, e, hs, he⟩ := okL_list h hn
  have t1 : topP M (.lst xs) = some (.list ps) := by show (toPL xs).map _ = _; rw [e]; rfl
  rw [s_ne_P (v := .list []) rfl t1 rfl]
  refine ⟨hs, by decide, ?_⟩
  have : PyData.eqv (.list ps) (.list []) = xs.isEmpty := by
    cases xs with
    | nil => cases e; rfl
    | cons x r =>
      cases ps with
      | nil =>
        unfold toPL at e
        split at e <;> cases e
      | cons p ps => rfl
  rw [this]; exact q
end
end G

/-! PF: sheets and their texts in plain Lean; contracts. -/
namespace SB
open PySem PySem.Spec PyProof.Rows L2 G TL
/-! ### names -/
theorem nameB_len {s : Str} (h : nameB s = true) : s.length ≤ 8 ∧ 1 ≤ s.length := by
  simp only [nameB, Bool.and_eq_true, decide_eq_true_eq] at h
  exact ⟨h.1.1.2, h.1.1.1⟩
theorem itemB_len {s : Str} (h : itemB s = true) : s.length ≤ 8 := by
  unfold itemB at h
  rw [Bool.or_eq_true] at h
  rcases h with h | h
  · exact (nameB_len h).1
  · rw [of_decide_eq_true h]; decide
theorem sign_small {c : Nat} {t : Str} (h : hasSign t c = true) : c ∈ t.cps.toList := of_decide_eq_true h
theorem itemB_signs {s : Str} (h : itemB s = true) : ∀ c ∈ s.cps.toList, 97 ≤ c ∧ c ≤ 122 := by
  unfold itemB at h
  rw [Bool.or_eq_true] at h
  rcases h with h | h
  · simp only [nameB, Bool.and_eq_true, List.all_eq_true] at h
    intro c hc
    have := sign_small (h.2 c hc)
    revert this
    have e : (letters : Str).cps.toList = [97,98,99,100,101,102,103,104,105,106,107,108,109,110,111,112,113,114,115,116,117,118,119,120,121,122] := by decide +kernel
    rw [e]
    intro z
    simp at z
    omega
  · rw [of_decide_eq_true h]
    have e : ("key" : Str).cps.toList = [107, 101, 121] := by decide +kernel
    rw [e]
    intro c hc
    simp at hc
    omega
theorem strOk_of {s : Str} (h : ∀ c ∈ s.cps.toList, c < 0x110000) : PyData.strOk s = true := by
  unfold PyData.strOk
  rw [← Array.all_toList, List.all_eq_true]
  exact fun c hc => decide_eq_true (h c hc)
theorem itemB_ok {s : Str} (h : itemB s = true) : PyData.strOk s = true := strOk_of fun c hc => by have := itemB_signs h c hc; omega
/-- the names of a sheet -/
structure HeadsOk (ns : List Str) : Prop where
  all : ns.all itemB = true
  nd : ns.Nodup
  lo : 1 ≤ ns.length
  hi : ns.length ≤ 7
def headsD (ns : List Str) : D := .tup (ns.map .str)
/-! ### cells and lines -/
abbrev Cell := Option Nat
def cellD : Cell → D
  | none => .non
  | some n => .int n
def CellOk (c : Cell) : Prop := ∀ n, c = some n → n < 10 ^ 30
def lineD (l : List Cell) : D := .tup (l.map cellD)
structure LinesOk (k : Nat) (ls : List (List Cell)) : Prop where
  len : ls.length ≤ 1000
  wid : ∀ l ∈ ls, l.length = k
  ok : ∀ l ∈ ls, ∀ c ∈ l, CellOk c
theorem cellB_of {c : Cell} (h : CellOk c) : cellB (cellD c) = true := by
  cases c with
  | none => rfl
  | some n =>
    have := h n rfl
    simp only [cellD, cellB, numB, Bool.and_eq_true, decide_eq_true_eq]
    omega
theorem kindB_cell (c : Cell) : kindB (cellD c) = true := by cases c <;> rfl
theorem okD_cell (n : Nat) (c : Cell) : okD n (cellD c) = true := by cases c <;> cases n <;> rfl
theorem okD_line (n : Nat) (l : List Cell) : okD (n + 1) (lineD l) = true := by
  show (l.map cellD).all (okD n) = true
  rw [List.all_eq_true]
  intro d hd
  obtain ⟨c, _, rfl⟩ := List.mem_map.mp hd
  exact okD_cell n c
theorem okD_lines (n : Nat) (ls : List (List Cell)) : (ls.map lineD).all (okD (n + 1)) = true := by
  rw [List.all_eq_true]
  intro d hd
  obtain ⟨c, _, rfl⟩ := List.mem_map.mp hd
  exact okD_line n c
theorem okD_heads (n : Nat) {ns : List Str} (h : ns.all itemB = true) : okD (n + 1) (headsD ns) = true := by
  show (ns.map D.str).all (okD n) = true
  rw [List.all_eq_true]
  intro d hd
  obtain ⟨c, hc, rfl⟩ := List.mem_map.mp hd
  have := itemB_ok (List.all_eq_true.mp h c hc)
  cases n <;> simpa [okD] using this
/-! ### a sheet in the store -/
structure SheetAt (M : MS) (a b : Addr) (ns : List Str) (ls : List (List Cell)) : Prop where
  obj : M a = some (.ins "Sheet" [("heads", headsD ns), ("body", .ref b)])
  body : M b = some (.lst (ls.map lineD))
theorem SheetAt.ne {M : MS} {a b : Addr} {ns : List Str} {ls : List (List Cell)} (S : SheetAt M a b ns ls) : a ≠ b := fun e => by
  have h := S.body
  rw [← e, S.obj] at h
  cases h
theorem SheetAt.frame {M M' : MS} {a b : Addr} {ns : List Str} {ls : List (List Cell)} (S : SheetAt M a b ns ls) (ha : M' a = M a) (hb : M' b = M b) : SheetAt M' a b ns ls := ⟨by rw [ha]; exact S.obj, by rw [hb]; exact S.body⟩
/-! ### contracts: sheets -/
def d_Sheet_init : DSp := fun ds M Q _ => ∃ a ns, ds = [.ref a, headsD ns] ∧ HeadsOk ns ∧ M a = some (.ins "Sheet" []) ∧ ∀ b, M b = none → Q .non ((M.set b (.lst [])).set a (.ins "Sheet" [("heads", headsD ns), ("body", .ref b)]))
def d_Sheet : DSp := newD "Sheet" d_Sheet_init
def d_Sheet_check_index : DSp := fun ds M Q _ => ∃ a b ns ls i, ds = [.ref a, .int i] ∧ SheetAt M a b ns ls ∧ 0 ≤ i ∧ i < ls.length ∧ Q .non M
def d_Sheet_check_line : DSp := fun ds M Q _ => ∃ a b ns ls i l, ds = [.ref a, .int i, lineD l] ∧ SheetAt M a b ns ls ∧ l.length = ns.length ∧ ns.length ≤ 1000 ∧ (∀ c ∈ l, CellOk c) ∧ Q .non M
def d_Sheet_put : DSp := fun ds M Q _ => ∃ a b ns ls l, ds = [.ref a, lineD l] ∧ SheetAt M a b ns ls ∧ l.length = ns.length ∧ ns.length ≤ 1000 ∧ ls.length < 1000 ∧ (∀ c ∈ l, CellOk c) ∧ Q .non (M.set b (.lst ((ls ++ [l]).map lineD)))
def d_Sheet_drop : DSp := fun ds M Q _ => ∃ a b ns ls i, ds = [.ref a, .int i] ∧ SheetAt M a b ns ls ∧ ls.length ≤ 1000 ∧ 0 ≤ i ∧ i < ls.length ∧ Q .non (M.set b (.lst ((ls.eraseIdx i.toNat).map lineD)))
def d_Sheet_names : DSp := fun ds M Q _ => ∃ a b ns ls, ds = [.ref a] ∧ SheetAt M a b ns ls ∧ Q (headsD ns) M
def d_Sheet_lines : DSp := fun ds M Q _ => ∃ a b ns ls, ds = [.ref a] ∧ SheetAt M a b ns ls ∧ Q (.lst (ls.map lineD)) M
def d_Sheet_eq : DSp := fun ds M Q _ => ∃ a b a' b' ns ls, ds = [.ref a, .ref a'] ∧ SheetAt M a b ns ls ∧ SheetAt M a' b' ns ls ∧ HeadsOk ns ∧ Q (.bl true) M
/-! ### texts -/
def cellS : Cell → Str
  | none => "-"
  | some n => Str.ofString (toString ((n : Nat) : Int))
def rowS (l : List Cell) : Str := Txt.join "," (l.map cellS)
def headS (ns : List Str) : Str := Txt.join "," ns
def textS (ns : List Str) (ls : List (List Cell)) : Str := Txt.join "\n" (headS ns :: ls.map rowS)
theorem tl_dash : tl ("-" : Str) = [45] := by decide +kernel
theorem tl_comma : tl ("," : Str) = [44] := by decide +kernel
theorem tl_nl : tl ("\n" : Str) = [10] := by decide +kernel
theorem tl_cellS (c : Cell) : tl (cellS c) = (match c with | none => [45] | some n => numL n) := by
  cases c with
  | none => exact tl_dash
  | some n => exact tl_num n
theorem cellS_signs (c : Cell) : ∀ x ∈ tl (cellS c), x = 45 ∨ (48 ≤ x ∧ x ≤ 57) := by
  rw [tl_cellS]
  cases c with
  | none => intro x hx; rw [List.mem_singleton.mp hx]; exact .inl rfl
  | some n => intro x hx; exact .inr (numL_digits n x hx)
theorem cellS_len {c : Cell} (h : CellOk c) : (cellS c).length ≤ 30 := by
  rw [len_tl, tl_cellS]
  cases c with
  | none => decide
  | some n => exact numL_len (by decide) (h n rfl)
theorem cellS_pos (c : Cell) : 1 ≤ (cellS c).length := by
  rw [len_tl, tl_cellS]
  cases c with
  | none => decide
  | some n => exact List.length_pos_iff.mpr (numL_ne n)
theorem sum_le {xs : List Str} {k : Nat} (h : ∀ x ∈ xs, x.length ≤ k) : (xs.map (·.length)).sum ≤ xs.length * k := by
  induction xs with
  | nil => simp
  | cons x r ih =>
    have := ih fun y hy => h y (List.mem_cons_of_mem _ hy)
    have := h x (List.mem_cons_self ..)
    simp only [List.map_cons, List.sum_cons, List.length_cons]
    rw [Nat.succ_mul]
    omega
theorem joinL_len (y : List Nat) : ∀ (ps : List (List Nat)), (joinL y ps).length ≤ (ps.map List.length).sum + ps.length * y.length
  | [] => by simp [joinL]
  | [p] => by simp [joinL]
  | p :: q :: r => by
    have ih := joinL_len y (q :: r)
    show (p ++ (y ++ joinL y (q :: r))).length ≤ _
    simp only [List.length_append, List.map_cons, List.sum_cons, List.length_cons] at ih ⊢
    rw [Nat.succ_mul]
    omega
theorem join_len (y : Str) (xs : List Str) : (Txt.join y xs).length ≤ (xs.map (·.length)).sum + xs.length * y.length := by
  rw [join_eq, len_tl, tl_join]
  have h := joinL_len (tl y) (xs.map tl)
  rw [List.length_map, List.map_map] at h
  have e : (List.length ∘ tl) = (fun s : Str => s.length) := by funext s; exact (len_tl s).symm
  rw [e] at h
  rw [len_tl y]
  exact h
theorem rowS_sum {l : List Cell} (h : ∀ c ∈ l, CellOk c) : ((l.map cellS).map (·.length)).sum ≤ l.length * 30 := by
  have := sum_le (xs := l.map cellS) (k := 30) fun x hx => by
    obtain ⟨c, hc, rfl⟩ := List.mem_map.mp hx
    exact cellS_len (h c hc)
  rw [List.length_map] at this
  exact this
theorem rowS_len {l : List Cell} (h : ∀ c ∈ l, CellOk c) : (rowS l).length ≤ l.length * 31 := by
  have h1 := join_len "," (l.map cellS)
  have h2 := rowS_sum h
  rw [List.length_map] at h1
  have e : ((",": Str)).length = 1 := by decide +kernel
  rw [e] at h1
  unfold rowS
  omega
theorem headS_sum {ns : List Str} (h : ns.all itemB = true) : (ns.map (·.length)).sum ≤ ns.length * 8 := sum_le fun x hx => itemB_len (List.all_eq_true.mp h x hx)
theorem headS_len {ns : List Str} (h : ns.all itemB = true) : (headS ns).length ≤ ns.length * 9 := by
  have h1 := join_len "," ns
  have h2 := headS_sum h
  have e : ((",": Str)).length = 1 := by decide +kernel
  rw [e] at h1
  unfold headS
  omega
/-- the text's parts -/
theorem text_sum {ns : List Str} {ls : List (List Cell)} (hn : HeadsOk ns) (hl : LinesOk ns.length ls) : ((headS ns :: ls.map rowS).map (·.length)).sum + (ls.length + 1) ≤ 300000 := by
  have h1 := headS_len hn.all
  have h2 := sum_le (xs := ls.map rowS) (k := 217) fun x hx => by
    obtain ⟨l, h, rfl⟩ := List.mem_map.mp hx
    have := rowS_len (hl.ok l h)
    rw [hl.wid l h] at this
    have := hn.hi
    omega
  rw [List.length_map] at h2
  have := hn.hi
  have := hl.len
  simp only [List.map_cons, List.sum_cons]
  omega
theorem text_len {ns : List Str} {ls : List (List Cell)} (hn : HeadsOk ns) (hl : LinesOk ns.length ls) : (textS ns ls).length ≤ 300000 := by
  have h1 := join_len "\n" (headS ns :: ls.map rowS)
  have h2 := text_sum hn hl
  have e : (("\n": Str)).length = 1 := by decide +kernel
  rw [e, List.length_cons, List.length_map] at h1
  unfold textS
  omega
/-- split again -/
theorem joinL_mem {y : List Nat} {c : Nat} : ∀ {ps : List (List Nat)}, c ∈ joinL y ps → c ∈ y ∨ ∃ p ∈ ps, c ∈ p
  | [], h => by simp [joinL] at h
  | [p], h => .inr ⟨p, List.mem_cons_self .., h⟩
  | p :: q :: r, h => by
    have h : c ∈ p ++ (y ++ joinL y (q :: r)) := h
    rcases List.mem_append.mp h with h | h
    · exact .inr ⟨p, List.mem_cons_self .., h⟩
    · rcases List.mem_append.mp h with h | h
      · exact .inl h
      · rcases joinL_mem h with h | ⟨z, hz, h⟩
        · exact .inl h
        · exact .inr ⟨z, List.mem_cons_of_mem _ hz, h⟩
theorem join_mem {y : Str} {c : Nat} {ps : List Str} (h : c ∈ tl (Txt.join y ps)) : c ∈ tl y ∨ ∃ p ∈ ps, c ∈ tl p := by
  rw [join_eq, tl_join] at h
  rcases joinL_mem h with h | ⟨z, hz, h⟩
  · exact .inl h
  · obtain ⟨p, hp, rfl⟩ := List.mem_map.mp hz
    exact .inr ⟨p, hp, h⟩
theorem rowS_signs (l : List Cell) : ∀ x ∈ tl (rowS l), 44 ≤ x ∧ x ≤ 57 := fun x hx => by
  rcases join_mem hx with h | ⟨p, hp, h⟩
  · rw [tl_comma] at h; rw [List.mem_singleton.mp h]; omega
  · obtain ⟨c, _, rfl⟩ := List.mem_map.mp hp
    have := cellS_signs c x h
    omega
theorem headS_signs {ns : List Str} (hn : ns.all itemB = true) : ∀ x ∈ tl (headS ns), x = 44 ∨ (97 ≤ x ∧ x ≤ 122) := fun x hx => by
  rcases join_mem hx with h | ⟨p, hp, h⟩
  · rw [tl_comma] at h; exact .inl (List.mem_singleton.mp h)
  · exact .inr (itemB_signs (List.all_eq_true.mp hn p hp) x h)
theorem split_row {l : List Cell} (h : l ≠ []) : Txt.split (rowS l) "," = l.map cellS :=
  split_join (S := []) tl_comma (by decide +kernel) (fun e => h (List.map_eq_nil_iff.mp e)) fun p hp hm => by
    obtain ⟨c, _, rfl⟩ := List.mem_map.mp hp
    have := cellS_signs c 44 hm
    omega
theorem split_head {ns : List Str} (h : ns ≠ []) (hn : ns.all itemB = true) : Txt.split (headS ns) "," = ns :=
  split_join (S := []) tl_comma (by decide +kernel) h fun p hp hm => by
    have := itemB_signs (List.all_eq_true.mp hn p hp) 44 hm
    omega
theorem split_text {ns : List Str} {ls : List (List Cell)} (hn : ns.all itemB = true) : Txt.split (textS ns ls) "\n" = headS ns :: ls.map rowS :=
  split_join (S := []) tl_nl (by decide +kernel) (by simp) fun p hp hm => by
    rcases List.mem_cons.mp hp with e | hp
    · subst e
      have := headS_signs hn 10 hm
      omega
    · obtain ⟨l, _, rfl⟩ := List.mem_map.mp hp
      have := rowS_signs l 10 hm
      omega
theorem text_ok {ns : List Str} {ls : List (List Cell)} (hn : ns.all itemB = true) : PyData.strOk (textS ns ls) = true := strOk_of fun c hc => by
  rcases join_mem (c := c) hc with h | ⟨p, hp, h⟩
  · rw [tl_nl] at h; rw [List.mem_singleton.mp h]; omega
  · rcases List.mem_cons.mp hp with e | hp
    · subst e
      have := headS_signs hn c h
      omega
    · obtain ⟨l, _, rfl⟩ := List.mem_map.mp hp
      have := rowS_signs l c h
      omega
/-! ### words of cells -/
def numeralB (w : Str) : Bool := decide (1 ≤ w.length) && decide (w.length ≤ 30) && w.cps.toList.all (hasSign digits) && (decide (w = "0") || !decide ((⟨#[w.cps.toList.headD 0]⟩ : Str) = "0"))
def wordB (w : Str) : Bool := decide (w = "-") || numeralB w
def cellOf (w : Str) : Cell := if w = "-" then none else some (NumText.digitsVal w.cps.toList)
theorem digits_mem {c : Nat} : hasSign digits c = true ↔ 48 ≤ c ∧ c ≤ 57 := by
  unfold hasSign
  have e : (digits : Str).cps.toList = [48,49,50,51,52,53,54,55,56,57] := by decide +kernel
  rw [e, decide_eq_true_eq]
  simp
  omega
theorem str_ext {a b : Str} (h : tl a = tl b) : a = b := by
  rw [← mk_tl a, ← mk_tl b, h]
theorem numL_head : ∀ (n : Nat), 0 < n → (numL n).headD 0 ≠ 48 := by
  intro n
  induction n using Nat.strongRecOn with
  | _ n ih =>
    intro h0
    by_cases h : n < 10
    · rw [numL_lt h]
      show 48 + n ≠ 48
      omega
    · rw [numL_step (by omega)]
      have := ih (n / 10) (by omega) (by omega)
      have hne := numL_ne (n / 10)
      cases e : numL (n / 10) with
      | nil => exact absurd e hne
      | cons a r => rw [e] at this; exact this
theorem numeral_cell {n : Nat} (h : n < 10 ^ 30) : numeralB (cellS (some n)) = true := by
  have hl := cellS_len (c := some n) fun m e => by cases e; exact h
  have hp := cellS_pos (some n)
  have ht : (cellS (some n)).cps.toList = numL n := tl_num n
  unfold numeralB
  rw [ht]
  simp only [Bool.and_eq_true, decide_eq_true_eq, List.all_eq_true, Bool.or_eq_true, Bool.not_eq_true', decide_eq_false_iff_not]
  refine ⟨⟨⟨hp, hl⟩, fun c hc => digits_mem.mpr (numL_digits n c hc)⟩, ?_⟩
  by_cases h0 : n = 0
  · subst h0
    exact .inl (by decide +kernel)
  · refine .inr fun z => numL_head n (by omega) ?_
    have z := congrArg tl z
    have e0 : tl ("0" : Str) = [48] := by decide +kernel
    rw [e0] at z
    have z : [(numL n).headD 0] = [48] := z
    injection z
theorem word_cell {c : Cell} (h : CellOk c) : wordB (cellS c) = true := by
  unfold wordB
  rw [Bool.or_eq_true]
  cases c with
  | none => exact .inl (decide_eq_true rfl)
  | some n => exact .inr (numeral_cell (h n rfl))
theorem dash_ne (n : Nat) : cellS (some n) ≠ "-" := fun e => by
  have z := congrArg tl e
  have h : tl (cellS (some n)) = numL n := tl_num n
  rw [h, tl_dash] at z
  have := numL_digits n 45 (by rw [z]; exact List.mem_singleton.mpr rfl)
  omega
theorem cellOf_cell (c : Cell) : cellOf (cellS c) = c := by
  unfold cellOf
  cases c with
  | none => exact if_pos rfl
  | some n =>
    rw [if_neg (dash_ne n)]
    have h : (cellS (some n)).cps.toList = numL n := tl_num n
    rw [h, numL_val]
/-! ### contracts: texts -/
def d_is_numeral : DSp := fun ds M Q _ => ∃ w, ds = [.str w] ∧ w.length ≤ sizeLine ∧ Q (.bl (numeralB w)) M
def d_is_cell_text : DSp := fun ds M Q _ => ∃ w, ds = [.str w] ∧ w.length ≤ sizeLine ∧ Q (.bl (wordB w)) M
def d_cell_text : DSp := fun ds M Q _ => ∃ c, ds = [cellD c] ∧ CellOk c ∧ Q (.str (cellS c)) M
def d_cell_of : DSp := fun ds M Q _ => ∃ w, ds = [.str w] ∧ wordB w = true ∧ Q (cellD (cellOf w)) M
def d_row_text : DSp := fun ds M Q _ => ∃ l, ds = [lineD l] ∧ l.length ≤ 1000 ∧ (∀ c ∈ l, CellOk c) ∧ Q (.str (rowS l)) M
def d_sheet_text : DSp := fun ds M Q _ => ∃ a b ns ls, ds = [.ref a] ∧ SheetAt M a b ns ls ∧ HeadsOk ns ∧ LinesOk ns.length ls ∧ Q (.str (textS ns ls)) M
/-- a new sheet -/
def NewSheet (M : MS) (ns : List Str) (ls : List (List Cell)) (Q : QD) : Prop := ∀ a b M', M a = none → M b = none → SheetAt M' a b ns ls → (∀ c, c ≠ a → c ≠ b → M' c = M c) → Q (.ref a) M'
def d_empty_sheet : DSp := fun ds M Q _ => ∃ ns, ds = [headsD ns] ∧ HeadsOk ns ∧ NewSheet M ns [] Q
def d_read_sheet : DSp := fun ds M Q _ => ∃ ns ls, ds = [.str (textS ns ls)] ∧ HeadsOk ns ∧ LinesOk ns.length ls ∧ NewSheet M ns ls Q
end SB
namespace G
open PySem PySem.Spec PyProof.Rows L2
/-- text.join(list of texts) -/
theorem s_join {M : MS} {Q : QD} {s : Str} {xs : List Str} (h : (xs.map (·.length)).sum + xs.length * s.length ≤ 16777216) (q : Q (.str (Txt.join s xs)) M) : joinO (.str s) [.lst (xs.map .str)] M Q := ⟨s, _, xs, rfl, rfl, rfl, h, q⟩
theorem s_join_tup {M : MS} {Q : QD} {s : Str} {xs : List Str} (h : (xs.map (·.length)).sum + xs.length * s.length ≤ 16777216) (q : Q (.str (Txt.join s xs)) M) : joinO (.str s) [.tup (xs.map .str)] M Q := ⟨s, _, xs, rfl, rfl, rfl, h, q⟩
theorem s_split {M : MS} {Q : QD} {s b : Str} (hb : (b.length == 0) = false) (h : s.length + 2 ≤ sizeLine) (q : Q (.lst ((Txt.split s b).map .str)) M) : splitO (.str s) [.str b] M Q := ⟨s, b, rfl, rfl, hb, h, q⟩
@[simp] theorem s_bm_str {M : MS} {s : Str} : bmTy M (.str s) = some "str" := rfl
theorem enumD_cons (c : Int) (x : D) (xs : List D) : enumD c (x :: xs) = .tpl [.int c, x] :: enumD (c + 1) xs := by
  unfold enumD
  rw [List.length_cons, List.range_succ_eq_map, List.map_cons, List.map_map]
  congr 1
  · simp
  · refine List.map_congr_left fun i _ => ?_
    simp
    omega
theorem enumD_nil (c : Int) : enumD c [] = [] := rfl
end G

/-! PL: the laws' own small defs: draws, likeness; contracts. -/
namespace SB
open PySem PySem.Spec PyProof.Rows L2 G TL
/-! ### a spool of draws -/
def spk (r s t : Int) : List (Key × D) := [(.inr "rest", .int r), (.inr "seed", .int s), (.inr "turn", .int t)]
theorem v_rest {r s t : Int} : valD (spk r s t) (.inr "rest") = some (.int r) := by kernel_rfl
theorem v_seed {r s t : Int} : valD (spk r s t) (.inr "seed") = some (.int s) := by kernel_rfl
theorem v_turn {r s t : Int} : valD (spk r s t) (.inr "turn") = some (.int t) := by kernel_rfl
theorem u_rest {r s t x : Int} : putKD (spk r s t) (.inr "rest") (.int x) = spk x s t := by kernel_rfl
theorem u_turn {r s t x : Int} : putKD (spk r s t) (.inr "turn") (.int x) = spk r s x := by kernel_rfl
theorem k_spool {x y z : D} : mergeD [] [((.inr "rest" : Key), x), (.inr "seed", y), (.inr "turn", z)] = [(.inr "rest", x), (.inr "seed", y), (.inr "turn", z)] := by kernel_rfl
/-- a spool, at most n turns used -/
def SpOk (n : Nat) (m : MO) : Prop := ∃ r s t : Int, m = .dic (spk r s t) ∧ 0 ≤ r ∧ 0 ≤ s ∧ s < 2 ^ 160 ∧ 0 ≤ t ∧ t ≤ n
def SpAt (n : Nat) (M : MS) (a : Addr) : Prop := ∃ m, M a = some m ∧ SpOk n m
/-- nothing but a is changed -/
def Off (a : Addr) (M M' : MS) : Prop := ∀ c, c ≠ a → M' c = M c
theorem Off.refl {a : Addr} {M : MS} : Off a M M := fun _ _ => rfl
theorem Off.trans {a : Addr} {M M1 M2 : MS} (h1 : Off a M M1) (h2 : Off a M1 M2) : Off a M M2 := fun c hc => (h2 c hc).trans (h1 c hc)
theorem Off.set {a : Addr} {M : MS} {m : MO} : Off a M (M.set a m) := fun c hc => MS.set_ne hc
theorem SpAt.mono {n n' : Nat} {M : MS} {a : Addr} (h : SpAt n M a) (hn : n ≤ n') : SpAt n' M a := by
  obtain ⟨m, hm, r, s, t, e, h0, h1, h2, h3, h4⟩ := h
  exact ⟨m, hm, r, s, t, e, h0, h1, h2, h3, by omega⟩
def LIM : Nat := 1000000000
/-- what is drawn by at most k pulls -/
def Pulled (k : Nat) (a : Addr) (M : MS) (R : D → Prop) (Q : QD) : Prop := ∃ n, SpAt n M a ∧ n + k ≤ LIM ∧ ∀ d M', SpAt (n + k) M' a → Off a M M' → R d → Q d M'
theorem Pulled.use {k n : Nat} {a : Addr} {M : MS} {R : D → Prop} {Q : QD} (h : SpAt n M a) (hn : n + k ≤ LIM) (q : ∀ d M', SpAt (n + k) M' a → Off a M M' → R d → Q d M') : Pulled k a M R Q := ⟨n, h, hn, q⟩
def d__law_spool : DSp := fun ds M Q _ => ∃ (ns : List Int) (i : Nat), ds = [.scr (ns.map .int), .int i] ∧ i ≤ 100 ∧ ∀ a M', M a = none → SpAt 0 M' a → Off a M M' → Q (.ref a) M'
def d__law_pull : DSp := fun ds M Q _ => ∃ a b, ds = [.ref a, .int b] ∧ 0 < b ∧ b ≤ 10 ^ 20 ∧ Pulled 1 a M (fun d => ∃ r : Nat, d = .int r ∧ (r : Int) < b) Q
/-! ### likeness -/
def likeD : Nat → D → Bool
  | _, .non => true
  | _, .int _ => true
  | _, .bl _ => true
  | _, .str _ => true
  | n + 1, .tup xs => decide (xs.length ≤ sizeLine) && xs.all (likeD n)
  | n + 1, .lst xs => decide (xs.length ≤ sizeLine) && xs.all (likeD n)
  | _, _ => false
/-- scalars -/
def scaB : D → Bool
  | .non => true | .bl _ => true | .int _ => true | .str _ => true
  | _ => false
def LikeL (R : D → D → Prop) : List D → List D → Prop
  | [], [] => True
  | x :: r, y :: s => R x y ∧ LikeL R r s
  | _, _ => False
/-- alike, down to the smallest part; at most so deep -/
def Like : Nat → D → D → Prop
  | 0, x, y => x = y ∧ scaB x = true
  | n + 1, x, y => (x = y ∧ scaB x = true) ∨ (∃ xs ys, asT x = some xs ∧ asT y = some ys ∧ xs.length ≤ sizeLine ∧ LikeL (Like n) xs ys) ∨ (∃ xs ys, x = .lst xs ∧ y = .lst ys ∧ xs.length ≤ sizeLine ∧ LikeL (Like n) xs ys)
theorem LikeL.length {R : D → D → Prop} : ∀ {xs ys : List D}, LikeL R xs ys → xs.length = ys.length
  | [], [], _ => rfl
  | _ :: _, _ :: _, h => by rw [List.length_cons, List.length_cons, LikeL.length h.2]
  | [], _ :: _, h => h.elim
  | _ :: _, [], h => h.elim
theorem LikeL.zip {R : D → D → Prop} : ∀ {xs ys : List D}, LikeL R xs ys → ∀ p ∈ xs.zip ys, R p.1 p.2
  | [], [], _, p, hp => by simp at hp
  | x :: r, y :: s, h, p, hp => by
    rw [List.zip_cons_cons] at hp
    rcases List.mem_cons.mp hp with e | e
    · rw [e]; exact h.1
    · exact LikeL.zip h.2 p e
  | [], _ :: _, h, _, _ => h.elim
  | _ :: _, [], h, _, _ => h.elim
theorem LikeL.refl {R : D → D → Prop} : ∀ {xs : List D}, (∀ x ∈ xs, R x x) → LikeL R xs xs
  | [], _ => trivial
  | x :: r, h => ⟨h x (List.mem_cons_self ..), LikeL.refl fun y hy => h y (List.mem_cons_of_mem _ hy)⟩
theorem LikeL.map {R : D → D → Prop} {α : Type} {f g : α → D} : ∀ {xs : List α}, (∀ x ∈ xs, R (f x) (g x)) → LikeL R (xs.map f) (xs.map g)
  | [], _ => trivial
  | x :: r, h => ⟨h x (List.mem_cons_self ..), LikeL.map fun y hy => h y (List.mem_cons_of_mem _ hy)⟩
theorem Like.sca {n : Nat} {x : D} (h : scaB x = true) : Like n x x := by cases n <;> first | exact ⟨rfl, h⟩ | exact .inl ⟨rfl, h⟩
theorem Like.refl : ∀ {n : Nat} {x : D}, likeD n x = true → Like n x x
  | 0, x, h => by cases x <;> first | (simp [likeD] at h; done) | exact ⟨rfl, rfl⟩
  | n + 1, x, h => by
    cases x <;> first | exact .inl ⟨rfl, rfl⟩ | (simp [likeD] at h; done) | skip
    all_goals simp only [likeD, Bool.and_eq_true, decide_eq_true_eq, List.all_eq_true] at h
    · exact .inr (.inl ⟨_, _, rfl, rfl, h.1, LikeL.refl fun y hy => Like.refl (h.2 y hy)⟩)
    · exact .inr (.inr ⟨_, _, rfl, rfl, h.1, LikeL.refl fun y hy => Like.refl (h.2 y hy)⟩)
theorem Like.tup {n : Nat} {x y : D} {xs ys : List D} (h1 : asT x = some xs) (h2 : asT y = some ys) (hl : xs.length ≤ sizeLine) (h : LikeL (Like n) xs ys) : Like (n + 1) x y := .inr (.inl ⟨xs, ys, h1, h2, hl, h⟩)
theorem Like.lst {n : Nat} {xs ys : List D} (hl : xs.length ≤ sizeLine) (h : LikeL (Like n) xs ys) : Like (n + 1) (.lst xs) (.lst ys) := .inr (.inr ⟨xs, ys, rfl, rfl, hl, h⟩)
def d__law_like (n : Nat) : DSp := fun ds M Q _ => ∃ x y, ds = [x, y] ∧ Like n x y ∧ Q (.bl true) M
theorem zipD_self (xs : List D) : zipD xs xs = xs.map fun x => .tpl [x, x] := by
  unfold zipD
  induction xs with
  | nil => rfl
  | cons x r ih => simp only [List.zip_cons_cons, List.map_cons, ih]
theorem like_strs (n : Nat) {xs : List Str} (h : xs.length ≤ sizeLine) : likeD (n + 1) (.lst (xs.map .str)) = true := by
  simp only [likeD, Bool.and_eq_true, decide_eq_true_eq, List.all_eq_true, List.length_map]
  refine ⟨h, fun d hd => ?_⟩
  obtain ⟨s, _, rfl⟩ := List.mem_map.mp hd
  cases n <;> rfl
theorem like_heads (n : Nat) {xs : List Str} (h : xs.length ≤ sizeLine) : likeD (n + 1) (headsD xs) = true := by
  simp only [headsD, likeD, Bool.and_eq_true, decide_eq_true_eq, List.all_eq_true, List.length_map]
  refine ⟨h, fun d hd => ?_⟩
  obtain ⟨s, _, rfl⟩ := List.mem_map.mp hd
  cases n <;> rfl
theorem like_line (n : Nat) {l : List Cell} (h : l.length ≤ sizeLine) : likeD (n + 1) (lineD l) = true := by
  simp only [lineD, likeD, Bool.and_eq_true, decide_eq_true_eq, List.all_eq_true, List.length_map]
  refine ⟨h, fun d hd => ?_⟩
  obtain ⟨s, _, rfl⟩ := List.mem_map.mp hd
  cases s <;> cases n <;> rfl
theorem like_lines (n : Nat) {ls : List (List Cell)} (h : ls.length ≤ sizeLine) (h2 : ∀ l ∈ ls, l.length ≤ sizeLine) : likeD (n + 2) (.lst (ls.map lineD)) = true := by
  simp only [likeD, Bool.and_eq_true, decide_eq_true_eq, List.all_eq_true, List.length_map]
  refine ⟨h, fun d hd => ?_⟩
  obtain ⟨s, hs, rfl⟩ := List.mem_map.mp hd
  exact like_line n (h2 s hs)
/-! ### drawn things -/
def d__law_names : DSp := fun ds M Q _ => ∃ a k, ds = [.ref a, .int (k : Nat)] ∧ 1 ≤ k ∧ k ≤ 8 ∧ Pulled (20 * k) a M (fun d => ∃ ns : List Str, d = .tup (ns.map .str) ∧ ns.length = k ∧ ns.all nameB = true ∧ ns.Nodup) Q
def d__law_cell_drawn : DSp := fun ds M Q _ => ∃ a, ds = [.ref a] ∧ Pulled 3 a M (fun d => ∃ c, d = cellD c ∧ CellOk c) Q
def d__law_row : DSp := fun ds M Q _ => ∃ a k, ds = [.ref a, .int (k : Nat)] ∧ k ≤ 1000 ∧ Pulled (3 * k) a M (fun d => ∃ l, d = lineD l ∧ l.length = k ∧ ∀ c ∈ l, CellOk c) Q
def d__law_heads : DSp := fun ds M Q _ => ∃ a, ds = [.ref a] ∧ Pulled 500 a M (fun d => ∃ ns, d = headsD ns ∧ HeadsOk ns) Q
def d__law_text : DSp := fun ds M Q _ => ∃ ns ls, ds = [headsD ns, .lst (ls.map lineD)] ∧ HeadsOk ns ∧ LinesOk ns.length ls ∧ Q (.str (textS ns ls)) M
/-! ### sizes -/
theorem lgI {x : Int} {k : Nat} (h0 : 0 ≤ x) (h : x < 2 ^ k) : x.natAbs.log2 ≤ k := by
  obtain ⟨n, rfl⟩ := Int.eq_ofNat_of_zero_le h0
  rw [Int.natAbs_natCast]
  by_cases hn : n = 0
  · subst hn; simp
  · have : n < 2 ^ k := by
      have e : ((2 : Int) ^ k) = ((2 ^ k : Nat) : Int) := by simp
      rw [e] at h
      exact Int.ofNat_lt.mp h
    exact Nat.le_of_lt ((Nat.log2_lt hn).mpr this)
theorem bitsI {x : Int} {k : Nat} (h0 : 0 ≤ x) (h : x < 2 ^ k) : (Builtin.Int.intBits x : Int) ≤ k + 1 := by
  have := lgI h0 h
  unfold Builtin.Int.intBits
  split <;> omega
theorem powI {x : Int} {k : Nat} {j : Int} (hj : 0 ≤ j) (h0 : 0 ≤ x) (h : x < 2 ^ k) (hk : ((k : Int) + 1) * j ≤ 2 ^ 27) : CPowW x j := by
  refine ⟨hj, Int.le_trans (Int.mul_le_mul_of_nonneg_right (bitsI h0 h) hj) hk⟩
theorem lt_pow {x : Int} {n k : Nat} (h : x ≤ n) (hk : (n : Int) < 2 ^ k) : x < 2 ^ k := Int.lt_of_le_of_lt h hk
end SB
namespace G
open PySem PySem.Spec PyProof.Rows L2
section
variable {M : MS} {Q : MS → Prop} {i : Int} {xs : List D} {kvs : List (Key × D)} {u : Addr} {y v : D} {k : Key} {j : Nat}
theorem s_setD (h : M u = some (.dic kvs)) (hk : keyD y = some k) (hl : kvs.length < sizeLine) (q : Q (M.set u (.dic (putKD kvs k v)))) : setItO (.ref u) y v M Q := ⟨u, rfl, .inr ⟨kvs, k, h, hk, hl, q⟩⟩
theorem s_setK {x : Str} (h : M u = some (.dic kvs)) (hl : kvs.length < sizeLine) (q : Q (M.set u (.dic (putKD kvs (.inr x) v)))) : setItO (.ref u) (.str x) v M Q := ⟨u, rfl, .inr ⟨kvs, _, h, rfl, hl, q⟩⟩
theorem s_itemK {R : QD} {x : Str} (h : M u = some (.dic kvs)) : itemO (.ref u) (.str x) M R = (match valD kvs (.inr x) with | some d => R d M | none => False) := s_item_dic h rfl
theorem s_setL (h : M u = some (.lst xs)) (hi : ixN xs.length i = some j) (q : Q (M.set u (.lst (xs.set j v)))) : setItO (.ref u) (.int i) v M Q := ⟨u, rfl, .inl ⟨xs, i, j, h, rfl, hi, q⟩⟩
theorem s_append {R : QD} (h : M u = some (.lst xs)) (hl : xs.length < sizeLine) (q : R .non (M.set u (.lst (xs ++ [y])))) : bmTy M (.ref u) = some "list" ∧ appendO (.ref u) [y] M R := ⟨by show bmMO (M u) = _; rw [h]; rfl, u, xs, y, rfl, rfl, h, hl, q⟩
end
end G

/-! PM: drawn names in plain Lean. -/
namespace G
open PySem PySem.Spec PyProof.Rows L2
/-- a comprehension over plain items, with a test -/
theorem lc_filter {α : Type} {wg : WG} {wt : WT} {we : WE} {env : EnvD} {Q : List D → MS → Prop} {M : MS} {Kp : MS → Prop} (e : α → D) (p : α → Bool) (g : α → D) (xs : List α) (hK : Kp M) (hl : xs.length ≤ sizeLine)
    (step : ∀ x ∈ xs, ∀ (acc : List D) (Z : List D → MS → Prop), acc.length < sizeLine → (p x = true → Z (acc ++ [g x]) M) → (p x = false → Z acc M) → wg (e x) env M (fun env1 M1 => wt env1 M1 (fun b M2 => if b = true then we env1 M2 (fun y M3 => acc.length < sizeLine ∧ Kp M3 ∧ Z (acc ++ [y]) M3) noE else Kp M2 ∧ Z acc M2) noE) noE)
    (h : Q ((xs.filter p).map g) M) : lcD wg wt we Kp env Q (xs.map e) [] M := by
  have main : ∀ (xs : List α) (acc : List D), acc.length + xs.length ≤ sizeLine → (∀ x ∈ xs, ∀ (acc : List D) (Z : List D → MS → Prop), acc.length < sizeLine → (p x = true → Z (acc ++ [g x]) M) → (p x = false → Z acc M) → wg (e x) env M (fun env1 M1 => wt env1 M1 (fun b M2 => if b = true then we env1 M2 (fun y M3 => acc.length < sizeLine ∧ Kp M3 ∧ Z (acc ++ [y]) M3) noE else Kp M2 ∧ Z acc M2) noE) noE) →
      Q (acc ++ (xs.filter p).map g) M → lcD wg wt we Kp env Q (xs.map e) acc M := by
    intro xs
    induction xs with
    | nil => intro acc _ _ h; rw [List.filter_nil, List.map_nil, List.append_nil] at h; exact h
    | cons x r ih =>
      intro acc hl st h
      rw [List.length_cons] at hl
      refine st x (List.mem_cons_self ..) acc _ (by omega) (fun hp => ?_) fun hp => ?_
      · rw [List.filter_cons_of_pos hp, List.map_cons] at h
        exact ih (acc ++ [g x]) (by rw [List.length_append, List.length_singleton]; omega) (fun y hy => st y (List.mem_cons_of_mem _ hy)) (by rw [List.append_assoc]; exact h)
      · rw [List.filter_cons_of_neg (by simp [hp])] at h
        exact ih acc (by omega) (fun y hy => st y (List.mem_cons_of_mem _ hy)) h
  exact main xs [] (by simpa using hl) step (by simpa using h)
theorem inF_strs (x : Str) : ∀ (ns : List Str), inF (.str x) (ns.map .str) = decide (x ∈ ns)
  | [] => by simp [inF]
  | n :: r => by
    have ih := inF_strs x r
    unfold inF at ih ⊢
    rw [List.map_cons, List.any_cons, ih]
    by_cases h : n = x
    · subst h; simp [eqF]
    · have h' : ¬ x = n := fun z => h z.symm
      simp [eqF, h, h']
theorem all_flat_strs (ns : List Str) : (ns.map D.str).all flatD = true := by
  rw [List.all_eq_true]
  intro d hd
  obtain ⟨s, _, rfl⟩ := List.mem_map.mp hd
  rfl
theorem cutD_head (xs : List D) {i : Nat} (h : i ≤ xs.length) : cutD xs none (some (i : Int)) = xs.take i := by
  unfold cutD
  rw [HT.sIx_none, HT.sIx_nat, Nat.min_eq_left h]
  simp
theorem cutD_tail (xs : List D) {i : Nat} (h : i ≤ xs.length) : cutD xs (some (i : Int)) none = xs.drop i := by
  unfold cutD
  rw [HT.sIx_none, HT.sIx_nat, Nat.min_eq_left h]
  rw [List.take_of_length_le (by rw [List.length_drop]; exact Nat.le_refl _)]
end G
namespace SB
open PySem PySem.Spec PyProof.Rows L2 G TL
theorem cutS_head (z : Str) {i : Nat} (h : i ≤ z.length) : tl (cutS z none (some (i : Int))) = (tl z).take i := by
  unfold cutS
  rw [HT.sIx_none, HT.sIx_nat, Nat.min_eq_left h]
  simp
theorem cutS_tail (z : Str) {i : Nat} (h : i ≤ z.length) : tl (cutS z (some (i : Int)) none) = (tl z).drop i := by
  unfold cutS
  rw [HT.sIx_none, HT.sIx_nat, Nat.min_eq_left h, len_tl]
  show ((tl z).drop i).take _ = _
  rw [List.take_of_length_le (by rw [List.length_drop]; exact Nat.le_refl _)]
/-- a drawn word: one to eight small letters -/
structure WordOk (w : Str) : Prop where
  lo : 1 ≤ w.length
  hi : w.length ≤ 8
  all : ∀ c ∈ tl w, hasSign letters c = true
theorem WordOk.name {w : Str} (h : WordOk w) (hk : w ≠ "key") : nameB w = true := by
  unfold nameB
  rw [decide_eq_true h.lo, decide_eq_true h.hi, decide_eq_false hk]
  simp only [Bool.not_false, Bool.true_and, List.all_eq_true]
  exact h.all
theorem name_word {w : Str} (h : nameB w = true) : WordOk w := by
  simp only [nameB, Bool.and_eq_true, decide_eq_true_eq, List.all_eq_true] at h
  exact ⟨h.1.1.1, h.1.1.2, h.2⟩
theorem name_item {w : Str} (h : nameB w = true) : itemB w = true := by unfold itemB; rw [h]; rfl
theorem key_not_name : nameB "key" = false := by decide +kernel
theorem tl_letters : tl (letters : Str) = [97,98,99,100,101,102,103,104,105,106,107,108,109,110,111,112,113,114,115,116,117,118,119,120,121,122] := by decide +kernel
theorem letter_at {i : Nat} (h : i < 26) : ∃ c, atI (letters : Str).cps.toList (i : Int) = some c ∧ hasSign letters c = true := by
  have e : (letters : Str).cps.toList = [97,98,99,100,101,102,103,104,105,106,107,108,109,110,111,112,113,114,115,116,117,118,119,120,121,122] := tl_letters
  have hl : (letters : Str).cps.toList.length = 26 := by rw [e]; rfl
  have h1 : i < (letters : Str).cps.toList.length := by rw [hl]; exact h
  refine ⟨(letters : Str).cps.toList[i], ?_, decide_eq_true (List.getElem_mem h1)⟩
  unfold atI ixN
  rw [if_pos (by omega), if_pos (by omega)]
  simp [h1]
theorem joinL_nil : ∀ (ps : List (List Nat)), joinL [] ps = ps.flatten
  | [] => rfl
  | [p] => by simp [joinL]
  | p :: q :: r => by
    show p ++ ([] ++ joinL [] (q :: r)) = _
    rw [joinL_nil (q :: r)]; simp
theorem flat_one : ∀ (ws : List Nat), (ws.map fun c => [c]).flatten = ws
  | [] => rfl
  | a :: r => by rw [List.map_cons, List.flatten_cons, flat_one r]; rfl
theorem tl_empty : tl ("" : Str) = [] := by decide +kernel
/-- letters joined -/
theorem word_of {ws : List Nat} (h1 : 1 ≤ ws.length) (h8 : ws.length ≤ 8) (h : ∀ c ∈ ws, hasSign letters c = true) : WordOk (Txt.join "" (ws.map fun c => (⟨#[c]⟩ : Str))) := by
  have e : tl (Txt.join "" (ws.map fun c => (⟨#[c]⟩ : Str))) = ws := by
    rw [join_eq, tl_join, tl_empty, joinL_nil, List.map_map]
    have : (tl ∘ fun c => (⟨#[c]⟩ : Str)) = fun c => [c] := by funext c; rfl
    rw [this]
    exact flat_one ws
  refine ⟨by rw [len_tl, e]; exact h1, by rw [len_tl, e]; exact h8, by rw [e]; exact h⟩
/-- one letter replaced -/
theorem word_cut {w : Str} (h : WordOk w) {i c : Nat} (hi : i < w.length) (hc : hasSign letters c = true) : WordOk (cutS w none (some (i : Int)) ++ ⟨#[c]⟩ ++ cutS w (some ((i + 1 : Nat) : Int)) none) := by
  have hl : i < (tl w).length := by rw [← len_tl]; exact hi
  have e : tl (cutS w none (some (i : Int)) ++ ⟨#[c]⟩ ++ cutS w (some ((i + 1 : Nat) : Int)) none) = (tl w).take i ++ [c] ++ (tl w).drop (i + 1) := by
    rw [tl_append, tl_append, cutS_head w (Nat.le_of_lt hi), cutS_tail w hi]
  have hlen : ((tl w).take i ++ [c] ++ (tl w).drop (i + 1)).length = w.length := by
    have hw : w.length = (tl w).length := len_tl w
    rw [hw, List.length_append, List.length_append, List.length_take, List.length_drop, List.length_singleton]
    omega
  refine ⟨by rw [len_tl, e, hlen]; exact h.lo, by rw [len_tl, e, hlen]; exact h.hi, fun x hx => ?_⟩
  rw [e] at hx
  rcases List.mem_append.mp hx with hx | hx
  · rcases List.mem_append.mp hx with hx | hx
    · exact h.all x (List.mem_of_mem_take hx)
    · rw [List.mem_singleton.mp hx]; exact hc
  · exact h.all x (List.mem_of_mem_drop hx)
/-- the word of seven like letters -/
def seven (j : Nat) : Str := Txt.mul ⟨#[(tl letters).getD j 0]⟩ 7
theorem sevens : (List.range 8).map seven = ([("aaaaaaa" : Str), "bbbbbbb", "ccccccc", "ddddddd", "eeeeeee", "fffffff", "ggggggg", "hhhhhhh"] : List Str) := by decide +kernel
theorem sevens_ok : ∀ w ∈ (List.range 8).map seven, WordOk w := by
  rw [sevens]
  intro w hw
  have hb : nameB w = true := by
    revert w
    have : ([("aaaaaaa" : Str), "bbbbbbb", "ccccccc", "ddddddd", "eeeeeee", "fffffff", "ggggggg", "hhhhhhh"] : List Str).all nameB = true := by decide +kernel
    exact List.all_eq_true.mp this
  exact name_word hb
theorem sevens_nd : ((List.range 8).map seven).Nodup := by rw [sevens]; decide +kernel
theorem sevens_key : ∀ w ∈ (List.range 8).map seven, w ≠ "key" := by rw [sevens]; decide +kernel
theorem pigeon : ∀ (xs ns : List Str), xs.Nodup → (∀ x ∈ xs, x ∈ ns) → xs.length ≤ ns.length
  | [], ns, _, _ => Nat.zero_le _
  | x :: r, ns, hn, h => by
    rw [List.nodup_cons] at hn
    have ih := pigeon r (ns.erase x) hn.2 fun y hy => (List.mem_erase_of_ne (fun e => hn.1 (by rw [← e]; exact hy))).mpr (h y (List.mem_cons_of_mem _ hy))
    have hl := List.length_erase_of_mem (h x (List.mem_cons_self ..))
    have := List.length_pos_of_mem (h x (List.mem_cons_self ..))
    rw [List.length_cons]
    omega
/-- the first word that is free -/
def freeB (ns : List Str) (w : Str) : Bool := !decide (w ∈ ns) && !decide (w = "key")
theorem free_ne {ns : List Str} (w : Str) (hn : ns.length < 8) : ((w :: (List.range 8).map seven).filter (freeB ns)) ≠ [] := fun e => by
  have all : ∀ x ∈ (List.range 8).map seven, x ∈ ns := fun x hx => by
    have h := List.filter_eq_nil_iff.mp e x (List.mem_cons_of_mem _ hx)
    have hk := sevens_key x hx
    simp [freeB, hk] at h
    exact h
  have := pigeon _ ns sevens_nd all
  simp at this
  omega
theorem pull_use {n : Nat} {M : MS} {a : Addr} {b : Int} {Q : QD} {EQ : EK} (h : SpAt n M a) (hn : n + 1 ≤ LIM) (hb0 : 0 < b) (hb1 : b ≤ 10 ^ 20) (q : ∀ (r : Nat) M', (r : Int) < b → SpAt (n + 1) M' a → Off a M M' → Q (.int r) M') : d__law_pull [.ref a, .int b] M Q EQ :=
  ⟨a, b, rfl, hb0, hb1, n, h, hn, fun d M' h1 h2 ⟨r, e, h3⟩ => by rw [e]; exact q r M' h3 h1 h2⟩
end SB

/-! PA2: equations of the readings of Eng21 and later (printed by mkpa.py), and what goes with them. -/
namespace G
open PySem PySem.Spec PyProof.Rows L2
@[simp] theorem s_wRaise0 {C : Str} {env : EnvD} {M : MS} {K : KD} : wRaise0 C env M K = (K.ex ⟨C, []⟩ env M) := rfl
@[simp] theorem s_wRaise1 {C f : Str} {wa : WA} {env : EnvD} {M : MS} {K : KD} : wRaise1 C f wa env M K = (wa env M (fun ds M1 => ∃ d, ds = [d] ∧ K.ex ⟨C, [(f, d)]⟩ env M1) (fun x M1 => K.ex x env M1)) := rfl
@[simp] theorem s_wTryAs {T : Wd} {mt : Str → Option Bool} {i : Nat} {wb : WS} {ws : Addr → Value → Option Addr → WS} {env : EnvD} {M : MS} {K : KD} : wTryAs T mt i wb ws env M K = (wb env M { K with ex := fun y env1 M1 => match mt y.cls with
  | some true => ∀ a dd, M1 a = none → (dd = none → y.fs = []) → ws a (.ref (T.adr y.cls)) dd (env1.set i (some (.exc a y.cls dd y.fs))) M1 (K.unb i)
  | some false => K.ex y env1 M1
  | none => False }) := rfl
@[simp] theorem s_wDicN {env : EnvD} {M : MS} {Q : QD} {EQ : EK} : wDicN  env M Q EQ = (∀ a, M a = none → Q (.ref a) (M.set a (.dic []))) := rfl
@[simp] theorem s_wPar3 {i j l : Nat} {wa : WA} {env : EnvD} {M : MS} {K : KD} : wPar3 i j l wa env M K = (wa env M (fun ds M1 => match ds with
  | [d, e, f] => K.nx (((env.set i (some d)).set j (some e)).set l (some f)) M1
  | _ => False) (fun x M1 => K.ex x env M1)) := rfl
@[simp] theorem s_wListItems {w : WE} {env : EnvD} {M : MS} {Q : QD} {EQ : EK} : wListItems w env M Q EQ = (w env M (fun d M1 => ∃ kvs, asD M1 d = some kvs ∧ Q (.lst (kvs.map fun kv => .tpl [kD kv.1, kv.2])) M1) EQ) := rfl
@[simp] theorem s_wBW {ty : String} {o : D → List D → MS → QD → Prop} {w : WE} {wa : WA} {env : EnvD} {M : MS} {Q : QD} {EQ : EK} : wBW ty o w wa env M Q EQ = (w env M (fun d M1 => bmTyW M1 d = some ty ∧ wa env M1 (fun ds M2 => o d ds M2 Q) EQ) EQ) := rfl
@[simp] theorem s_wDcM {wi : WI} {wg : WG} {wt : WT} {wk wv : WE} {vs : List Nat} {env : EnvD} {M : MS} {Q : QD} {EQ : EK} : wDcM wi wg wt wk wv vs env M Q EQ = (wi env M (fun Kp xs M1 => dcD wg wt wk wv Kp (wipeD env vs) (fun ys M2 => ∀ a, M2 a = none → Q (.ref a) (M2.set a (.dic ys))) xs [] M1) EQ) := rfl
@[simp] theorem s_wgSubOwn {C : Str} {d : DSp} {wo wi : WE} {v : D} {env : EnvD} {M : MS} {Q : (EnvD → MS → Prop)} {EQ : EK} : wgSubOwn C d wo wi v env M Q EQ = (wo env M (fun x M1 => wi env M1 (fun i M2 => ∃ fs, insD M2 x = some (C, fs) ∧ d [x, i, v] M2 (fun _ M3 => Q env M3) EQ) EQ) EQ) := rfl
@[simp] theorem s_wRevL {w : WE} {env : EnvD} {M : MS} {Q : QD} {EQ : EK} : wRevL w env M Q EQ = (w env M (fun x M1 => ∃ xs, asS M1 x = some xs ∧ Q (.lst xs.reverse) M1) EQ) := rfl
theorem ex_ok {T : Wd} {Q : QD} {EQ : EK} {x : Exn} {env : EnvD} {M M' : MS} (hs : ∀ a m, M' a = some m → M a = some m) (h : EQ x M') : (endsD T Q EQ).ex x env M := ⟨M', hs, h⟩
theorem ex_same {T : Wd} {Q : QD} {EQ : EK} {x : Exn} {env : EnvD} {M : MS} (h : EQ x M) : (endsD T Q EQ).ex x env M := ⟨M, fun _ _ h => h, h⟩
theorem del_sub {M : MS} {u : Addr} : ∀ a m, (M.del u) a = some m → M a = some m := fun a m h => by
  by_cases e : a = u
  · rw [e, MS.del_same] at h; cases h
  · rw [MS.del_ne e] at h; exact h
/-- e.f of what is held -/
def xfldK (T : Wd) (xc : Option (Addr × Value × Option Addr)) (C f : Str) (Q : QD) : QD := fun x M1 => ∃ a dd fs v, x = .exc a C (some dd) fs ∧ xc = some (a, .ref (T.adr C), some dd) ∧ fs.lookup f = some v ∧ Q v M1
@[simp] theorem s_wXfld {T : Wd} {xc : Option (Addr × Value × Option Addr)} {C f : Str} {w : WE} {env : EnvD} {M : MS} {Q : QD} {EQ : EK} : wXfld T xc C f w env M Q EQ = w env M (xfldK T xc C f Q) EQ := rfl
@[simp] theorem xfldK_at {T : Wd} {a dd : Addr} {C f : Str} {Q : QD} {fs : List (Str × D)} {M : MS} : xfldK T (some (a, .ref (T.adr C), some dd)) C f Q (.exc a C (some dd) fs) M = (match fs.lookup f with
  | some v => Q v M
  | none => False) := by
  apply propext
  constructor
  · rintro ⟨a', dd', fs', v, e1, e2, l, q⟩
    cases e1
    rw [l]; exact q
  · intro h
    cases l : fs.lookup f with
    | none => rw [l] at h; exact h.elim
    | some v => rw [l] at h; exact ⟨a, dd, fs, v, rfl, rfl, l, h⟩
@[simp] theorem lookup_one {f : Str} {v : D} : List.lookup f [(f, v)] = some v := by simp [List.lookup]
@[simp] theorem unb_nx {K : KD} {i : Nat} {env : EnvD} {M : MS} : (K.unb i).nx env M = K.nx (env.set i none) M := rfl
@[simp] theorem unb_rt {K : KD} {i : Nat} : (K.unb i).rt = K.rt := rfl
@[simp] theorem unb_bk {K : KD} {i : Nat} {env : EnvD} {M : MS} : (K.unb i).bk env M = K.bk (env.set i none) M := rfl
@[simp] theorem unb_ct {K : KD} {i : Nat} {env : EnvD} {M : MS} : (K.unb i).ct env M = K.ct (env.set i none) M := rfl
@[simp] theorem ins_at {M : MS} {a : Addr} {C : Str} {fs : List (Str × D)} : insD (M.set a (.ins C fs)) (.ref a) = some (C, fs) := by show insMO _ = _; rw [MS.set_same]; rfl
theorem set_drop {M : MS} {a : Addr} {m : MO} (h : M a = none) : ∀ b x, M b = some x → (M.set a m) b = some x := fun b x e => by
  rw [MS.set_ne (fun z => by rw [z, h] at e; cases e)]; exact e
@[simp] theorem s_dicI {g : Key × D → D} {w : WE} {env : EnvD} {M : MS} {Q : (MS → Prop) → List D → MS → Prop} {EQ : EK} : dicI g w env M Q EQ = w env M (fun d M1 => ∃ kvs, d = .dic kvs ∧ Q (fun _ => True) (kvs.map g) M1) EQ := rfl
/-- what follows a dict that is frozen as it is made -/
def frzK (Q : QD) : QD := fun d M1 => ∃ a kvs, d = .ref a ∧ M1 a = some (.dic kvs) ∧ Q (.dic kvs) (M1.del a)
@[simp] theorem s_wFrzE {w : WE} {env : EnvD} {M : MS} {Q : QD} {EQ : EK} : wFrzE w env M Q EQ = w env M (frzK Q) EQ := rfl
@[simp] theorem frzK_set {Q : QD} {M : MS} {kvs : List (Key × D)} : (∀ a, M a = none → frzK Q (.ref a) (M.set a (.dic kvs))) ↔ ((∀ a, M a = none → Q (.dic kvs) M)) :=
  forall_congr' fun a => forall_congr' fun ha => ⟨fun ⟨b, kvs', e, h, q⟩ => by
    cases e
    rw [MS.set_same] at h
    cases h
    rw [MS.del_set ha] at q
    exact q, fun q => ⟨a, kvs, rfl, MS.set_same, by rw [MS.del_set ha]; exact q⟩⟩
section
variable {M : MS} {Q : QD} {x y z : D} {kvs : List (Key × D)} {k : Key}
@[simp] theorem s_in_dic {neg : Bool} : inO neg x (.dic kvs) M Q = (match keyD x with
  | some k => Q (.bl (if neg then !(valD kvs k).isSome else (valD kvs k).isSome)) M
  | none => False) := by cases x <;> rfl
@[simp] theorem s_item_dicF : itemO (.dic kvs) x M Q = (match keyD x with
  | some k => match valD kvs k with
    | some d => Q d M
    | none => False
  | none => False) := by cases x <;> rfl
@[simp] theorem s_bmW_tup {xs : List D} : bmTyW M (.tup xs) = some "tuple" := rfl
@[simp] theorem s_bmW_dic : bmTyW M (.dic kvs) = some "dict" := rfl
@[simp] theorem s_bmW_lst {xs : List D} : bmTyW M (.lst xs) = some "list" := rfl
@[simp] theorem s_key_int {i : Int} : keyD (.int i) = some (.inl i) := rfl
@[simp] theorem s_key_str {s : Str} : keyD (.str s) = some (.inr s) := rfl
@[simp] theorem s_kD_int {i : Int} : kD (.inl i) = .int i := rfl
@[simp] theorem s_kD_str {s : Str} : kD (.inr s) = .str s := rfl
/-- dict(d), dict(pairs): frozen as it is made -/
theorem s_dict_dic (q : Q (.dic kvs) M) : dictO [.dic kvs] M (frzK Q) :=
  ⟨_, rfl, .inl ⟨kvs, rfl, fun a ha => ⟨a, kvs, rfl, MS.set_same, by rw [MS.del_set ha]; exact q⟩⟩⟩
theorem s_dict_lst {ys : List D} (h : pairsD ys = some kvs) (q : Q (.dic (mergeD [] kvs)) M) : dictO [.lst ys] M (frzK Q) :=
  ⟨_, rfl, .inr ⟨ys, kvs, .inl rfl, h, fun a ha => ⟨a, _, rfl, MS.set_same, by rw [MS.del_set ha]; exact q⟩⟩⟩
theorem s_dict_tup {ys : List D} (h : pairsD ys = some kvs) (q : Q (.dic (mergeD [] kvs)) M) : dictO [.tup ys] M (frzK Q) :=
  ⟨_, rfl, .inr ⟨ys, kvs, .inr rfl, h, fun a ha => ⟨a, _, rfl, MS.set_same, by rw [MS.del_set ha]; exact q⟩⟩⟩
end
/-- the values of a call in the parameters' order -/
@[simp] theorem s_callS {d : DSp} {sel : List Sel} {np : Nat} {dds ds : List D} {M : MS} {Q : QD} {E : EK} : callS d sel np dds ds M Q E = d (selD sel np dds ds) M Q E := rfl
@[simp] theorem s_newS {C : Str} {d : DSp} {sel : List Sel} {np : Nat} {dds ds : List D} {M : MS} {Q : QD} {E : EK} : newS C d sel np dds ds M Q E = newD C d (selD sel np dds ds) M Q E := rfl
@[simp] theorem s_newD {C : Str} {d : DSp} {ds : List D} {M : MS} {Q : QD} {E : EK} : newD C d ds M Q E = (∀ a, M a = none → d (.ref a :: ds) (M.set a (.ins C [])) (fun v M2 => v = .non ∧ Q (.ref a) M2) E) := rfl
@[simp] theorem s_selD {sel : List Sel} {np : Nat} {dds ds : List D} : selD sel np dds ds = selG sel (ds.take np) dds (ds.drop np) := rfl
@[simp] theorem s_selG_nil {α : Type} {us its ws : List α} : selG [] us its ws = [] := rfl
@[simp] theorem s_selG_cons {α : Type} {s : Sel} {sel : List Sel} {us its ws : List α} : selG (s :: sel) us its ws = s.get us its ws ++ selG sel us its ws := rfl
@[simp] theorem s_sel_u {α : Type} {i : Nat} {us its ws : List α} : (Sel.u i).get us its ws = us[i]?.toList := rfl
@[simp] theorem s_sel_d {α : Type} {i : Nat} {us its ws : List α} : (Sel.d i).get us its ws = its[i]?.toList := rfl
@[simp] theorem s_sel_w {α : Type} {i : Nat} {us its ws : List α} : (Sel.w i).get us its ws = ws[i]?.toList := rfl
end G

/-! PD2: == and != of plain data of one kind: cells, names, rows, pairs, lists of them. -/
namespace G
open PySem PySem.Spec PyProof.Rows L2
/-- data of one kind as Python's, at most so deep; == tells them apart -/
structure PD {α : Type} [DecidableEq α] (n : Nat) (p : α → PyData) (ok : α → Prop) : Prop where
  lay : ∀ x, ok x → (p x).canLay0 = true
  dep : ∀ x, (p x).depth ≤ n
  eqv : ∀ x y, PyData.eqv (p x) (p y) = decide (x = y)
/-- .. as values here -/
structure Em {α : Type} [DecidableEq α] (e : α → D) (p : α → PyData) : Prop where
  toP : ∀ x, toP (e x) = some (p x)
  noRef : ∀ x a, e x ≠ .ref a
theorem beq_dec {α : Type} [DecidableEq α] [BEq α] [LawfulBEq α] (a b : α) : (a == b) = decide (a = b) := by
  by_cases h : a = b
  · rw [h]; simp
  · simp [h]
theorem scal_ok {x y : D} {p q : PyData} {b : Bool} (hx : toP x = some p) (hy : toP y = some q) (h : scalD x y = some b) : b = PyData.eqv p q := by
  cases x <;> cases y <;> simp [scalD] at h <;> simp [toP] at hx hy <;> subst hx hy <;> subst h <;> simp [PyData.eqv, beq_dec]
section
variable {α : Type} [DecidableEq α] {n : Nat} {p : α → PyData} {ok : α → Prop} {e f : α → D} {x y : α} {M : MS} {Q : QD}
theorem Em.topP (E : Em e p) (x : α) (M : MS) : G.topP M (e x) = some (p x) := by
  have h := E.toP x
  have h2 := E.noRef x
  cases q : e x <;> first | (rw [q] at h; exact h) | exact absurd q (h2 _)
theorem PD.shaped (P : PD n p ok) (hn : n ≤ 64) (hx : ok x) : SeqAt.shaped (p x) = true := shaped_of (P.lay x hx) (P.dep x) hn
theorem eq_em (E : Em e p) (F : Em f p) (P : PD n p ok) (hn : n ≤ 64) (hx : ok x) (hy : ok y) (q : Q (.bl (decide (x = y))) M) : eqO (e x) (f y) M Q := by
  cases h : scalD (e x) (f y) with
  | some b =>
    have hb := scal_ok (E.toP x) (F.toP y) h
    rw [P.eqv] at hb
    subst hb
    unfold eqO; rw [h]; exact q
  | none =>
    rw [s_eq_P h (E.topP x M) (F.topP y M)]
    exact ⟨P.shaped hn hx, P.shaped hn hy, by rw [P.eqv]; exact q⟩
theorem ne_em (E : Em e p) (F : Em f p) (P : PD n p ok) (hn : n ≤ 64) (hx : ok x) (hy : ok y) (q : Q (.bl (!decide (x = y))) M) : neO (e x) (f y) M Q := by
  cases h : scalD (e x) (f y) with
  | some b =>
    have hb := scal_ok (E.toP x) (F.toP y) h
    rw [P.eqv] at hb
    subst hb
    unfold neO; rw [h]; exact q
  | none =>
    rw [s_ne_P h (E.topP x M) (F.topP y M)]
    exact ⟨P.shaped hn hx, P.shaped hn hy, by rw [P.eqv]; exact q⟩
/-! ### kinds -/
def strP : Str → PyData := .str
theorem pd_str : PD 0 strP (fun s => PyData.strOk s = true) := ⟨fun x h => by simp [strP, PyData.canLay0, h], fun x => by simp [strP, PyData.depth], fun x y => by simp [strP, PyData.eqv]; exact beq_dec ..⟩
theorem em_str : Em D.str strP := ⟨fun _ => rfl, fun _ _ h => nomatch h⟩
def intP : Int → PyData := .int
theorem pd_int : PD 0 intP (fun _ => True) := ⟨fun x h => by simp [intP, PyData.canLay0], fun x => by simp [intP, PyData.depth], fun x y => by simp [intP, PyData.eqv]; exact beq_dec ..⟩
theorem em_int : Em D.int intP := ⟨fun _ => rfl, fun _ _ h => nomatch h⟩
/-- None or one of these -/
def optP (p : α → PyData) : Option α → PyData
  | none => .none
  | some x => p x
def optD (e : α → D) : Option α → D
  | none => .non
  | some x => e x
theorem toPL_map (E : Em e p) : ∀ (xs : List α), toPL (xs.map e) = some (xs.map p)
  | [] => rfl
  | x :: r => by
    rw [List.map_cons]
    unfold toPL
    rw [E.toP x, toPL_map E r]
    rfl
theorem lay_all (P : PD n p ok) : ∀ (xs : List α), (∀ x ∈ xs, ok x) → PyData.canLayAll0 (xs.map p) = true
  | [], _ => by simp [PyData.canLayAll0]
  | x :: r, h => by
    rw [List.map_cons]
    simp [PyData.canLayAll0, P.lay x (h x (List.mem_cons_self ..)), lay_all P r fun y hy => h y (List.mem_cons_of_mem _ hy)]
theorem dep_all (P : PD n p ok) : ∀ (xs : List α), PyData.depthAll (xs.map p) ≤ n
  | [] => by simp [PyData.depthAll]
  | x :: r => by
    rw [List.map_cons]
    simp only [PyData.depthAll]
    have := P.dep x
    have := dep_all P r
    omega
theorem eqv_all (P : PD n p ok) : ∀ (xs ys : List α), PyData.eqvAll (xs.map p) (ys.map p) = decide (xs = ys)
  | [], [] => by simp [PyData.eqvAll]
  | [], _ :: _ => by simp [PyData.eqvAll]
  | _ :: _, [] => by simp [PyData.eqvAll]
  | x :: r, y :: s => by
    rw [List.map_cons, List.map_cons]
    simp only [PyData.eqvAll, P.eqv x y, eqv_all P r s]
    by_cases h1 : x = y <;> by_cases h2 : r = s <;> simp [h1, h2]
def tupP (p : α → PyData) (xs : List α) : PyData := .tuple (xs.map p)
def lstP (p : α → PyData) (xs : List α) : PyData := .list (xs.map p)
theorem pd_tup (P : PD n p ok) : PD (n + 1) (tupP p) (fun xs => ∀ x ∈ xs, ok x) := ⟨fun x h => by simp [tupP, PyData.canLay0, lay_all P x h], fun x => by simp only [tupP, PyData.depth]; have := dep_all P x; omega, fun x y => by simp only [tupP, PyData.eqv]; exact eqv_all P x y⟩
theorem pd_lst (P : PD n p ok) : PD (n + 1) (lstP p) (fun xs => ∀ x ∈ xs, ok x) := ⟨fun x h => by simp [lstP, PyData.canLay0, lay_all P x h], fun x => by simp only [lstP, PyData.depth]; have := dep_all P x; omega, fun x y => by simp only [lstP, PyData.eqv]; exact eqv_all P x y⟩
theorem em_tup (E : Em e p) : Em (fun xs : List α => .tup (xs.map e)) (tupP p) := ⟨fun x => by show (toPL _).map _ = _; rw [toPL_map E]; rfl, fun _ _ h => nomatch h⟩
theorem em_tpl (E : Em e p) : Em (fun xs : List α => .tpl (xs.map e)) (tupP p) := ⟨fun x => by show (toPL _).map _ = _; rw [toPL_map E]; rfl, fun _ _ h => nomatch h⟩
theorem em_lst (E : Em e p) : Em (fun xs : List α => .lst (xs.map e)) (lstP p) := ⟨fun x => by show (toPL _).map _ = _; rw [toPL_map E]; rfl, fun _ _ h => nomatch h⟩
/-- not None -/
def NoNon (p : α → PyData) : Prop := ∀ x, PyData.eqv .none (p x) = false ∧ PyData.eqv (p x) .none = false
theorem pd_opt (P : PD n p ok) (N : NoNon p) : PD n (optP p) (fun o => ∀ x, o = some x → ok x) := by
  refine ⟨fun o h => ?_, fun o => ?_, fun a b => ?_⟩
  · cases o with
    | none => simp [optP, PyData.canLay0]
    | some x => exact P.lay x (h x rfl)
  · cases o with
    | none => simp [optP, PyData.depth]
    | some x => exact P.dep x
  · cases a with
    | none =>
      cases b with
      | none => simp [optP, PyData.eqv]
      | some y => simp [optP, (N y).1]
    | some x =>
      cases b with
      | none => simp [optP, (N x).2]
      | some y => simp only [optP, P.eqv]; by_cases h : x = y <;> simp [h]
theorem em_opt (E : Em e p) : Em (optD e) (optP p) := ⟨fun o => by cases o with
  | none => rfl
  | some x => exact E.toP x, fun o a h => by cases o with
  | none => cases h
  | some x => exact E.noRef x a h⟩
end
/-! pairs -/
section
variable {α β : Type} [DecidableEq α] [DecidableEq β] {n m : Nat} {p : α → PyData} {ok : α → Prop} {e : α → D} {q : β → PyData} {ok' : β → Prop} {f : β → D}
def pairP (p : α → PyData) (q : β → PyData) (x : α × β) : PyData := .tuple [p x.1, q x.2]
theorem pd_pair (P : PD n p ok) (R : PD n q ok') : PD (n + 1) (pairP p q) (fun x => ok x.1 ∧ ok' x.2) := by
  refine ⟨fun x h => by simp [pairP, PyData.canLay0, PyData.canLayAll0, P.lay _ h.1, R.lay _ h.2], fun x => ?_, fun x y => ?_⟩
  · simp only [pairP, PyData.depth, PyData.depthAll]
    have := P.dep x.1
    have := R.dep x.2
    omega
  · simp only [pairP, PyData.eqv, PyData.eqvAll, P.eqv, R.eqv, Bool.and_true]
    obtain ⟨a, b⟩ := x
    obtain ⟨c, d⟩ := y
    by_cases h1 : a = c <;> by_cases h2 : b = d <;> simp [h1, h2]
theorem em_pair (E : Em e p) (F : Em f q) : Em (fun x : α × β => .tup [e x.1, f x.2]) (pairP p q) := ⟨fun x => by show (toPL [e x.1, f x.2]).map _ = _; simp [toPL, E.toP, F.toP, pairP], fun _ _ h => nomatch h⟩
theorem em_pairT (E : Em e p) (F : Em f q) : Em (fun x : α × β => .tpl [e x.1, f x.2]) (pairP p q) := ⟨fun x => by show (toPL [e x.1, f x.2]).map _ = _; simp [toPL, E.toP, F.toP, pairP], fun _ _ h => nomatch h⟩
end
section
variable {x0 x1 x2 x3 x4 x5 x6 : D} {r : List D}
theorem at_lit {xs : List D} {i : Nat} {d : D} (h : xs[i]? = some d) : atI xs (i : Int) = some d := by
  have hl := (List.getElem?_eq_some_iff.mp h).1
  unfold atI ixN
  rw [if_pos (by omega), if_pos (by omega)]
  simpa using h
@[simp] theorem at_0 : atI (x0 :: r) 0 = some x0 := at_lit (i := 0) rfl
@[simp] theorem at_1 : atI (x0 :: x1 :: r) 1 = some x1 := at_lit (i := 1) rfl
@[simp] theorem at_2 : atI (x0 :: x1 :: x2 :: r) 2 = some x2 := at_lit (i := 2) rfl
@[simp] theorem at_3 : atI (x0 :: x1 :: x2 :: x3 :: r) 3 = some x3 := at_lit (i := 3) rfl
@[simp] theorem at_4 : atI (x0 :: x1 :: x2 :: x3 :: x4 :: r) 4 = some x4 := at_lit (i := 4) rfl
@[simp] theorem at_5 : atI (x0 :: x1 :: x2 :: x3 :: x4 :: x5 :: r) 5 = some x5 := at_lit (i := 5) rfl
@[simp] theorem at_6 : atI (x0 :: x1 :: x2 :: x3 :: x4 :: x5 :: x6 :: r) 6 = some x6 := at_lit (i := 6) rfl
end
theorem lcD_cons {wg : WG} {wt : WT} {we : WE} {Kp : MS → Prop} {env : EnvD} {Q : List D → MS → Prop} {x : D} {xs acc : List D} {M : MS} : lcD wg wt we Kp env Q (x :: xs) acc M = wg x env M (fun env1 M1 => wt env1 M1 (fun b M2 => if b = true then we env1 M2 (fun y M3 => acc.length < sizeLine ∧ Kp M3 ∧ lcD wg wt we Kp env Q xs (acc ++ [y]) M3) noE else Kp M2 ∧ lcD wg wt we Kp env Q xs acc M2) noE) noE := rfl
theorem forD_cons {wg : WG} {wb : WS} {K : KD} {Kp : MS → Prop} {x : D} {xs : List D} {env : EnvD} {M : MS} : forD wg wb K Kp (x :: xs) env M = wg x env M (fun env1 M1 => wb env1 M1 { K with nx := fun e2 M2 => Kp M2 ∧ forD wg wb K Kp xs e2 M2, ct := fun e2 M2 => Kp M2 ∧ forD wg wb K Kp xs e2 M2, bk := K.nx }) (fun y M1 => K.ex y env M1) := rfl
@[simp] theorem lcD_nil {wg : WG} {wt : WT} {we : WE} {Kp : MS → Prop} {env : EnvD} {Q : List D → MS → Prop} {acc : List D} {M : MS} : lcD wg wt we Kp env Q [] acc M = Q acc M := rfl
@[simp] theorem forD_nil {wg : WG} {wb : WS} {K : KD} {Kp : MS → Prop} {env : EnvD} {M : MS} : forD wg wb K Kp [] env M = K.nx env M := rfl
@[simp] theorem dcD_nil {wg : WG} {wt : WT} {wk wv : WE} {Kp : MS → Prop} {env : EnvD} {Q : List (Key × D) → MS → Prop} {acc : List (Key × D)} {M : MS} : dcD wg wt wk wv Kp env Q [] acc M = Q acc M := rfl
@[simp] theorem all_nil {M : MS} {Q : QD} : allO [.lst []] M Q = Q (.bl true) M := rfl
@[simp] theorem any_nil {M : MS} {Q : QD} : anyO [.lst []] M Q = Q (.bl false) M := rfl
end G
namespace SB
open PySem PySem.Spec PyProof.Rows L2 G
def natP (n : Nat) : PyData := .int n
theorem pd_nat : PD 0 natP (fun _ => True) := ⟨fun x h => by simp [natP, PyData.canLay0], fun x => by simp [natP, PyData.depth], fun x y => by
  simp only [natP, PyData.eqv]
  rw [beq_dec]
  exact decide_eq_decide.mpr ⟨fun h => by omega, fun h => by rw [h]⟩⟩
theorem em_nat : Em (fun n : Nat => .int n) natP := ⟨fun _ => rfl, fun _ _ h => nomatch h⟩
theorem noNon_nat : NoNon natP := fun x => by simp [natP, PyData.eqv]
abbrev cellP : Cell → PyData := optP natP
theorem pd_cell : PD 0 cellP (fun _ => True) := by
  have h := pd_opt pd_nat noNon_nat
  exact ⟨fun x _ => h.lay x fun _ _ => trivial, h.dep, h.eqv⟩
theorem em_cell : Em cellD cellP := ⟨fun c => by cases c <;> rfl, fun c a h => by cases c <;> cases h⟩
theorem pd_line : PD 1 (tupP cellP) (fun _ => True) := by
  have h := pd_tup pd_cell
  exact ⟨fun x _ => h.lay x fun _ _ => trivial, h.dep, h.eqv⟩
theorem em_line : Em lineD (tupP cellP) := em_tup em_cell
theorem pd_names : PD 1 (tupP strP) (fun ns => ∀ n ∈ ns, PyData.strOk n = true) := pd_tup pd_str
theorem em_names : Em (fun ns : List Str => .tup (ns.map .str)) (tupP strP) := em_tup em_str
theorem rangeD_len (lo : Int) (n : Nat) : (rangeD lo n).length = n := by unfold rangeD; rw [List.length_map, List.length_range]
theorem two40' {x : Int} {n : Nat} (h : x ≤ n) (hn : n ≤ LIM) : x ≤ 1000000000 := by unfold LIM at hn; omega
theorem names_strOk {ns : List Str} (h : ns.all nameB = true) : ∀ n ∈ ns, PyData.strOk n = true := fun n hn => itemB_ok (name_item (List.all_eq_true.mp h n hn))
theorem s_meth1 {C m : Str} {d : DSp} {np nk : Nat} {wa wk : WA} {env : EnvD} {M : MS} {Q : QD} {EQ : EK} {x : D} {fs : List (Str × D)} (h : insD M x = some (C, fs)) (hl : fs.lookup m = none) (q : wCal0 d np nk [x] wa wk env M Q EQ) : meth1O C m d np nk wa wk env Q EQ x M := ⟨fs, h, hl, q⟩
section
variable {M : MS} {Q : QD} {ns ks : List Str}
theorem ne_names (hn : ∀ n ∈ ns, PyData.strOk n = true) (hk : ∀ n ∈ ks, PyData.strOk n = true) (q : Q (.bl (!decide (ns = ks))) M) : neO (.tup (ns.map .str)) (.tup (ks.map .str)) M Q :=
  ne_em (e := fun ns : List Str => .tup (ns.map .str)) (f := fun ns : List Str => .tup (ns.map .str)) (x := ns) (y := ks) em_names em_names pd_names (by decide) hn hk q
theorem eq_names (hn : ∀ n ∈ ns, PyData.strOk n = true) (hk : ∀ n ∈ ks, PyData.strOk n = true) (q : Q (.bl (decide (ns = ks))) M) : eqO (.tup (ns.map .str)) (.tup (ks.map .str)) M Q :=
  eq_em (e := fun ns : List Str => .tup (ns.map .str)) (f := fun ns : List Str => .tup (ns.map .str)) (x := ns) (y := ks) em_names em_names pd_names (by decide) hn hk q
end
section
variable {M : MS} {Q : QD} {xs : List D} {i : Nat} {d : D}
theorem at_nat (h : xs[i]? = some d) : atI xs (i : Int) = some d := by
  have hl := (List.getElem?_eq_some_iff.mp h).1
  unfold atI ixN
  rw [if_pos (by omega), if_pos (by omega)]
  simpa using h
theorem item_tup (h : xs[i]? = some d) (q : Q d M) : itemO (.tup xs) (.int (i : Nat)) M Q := by rw [s_item_tup, at_nat h]; exact q
theorem item_lst (h : xs[i]? = some d) (q : Q d M) : itemO (.lst xs) (.int (i : Nat)) M Q := by rw [s_item_lst, at_nat h]; exact q
theorem item_ref {u : Addr} (hu : M u = some (.lst xs)) (h : xs[i]? = some d) (q : Q d M) : itemO (.ref u) (.int (i : Nat)) M Q := by rw [s_item_ref hu, at_nat h]; exact q
theorem item_mem (h : i < xs.length) (q : ∀ d ∈ xs, Q d M) : itemO (.lst xs) (.int (i : Nat)) M Q := item_lst (List.getElem?_eq_getElem h) (q _ (List.getElem_mem h))
theorem item_memT (h : i < xs.length) (q : ∀ d ∈ xs, Q d M) : itemO (.tup xs) (.int (i : Nat)) M Q := item_tup (List.getElem?_eq_getElem h) (q _ (List.getElem_mem h))
end
theorem szLe {n : Nat} (h : n ≤ 300000) : n ≤ sizeLine := Nat.le_trans h (by decide)
theorem cutS_len (z : Str) (lo hi : Option Int) : (cutS z lo hi).length ≤ z.length := by
  unfold cutS
  rw [TL.len_tl, TL.tl_mk, List.length_take, List.length_drop, Array.length_toList]
  show _ ≤ z.cps.size
  omega
end SB

/-! PA3: equations of the readings of Eng29 and later. -/
namespace G
open PySem PySem.Spec PyProof.Rows L2
section
variable {env : EnvD} {M : MS} {Q : QD} {EQ : EK} {K : KD} {xs ys zs : List D} {kvs : List (Key × D)} {u : Addr} {w wk wv : WE} {wa : WA} {k : Key} {x y z d : D}
/-- what follows the first dict of a display -/
def dicPK (wk wv : WE) (env : EnvD) (Q : QD) (EQ : EK) : QD := fun x M1 => ∃ kvs, asD M1 x = some kvs ∧ wk env M1 (fun y M2 => wv env M2 (fun z M3 => ∃ k, keyD y = some k ∧ kvs.length + 1 ≤ sizeLine ∧ ∀ a, M3 a = none → Q (.ref a) (M3.set a (.dic (putKD kvs k z)))) EQ) EQ
@[simp] theorem s_wDicP : wDicP w wk wv env M Q EQ = w env M (dicPK wk wv env Q EQ) EQ := rfl
theorem dicP_to {i j : Nat} {a b : D} (h1 : getE env i = some a) (h2 : getE env j = some b) (hk : keyD a = some k) (hl : kvs.length + 1 ≤ sizeLine) (q : Q (.dic (putKD kvs k b)) M) : dicPK (wVar i) (wVar j) env (frzK Q) EQ (.dic kvs) M := by
  refine ⟨kvs, rfl, ?_⟩
  unfold wVar
  rw [h1, h2]
  exact ⟨k, hk, hl, fun c hc => frzK_set.mpr (fun _ _ => q) c hc⟩
/-- a variable's dict is frozen -/
theorem s_frzD {i : Nat} {w : WS} {a : Addr} (h : getE env i = some (.ref a)) (hm : M a = some (.dic kvs)) (q : w (env.set i (some (.dic kvs))) (M.del a) K) : wFrzD i w env M K := ⟨a, kvs, h, hm, q⟩
def revTK (Q : QD) : QD := fun x M1 => ∃ xs, asT x = some xs ∧ Q (.tup xs.reverse) M1
@[simp] theorem s_wRevT : wRevT w env M Q EQ = w env M (revTK Q) EQ := rfl
@[simp] theorem revT_tup : revTK Q (.tup xs) M = Q (.tup xs.reverse) M := propext ⟨fun ⟨_, e, q⟩ => by cases e; exact q, fun q => ⟨xs, rfl, q⟩⟩
def dzipK (Q : QD) : List D → MS → Prop := fun ds M1 => ∃ x y xs ys ks, ds = [x, y] ∧ asT x = some xs ∧ asT y = some ys ∧ keysOfD xs = some ks ∧ ∀ a, M1 a = none → Q (.ref a) (M1.set a (.dic (mergeD [] (ks.zip ys))))
@[simp] theorem s_wDictZip : wDictZip wa env M Q EQ = wa env M (dzipK Q) EQ := rfl
theorem keysOf_strs : ∀ (ns : List Str), keysOfD (ns.map D.str) = some (ns.map Sum.inr)
  | [] => rfl
  | n :: r => by
    show (keyD (.str n)).bind _ = _
    rw [keysOf_strs r]
    rfl
theorem dzip_to {ns : List Str} (q : Q (.dic (mergeD [] ((ns.map Sum.inr).zip ys))) M) : dzipK (frzK Q) [.tup (ns.map .str), .tup ys] M :=
  ⟨_, _, _, _, _, rfl, rfl, rfl, keysOf_strs ns, fun a ha => frzK_set.mpr (fun _ _ => q) a ha⟩
@[simp] theorem s_zip3 {R : (MS → Prop) → List D → MS → Prop} : zip3I [.tup xs, .tup ys, .tup zs] M R = R (fun _ => True) (zip3D xs ys zs) M := propext ⟨fun ⟨_, _, _, _, _, _, e, h1, h2, h3, q⟩ => by cases e; cases h1; cases h2; cases h3; exact q, fun q => ⟨_, _, _, _, _, _, rfl, rfl, rfl, rfl, q⟩⟩
@[simp] theorem s_listK_dic : listKO [.dic kvs] M Q = Q (.lst (kvs.map fun kv => kD kv.1)) M := propext ⟨fun ⟨_, _, e, h, q⟩ => by cases e; cases h; exact q, fun q => ⟨_, _, rfl, rfl, q⟩⟩
theorem s_listK_ref (h : M u = some (.dic kvs)) : listKO [.ref u] M Q = Q (.lst (kvs.map fun kv => kD kv.1)) M := propext ⟨fun ⟨_, _, e, h2, q⟩ => by
  cases e
  have h2 : dicMO (M u) = _ := h2
  rw [h] at h2
  cases h2
  exact q, fun q => ⟨_, kvs, rfl, by show dicMO (M u) = _; rw [h]; rfl, q⟩⟩
theorem s_dpop (h : M u = some (.dic kvs)) (hk : keyD y = some k) (hv : valD kvs k = some d) (q : Q d (M.set u (.dic (dropKD kvs k)))) : bmTyW M (.ref u) = some "dict" ∧ dpopO (.ref u) [y] M Q := ⟨by show bmMO (M u) = _; rw [h]; rfl, u, kvs, k, y, d, rfl, rfl, h, hk, hv, q⟩
@[simp] theorem s_listM_tup : listMO [.tup xs] M Q = (∀ a, M a = none → Q (.ref a) (M.set a (.lst xs))) := propext ⟨fun ⟨_, _, e, h, q⟩ => by cases e; cases h; exact q, fun q => ⟨_, _, rfl, rfl, q⟩⟩
@[simp] theorem s_addM_lst : addMO (.lst xs) (.lst ys) M Q = (xs.length + ys.length ≤ sizeLine ∧ ∀ a, M a = none → Q (.ref a) (M.set a (.lst (xs ++ ys)))) := propext ⟨fun ⟨_, _, h1, h2, hl, q⟩ => by cases h1; cases h2; exact ⟨hl, q⟩, fun ⟨hl, q⟩ => ⟨_, _, rfl, rfl, hl, q⟩⟩
/-- sorted of ints -/
theorem s_sorted_ints {ns : List Int} (q : Q (.lst ((sortI ns).map .int)) M) : sortedO [.lst (ns.map .int)] M Q := ⟨_, ns, rfl, .inl rfl, q⟩
theorem s_sorted_dic {ns : List Int} (h : kvs.map (·.1) = ns.map Sum.inl) (hl : ns.length < 64) (q : Q (.lst ((sortI ns).map .int)) M) : sortedO [.dic kvs] M Q := ⟨_, ns, rfl, .inr ⟨kvs, rfl, h, hl⟩, q⟩
/-- unlike keys stand as they come -/
theorem merge_nodup : ∀ {kvs acc : List (Key × D)}, ((acc ++ kvs).map (·.1)).Nodup → mergeD acc kvs = acc ++ kvs
  | [], acc, _ => by rw [List.append_nil]; rfl
  | p :: r, acc, nd => by
    have e : putKD acc p.1 p.2 = acc ++ [p] := by
      unfold putKD
      rw [if_neg]
      rw [List.any_eq_true]
      rintro ⟨q, hq, hk⟩
      rw [List.map_append, List.nodup_append] at nd
      exact nd.2.2 q.1 (List.mem_map.mpr ⟨q, hq, rfl⟩) p.1 (by simp) (of_decide_eq_true hk)
    show mergeD (putKD acc p.1 p.2) r = _
    rw [e, merge_nodup (by simpa using nd)]
    simp
theorem val_mem : ∀ {kvs : List (Key × D)} {k : Key} {d : D}, (kvs.map (·.1)).Nodup → (k, d) ∈ kvs → valD kvs k = some d
  | p :: r, k, d, nd, h => by
    rw [List.map_cons, List.nodup_cons] at nd
    unfold valD
    rw [List.find?_cons]
    rcases List.mem_cons.mp h with e | e
    · rw [← e]; simp
    · have hne : ¬ (p.1 = k) := fun z => nd.1 (by rw [z]; exact List.mem_map.mpr ⟨_, e, rfl⟩)
      simp only [hne, decide_false]
      exact val_mem nd.2 e
end
/-! dict comprehensions -/
theorem dcD_cons {wg : WG} {wt : WT} {wk wv : WE} {Kp : MS → Prop} {env : EnvD} {Q : List (Key × D) → MS → Prop} {x : D} {xs : List D} {acc : List (Key × D)} {M : MS} : dcD wg wt wk wv Kp env Q (x :: xs) acc M = wg x env M (fun env1 M1 => wt env1 M1 (fun b M2 => if b = true then wk env1 M2 (fun y M3 => wv env1 M3 (fun z M4 => ∃ k, keyD y = some k ∧ acc.length < sizeLine ∧ Kp M4 ∧ dcD wg wt wk wv Kp env Q xs (putKD acc k z) M4) noE) noE else Kp M2 ∧ dcD wg wt wk wv Kp env Q xs acc M2) noE) noE := rfl
/-- {k(x): v(x) for x in xs}, unlike keys -/
theorem dc_all {α : Type} {wg : WG} {wt : WT} {wk wv : WE} {env : EnvD} {Q : List (Key × D) → MS → Prop} {M : MS} {Kp : MS → Prop} (e : α → D) (g : α → Key × D) (xs : List α) (hl : xs.length ≤ sizeLine) (nd : ((xs.map g).map (·.1)).Nodup)
    (step : ∀ x ∈ xs, ∀ (acc : List (Key × D)) (Z : List (Key × D) → MS → Prop), acc.length < sizeLine → Z (putKD acc (g x).1 (g x).2) M → wg (e x) env M (fun env1 M1 => wt env1 M1 (fun b M2 => if b = true then wk env1 M2 (fun y M3 => wv env1 M3 (fun z M4 => ∃ k, keyD y = some k ∧ acc.length < sizeLine ∧ Kp M4 ∧ Z (putKD acc k z) M4) noE) noE else Kp M2 ∧ Z acc M2) noE) noE)
    (h : Q (xs.map g) M) : dcD wg wt wk wv Kp env Q (xs.map e) [] M := by
  have main : ∀ (xs : List α) (acc : List (Key × D)), acc.length + xs.length ≤ sizeLine → ((acc ++ xs.map g).map (·.1)).Nodup → (∀ x ∈ xs, ∀ (acc : List (Key × D)) (Z : List (Key × D) → MS → Prop), acc.length < sizeLine → Z (putKD acc (g x).1 (g x).2) M → wg (e x) env M (fun env1 M1 => wt env1 M1 (fun b M2 => if b = true then wk env1 M2 (fun y M3 => wv env1 M3 (fun z M4 => ∃ k, keyD y = some k ∧ acc.length < sizeLine ∧ Kp M4 ∧ Z (putKD acc k z) M4) noE) noE else Kp M2 ∧ Z acc M2) noE) noE) →
      Q (acc ++ xs.map g) M → dcD wg wt wk wv Kp env Q (xs.map e) acc M := by
    intro xs
    induction xs with
    | nil => intro acc _ _ _ h; rw [List.map_nil, List.append_nil] at h; exact h
    | cons x r ih =>
      intro acc hl nd st h
      rw [List.length_cons] at hl
      rw [List.map_cons, dcD_cons]
      have e1 : putKD acc (g x).1 (g x).2 = acc ++ [g x] := by
        have z := merge_nodup (kvs := [g x]) (acc := acc) (by
          rw [List.map_append] at nd ⊢
          refine List.Nodup.sublist ?_ nd
          refine List.Sublist.append (List.Sublist.refl _) ?_
          rw [List.map_cons, List.map_cons, List.map_cons]
          exact (List.nil_sublist _).cons₂ _)
        exact z
      refine st x (List.mem_cons_self ..) acc (fun acc' M' => dcD wg wt wk wv Kp env Q (r.map e) acc' M') (by omega) ?_
      rw [e1]
      exact ih (acc ++ [g x]) (by rw [List.length_append, List.length_singleton]; omega) (by simpa using nd) (fun y hy => st y (List.mem_cons_of_mem _ hy)) (by simpa using h)
  exact main xs [] (by simpa using hl) (by simpa using nd) step (by simpa using h)
end G

/-! P48h: Meanwhiles in plain Lean; the contracts of k48. -/
namespace SB
open PySem PySem.Spec PyProof.Rows L2 G
def nmD : D → Bool
  | .str s => nameB s
  | _ => false
/-- values that a test of kinds may be asked of -/
def kindD : D → Bool
  | .non => true
  | .bl _ => true
  | .int _ => true
  | .str s => decide (s.length ≤ sizeLine)
  | .tup _ => true
  | .lst _ => true
  | .dic _ => true
  | _ => false
def strsN : List D → List Str
  | [] => []
  | .str s :: r => s :: strsN r
  | _ :: r => strsN r
theorem strsN_map (ns : List Str) : strsN (ns.map .str) = ns := by
  induction ns with
  | nil => rfl
  | cons a r ih => show a :: strsN (r.map D.str) = _; rw [ih]
theorem strs_of_names : ∀ {xs : List D}, xs.all nmD = true → xs = (strsN xs).map .str
  | [], _ => rfl
  | .str s :: r, h => by
    rw [List.all_cons, Bool.and_eq_true] at h
    show D.str s :: r = D.str s :: (strsN r).map D.str
    rw [← strs_of_names h.2]
  | .non :: _, h | .bl _ :: _, h | .int _ :: _, h | .tup _ :: _, h | .lst _ :: _, h | .tpl _ :: _, h | .dic _ :: _, h | .ins _ _ :: _, h | .set _ :: _, h | .ref _ :: _, h | .ty _ :: _, h | .scr _ :: _, h | .cls _ :: _, h | .exc _ _ _ _ :: _, h => by simp [nmD] at h
def namesD : D → Bool
  | .tup xs => xs.all nmD && decide (strsN xs).Nodup
  | _ => false
def d_is_nameX : DSp := fun ds M Q _ => ∃ x, ds = [x] ∧ kindD x = true ∧ Q (.bl (nmD x)) M
/-- the items of a tuple may be asked -/
def tupOk : D → Prop
  | .tup xs => xs.length ≤ 1000 ∧ ∀ y ∈ xs, kindD y = true
  | _ => True
def d_are_names : DSp := fun ds M Q _ => ∃ x, ds = [x] ∧ kindD x = true ∧ tupOk x ∧ Q (.bl (namesD x)) M
def colsD (x : D) : Bool := namesD x && match x with
  | .tup xs => decide (1 ≤ xs.length) && decide (xs.length ≤ 6)
  | _ => false
def d_are_columns : DSp := fun ds M Q _ => ∃ x, ds = [x] ∧ kindD x = true ∧ tupOk x ∧ Q (.bl (colsD x)) M
/-- the first part of a Meanwhile that is wrong -/
def blB : D → Bool
  | .bl _ => true
  | _ => false
def stampD (s f : D) : Bool := match s, f with
  | .non, _ => true
  | .str n, .tup xs => nameB n && !decide (n ∈ strsN xs)
  | _, _ => false
def wrongM (f b d s : D) : Option Str :=
  if namesD f = false then some "fields" else if blB b = false then some "born" else if blB d = false then some "died" else if stampD s f = false then some "stamp" else none
/-- Meanwhile(f, b, d, s) -/
def d_Meanwhile_init : DSp := fun ds M Q E => ∃ a f b d s, ds = [.ref a, f, b, d, s] ∧ M a = some (.ins "Meanwhile" []) ∧ kindD f = true ∧ tupOk f ∧ kindD b = true ∧ kindD d = true ∧ kindD s = true ∧
  match wrongM f b d s with
  | some p => E ⟨"NoMeanwhile", [("part", .str p)]⟩ (M.del a)
  | none => Q .non (M.set a (.ins "Meanwhile" [("told", .tup [f, b, d, s])]))
def d_Meanwhile_parts : DSp := fun ds M Q _ => ∃ x p, ds = [x] ∧ insD M x = some (("Meanwhile" : Str), [(("told" : Str), p)]) ∧ Q p M
/-- a store without rows -/
def emptyStore (ns : List Str) : List (Str × D) := [("heads", .tup (ns.map .str)), ("kept", .dic [])]
def d_Store_init : DSp := fun ds M Q _ => ∃ a ns, ds = [.ref a, .tup (ns.map .str), .tup []] ∧ M a = some (.ins "Store" []) ∧ ns.length ≤ 1000 ∧ (∀ n ∈ ns, n.length ≤ sizeLine) ∧ colsD (.tup (ns.map .str)) = true ∧ Q .non (M.set a (.ins "Store" (emptyStore ns)))
def d_Store_columns : DSp := fun ds M Q _ => ∃ x ns, ds = [x] ∧ insD M x = some (("Store" : Str), emptyStore ns) ∧ Q (.tup (ns.map .str)) M
def d_Store_rows : DSp := fun ds M Q _ => ∃ x ns, ds = [x] ∧ insD M x = some (("Store" : Str), emptyStore ns) ∧ Q (.lst []) M
def d_may_become : DSp := fun _ _ _ _ => False
/-- allows, of stores without rows -/
def d_Meanwhile_allows : DSp := fun ds M Q _ => ∃ m p x y ns ks, ds = [m, x, y] ∧ insD M m = some (("Meanwhile" : Str), [(("told" : Str), D.tup p)]) ∧ p.length = 4 ∧ (∃ f b d s, p = [f, D.bl b, D.bl d, s]) ∧ insD M x = some (("Store" : Str), emptyStore ns) ∧ insD M y = some (("Store" : Str), emptyStore ks) ∧
  ns.all nameB = true ∧ ks.all nameB = true ∧ Q (.bl (decide (ns = ks))) M
/-- what _law_seen tells of the parts -/
def seenM (f b d s : D) : D := match wrongM f b d s with
  | some p => .str p
  | none => .tup [f, b, d, s]
def d__law_seen : DSp := fun ds M Q _ => ∃ f b d s, ds = [.lst [f, b, d, s]] ∧ kindD f = true ∧ tupOk f ∧ kindD b = true ∧ kindD d = true ∧ kindD s = true ∧ Q (seenM f b d s) M
end SB

/-! P49h: rows of a store, what a Meanwhile allows, in plain Lean. -/
namespace SB
open PySem PySem.Spec PyProof.Rows L2 G
/-! ### rows by key -/
abbrev Rw := List (Int × List Cell)
def keysR (m : Rw) : List Int := m.map (·.1)
def getR : Rw → Int → Option (List Cell)
  | [], _ => none
  | p :: r, k => if p.1 = k then some p.2 else getR r k
def putR (m : Rw) (k : Int) (l : List Cell) : Rw := if k ∈ keysR m then m.map (fun p => if p.1 = k then (k, l) else p) else m ++ [(k, l)]
def rowsK (m : Rw) : List (Key × D) := m.map fun p => ((.inl p.1 : Key), lineD p.2)
structure RowsOk (n : Nat) (m : Rw) : Prop where
  nd : (keysR m).Nodup
  ge : ∀ p ∈ m, 1 ≤ p.1
  ln : ∀ p ∈ m, p.2.length = n
  ok : ∀ p ∈ m, ∀ c ∈ p.2, CellOk c
def told (m : Rw) : Rw := (sortI (keysR m)).map fun k => (k, (getR m k).getD [])
theorem getR_mem : ∀ {m : Rw} {k : Int} {l : List Cell}, (keysR m).Nodup → (k, l) ∈ m → getR m k = some l
  | p :: r, k, l, nd, h => by
    have nd' : (p.1 :: keysR r).Nodup := nd
    rw [List.nodup_cons] at nd'
    unfold getR
    rcases List.mem_cons.mp h with e | e
    · rw [← e]; simp
    · have hk : k ∈ keysR r := List.mem_map.mpr ⟨_, e, rfl⟩
      have hne : p.1 ≠ k := fun z => nd'.1 (by rw [z]; exact hk)
      rw [if_neg hne]
      exact getR_mem nd'.2 e
theorem getR_some : ∀ {m : Rw} {k : Int} {l : List Cell}, getR m k = some l → (k, l) ∈ m
  | p :: r, k, l, h => by
    unfold getR at h
    by_cases e : p.1 = k
    · rw [if_pos e] at h; cases h; rw [← e]; exact List.mem_cons_self ..
    · rw [if_neg e] at h; exact List.mem_cons_of_mem _ (getR_some h)
theorem getR_none {m : Rw} {k : Int} : getR m k = none ↔ k ∉ keysR m := by
  induction m with
  | nil => simp [getR, keysR]
  | cons p r ih =>
    unfold getR
    show _ ↔ k ∉ p.1 :: keysR r
    by_cases e : p.1 = k
    · simp [e]
    · rw [if_neg e, ih]; simp [Ne.symm e]
theorem getR_iff {m : Rw} {k : Int} {l : List Cell} (nd : (keysR m).Nodup) : getR m k = some l ↔ (k, l) ∈ m := ⟨getR_some, getR_mem nd⟩
theorem keys_perm {m m' : Rw} (h : m.Perm m') : (keysR m).Perm (keysR m') := h.map (fun p : Int × List Cell => p.1)
theorem getR_perm {m m' : Rw} (nd : (keysR m).Nodup) (h : m.Perm m') (k : Int) : getR m' k = getR m k := by
  have nd' : (keysR m').Nodup := (keys_perm h).nodup_iff.mp nd
  cases e : getR m k with
  | some l => exact (getR_iff nd').mpr (h.mem_iff.mp ((getR_iff nd).mp e))
  | none =>
    rw [getR_none] at e ⊢
    exact fun z => e ((keys_perm h).mem_iff.mpr z)
theorem map_get : ∀ {m : Rw}, (keysR m).Nodup → (keysR m).map (fun k => (k, (getR m k).getD [])) = m := fun {m} nd => by
  unfold keysR
  rw [List.map_map]
  conv => rhs; rw [← List.map_id m]
  refine List.map_congr_left fun p hp => ?_
  show (p.1, (getR m p.1).getD []) = p
  rw [getR_mem nd (show (p.1, p.2) ∈ m from hp)]
  rfl
theorem told_perm {m : Rw} (nd : (keysR m).Nodup) : (told m).Perm m := by
  have h := (sortI_perm (keysR m)).map fun k => (k, (getR m k).getD [])
  rw [map_get nd] at h
  exact h
theorem told_keys (m : Rw) : keysR (told m) = sortI (keysR m) := by
  unfold told keysR
  rw [List.map_map]
  exact List.map_id' _
theorem told_congr {m m' : Rw} (nd : (keysR m).Nodup) (h : m.Perm m') : told m = told m' := by
  have e : sortI (keysR m) = sortI (keysR m') := sortI_uniq ((sortI_perm _).trans (keys_perm h)) (sortI_sorted _)
  unfold told
  rw [e]
  exact List.map_congr_left fun k _ => by rw [getR_perm nd h]
theorem told_get {m : Rw} (nd : (keysR m).Nodup) (k : Int) : getR (told m) k = getR m k := getR_perm nd (told_perm nd).symm k
theorem told_nd {m : Rw} (nd : (keysR m).Nodup) : (keysR (told m)).Nodup := by
  rw [told_keys]; exact (sortI_perm _).nodup_iff.mpr nd
theorem told_len (m : Rw) : (told m).length = m.length := by
  unfold told
  rw [List.length_map, (sortI_perm _).length_eq]
  exact List.length_map ..
theorem told_told {m : Rw} (nd : (keysR m).Nodup) : told (told m) = told m := told_congr (told_nd nd) (told_perm nd)
theorem RowsOk.perm {n : Nat} {m m' : Rw} (h : RowsOk n m) (p : m.Perm m') : RowsOk n m' := ⟨(keys_perm p).nodup_iff.mp h.nd, fun x hx => h.ge x (p.mem_iff.mpr hx), fun x hx => h.ln x (p.mem_iff.mpr hx), fun x hx => h.ok x (p.mem_iff.mpr hx)⟩
theorem RowsOk.told {n : Nat} {m : Rw} (h : RowsOk n m) : RowsOk n (told m) := h.perm (told_perm h.nd).symm
theorem RowsOk.nil {n : Nat} : RowsOk n [] := ⟨List.nodup_nil, fun _ h => by simp at h, fun _ h => by simp at h, fun _ h => by simp at h⟩
theorem RowsOk.snoc {n : Nat} {m : Rw} {k : Int} {l : List Cell} (h : RowsOk n m) (hk : k ∉ keysR m) (h1 : 1 ≤ k) (hl : l.length = n) (ho : ∀ c ∈ l, CellOk c) : RowsOk n (m ++ [(k, l)]) := by
  refine ⟨?_, fun p hp => ?_, fun p hp => ?_, fun p hp => ?_⟩
  · unfold keysR
    rw [List.map_append, List.nodup_append]
    refine ⟨h.nd, by simp, fun a ha b hb => ?_⟩
    have : b = k := by simpa using hb
    rw [this]
    exact fun z => hk (z ▸ ha)
  all_goals rcases List.mem_append.mp hp with q | q
  · exact h.ge p q
  · rw [List.mem_singleton.mp q]; exact h1
  · exact h.ln p q
  · rw [List.mem_singleton.mp q]; exact hl
  · exact h.ok p q
  · rw [List.mem_singleton.mp q]; exact ho
theorem keys_put {m : Rw} {k : Int} {l : List Cell} : keysR (putR m k l) = if k ∈ keysR m then keysR m else keysR m ++ [k] := by
  unfold putR
  split
  · unfold keysR
    rw [List.map_map]
    refine List.map_congr_left fun p _ => ?_
    show (if p.1 = k then (k, l) else p).1 = p.1
    split
    · rename_i e; exact e.symm
    · rfl
  · unfold keysR; simp
theorem RowsOk.put {n : Nat} {m : Rw} {k : Int} {l : List Cell} (h : RowsOk n m) (h1 : 1 ≤ k) (hl : l.length = n) (ho : ∀ c ∈ l, CellOk c) : RowsOk n (putR m k l) := by
  by_cases hk : k ∈ keysR m
  · have e : putR m k l = m.map (fun p => if p.1 = k then (k, l) else p) := by unfold putR; rw [if_pos hk]
    refine ⟨by rw [keys_put, if_pos hk]; exact h.nd, ?_, ?_, ?_⟩ <;> rw [e] <;> intro p hp <;> obtain ⟨q, hq, rfl⟩ := List.mem_map.mp hp <;> by_cases c : q.1 = k
    · simp only [c, if_true]; exact h1
    · simp only [c, if_false]; exact h.ge q hq
    · simp only [c, if_true]; exact hl
    · simp only [c, if_false]; exact h.ln q hq
    · simp only [c, if_true]; exact ho
    · simp only [c, if_false]; exact h.ok q hq
  · have e : putR m k l = m ++ [(k, l)] := by unfold putR; rw [if_neg hk]
    rw [e]; exact h.snoc hk h1 hl ho
theorem put_len (m : Rw) (k : Int) (l : List Cell) : (putR m k l).length ≤ m.length + 1 := by
  unfold putR
  split
  · rw [List.length_map]; omega
  · rw [List.length_append]; exact Nat.le_refl _
theorem RowsOk.drop {n : Nat} {m : Rw} (h : RowsOk n m) (k : Int) : RowsOk n (m.filter fun p => decide (p.1 ≠ k)) :=
  ⟨List.Nodup.sublist (List.Sublist.map (fun p : Int × List Cell => p.1) List.filter_sublist) h.nd, fun p hp => h.ge p (List.mem_filter.mp hp).1, fun p hp => h.ln p (List.mem_filter.mp hp).1, fun p hp => h.ok p (List.mem_filter.mp hp).1⟩
/-! as dicts -/
theorem val_rows (m : Rw) (k : Int) : valD (rowsK m) (.inl k) = (getR m k).map lineD := by
  unfold valD
  induction m with
  | nil => rfl
  | cons p r ih =>
    show ((((.inl p.1 : Key), lineD p.2) :: rowsK r).find? _).map _ = _
    rw [List.find?_cons]
    unfold getR
    by_cases e : p.1 = k
    · simp [e]
    · have e' : ¬ ((.inl p.1 : Key) = .inl k) := fun z => e (Sum.inl.inj z)
      simp only [e, e', decide_false, if_false]
      exact ih
theorem put_rows (m : Rw) (k : Int) (l : List Cell) : putKD (rowsK m) (.inl k) (lineD l) = rowsK (putR m k l) := by
  have e : (rowsK m).any (fun kv => decide (kv.1 = (.inl k : Key))) = decide (k ∈ keysR m) := by
    unfold rowsK keysR
    rw [List.any_map]
    induction m with
    | nil => rfl
    | cons p r ih =>
      simp only [List.any_cons, ih, List.map_cons, List.mem_cons, Function.comp, Bool.decide_or]
      congr 1
      exact decide_eq_decide.mpr ⟨fun z => (Sum.inl.inj z).symm, fun z => by rw [z]⟩
  unfold putKD putR
  rw [e]
  by_cases h : k ∈ keysR m
  · simp only [h, decide_true, if_true]
    unfold rowsK
    rw [List.map_map, List.map_map]
    refine List.map_congr_left fun p _ => ?_
    by_cases c : p.1 = k
    · simp [c]
    · have c' : ¬ ((.inl p.1 : Key) = .inl k) := fun z => c (Sum.inl.inj z)
      simp [c, c']
  · simp only [h, decide_false, if_false]
    unfold rowsK
    simp
theorem drop_rows (m : Rw) (k : Int) : dropKD (rowsK m) (.inl k) = rowsK (m.filter fun p => decide (p.1 ≠ k)) := by
  unfold dropKD rowsK
  rw [List.filter_map]
  congr 1
  refine List.filter_congr fun p _ => ?_
  exact decide_eq_decide.mpr ⟨fun z y => z (show (Sum.inl p.1 : Key) = .inl k by rw [y]), fun z y => z (Sum.inl.inj y)⟩
theorem merge_rows : ∀ {m acc : Rw}, (keysR (acc ++ m)).Nodup → mergeD (rowsK acc) (rowsK m) = rowsK (acc ++ m)
  | [], acc, _ => by rw [List.append_nil]; rfl
  | p :: r, acc, nd => by
    have e : putR acc p.1 p.2 = acc ++ [p] := by
      unfold putR
      rw [if_neg]
      intro z
      unfold keysR at nd
      rw [List.map_append, List.nodup_append] at nd
      exact nd.2.2 p.1 z p.1 (by simp) rfl
    show mergeD (putKD (rowsK acc) (.inl p.1) (lineD p.2)) (rowsK r) = _
    rw [put_rows, e, merge_rows (by simpa using nd)]
    simp
theorem keys_rows (m : Rw) : (rowsK m).map (fun kv => kD kv.1) = (keysR m).map D.int := by
  unfold rowsK keysR
  rw [List.map_map, List.map_map]
  rfl
theorem rowsK_len (m : Rw) : (rowsK m).length = m.length := List.length_map ..
/-- the rows as pairs -/
def pairR (p : Int × List Cell) : D := .tpl [.int p.1, lineD p.2]
theorem items_rows (m : Rw) : (rowsK m).map (fun kv => D.tpl [kD kv.1, kv.2]) = m.map pairR := by
  unfold rowsK
  rw [List.map_map]
  rfl
theorem pairs_rows : ∀ (m : Rw), pairsD (m.map pairR) = some (rowsK m)
  | [] => rfl
  | p :: r => by
    show (pairD (pairR p)).bind _ = _
    rw [pairs_rows r]
    rfl
/-! ### what a Meanwhile tells -/
structure Mean where
  fs : List Str
  b : Bool
  d : Bool
  s : Option Str
def stD : Option Str → D
  | none => .non
  | some n => .str n
def Mean.D (m : Mean) : G.D := .tup [.tup (m.fs.map .str), .bl m.b, .bl m.d, stD m.s]
structure MeanOk (m : Mean) : Prop where
  nm : m.fs.all nameB = true
  nd : m.fs.Nodup
  le : m.fs.length ≤ 7
  st : ∀ n, m.s = some n → nameB n = true ∧ n ∉ m.fs
/-- the names whose cells differ -/
def chg : List Str → List Cell → List Cell → List Str
  | n :: ns, o :: os, w :: ws => if o = w then chg ns os ws else n :: chg ns os ws
  | _, _, _ => []
def freshR (m : Mean) (ns : List Str) (old new : List Cell) : List Str := (chg ns old new).filter fun n => decide (some n ≠ m.s)
def laterB (was now : Cell) : Bool := match now with
  | none => false
  | some n => match was with
    | none => true
    | some w => decide (w < n)
def cellAt (l : List Cell) (i : Nat) : Cell := (l[i]?).getD none
/-- the stamp's part -/
def stampB (m : Mean) (ns : List Str) (e : Bool) (old new : List Cell) : Bool := match m.s with
  | none => true
  | some n => match idxS n ns with
    | none => true
    | some i => if e = true then decide (cellAt old i = cellAt new i) else laterB (cellAt old i) (cellAt new i)
def becomeB (m : Mean) (ns : List Str) (old new : List Cell) : Bool :=
  (freshR m ns old new).all (fun n => decide (n ∈ m.fs)) && stampB m ns (freshR m ns old new).isEmpty old new
def rowMayB (m : Mean) (ns : List Str) (old new : List Cell) : Bool :=
  ((chg ns old new).filter fun n => decide (n ∉ m.fs) && decide (some n ≠ m.s)).isEmpty && stampB m ns ((chg ns old new).filter fun n => decide (n ∈ m.fs)).isEmpty old new
theorem filter_all {α : Type} {p q : α → Bool} : ∀ {xs : List α}, (xs.filter q).all p = (xs.filter fun x => !p x && q x).isEmpty
  | [] => rfl
  | x :: r => by
    rw [List.filter_cons, List.filter_cons]
    have ih := filter_all (p := p) (q := q) (xs := r)
    cases hq : q x <;> cases hp : p x <;> simp [hp] <;> first | exact ih | skip
    all_goals simpa using ih
theorem row_same {m : Mean} (ok : MeanOk m) (ns : List Str) (old new : List Cell) : becomeB m ns old new = rowMayB m ns old new := by
  unfold becomeB rowMayB freshR
  rw [filter_all]
  have e1 : (fun x => !decide (x ∈ m.fs) && decide (some x ≠ m.s)) = fun n => decide (n ∉ m.fs) && decide (some n ≠ m.s) := by
    funext x; simp
  rw [e1]
  cases h : ((chg ns old new).filter fun n => decide (n ∉ m.fs) && decide (some n ≠ m.s)).isEmpty with
  | false => rfl
  | true =>
    rw [Bool.true_and, Bool.true_and]
    have hf : ((chg ns old new).filter fun n => decide (some n ≠ m.s)) = (chg ns old new).filter fun n => decide (n ∈ m.fs) := by
      refine List.filter_congr fun x hx => ?_
      have hx2 : ¬ (decide (x ∉ m.fs) && decide (some x ≠ m.s)) = true := fun z => by
        have : x ∈ (chg ns old new).filter fun n => decide (n ∉ m.fs) && decide (some n ≠ m.s) := List.mem_filter.mpr ⟨hx, z⟩
        rw [List.isEmpty_iff.mp h] at this
        simp at this
      refine decide_eq_decide.mpr ⟨fun z => ?_, fun z y => ?_⟩
      · by_cases c : x ∈ m.fs
        · exact c
        · exact absurd (by simp [c, z]) hx2
      · exact (ok.st x y.symm).2 z
    rw [hf]
/-- what allows and the law's own walk both tell -/
def newB (m1 m2 : Rw) : Bool := m2.any fun p => decide (p.1 ∉ keysR m1)
def bothB (f : List Cell → List Cell → Bool) (m1 m2 : Rw) : Bool := m1.all fun p => match getR m2 p.1 with
  | none => true
  | some l => f p.2 l
def allowsB (m : Mean) (ns : List Str) (m1 m2 : Rw) : Bool := (m.b || !newB m1 m2) && ((m.d || !newB m2 m1) && bothB (becomeB m ns) m1 m2)
def mayB (m : Mean) (ns : List Str) (m1 m2 : Rw) : Bool := (m.b || !newB m1 m2) && ((m.d || !newB m2 m1) && bothB (rowMayB m ns) m1 m2)
theorem all_perm {α : Type} {p : α → Bool} {xs ys : List α} (h : xs.Perm ys) : xs.all p = ys.all p := by
  rw [Bool.eq_iff_iff, List.all_eq_true, List.all_eq_true]
  exact ⟨fun z x hx => z x (h.mem_iff.mpr hx), fun z x hx => z x (h.mem_iff.mp hx)⟩
theorem any_perm {α : Type} {p : α → Bool} {xs ys : List α} (h : xs.Perm ys) : xs.any p = ys.any p := by
  rw [Bool.eq_iff_iff, List.any_eq_true, List.any_eq_true]
  exact ⟨fun ⟨x, hx, z⟩ => ⟨x, h.mem_iff.mp hx, z⟩, fun ⟨x, hx, z⟩ => ⟨x, h.mem_iff.mpr hx, z⟩⟩
theorem newB_told {m1 m2 : Rw} (n1 : (keysR m1).Nodup) (n2 : (keysR m2).Nodup) : newB (told m1) (told m2) = newB m1 m2 := by
  unfold newB
  rw [any_perm (told_perm n2)]
  congr 1
  funext p
  refine decide_eq_decide.mpr (not_congr ?_)
  rw [told_keys]
  exact (sortI_perm _).mem_iff
theorem bothB_told {f : List Cell → List Cell → Bool} {m1 m2 : Rw} (n1 : (keysR m1).Nodup) (n2 : (keysR m2).Nodup) : bothB f (told m1) (told m2) = bothB f m1 m2 := by
  unfold bothB
  rw [all_perm (told_perm n1)]
  congr 1
  funext p
  rw [told_get n2]
theorem allows_may {m : Mean} (ok : MeanOk m) (ns : List Str) {m1 m2 : Rw} (n1 : (keysR m1).Nodup) (n2 : (keysR m2).Nodup) : allowsB m ns (told m1) (told m2) = mayB m ns m1 m2 := by
  unfold allowsB mayB
  rw [newB_told n1 n2, newB_told n2 n1, bothB_told n1 n2]
  have e : becomeB m ns = rowMayB m ns := by funext a b; exact row_same ok ns a b
  rw [e]
theorem chg_self : ∀ (ns : List Str) (l : List Cell), chg ns l l = []
  | [], _ => rfl
  | _ :: _, [] => rfl
  | n :: ns, c :: l => by unfold chg; rw [if_pos rfl]; exact chg_self ns l
theorem become_self (m : Mean) (ns : List Str) (l : List Cell) : becomeB m ns l l = true := by
  unfold becomeB freshR stampB
  rw [chg_self]
  simp
  cases m.s with
  | none => rfl
  | some n =>
    simp
    cases idxS n ns <;> simp
theorem allows_self (m : Mean) (ns : List Str) {m1 : Rw} (n1 : (keysR m1).Nodup) : allowsB m ns m1 m1 = true := by
  unfold allowsB
  have e : newB m1 m1 = false := by
    unfold newB
    rw [List.any_eq_false]
    intro p hp z
    exact (of_decide_eq_true z) (List.mem_map.mpr ⟨p, hp, rfl⟩)
  have e2 : bothB (becomeB m ns) m1 m1 = true := by
    unfold bothB
    rw [List.all_eq_true]
    intro p hp
    rw [getR_mem n1 (show (p.1, p.2) ∈ m1 from hp)]
    exact become_self m ns p.2
  rw [e, e2]
  simp
end SB

namespace K49
open PySem PySem.Spec PyProof.Rows L2 G SB TL
abbrev storeF (ns : List Str) (m : Rw) : List (Str × D) := [("heads", .tup (ns.map .str)), ("kept", .dic (rowsK m))]
abbrev StoreAt (M : MS) (x : D) (ns : List Str) (m : Rw) : Prop := insD M x = some (("Store" : Str), storeF ns m)
structure ColsOk (ns : List Str) : Prop where
  nm : ns.all nameB = true
  nd : ns.Nodup
  lo : 1 ≤ ns.length
  hi : ns.length ≤ 6
def d_is_key : DSp := fun ds M Q _ => ∃ k : Int, ds = [.int k] ∧ 1 ≤ k ∧ Q (.bl true) M
def d_is_row : DSp := fun ds M Q _ => ∃ (l : List Cell) (ns : List Str), ds = [lineD l, .tup (ns.map .str)] ∧ l.length = ns.length ∧ ns.length ≤ 1000 ∧ (∀ c ∈ l, CellOk c) ∧ Q (.bl true) M
def d_Store_setitem : DSp := fun ds M Q _ => ∃ a ns m k l, ds = [.ref a, .int k, lineD l] ∧ M a = some (.ins "Store" (storeF ns m)) ∧ (keysR m).Nodup ∧ k ∉ keysR m ∧ 1 ≤ k ∧ l.length = ns.length ∧ ns.length ≤ 1000 ∧ (∀ c ∈ l, CellOk c) ∧ m.length < 60 ∧ Q .non (M.set a (.ins "Store" (storeF ns (told (m ++ [(k, l)])))))
def d_Store_columns : DSp := fun ds M Q _ => ∃ x ns m, ds = [x] ∧ StoreAt M x ns m ∧ Q (.tup (ns.map .str)) M
def d_Store_rows : DSp := fun ds M Q _ => ∃ x ns m, ds = [x] ∧ StoreAt M x ns m ∧ Q (.lst (m.map pairR)) M
def d_Meanwhile_init : DSp := fun ds M Q _ => ∃ a m, ds = [.ref a, .tup (m.fs.map .str), .bl m.b, .bl m.d, stD m.s] ∧ M a = some (.ins "Meanwhile" []) ∧ MeanOk m ∧ Q .non (M.set a (.ins "Meanwhile" [("told", m.D)]))
def d_may_become : DSp := fun ds M Q _ => ∃ m ns old new, ds = [m.D, .tup (ns.map .str), lineD old, lineD new] ∧ MeanOk m ∧ ColsOk ns ∧ old.length = ns.length ∧ new.length = ns.length ∧ Q (.bl (becomeB m ns old new)) M
def d_is_later : DSp := fun ds M Q _ => ∃ was now, ds = [cellD was, cellD now] ∧ Q (.bl (laterB was now)) M
def d_Meanwhile_allows : DSp := fun ds M Q _ => ∃ x m y z ns ks m1 m2, ds = [x, y, z] ∧ insD M x = some (("Meanwhile" : Str), [(("told" : Str), m.D)]) ∧ MeanOk m ∧ StoreAt M y ns m1 ∧ StoreAt M z ks m2 ∧ ColsOk ns ∧ ColsOk ks ∧ RowsOk ns.length m1 ∧ RowsOk ks.length m2 ∧ m1.length ≤ 100 ∧ m2.length ≤ 100 ∧
  Q (.bl (decide (ns = ks) && allowsB m ns m1 m2)) M
def d__law_key : DSp := fun ds M Q _ => ∃ a x m, ds = [.ref a, x] ∧ (x = .dic (rowsK m) ∨ ∃ u, x = .ref u ∧ M u = some (.dic (rowsK m))) ∧ (∀ p ∈ m, 1 ≤ p.1) ∧ m.length ≤ 100 ∧ Pulled 4 a M (fun d => ∃ k : Int, d = .int k ∧ 1 ≤ k) Q
abbrev toldL (m : Rw) : D := .lst ((told m).map fun p => .tup [.int p.1, lineD p.2])
def d__law_told : DSp := fun ds M Q _ => ∃ m, ds = [.dic (rowsK m)] ∧ (keysR m).Nodup ∧ m.length ≤ 1000 ∧ Q (toldL m) M
def d__law_model : DSp := fun ds M Q _ => ∃ (a : Addr) (k n : Nat), ds = [.ref a, .int k, .int n] ∧ k ≤ 6 ∧ n ≤ 6 ∧ Pulled 200 a M (fun d => ∃ m, d = .dic (rowsK m) ∧ RowsOk k m ∧ m.length ≤ n) Q
def d__law_made : DSp := fun ds M Q _ => ∃ (ns : List Str) (m : Rw) (ks : List Int), ds = [.tup (ns.map .str), .dic (rowsK m), .lst (ks.map .int)] ∧ ColsOk ns ∧ RowsOk ns.length m ∧ m.length ≤ 50 ∧ ks.Perm (keysR m) ∧ ∀ a, M a = none → Q (.ref a) (M.set a (.ins "Store" (storeF ns (told m))))
def d__law_number_near : DSp := fun ds M Q _ => ∃ a, ds = [.ref a, .int 1] ∧ Pulled 4 a M (fun d => ∃ n : Nat, d = .int n ∧ n < 10 ^ 30) Q
def d__law_some : DSp := fun ds M Q _ => ∃ a ns n, ds = [.ref a, .lst (ns.map .str), .int 2] ∧ ns.length ≤ 50 ∧ SpAt n M a ∧ n + ns.length ≤ LIM ∧ ∀ (fs : List Str) u M1, fs.Sublist ns → SpAt (n + ns.length) M1 a → Off a M M1 → M1 u = none → Q (.ref u) (M1.set u (.lst (fs.map .str)))
def d__law_mean : DSp := fun ds M Q _ => ∃ a ns, ds = [.ref a, .tup (ns.map .str)] ∧ ColsOk ns ∧ Pulled 20 a M (fun d => ∃ m, d = m.D ∧ MeanOk m) Q
abbrev planK (ns : List Str) : List (Key × D) := [(.inr "columns", .tup (ns.map .str)), (.inr "shown", .tup []), (.inr "tests", .tup [])]
def d__law_cell_near : DSp := fun ds M Q _ => ∃ a ns nm, ds = [.ref a, .dic (planK ns), .str nm] ∧ Pulled 7 a M (fun d => ∃ c, d = cellD c ∧ CellOk c) Q
def d__law_later : DSp := fun ds M Q _ => ∃ a ns m l, ds = [.ref a, .dic (planK ns), m.D, lineD l] ∧ ColsOk ns ∧ MeanOk m ∧ l.length = ns.length ∧ (∀ c ∈ l, CellOk c) ∧ Pulled 100 a M (fun d => ∃ l', d = lineD l' ∧ l'.length = ns.length ∧ ∀ c ∈ l', CellOk c) Q
def d__law_row_may : DSp := fun ds M Q _ => ∃ m ns old new, ds = [.tup (ns.map .str), m.D, lineD old, lineD new] ∧ MeanOk m ∧ ColsOk ns ∧ old.length = ns.length ∧ new.length = ns.length ∧ Q (.bl (rowMayB m ns old new)) M
def d__law_may : DSp := fun ds M Q _ => ∃ m ns m1 m2, ds = [.tup (ns.map .str), m.D, .dic (rowsK m1), .dic (rowsK m2)] ∧ MeanOk m ∧ ColsOk ns ∧ RowsOk ns.length m1 ∧ RowsOk ns.length m2 ∧ m1.length ≤ 100 ∧ m2.length ≤ 100 ∧ Q (.bl (mayB m ns m1 m2)) M
def d__law_spoilt : DSp := fun ds M Q _ => ∃ a ns m r, ds = [.ref a, .tup (ns.map .str), m.D, .dic (rowsK r)] ∧ ColsOk ns ∧ MeanOk m ∧ RowsOk ns.length r ∧ r.length ≤ 40 ∧ Pulled 60 a M (fun d => ∃ r', d = .dic (rowsK r') ∧ RowsOk ns.length r' ∧ r'.length ≤ r.length + 1) Q
def d__law_right_at : DSp := fun ds M Q _ => ∃ a, ds = [.ref a] ∧ SpAt 0 M a ∧ ∀ M', Q (.bl true) M'
def d_law : DSp := fun ds M Q _ => ∃ ns : List Int, ds = [.scr (ns.map .int)] ∧ ns.length ≤ 1000 ∧ ∀ M', Q (.bl true) M'
end K49

namespace K49
open PySem PySem.Spec PyProof.Rows L2 G SB TL
section
variable {T : Wd} {cls : List Str} {noA : List (Str × Str)}
theorem p_is_whole (P : Pure T cls noA) (ds : List D) (M : MS) (Q : QD) (EQ : EK) (_ : ds.length = 1) (h : d_is_whole ds M Q EQ) : w_is_whole T (startD N_is_whole.length ds) M (endsD T Q EQ) := by
  obtain ⟨x, rfl, hx, q⟩ := h
  cases x <;> first | (cases hx; done) | (simp [w_is_whole, N_is_whole, startD, isi_non P, isi_bl P, isi_int P, isi_str P, isi_tup P, isi_lst P]; exact rt_ok q)
theorem p_is_number (P : Pure T cls noA) (ds : List D) (M : MS) (Q : QD) (EQ : EK) (_ : ds.length = 1) (h : d_is_number ds M Q EQ) : w_is_number T d_is_whole (startD N_is_number.length ds) M (endsD T Q EQ) := by
  obtain ⟨x, rfl, hx, q⟩ := h
  cases x <;> first | (cases hx; done) | (simp [w_is_number, N_is_number, startD, d_is_whole, wholeB, kindB]; exact rt_ok q) | skip
  rename_i i _
  by_cases h1 : 0 ≤ i <;> simp [numB, h1] at q <;> simp [w_is_number, N_is_number, startD, d_is_whole, wholeB, kindB, h1] <;> exact rt_ok q
theorem p_is_cell (P : Pure T cls noA) (ds : List D) (M : MS) (Q : QD) (EQ : EK) (_ : ds.length = 1) (h : d_is_cell ds M Q EQ) : w_is_cell T d_is_number (startD N_is_cell.length ds) M (endsD T Q EQ) := by
  obtain ⟨x, rfl, hx, q⟩ := h
  cases x <;> first | (cases hx; done) | (simp [w_is_cell, N_is_cell, startD, d_is_number, kindB]; exact rt_ok q)
end
section
variable {T : Wd} {cls : List Str} {noA : List (Str × Str)}
theorem kind_str {s : Str} (h : kindD (.str s) = true) : s.length ≤ sizeLine := of_decide_eq_true h
theorem p_is_name (P : Pure T cls noA) (ds : List D) (M : MS) (Q : QD) (EQ : EK) (_ : ds.length = 1) (h : d_is_nameX ds M Q EQ) : w_is_name T (startD N_is_name.length ds) M (endsD T Q EQ) := by
  obtain ⟨x, rfl, hk, q⟩ := h
  cases x with
  | str s =>
    have hl := kind_str hk
    have q : Q (.bl (nameB s)) M := q
    have e1 : (1 : Int) ≤ s.length ↔ 1 ≤ s.length := by omega
    have e2 : (s.length : Int) ≤ 8 ↔ s.length ≤ 8 := by omega
    by_cases h3 : s = "key"
    · have q : Q (.bl false) M := by
        have e : nameB s = false := by simp [nameB, h3]
        rw [e] at q; exact q
      by_cases h1 : 1 ≤ s.length <;> by_cases h2 : s.length ≤ 8
      all_goals simp [w_is_name, N_is_name, startD, isi_str P, hl, e1, e2, h1, h2]
      all_goals first | exact rt_ok q | (simp [h3]; exact rt_ok q)
    · by_cases h1 : 1 ≤ s.length <;> by_cases h2 : s.length ≤ 8
      all_goals simp [w_is_name, N_is_name, startD, isi_str P, hl, e1, e2, h1, h2, h3]
      all_goals simp [nameB, h1, h2, h3] at q
      all_goals first | exact rt_ok q | skip
      unfold signsD
      refine lc_all (fun c => .str ⟨#[c]⟩) (fun c => .bl (hasSign letters c)) s.cps.toList trivial (by rw [signs_len]; exact hl) (fun c _ acc Z ha hz => by simp [ha]; exact hz) ?_
      rw [all_bl]
      refine rt_ok ?_
      simpa using q
  | non => simp [w_is_name, N_is_name, startD, isi_non P]; exact rt_ok q
  | bl b => simp [w_is_name, N_is_name, startD, isi_bl P]; exact rt_ok q
  | int i => simp [w_is_name, N_is_name, startD, isi_int P]; exact rt_ok q
  | tup xs => simp [w_is_name, N_is_name, startD, isi_tup P]; exact rt_ok q
  | lst xs => simp [w_is_name, N_is_name, startD, isi_lst P]; exact rt_ok q
  | dic xs => simp [w_is_name, N_is_name, startD, isi_dic P]; exact rt_ok q
  | _ => cases hk
theorem p_are_distinct (ds : List D) (M : MS) (Q : QD) (EQ : EK) (_ : ds.length = 1) (h : d_are_distinct ds M Q EQ) : w_are_distinct T (startD N_are_distinct.length ds) M (endsD T Q EQ) := by
  obtain ⟨ns, rfl, hl, q⟩ := h
  simp [w_are_distinct, N_are_distinct, startD, keysD_strs, hl]
  refine rt_ok ?_
  rw [decide_eq_decide.mpr (uniq_names ns)]
  exact q
theorem p_are_names (P : Pure T cls noA) (ds : List D) (M : MS) (Q : QD) (EQ : EK) (_ : ds.length = 1) (h : d_are_names ds M Q EQ) : w_are_names T d_are_distinct d_is_nameX (startD N_are_names.length ds) M (endsD T Q EQ) := by
  obtain ⟨x, rfl, hk, ht, q⟩ := h
  cases x with
  | tup xs =>
    obtain ⟨hl, hks⟩ := ht
    have q : Q (.bl (xs.all nmD && decide (strsN xs).Nodup)) M := q
    simp [w_are_names, N_are_names, startD, isi_tup P]
    have e : xs = xs.map id := by simp
    rw [e]
    refine lc_all id (fun y => .bl (nmD y)) xs trivial (Nat.le_trans hl (by decide)) (fun y hy acc Z ha hz => by simp [d_is_nameX, ha, hks y hy]; exact hz) ?_
    rw [all_bl]
    cases hb : xs.all nmD
    · simp [hb] at q
      simp
      exact rt_ok q
    · simp [hb] at q
      simp [d_are_distinct]
      refine ⟨strsN xs, strs_of_names hb, ?_, rt_ok q⟩
      have e2 := congrArg List.length (strs_of_names hb)
      rw [List.length_map] at e2
      omega
  | non => simp [w_are_names, N_are_names, startD, isi_non P]; exact rt_ok q
  | bl b => simp [w_are_names, N_are_names, startD, isi_bl P]; exact rt_ok q
  | int i => simp [w_are_names, N_are_names, startD, isi_int P]; exact rt_ok q
  | str s => simp [w_are_names, N_are_names, startD, isi_str P]; exact rt_ok q
  | lst xs => simp [w_are_names, N_are_names, startD, isi_lst P]; exact rt_ok q
  | dic xs => simp [w_are_names, N_are_names, startD, isi_dic P]; exact rt_ok q
  | _ => cases hk
theorem p_are_columns (ds : List D) (M : MS) (Q : QD) (EQ : EK) (_ : ds.length = 1) (h : d_are_columns ds M Q EQ) : w_are_columns T d_are_names (startD N_are_columns.length ds) M (endsD T Q EQ) := by
  obtain ⟨x, rfl, hk, ht, q⟩ := h
  simp [w_are_columns, N_are_columns, startD, d_are_names, hk, ht]
  unfold colsD at q
  cases hb : namesD x
  · simp [hb] at q
    simp
    exact rt_ok q
  · cases x with
    | tup xs =>
      simp [hb] at q
      simp
      have e1 : (1 : Int) ≤ xs.length ↔ 1 ≤ xs.length := by omega
      have e2 : (xs.length : Int) ≤ 6 ↔ xs.length ≤ 6 := by omega
      by_cases h1 : 1 ≤ xs.length <;> simp [e1, e2, h1] at q ⊢ <;> exact rt_ok q
    | _ => cases hb
theorem p_Store_init (P : Pure T cls noA) (h1 : ("Store" : Str) ∈ cls) (h2 : (("Store" : Str), ("heads" : Str)) ∈ noA) (h3 : (("Store" : Str), ("kept" : Str)) ∈ noA) (ds : List D) (M : MS) (Q : QD) (EQ : EK) (_ : ds.length = 3) (h : d_Store_init ds M Q EQ) : w_Store_init T d_are_columns (startD N_Store_init.length ds) M (endsD T Q EQ) := by
  obtain ⟨a, ns, rfl, hM, hl, hs, hc, q⟩ := h
  simp [w_Store_init, N_Store_init, startD, d_are_columns]
  refine ⟨rfl, ⟨by rw [List.length_map]; exact hl, fun y hy => ?_⟩, ?_⟩
  · obtain ⟨n, hn, rfl⟩ := List.mem_map.mp hy
    exact decide_eq_true (hs n hn)
  · rw [hc]
    simp
    refine s_stfld P hM h1 h2 (by simp) ?_
    refine s_dict_tup (ys := []) (kvs := []) rfl ?_
    refine s_stfld P MS.set_same h1 h3 (by simp [putD]) ?_
    rw [MS.set_set]
    exact nx_ok q
end
end K49

namespace K49
open PySem PySem.Spec PyProof.Rows L2 G SB TL
section
variable {T : Wd} {cls : List Str} {noA : List (Str × Str)}
theorem putD_kept {ns : List Str} {m m' : Rw} : putD ("kept" : Str) (.dic (rowsK m')) (storeF ns m) = storeF ns m' := by kernel_rfl
theorem p_is_key (ds : List D) (M : MS) (Q : QD) (EQ : EK) (_ : ds.length = 1) (h : d_is_key ds M Q EQ) : w_is_key T d_is_whole (startD N_is_key.length ds) M (endsD T Q EQ) := by
  obtain ⟨k, rfl, hk, q⟩ := h
  simp [w_is_key, N_is_key, startD, d_is_whole, kindB, wholeB, hk]
  exact rt_ok q
theorem p_is_row (P : Pure T cls noA) (ds : List D) (M : MS) (Q : QD) (EQ : EK) (_ : ds.length = 2) (h : d_is_row ds M Q EQ) : w_is_row T d_is_cell (startD N_is_row.length ds) M (endsD T Q EQ) := by
  obtain ⟨l, ns, rfl, hl, hn, hc, q⟩ := h
  simp [w_is_row, N_is_row, startD, lineD, isi_tup P, hl]
  refine lc_all cellD (fun _ => .bl true) l trivial (szLe (by omega)) (fun c hm acc Z ha hz => ?_) ?_
  · simp [d_is_cell]
    refine ⟨by cases c <;> rfl, ?_⟩
    rw [cellB_of (hc c hm)]
    exact ⟨ha, hz⟩
  · have e := all_bl (M := M) (Q := (endsD T Q EQ).rt) (fun _ : Cell => true) l
    rw [e, List.all_eq_true.mpr fun _ _ => rfl]
    exact rt_ok q
theorem p_Store_setitem (P : Pure T cls noA) (h1 : ("Store" : Str) ∈ cls) (h2 : (("Store" : Str), ("heads" : Str)) ∈ noA) (h3 : (("Store" : Str), ("kept" : Str)) ∈ noA) (ds : List D) (M : MS) (Q : QD) (EQ : EK) (_ : ds.length = 3) (h : d_Store_setitem ds M Q EQ) : w_Store_setitem T d_is_key d_is_row (startD N_Store_setitem.length ds) M (endsD T Q EQ) := by
  obtain ⟨a, ns, m, k, l, rfl, hM, nd, hk, h1k, hl, hn, hc, hz, q⟩ := h
  have hx : StoreAt M (.ref a) ns m := by show insMO (M a) = _; rw [hM]; rfl
  have e : putR m k l = m ++ [(k, l)] := by unfold putR; rw [if_neg hk]
  have ndn : (keysR (m ++ [(k, l)])).Nodup := by
    have := keys_put (m := m) (k := k) (l := l)
    rw [e, if_neg hk] at this
    rw [this, List.nodup_append]
    refine ⟨nd, by simp, fun x hx y hy => ?_⟩
    rw [List.mem_singleton.mp hy]
    exact fun z => hk (z ▸ hx)
  simp [w_Store_setitem, N_Store_setitem, startD, d_is_key, h1k]
  rw [s_fld (v := .tup (ns.map .str)) P hx h1 h2 (by kernel_rfl)]
  refine ⟨l, ns, rfl, hl, hn, hc, ?_⟩
  simp
  rw [s_fld (v := .dic (rowsK m)) P hx h1 h3 (by kernel_rfl)]
  refine dicP_to (i := 1) (j := 2) (k := .inl k) rfl rfl rfl (by rw [rowsK_len]; exact Nat.le_trans (show m.length + 1 ≤ 60 by omega) (by decide)) ?_
  rw [put_rows, e]
  have hlen : (keysR (m ++ [(k, l)])).length < 64 := by unfold keysR; rw [List.length_map, List.length_append, List.length_singleton]; omega
  refine s_sorted_dic (ns := keysR (m ++ [(k, l)])) (by unfold rowsK keysR; rw [List.map_map, List.map_map]; rfl) hlen ?_
  simp
  refine dc_all (fun x : Int => .int x) (fun x => ((.inl x : Key), lineD ((getR (m ++ [(k, l)]) x).getD []))) (sortI (keysR (m ++ [(k, l)]))) (Nat.le_trans (show _ ≤ 64 by rw [(sortI_perm _).length_eq]; omega) (by decide)) ?_ (fun x hx acc Z ha hz => ?_) ?_
  · rw [List.map_map]
    have e2 : (sortI (keysR (m ++ [(k, l)]))).map ((fun p : Key × D => p.1) ∘ fun x => ((.inl x : Key), lineD ((getR (m ++ [(k, l)]) x).getD []))) = (sortI (keysR (m ++ [(k, l)]))).map Sum.inl := rfl
    rw [e2]
    exact List.Pairwise.map _ (fun a b hab hc => hab (Sum.inl.inj hc)) ((sortI_perm _).nodup_iff.mpr ndn)
  · have hm : x ∈ keysR (m ++ [(k, l)]) := (sortI_perm _).mem_iff.mp hx
    simp [val_rows]
    cases g : getR (m ++ [(k, l)]) x with
    | none => exact absurd hm (getR_none.mp g)
    | some r =>
      simp [g] at hz ⊢
      exact ⟨ha, hz⟩
  · intro b hb
    refine s_stfld P hM h1 h3 (by simp) ?_
    have e4 : rowsK (told (m ++ [(k, l)])) = (sortI (keysR (m ++ [(k, l)]))).map fun x => ((.inl x : Key), lineD ((getR (m ++ [(k, l)]) x).getD [])) := by
      unfold rowsK told
      rw [List.map_map]; rfl
    rw [← e4, putD_kept]
    exact nx_ok q
theorem p_Store_columns (P : Pure T cls noA) (h1 : ("Store" : Str) ∈ cls) (h2 : (("Store" : Str), ("heads" : Str)) ∈ noA) (ds : List D) (M : MS) (Q : QD) (EQ : EK) (_ : ds.length = 1) (h : d_Store_columns ds M Q EQ) : w_Store_columns T (startD N_Store_columns.length ds) M (endsD T Q EQ) := by
  obtain ⟨x, ns, m, rfl, hx, q⟩ := h
  simp [w_Store_columns, N_Store_columns, startD]
  rw [s_fld (v := .tup (ns.map .str)) P hx h1 h2 (by kernel_rfl)]
  exact rt_ok q
theorem p_Store_rows (P : Pure T cls noA) (h1 : ("Store" : Str) ∈ cls) (h2 : (("Store" : Str), ("kept" : Str)) ∈ noA) (ds : List D) (M : MS) (Q : QD) (EQ : EK) (_ : ds.length = 1) (h : d_Store_rows ds M Q EQ) : w_Store_rows T (startD N_Store_rows.length ds) M (endsD T Q EQ) := by
  obtain ⟨x, ns, m, rfl, hx, q⟩ := h
  simp [w_Store_rows, N_Store_rows, startD]
  rw [s_fld (v := .dic (rowsK m)) P hx h1 h2 (by kernel_rfl)]
  refine ⟨rowsK m, rfl, ?_⟩
  rw [items_rows]
  exact rt_ok q
theorem p_Meanwhile_init (P : Pure T cls noA) (h1 : ("Meanwhile" : Str) ∈ cls) (h2 : (("Meanwhile" : Str), ("told" : Str)) ∈ noA) (ds : List D) (M : MS) (Q : QD) (EQ : EK) (_ : ds.length = 5) (h : d_Meanwhile_init ds M Q EQ) : w_Meanwhile_init T d_are_names d_is_nameX (startD N_Meanwhile_init.length ds) M (endsD T Q EQ) := by
  obtain ⟨a, m, rfl, hM, ok, q⟩ := h
  have hnm : namesD (.tup (m.fs.map .str)) = true := by
    show ((m.fs.map D.str).all nmD && decide (strsN (m.fs.map .str)).Nodup) = true
    rw [strsN_map, List.all_map]
    have e : m.fs.all (nmD ∘ D.str) = true := ok.nm
    rw [e, decide_eq_true ok.nd]; rfl
  have ht : tupOk (.tup (m.fs.map .str)) := ⟨by rw [List.length_map]; have := ok.le; omega, fun y hy => by
    obtain ⟨z, hz, rfl⟩ := List.mem_map.mp hy
    exact decide_eq_true (szLe (by have := (nameB_len (List.all_eq_true.mp ok.nm z hz)).1; omega))⟩
  simp [w_Meanwhile_init, N_Meanwhile_init, startD, d_are_names, ht, hnm, kindD, isi_bl P]
  have fin : 4 ≤ sizeLine ∧ stFld T "told" (.ref a) (.tup [.tup (m.fs.map .str), .bl m.b, .bl m.d, stD m.s]) M fun M3 => (endsD T Q EQ).nx [some (.ref a), some (.tup (m.fs.map .str)), some (.bl m.b), some (.bl m.d), some (stD m.s)] M3 :=
    ⟨by decide, s_stfld P hM h1 h2 (by simp) (nx_ok q)⟩
  cases hs : m.s with
  | none =>
    rw [hs] at fin
    simp [stD]
    exact fin
  | some n =>
    obtain ⟨s1, s2⟩ := ok.st n hs
    rw [hs] at fin
    simp [stD, d_is_nameX, kindD, nmD, s1, inF_strs, all_flat_strs, s2]
    exact ⟨szLe (by have := (nameB_len s1).1; omega), fin⟩
end
end K49

namespace K49
open PySem PySem.Spec PyProof.Rows L2 G SB TL
section
variable {T : Wd} {cls : List Str} {noA : List (Str × Str)} {M : MS} {Q : QD}
theorem ne_strs0 {xs : List Str} (h : ∀ n ∈ xs, PyData.strOk n = true) (q : Q (.bl (!decide (xs = []))) M) : neO (.lst (xs.map .str)) (.lst []) M Q :=
  ne_em (e := fun ns : List Str => .lst (ns.map .str)) (f := fun ns : List Str => .lst (ns.map .str)) (x := xs) (y := []) (em_lst em_str) (em_lst em_str) (pd_lst pd_str) (by decide) h (fun _ h => by simp at h) q
theorem eq_strs0 {xs : List Str} (h : ∀ n ∈ xs, PyData.strOk n = true) (q : Q (.bl (decide (xs = []))) M) : eqO (.lst (xs.map .str)) (.lst []) M Q :=
  eq_em (e := fun ns : List Str => .lst (ns.map .str)) (f := fun ns : List Str => .lst (ns.map .str)) (x := xs) (y := []) (em_lst em_str) (em_lst em_str) (pd_lst pd_str) (by decide) h (fun _ h => by simp at h) q
theorem ne_cell {a b : Cell} (q : Q (.bl (!decide (a = b))) M) : neO (cellD a) (cellD b) M Q := ne_em (x := a) (y := b) em_cell em_cell pd_cell (by decide) trivial trivial q
theorem eq_cell {a b : Cell} (q : Q (.bl (decide (a = b))) M) : eqO (cellD a) (cellD b) M Q := eq_em (x := a) (y := b) em_cell em_cell pd_cell (by decide) trivial trivial q
theorem inF_non : ∀ (ns : List Str), inF .non (ns.map .str) = false
  | [] => rfl
  | n :: r => by
    have := inF_non r
    unfold inF at this ⊢
    simp at this ⊢
    exact ⟨rfl, this⟩
/-- a name or None in names -/
theorem in_names {neg : Bool} {s : Option Str} {ns : List Str} (q : Q (.bl (if neg = true then !(match s with | none => false | some n => decide (n ∈ ns)) else (match s with | none => false | some n => decide (n ∈ ns)))) M) : inO neg (stD s) (.tup (ns.map .str)) M Q := by
  cases s with
  | none =>
    simp [stD, inF_non, all_flat_strs]
    simpa using q
  | some n =>
    simp [stD, inF_strs, all_flat_strs]
    exact q
theorem ne_stD {n : Str} {s : Option Str} (hn : PyData.strOk n = true) (hs : ∀ x, s = some x → PyData.strOk x = true) (q : Q (.bl (decide (some n ≠ s))) M) : neO (.str n) (stD s) M Q := by
  have e : decide (some n ≠ s) = !decide (some n = s) := by simp
  rw [e] at q
  exact ne_em (x := some n) (y := s) (e := optD D.str) (f := stD) (em_opt em_str) ⟨fun o => by cases o <;> rfl, fun o a h => by cases o <;> cases h⟩ (pd_opt pd_str fun x => by simp [strP, PyData.eqv]) (by decide) (fun x h => by cases h; exact hn) hs q
/-- name, was, now -/
def tri : List Str → List Cell → List Cell → List (Str × Cell × Cell)
  | n :: ns, o :: os, w :: ws => (n, o, w) :: tri ns os ws
  | _, _, _ => []
theorem tri_D : ∀ (ns : List Str) (os ws : List Cell), zip3D (ns.map .str) (os.map cellD) (ws.map cellD) = (tri ns os ws).map fun t => .tpl [.str t.1, cellD t.2.1, cellD t.2.2]
  | n :: ns, o :: os, w :: ws => by
    show _ :: zip3D (ns.map .str) (os.map cellD) (ws.map cellD) = _
    rw [tri_D ns os ws]
    rfl
  | [], _, _ => rfl
  | _ :: _, [], _ => rfl
  | _ :: _, _ :: _, [] => rfl
theorem tri_len : ∀ (ns : List Str) (os ws : List Cell), (tri ns os ws).length ≤ ns.length
  | n :: ns, o :: os, w :: ws => by
    have := tri_len ns os ws
    show (tri ns os ws).length + 1 ≤ ns.length + 1
    omega
  | [], _, _ => Nat.le_refl _
  | _ :: _, [], _ => Nat.zero_le _
  | _ :: _, _ :: _, [] => Nat.zero_le _
theorem chg_tri : ∀ (ns : List Str) (os ws : List Cell), chg ns os ws = ((tri ns os ws).filter fun t => !decide (t.2.1 = t.2.2)).map (·.1)
  | n :: ns, o :: os, w :: ws => by
    show (if o = w then chg ns os ws else n :: chg ns os ws) = (((n, o, w) :: tri ns os ws).filter _).map _
    rw [List.filter_cons, chg_tri ns os ws]
    by_cases e : o = w <;> simp [e]
  | [], _, _ => rfl
  | _ :: _, [], _ => rfl
  | _ :: _, _ :: _, [] => rfl
theorem fresh_tri (m : Mean) (ns : List Str) (os ws : List Cell) : freshR m ns os ws = ((tri ns os ws).filter fun t => !decide (t.2.1 = t.2.2) && decide (some t.1 ≠ m.s)).map (·.1) := by
  unfold freshR
  rw [chg_tri, List.filter_map, List.filter_filter]
  congr 1
  refine List.filter_congr fun t _ => ?_
  show (decide (some t.1 ≠ m.s) && _) = _
  rw [Bool.and_comm]
theorem mem_tri : ∀ {ns : List Str} {os ws : List Cell} {t : Str × Cell × Cell}, t ∈ tri ns os ws → t.1 ∈ ns
  | n :: ns, o :: os, w :: ws, t, h => by
    have h : t ∈ (n, o, w) :: tri ns os ws := h
    rcases List.mem_cons.mp h with e | e
    · rw [e]; exact List.mem_cons_self ..
    · exact List.mem_cons_of_mem _ (mem_tri e)
  | [], _, _, _, h => by simp [tri] at h
  | _ :: _, [], _, _, h => by simp [tri] at h
  | _ :: _, _ :: _, [], _, h => by simp [tri] at h
theorem fresh_sub {m : Mean} {ns : List Str} {os ws : List Cell} {n : Str} (h : n ∈ freshR m ns os ws) : n ∈ ns := by
  rw [fresh_tri] at h
  obtain ⟨t, ht, rfl⟩ := List.mem_map.mp h
  exact mem_tri (List.mem_filter.mp ht).1
theorem strOk_of {ns : List Str} (h : ns.all nameB = true) {n : Str} (hn : n ∈ ns) : PyData.strOk n = true := names_strOk h n hn
theorem p_is_later (ds : List D) (M : MS) (Q : QD) (EQ : EK) (_ : ds.length = 2) (h : d_is_later ds M Q EQ) : w_is_later T (startD N_is_later.length ds) M (endsD T Q EQ) := by
  obtain ⟨was, now, rfl, q⟩ := h
  cases now with
  | none => simp [w_is_later, N_is_later, startD, cellD, isND]; exact rt_ok q
  | some n =>
    cases was with
    | none => simp [w_is_later, N_is_later, startD, cellD, isND]; exact rt_ok q
    | some w =>
      simp [w_is_later, N_is_later, startD, cellD, isND]
      simp [laterB] at q
      exact rt_ok q
theorem stOk {m : Mean} (ok : MeanOk m) : ∀ x, m.s = some x → PyData.strOk x = true := fun x hx => itemB_ok (name_item (ok.st x hx).1)
theorem p_may_become (ds : List D) (M : MS) (Q : QD) (EQ : EK) (_ : ds.length = 4) (h : d_may_become ds M Q EQ) : w_may_become T d_is_later (startD N_may_become.length ds) M (endsD T Q EQ) := by
  obtain ⟨m, ns, old, new, rfl, ok, co, ho, hn, q⟩ := h
  have h6 := co.hi
  simp [w_may_become, N_may_become, startD, Mean.D, lineD, asT]
  rw [tri_D]
  refine lc_filter (fun t : Str × Cell × Cell => .tpl [.str t.1, cellD t.2.1, cellD t.2.2]) (fun t => !decide (t.2.1 = t.2.2) && decide (some t.1 ≠ m.s)) (fun t => .str t.1) (tri ns old new) trivial (Nat.le_trans (tri_len ns old new) (szLe (by omega))) (fun t ht acc Z ha h1 h2 => ?_) ?_
  · simp [asT]
    refine ne_cell ?_
    by_cases c : t.2.1 = t.2.2
    · simp [c]
      exact h2 (by simp [c])
    · simp [c]
      refine ne_stD (strOk_of co.nm (mem_tri ht)) (stOk ok) ?_
      by_cases c2 : some t.1 = m.s
      · simp [c2]
        exact h2 (by simp [c2])
      · simp [c2]
        exact ⟨ha, h1 (by simp [c, c2])⟩
  have e : ((tri ns old new).filter fun t => !decide (t.2.1 = t.2.2) && decide (some t.1 ≠ m.s)).map (fun t => D.str t.1) = (freshR m ns old new).map D.str := by
    rw [fresh_tri, List.map_map]; rfl
  rw [e]
  have hfl : (freshR m ns old new).length ≤ 6 := by
    rw [fresh_tri, List.length_map]
    exact Nat.le_trans (List.length_filter_le ..) (Nat.le_trans (tri_len ns old new) h6)
  have hfo : ∀ n ∈ freshR m ns old new, PyData.strOk n = true := fun n hn' => strOk_of co.nm (fresh_sub hn')
  refine lc_all D.str (fun n => .bl (!decide (n ∈ m.fs))) (freshR m ns old new) trivial (szLe (by omega)) (fun n _ acc Z ha hz => ?_) ?_
  · simp [inF_strs, all_flat_strs]
    exact ⟨ha, by simpa using hz⟩
  rw [any_bl]
  have e2 : (freshR m ns old new).any (fun n => !decide (n ∈ m.fs)) = !(freshR m ns old new).all fun n => decide (n ∈ m.fs) := by
    rw [List.all_eq_not_any_not]; simp
  rw [e2]
  unfold becomeB at q
  cases hall : (freshR m ns old new).all fun n => decide (n ∈ m.fs) with
  | false =>
    rw [hall] at q
    simp
    exact rt_ok q
  | true =>
    rw [hall, Bool.true_and] at q
    simp
    unfold stampB at q
    cases hs : m.s with
    | none =>
      rw [hs] at q
      simp [stD, inF_non]
      exact rt_ok q
    | some n =>
      rw [hs] at q
      by_cases hm : n ∈ ns
      · obtain ⟨i, hi, hil⟩ := idxS_mem hm
        simp only [hi] at q
        simp [stD, inF_strs, hm]
        have at1 : ∀ {l : List Cell}, l.length = ns.length → (l.map cellD)[i]? = some (cellD (cellAt l i)) := fun {l} hl => by
          have : i < l.length := by omega
          unfold cellAt
          simp [this]
        refine ⟨ns, n, i, rfl, rfl, hi, item_tup (at1 ho) ?_⟩
        refine ⟨ns, n, i, rfl, rfl, hi, item_tup (at1 hn) ?_⟩
        refine ne_strs0 hfo ?_
        by_cases hf : freshR m ns old new = []
        · simp [hf] at q ⊢
          exact eq_cell (rt_ok q)
        · simp [hf] at q ⊢
          exact ⟨_, _, rfl, rt_ok q⟩
      · have : idxS n ns = none := by
          cases z : idxS n ns with
          | none => rfl
          | some i => exact absurd (List.mem_of_getElem? (idxS_some z).1) hm
        simp only [this] at q
        simp [stD, inF_strs, hm]
        exact rt_ok q
end
end K49

namespace K49
open PySem PySem.Spec PyProof.Rows L2 G SB TL
section
variable {T : Wd} {cls : List Str} {noA : List (Str × Str)}
theorem two40 {x : Int} {n : Nat} (h0 : 0 ≤ x) (h : x ≤ n) (hn : n ≤ LIM) : x < 2 ^ 40 := by
  have : (n : Int) ≤ 1000000000 := by unfold LIM at hn; omega
  have e : (2 : Int) ^ 40 = 1099511627776 := by decide
  omega
theorem p__law_spool (ds : List D) (M : MS) (Q : QD) (EQ : EK) (_ : ds.length = 2) (h : d__law_spool ds M Q EQ) : w__law_spool T (startD N__law_spool.length ds) M (endsD T Q EQ) := by
  obtain ⟨ns, i, rfl, hi, q⟩ := h
  have main : ∀ a x y, M a = none → 0 ≤ x → 0 ≤ y → y < 2 ^ 160 → (endsD T Q EQ).rt (.ref a) (M.set a (.dic (mergeD [] [((.inr "rest" : Key), .int x), (.inr "seed", .int y), (.inr "turn", .int 0)]))) := fun a x y ha hx hy hz => by
    rw [k_spool]
    exact rt_ok (q a _ ha ⟨_, MS.set_same, _, _, _, rfl, hx, hy, hz, Int.le_refl _, Int.le_refl _⟩ Off.set)
  have e : (2 : Int) ^ 160 = 1461501637330902918203684832716283019655932542976 := by decide
  have lg : ∀ c : Int, 0 ≤ c % 100000000000000000000000000000000000000109 ∧ c % 100000000000000000000000000000000000000109 < 100000000000000000000000000000000000000109 := fun c => ⟨Int.emod_nonneg c (by decide), Int.emod_lt_of_pos c (by decide)⟩
  have p1 : CPowW 10 18 := powI (k := 4) (by decide) (by decide) (by decide) (by decide)
  have p2 : CPowW 10 41 := powI (k := 4) (by decide) (by decide) (by decide) (by decide)
  by_cases hlt : (i : Int) < (ns.length : Int)
  · have hlt' : i < ns.length := by omega
    have hat : atI (ns.map D.int) (i : Int) = some (.int ns[i]) := by
      unfold atI ixN
      have e1 : (0 : Int) ≤ i := by omega
      have e2 : (i : Int) < ((ns.map D.int).length : Int) := by rw [List.length_map]; exact hlt
      rw [if_pos e1, if_pos e2]
      simp [hlt']
    simp [w__law_spool, N__law_spool, startD, hlt, hat, p1, p2]
    obtain ⟨h1, h2⟩ := lg ns[i]
    refine ⟨?_, fun a ha => main a _ _ ha ?_ ?_ ?_⟩
    · have := lgI (k := 160) h1 (Int.lt_of_lt_of_le h2 (by decide))
      have e6 : Nat.log2 64 = 6 := by decide
      omega
    · split <;> omega
    · omega
    · rw [e]; omega
  · simp [w__law_spool, N__law_spool, startD, hlt, p1, p2]
    refine ⟨by decide, fun a ha => main a _ _ ha (by decide) (by omega) ?_⟩
    rw [e]; omega
theorem p__law_pull (ds : List D) (M : MS) (Q : QD) (EQ : EK) (_ : ds.length = 2) (h : d__law_pull ds M Q EQ) : w__law_pull T (startD N__law_pull.length ds) M (endsD T Q EQ) := by
  obtain ⟨a, b, rfl, hb0, hb1, n, ⟨m, hm, r, s, t, rfl, hr, hs, hs2, ht, ht2⟩, hn, q⟩ := h
  have hdiv : ∀ x : Int, CDivW x b := fun x => ⟨hb0, Nat.lt_of_le_of_lt (lgI (k := 67) (Int.le_of_lt hb0) (Int.lt_of_le_of_lt hb1 (by decide))) (by decide)⟩
  by_cases h0 : 0 < r
  · simp [w__law_pull, N__law_pull, startD, s_itemK hm, v_rest, h0, hb0, hdiv]
    refine s_setK hm (by show 3 < sizeLine; decide) ?_
    rw [u_rest]
    have h1 := Int.emod_nonneg r (Int.ne_of_gt hb0)
    have h2 := Int.emod_lt_of_pos r hb0
    obtain ⟨x, hx⟩ := Int.eq_ofNat_of_zero_le h1
    rw [hx]
    refine rt_ok (q _ _ ⟨_, MS.set_same, _, _, _, rfl, Int.ediv_nonneg hr (Int.le_of_lt hb0), hs, hs2, ht, by omega⟩ Off.set ⟨x, rfl, by omega⟩)
  · simp [w__law_pull, N__law_pull, startD, s_itemK hm, v_rest, v_turn, h0]
    refine s_setK hm (by show 3 < sizeLine; decide) ?_
    rw [u_turn]
    have hM : (M.set a (.dic (spk r s (t + 1)))) a = some (.dic (spk r s (t + 1))) := MS.set_same
    have ht3 : t + 1 < 2 ^ 40 := two40 (by omega) (show t + 1 ≤ ((n + 1 : Nat) : Int) by omega) hn
    have e40 : (2 : Int) ^ 40 = 1099511627776 := by decide
    have e160 : (2 : Int) ^ 160 = 1461501637330902918203684832716283019655932542976 := by decide
    rw [e40] at ht3
    rw [e160] at hs2
    simp [s_itemK hM, v_seed, v_turn, hdiv, hb0]
    have t0 : 0 ≤ t + 1 := by omega
    have g1 : (t + 1).natAbs.log2 ≤ 40 := lgI t0 (by rw [e40]; exact ht3)
    have m1 : 0 ≤ 90001 * (t + 1) ∧ 90001 * (t + 1) < 2 ^ 57 := by
      have e : (2 : Int) ^ 57 = 144115188075855872 := by decide
      omega
    have g2 : (90001 * (t + 1)).natAbs.log2 ≤ 57 := lgI m1.1 m1.2
    have m2 : 0 ≤ 90001 * (t + 1) * (t + 1) := Int.mul_nonneg m1.1 t0
    have m3 : 90001 * (t + 1) * (t + 1) ≤ 144115188075855872 * 1099511627776 := Int.mul_le_mul (Int.le_of_lt (Int.lt_of_lt_of_le m1.2 (by decide))) (by omega) t0 (by decide)
    have m4 : 0 ≤ s + 90001 * (t + 1) * (t + 1) := by omega
    have m5 : s + 90001 * (t + 1) * (t + 1) < 2 ^ 161 := by
      have e : (2 : Int) ^ 161 = 2923003274661805836407369665432566039311865085952 := by decide
      rw [e]; omega
    have p1 : CPowW (s + 90001 * (t + 1) * (t + 1)) 2 := powI (k := 161) (by decide) m4 m5 (by decide)
    have k1 : ∀ x : Int, 0 ≤ x % 170141183460469231731687303715884105727 ∧ x % 170141183460469231731687303715884105727 < 170141183460469231731687303715884105727 := fun x => ⟨Int.emod_nonneg x (by decide), Int.emod_lt_of_pos x (by decide)⟩
    obtain ⟨k2, k3⟩ := k1 ((s + 90001 * (t + 1) * (t + 1)) ^ 2)
    have p2 : CPowW ((s + 90001 * (t + 1) * (t + 1)) ^ 2 % 170141183460469231731687303715884105727 + 7013 * (t + 1)) 3 := powI (k := 130) (by decide) (by omega) (by
      have e : (2 : Int) ^ 130 = 1361129467683753853853498429727072845824 := by decide
      rw [e]; omega) (by decide)
    have p3 : ∀ x : Int, CDivW x 1000003 := fun x => ⟨by decide, by decide⟩
    simp [p1, p2, p3]
    have l1 : Nat.log2 90001 = 16 := by decide +kernel
    have l2 : Nat.log2 7013 = 12 := by decide +kernel
    refine ⟨by omega, by omega, by omega, ?_⟩
    generalize ((s + 90001 * (t + 1) * (t + 1)) ^ 2 % 170141183460469231731687303715884105727 + 7013 * (t + 1)) ^ 3 % 162259276829213363391578010288127 / 1000003 = y
    have h1 := Int.emod_nonneg y (Int.ne_of_gt hb0)
    have h2 := Int.emod_lt_of_pos y hb0
    obtain ⟨x, hx⟩ := Int.eq_ofNat_of_zero_le h1
    rw [hx]
    exact rt_ok (q _ _ ⟨_, MS.set_same, _, _, _, rfl, hr, hs, by rw [e160]; exact hs2, t0, by omega⟩ Off.set ⟨x, rfl, by omega⟩)
/-- the promise one level below -/
def dl : Nat → DSp
  | 0 => fun _ _ _ _ => False
  | n + 1 => d__law_like n
theorem p__law_like (P : Pure T cls noA) (n : Nat) (ds : List D) (M : MS) (Q : QD) (EQ : EK) (_ : ds.length = 2) (h : d__law_like n ds M Q EQ) : w__law_like T (dl n) (startD N__law_like.length ds) M (endsD T Q EQ) := by
  obtain ⟨x, y, rfl, hx, q⟩ := h
  have q := rt_ok (T := T) (EQ := EQ) q
  have sca : x = y ∧ scaB x = true → w__law_like T (dl n) (startD N__law_like.length [x, y]) M (endsD T Q EQ) := fun ⟨e, hs⟩ => by
    subst e
    cases x with
    | non => simp [w__law_like, N__law_like, startD, isi_non P]; exact q
    | bl b => simp [w__law_like, N__law_like, startD, isi_bl P]; exact q
    | int i => simp [w__law_like, N__law_like, startD, isi_int P, isi2_int P]; exact ⟨two_fits, q⟩
    | str s => simp [w__law_like, N__law_like, startD, isi_str P, isi2_str P]; exact ⟨two_fits, q⟩
    | _ => cases hs
  cases n with
  | zero => exact sca hx
  | succ n =>
  rcases hx with hx | ⟨xs, ys, ex, ey, hl, hL⟩ | ⟨xs, ys, rfl, rfl, hl, hL⟩
  · exact sca hx
  · have hz : ∀ (xs ys : List D), (xs.zip ys).length ≤ xs.length := fun xs ys => by rw [List.length_zip]; omega
    have fin : zipI [x, y] M (fun Kp zs M1 => lcD (wgTup 2 (wgCons (wgName 2) (wgCons (wgName 3) wgNil))) wYes (wCal (dl (n + 1)) 2 0 (wCons (wVar 2) (wCons (wVar 3) wNil)) wNil) Kp [some x, some y, none, none] (fun zs M2 => allO [.lst zs] M2 (endsD T Q EQ).rt) zs [] M1) := by
      refine ⟨x, y, xs, ys, rfl, .inr ⟨ex, ey, ?_⟩⟩
      unfold zipD
      refine lc_all (fun p : D × D => .tpl [p.1, p.2]) (fun _ => .bl true) (xs.zip ys) trivial (Nat.le_trans (hz xs ys) hl) (fun p hp acc Z ha hzz => ?_) ?_
      · simp [asT, dl, d__law_like]
        exact ⟨p.1, p.2, ⟨rfl, rfl⟩, hL.zip p hp, ha, hzz⟩
      · rw [all_bl (fun _ => true)]
        have e : ((xs.zip ys).all fun _ => true) = true := by simp
        rw [e]; exact q
    have hlen := hL.length
    cases x <;> first | (simp [asT] at ex; done) | skip
    all_goals cases y <;> first | (simp [asT] at ey; done) | skip
    all_goals
      cases ex
      cases ey
      simp [w__law_like, N__law_like, startD, isi_tup P, isi2_tup P, isi_tpl P, isi2_tpl P, hlen]
      exact ⟨two_fits, fin⟩
  · have hlen := hL.length
    simp [w__law_like, N__law_like, startD, isi_lst P, isi2_lst P, hlen]
    refine ⟨two_fits, s_zip_lst ?_⟩
    unfold zipD
    refine lc_all (fun p : D × D => .tpl [p.1, p.2]) (fun _ => .bl true) (xs.zip ys) trivial (Nat.le_trans (by rw [List.length_zip]; omega) hl) (fun p hp acc Z ha hzz => ?_) ?_
    · simp [asT, dl, d__law_like]
      exact ⟨p.1, p.2, ⟨rfl, rfl⟩, hL.zip p hp, ha, hzz⟩
    · rw [all_bl (fun _ => true)]
      have e : ((xs.zip ys).all fun _ => true) = true := by simp
      rw [e]; exact q
end
section
variable {T : Wd} {cls : List Str} {noA : List (Str × Str)}
theorem word_size {w : Str} (h : WordOk w) : w.length ≤ sizeLine := Nat.le_trans h.hi (by decide)
theorem signs_sum (ws : List Nat) : ((ws.map fun c => (⟨#[c]⟩ : Str)).map (·.length)).sum ≤ ws.length := by
  induction ws with
  | nil => simp
  | cons a r ih =>
    have e : ((⟨#[a]⟩ : Str)).length = 1 := rfl
    simp only [List.map_cons, List.sum_cons, List.length_cons, e]
    omega
theorem okD_strs (n : Nat) {ns : List Str} (h : ∀ x ∈ ns, itemB x = true) : (ns.map D.str).all (okD n) = true := by
  rw [List.all_eq_true]
  intro d hd
  obtain ⟨c, hc, rfl⟩ := List.mem_map.mp hd
  have := itemB_ok (h c hc)
  cases n <;> simpa [okD] using this
theorem last_of {ns : List Str} {l : Str} {r : List Str} (h : ns = r ++ [l]) : atI (ns.map D.str) (-1) = some (.str l) := by
  subst h
  unfold atI ixN
  have e : ((r ++ [l]).map D.str).length = r.length + 1 := by simp
  rw [if_neg (by decide), if_pos (by rw [e]; omega)]
  have e2 : (-1 + (((r ++ [l]).map D.str).length : Int)).toNat = r.length := by rw [e]; omega
  rw [e2]
  simp
theorem letter_get : ∀ i : Nat, i < 8 → atI (letters : Str).cps.toList (0 + (i : Int)) = some ((tl letters).getD i 0) := by
  have e : (letters : Str).cps.toList = [97,98,99,100,101,102,103,104,105,106,107,108,109,110,111,112,113,114,115,116,117,118,119,120,121,122] := tl_letters
  rw [e, show tl (letters : Str) = _ from e]
  decide
def names_tail : WS := (wSeq (wAsg (wBin addO (wLst (wCons (wVar 5) wNil)) (wLc (wRng rng1 (wCons (wC (.int 8)) wNil)) (wgName 8) wYes (wBin mulA (wBin itemO (wVar 2) (wVar 8)) (wC (.int 7))) [8])) (wgName 7))
    (wDrop (wBM "list" appendO (wVar 3) (wCons (wBin itemO (wLc (wIt (wVar 7)) (wgName 9) (wAndT (wTest (wBin (inO true) (wVar 9) (wVar 3))) (wTest (wBin neO (wVar 9) (wC (.str "key"))))) (wVar 9) [9]) (wC (.int 0))) wNil))))
theorem names_tail_ok {K : KD} {ns : List Str} {w : Str} {a b : Addr} {kd : D} {M : MS} {x4 x6 x7 : Option D} (hw : WordOk w) (hM : M b = some (.lst (ns.map .str))) (hn : ns.length < 8) (hall : ns.all nameB = true)
    (hk : ∀ (v : Str) (y7 : Option D), nameB v = true → v ∉ ns → K.nx [some (.ref a), some kd, some (.str letters), some (.ref b), x4, some (.str w), x6, y7, none, none] (M.set b (.lst ((ns ++ [v]).map .str)))) :
    names_tail [some (.ref a), some kd, some (.str letters), some (.ref b), x4, some (.str w), x6, x7, none, none] M K := by
  have hl26 : (letters : Str).length ≤ sizeLine := by decide +kernel
  simp [names_tail]
  refine ⟨one_fits, ?_⟩
  refine lc_all (fun i : Nat => .int (0 + (i : Nat))) (fun i => .str (seven i)) (List.range 8) trivial (by decide) (fun i hi acc Z ha hz => ?_) ?_
  · have hi8 : i < 8 := List.mem_range.mp hi
    have hg := letter_get i hi8
    simp at hg
    simp [seven] at hz
    simp [hg, hl26]
    exact ⟨by show (1 : Nat) ≤ 10000; decide, ha, hz⟩
  · simp
    refine ⟨by decide, ?_⟩
    have e : (D.str w :: List.map (fun i => D.str (seven i)) (List.range 8)) = (w :: (List.range 8).map seven).map .str := by
      rw [List.map_cons, List.map_map]; rfl
    rw [e]
    refine ⟨by show bmMO (M b) = _; rw [hM]; rfl, ?_⟩
    refine lc_filter .str (freeB ns) .str (w :: (List.range 8).map seven) trivial (Nat.le_trans (show (w :: (List.range 8).map seven).length ≤ 9 by simp) (by decide)) (fun v hv acc Z ha h1 h2 => ?_) ?_
    · simp [s_in_ref hM, inF_strs]
      by_cases c1 : v ∈ ns
      · simp [c1]
        exact h2 (by simp [freeB, c1])
      · by_cases c2 : v = "key"
        · simp [c1, c2]
          subst c2
          exact h2 (by simp [freeB])
        · simp [c1, c2]
          exact ⟨ha, h1 (by simp [freeB, c1, c2])⟩
    · have hne := free_ne w hn (ns := ns)
      cases hf : (w :: (List.range 8).map seven).filter (freeB ns) with
      | nil => exact absurd hf hne
      | cons v r =>
        have hv : v ∈ (w :: (List.range 8).map seven).filter (freeB ns) := by rw [hf]; exact List.mem_cons_self ..
        obtain ⟨hv1, hv2⟩ := List.mem_filter.mp hv
        have hvw : WordOk v := by
          rcases List.mem_cons.mp hv1 with z | z
          · rw [z]; exact hw
          · exact sevens_ok v z
        simp [freeB] at hv2
        have h0 : atI ((v :: r).map D.str) 0 = some (.str v) := by
          unfold atI ixN
          rw [if_pos (by decide), if_pos (by simp; try omega)]
          rfl
        simp only [s_item_lst, h0]
        refine (s_append hM (by rw [List.length_map]; exact Nat.lt_of_lt_of_le hn (by decide)) ?_).2
        have := hk v (some (.lst ((w :: (List.range 8).map seven).map .str))) (hvw.name hv2.2) hv2.1
        rw [List.map_append] at this
        exact this
theorem p__law_names (ds : List D) (M : MS) (Q : QD) (EQ : EK) (_ : ds.length = 2) (h : d__law_names ds M Q EQ) : w__law_names T d__law_pull (startD N__law_names.length ds) M (endsD T Q EQ) := by
  obtain ⟨a, k, rfl, hk1, hk8, n, h, hn, q⟩ := h
  have hl26 : (letters : Str).length ≤ sizeLine := by decide +kernel
  simp [w__law_names, N__law_names, startD, asT]
  intro b hb
  have hab : a ≠ b := fun e => by obtain ⟨m, hm, _⟩ := h; rw [e, hb] at hm; cases hm
  refine ⟨two_fits, by omega, ?_⟩
  refine forD_rule (fun rest env M2 => ∃ (ns : List Str) (e4 e5 e6 e7 : Option D), ns.length + rest.length = k ∧ ns.all nameB = true ∧ ns.Nodup ∧ env = [some (.ref a), some (.int (k : Nat)), some (.str letters), some (.ref b), e4, e5, e6, e7, none, none] ∧ M2 b = some (.lst (ns.map .str)) ∧ SpAt (n + 20 * ns.length) M2 a ∧ ∀ c, c ≠ a → c ≠ b → M2 c = M c)
    (fun x xs env M2 Z h hZ => ?_) (fun env M2 h => ?_) _ _ _ ⟨[], none, none, none, none, by rw [rangeD_len]; simp, rfl, List.nodup_nil, rfl, MS.set_same, ?_, fun c h1 h2 => MS.set_ne h2⟩
  · obtain ⟨ns, e4, e5, e6, e7, hl, hall, hnd, rfl, hM, hs, hf⟩ := h
    rw [List.length_cons] at hl
    have hni : ∀ x ∈ ns, itemB x = true := fun x hx => name_item (List.all_eq_true.mp hall x hx)
    change wgName 4 x _ M2 (fun env1 M1 => (wSeq _ (wSeq _ names_tail)) env1 M1 _) _
    have fin : ∀ (w : Str) (M3 : MS) (x4 x6 x7 : Option D) (K : KD), WordOk w → M3 b = some (.lst (ns.map .str)) → SpAt (n + 20 * ns.length + 12) M3 a → (∀ c, c ≠ a → c ≠ b → M3 c = M c) → (∀ e2 M4, Z e2 M4 → K.nx e2 M4) →
        names_tail [some (.ref a), some (.int (k : Nat)), some (.str letters), some (.ref b), x4, some (.str w), x6, x7, none, none] M3 K := fun w M3 x4 x6 x7 K hw h3 hs3 hf3 hK => by
      refine names_tail_ok hw h3 (by omega) hall fun v y7 hv hvn => hK _ _ (hZ _ _ ⟨ns ++ [v], x4, _, x6, y7, by rw [List.length_append, List.length_singleton]; omega, ?_, ?_, rfl, MS.set_same, ?_, fun c h1 h2 => ?_⟩)
      · rw [List.all_append, hall]; simp [hv]
      · rw [List.nodup_append]
        refine ⟨hnd, by simp, fun x hx y hy => ?_⟩
        rw [List.mem_singleton.mp hy]
        exact fun e => hvn (e ▸ hx)
      · obtain ⟨m, hm, hsm⟩ := hs3.mono (show n + 20 * ns.length + 12 ≤ n + 20 * (ns ++ [v]).length by rw [List.length_append, List.length_singleton]; omega)
        exact ⟨m, by rw [MS.set_ne hab]; exact hm, hsm⟩
      · rw [MS.set_ne h2]; exact hf3 c h1 h2
    simp
    refine pull_use hs (by omega) (by decide) (by decide) fun r M3 hr hs3 o3 => ?_
    simp only [s_add_int, s_rng1]
    refine ⟨by omega, by omega, ?_⟩
    refine lcD_rule (fun rest acc M' => ∃ ws : List Nat, acc = ws.map (fun c => D.str ⟨#[c]⟩) ∧ ws.length + rest.length = 1 + r ∧ (∀ c ∈ ws, hasSign letters c = true) ∧ SpAt (n + 20 * ns.length + 1 + ws.length) M' a ∧ Off a M2 M') (fun x xs acc M' Z' ⟨ws, e, hwl, hwa, hws, hwf⟩ hZ' => ?_) (fun acc M' ⟨ws, e, hwl, hwa, hws, hwf⟩ => ?_) _ _ _ ⟨[], rfl, by rw [rangeD_len]; simp; omega, by simp, by simpa using hs3, o3⟩
    · rw [List.length_cons] at hwl
      simp
      refine pull_use hws (by omega) (by decide) (by decide) fun r2 M5 hr2 hs5 o5 => ?_
      obtain ⟨c, hc1, hc2⟩ := letter_at (i := r2) (by omega)
      simp only [s_item_str, hc1]
      refine ⟨hl26, Nat.lt_of_lt_of_le (show acc.length < 100 by rw [e, List.length_map]; omega) (by decide), hZ' _ _ ⟨ws ++ [c], by rw [e]; simp, by rw [List.length_append, List.length_singleton]; omega, fun y hy => ?_, ?_, hwf.trans o5⟩⟩
      · rcases List.mem_append.mp hy with hy | hy
        · exact hwa y hy
        · rw [List.mem_singleton.mp hy]; exact hc2
      · rw [List.length_append, List.length_singleton]; exact hs5
    · rw [List.length_nil] at hwl
      subst e
      have hw := word_of (ws := ws) (by omega) (by omega) hwa
      have hMb : M' b = some (.lst (ns.map .str)) := by rw [hwf b (Ne.symm hab)]; exact hM
      have hfr : ∀ c, c ≠ a → c ≠ b → M' c = M c := fun c h1 h2 => (hwf c h1).trans (hf c h1 h2)
      have e9 : (ws.map fun c => D.str ⟨#[c]⟩) = (ws.map fun c => (⟨#[c]⟩ : Str)).map .str := by rw [List.map_map]; rfl
      rw [e9]
      refine s_join ?_ ?_
      · have e0 : (("" : Str)).length = 0 := by decide +kernel
        have := signs_sum ws
        rw [e0]
        omega
      · refine ne_nil_ref (okD_strs 3 hni) (by decide) hMb ?_
        by_cases hns : ns = []
        · have e0 : ns.isEmpty = true := by rw [hns]; rfl
          simp [e0]
          exact fin _ M' _ _ _ _ hw hMb (hws.mono (by omega)) hfr (fun _ _ z => z)
        · have e0 : ns.isEmpty = false := by cases ns with | nil => exact absurd rfl hns | cons _ _ => rfl
          obtain ⟨rr, l, hrl⟩ : ∃ rr l, ns = rr ++ [l] := ⟨ns.dropLast, ns.getLast hns, (List.dropLast_concat_getLast hns).symm⟩
          have hlw : WordOk l := name_word (List.all_eq_true.mp hall l (by rw [hrl]; simp))
          have hl8 := hlw.hi
          have hl1 := hlw.lo
          simp [e0]
          refine pull_use hws (by omega) (by decide) (by decide) fun r2 M4 hr2 hs4 o4 => ?_
          have hMb4 : M4 b = some (.lst (ns.map .str)) := by rw [o4 b (Ne.symm hab)]; exact hMb
          have hfr4 : ∀ c, c ≠ a → c ≠ b → M4 c = M c := fun c h1 h2 => (o4 c h1).trans (hfr c h1 h2)
          by_cases c : r2 = 0
          · simp [c, s_item_ref hMb4, last_of hrl, word_size hlw]
            refine pull_use hs4 (by omega) (by omega) (by omega) fun r3 M5 hr3 hs5 o5 => ?_
            have hMb5 : M5 b = some (.lst (ns.map .str)) := by rw [o5 b (Ne.symm hab)]; exact hMb4
            simp [s_item_ref hMb5, last_of hrl, word_size hlw]
            refine pull_use hs5 (by omega) (by decide) (by decide) fun r4 M6 hr4 hs6 o6 => ?_
            have hMb6 : M6 b = some (.lst (ns.map .str)) := by rw [o6 b (Ne.symm hab)]; exact hMb5
            obtain ⟨cc, hc1, hc2⟩ := letter_at (i := r4) (by omega)
            have e1 : ((r3 : Int) + 1) = ((r3 + 1 : Nat) : Int) := by omega
            have b1 := cutS_length l none (some (r3 : Int))
            have b2 := cutS_length l (some ((r3 + 1 : Nat) : Int)) none
            have b3 : ((⟨#[cc]⟩ : Str)).length = 1 := rfl
            have b4 : ∀ x y : Str, (x ++ y).length = x.length + y.length := fun x y => by rw [len_tl, len_tl, len_tl, tl_append, List.length_append]
            simp only [s_item_str, hc1, s_add_str, s_item_ref hMb6, last_of hrl, s_add_int, e1, s_slice_str, b3, b4]
            refine ⟨hl26, Nat.le_trans (show _ ≤ 9 by omega) (by decide), word_size hlw, Nat.le_trans (show _ ≤ 17 by omega) (by decide), ?_⟩
            exact fin _ M6 _ _ _ _ (word_cut hlw (by omega) hc2) hMb6 (hs6.mono (by omega)) (fun c h1 h2 => ((o6 c h1).trans (o5 c h1)).trans (hfr4 c h1 h2)) (fun _ _ z => z)
          · simp [c]
            exact fin _ M4 _ _ _ _ hw hMb4 (hs4.mono (by omega)) hfr4 (fun _ _ z => z)
  · obtain ⟨ns, e4, e5, e6, e7, hl, hall, hnd, rfl, hM, hs, hf⟩ := h
    simp at hl
    simp [s_tup_ref hM]
    refine rt_cv (M' := M2.del b) (Cv.drop fun c m hc => ?_) (q _ _ ?_ (fun c hc => ?_) ⟨ns, rfl, hl, hall, hnd⟩)
    · by_cases z : c = b
      · rw [z, MS.del_same] at hc; cases hc
      · rw [MS.del_ne z] at hc; exact hc
    · obtain ⟨m, hm, hsm⟩ := hs.mono (show n + 20 * ns.length ≤ n + 20 * k by omega)
      exact ⟨m, by rw [MS.del_ne hab]; exact hm, hsm⟩
    · by_cases z : c = b
      · rw [z, MS.del_same, hb]
      · rw [MS.del_ne z]; exact hf c hc z
  · obtain ⟨m, hm, hs⟩ := h
    exact ⟨m, by rw [MS.set_ne hab]; exact hm, hs⟩
end
section
variable {T : Wd} {cls : List Str} {noA : List (Str × Str)}
theorem rt_cell {Q : QD} {EQ : EK} {M : MS} {z : Int} {k : Nat} (e : z = (k : Int)) (h : (endsD T Q EQ).rt (cellD (some k)) M) : (endsD T Q EQ).rt (.int z) M := by rw [e]; exact h
theorem p__law_cell_drawn (ds : List D) (M : MS) (Q : QD) (EQ : EK) (_ : ds.length = 1) (h : d__law_cell_drawn ds M Q EQ) : w__law_cell_drawn T d__law_pull (startD N__law_cell_drawn.length ds) M (endsD T Q EQ) := by
  obtain ⟨a, rfl, n, h, hn, q⟩ := h
  have e15 : (10 : Int) ^ 15 = 1000000000000000 := by decide
  have p15 : CPowW 10 15 := powI (k := 4) (by decide) (by decide) (by decide) (by decide)
  have p30 : CPowW 10 30 := powI (k := 4) (by decide) (by decide) (by decide) (by decide)
  simp [w__law_cell_drawn, N__law_cell_drawn, startD]
  refine pull_use h (by omega) (by decide) (by decide) fun r M1 hr h1 o1 => ?_
  have c1 : ((r : Int) = 1) ↔ r = 1 := by omega
  have c2 : ((r : Int) = 2) ↔ r = 2 := by omega
  have c3 : ((r : Int) = 3) ↔ r = 3 := by omega
  by_cases r0 : r = 0
  · simp [r0]
    exact rt_ok (q _ M1 (h1.mono (by omega)) o1 ⟨none, rfl, fun n e => by cases e⟩)
  by_cases r1 : r = 1
  · simp [r1]
    refine pull_use h1 (by omega) (by decide) (by decide) fun x M2 hx h2 o2 => ?_
    exact rt_ok (q _ M2 (h2.mono (by omega)) (o1.trans o2) ⟨some x, rfl, fun n e => by cases e; omega⟩)
  by_cases r2 : r = 2
  · simp [r2, p30]
    refine pull_use h1 (by omega) (by decide) (by decide) fun x M2 hx h2 o2 => ?_
    rw [s_sub]
    refine rt_cell (k := 999999999999999999999999999999 - x) (by omega) (rt_ok (q _ M2 (h2.mono (by omega)) (o1.trans o2) ⟨some (999999999999999999999999999999 - x), rfl, fun n e => by cases e; omega⟩))
  by_cases r3 : r = 3
  · simp [r3, p15]
    refine pull_use h1 (by omega) (by decide) (by decide) fun x M2 hx h2 o2 => ?_
    have g1 : (x : Int).natAbs.log2 ≤ 60 := lgI (by omega) (Int.lt_of_lt_of_le hx (by decide))
    have g2 : Nat.log2 1000000000000000 = 49 := by decide +kernel
    simp [p15]
    have g3 : x.log2 ≤ 60 := by simpa using g1
    have g4 : 49 + x.log2 < 1000000 := by omega
    refine ⟨by rw [g2]; exact g4, ?_⟩
    refine pull_use h2 (by omega) (by decide) (by decide) fun y M3 hy h3 o3 => ?_
    refine rt_cell (k := 1000000000000000 * x + y) (by omega) (rt_ok (q _ M3 (h3.mono (by omega)) ((o1.trans o2).trans o3) ⟨some (1000000000000000 * x + y), rfl, fun n e => by cases e; omega⟩))
  · have z0 : ¬ ((r : Int) = 0) := by omega
    simp [z0, r0, r1, r2, r3, c1, c2, c3]
    refine pull_use h1 (by omega) (by decide) (by decide) fun x M2 hx h2 o2 => ?_
    exact rt_ok (q _ M2 (h2.mono (by omega)) (o1.trans o2) ⟨some x, rfl, fun n e => by cases e; omega⟩)
theorem p__law_row (ds : List D) (M : MS) (Q : QD) (EQ : EK) (_ : ds.length = 2) (h : d__law_row ds M Q EQ) : w__law_row T d__law_cell_drawn (startD N__law_row.length ds) M (endsD T Q EQ) := by
  obtain ⟨a, k, rfl, hk, n, h, hn, q⟩ := h
  simp [w__law_row, N__law_row, startD]
  refine ⟨by omega, ?_⟩
  refine lcD_rule (fun rest acc M' => ∃ l : List Cell, acc = l.map cellD ∧ l.length + rest.length = k ∧ (∀ c ∈ l, CellOk c) ∧ SpAt (n + 3 * l.length) M' a ∧ Off a M M') (fun x xs acc M' Z ⟨l, e, hl, ho, hs, hf⟩ hZ => ?_) (fun acc M' ⟨l, e, hl, ho, hs, hf⟩ => ?_) _ _ _ ⟨[], rfl, by rw [rangeD_len]; simp, by simp, h, Off.refl⟩
  · rw [List.length_cons] at hl
    simp [d__law_cell_drawn]
    refine ⟨n + 3 * l.length, hs, by omega, fun d M2 h2 o2 ⟨c, ed, hc⟩ => ?_⟩
    refine ⟨Nat.lt_of_lt_of_le (show acc.length < 1001 by rw [e, List.length_map]; omega) (by decide), hZ _ _ ⟨l ++ [c], by rw [e, ed]; simp, by rw [List.length_append, List.length_singleton]; omega, fun y hy => ?_, by rw [List.length_append, List.length_singleton]; exact h2, hf.trans o2⟩⟩
    rcases List.mem_append.mp hy with hy | hy
    · exact ho y hy
    · rw [List.mem_singleton.mp hy]; exact hc
  · subst e
    simp at hl
    refine rt_ok (q _ M' (hs.mono (by omega)) hf ⟨l, rfl, hl, ho⟩)
end
end K49

namespace K49
open PySem PySem.Spec PyProof.Rows L2 G SB TL
section
variable {T : Wd} {cls : List Str} {noA : List (Str × Str)} {M : MS} {Q : QD}
/-- the cells by name -/
abbrev kz (ns : List Str) (l : List Cell) : List (Key × D) := (ns.map Sum.inr).zip (l.map cellD)
theorem kz_keys {ns : List Str} {l : List Cell} (h : l.length = ns.length) : (kz ns l).map (·.1) = ns.map Sum.inr := by
  unfold kz
  rw [List.map_fst_zip]
  rw [List.length_map, List.length_map, h]
  exact Nat.le_refl _
theorem kz_nd {ns : List Str} {l : List Cell} (h : l.length = ns.length) (nd : ns.Nodup) : ((kz ns l).map (·.1)).Nodup := by
  rw [kz_keys h]
  exact List.Pairwise.map _ (fun a b hab hc => hab (Sum.inr.inj hc)) nd
theorem kz_merge {ns : List Str} {l : List Cell} (h : l.length = ns.length) (nd : ns.Nodup) : mergeD [] (kz ns l) = kz ns l := merge_nodup (by simpa using kz_nd h nd)
theorem kz_at {ns : List Str} {l : List Cell} {n : Str} {i : Nat} (h : l.length = ns.length) (nd : ns.Nodup) (hi : ns[i]? = some n) : valD (kz ns l) (.inr n) = some (cellD (cellAt l i)) := by
  refine val_mem (kz_nd h nd) ?_
  have hl := (List.getElem?_eq_some_iff.mp hi).1
  refine List.mem_of_getElem? (i := i) ?_
  unfold kz
  rw [List.getElem?_zip_eq_some]
  refine ⟨by rw [List.getElem?_map, hi]; rfl, ?_⟩
  have : i < l.length := by omega
  unfold cellAt
  simp [this]
theorem tri_names : ∀ {ns : List Str} {os ws : List Cell}, os.length = ns.length → ws.length = ns.length → (tri ns os ws).map (·.1) = ns
  | [], _, _, _, _ => rfl
  | n :: ns, o :: os, w :: ws, h1, h2 => by
    show n :: (tri ns os ws).map (·.1) = _
    rw [tri_names (by simpa using h1) (by simpa using h2)]
  | _ :: _, [], _, h1, _ => by simp at h1
  | _ :: _, _ :: _, [], _, h2 => by simp at h2
theorem tri_at : ∀ {ns : List Str} {os ws : List Cell} {t : Str × Cell × Cell}, t ∈ tri ns os ws → ∃ i : Nat, ns[i]? = some t.1 ∧ cellAt os i = t.2.1 ∧ cellAt ws i = t.2.2
  | n :: ns, o :: os, w :: ws, t, h => by
    have h : t ∈ (n, o, w) :: tri ns os ws := h
    rcases List.mem_cons.mp h with e | e
    · exact ⟨0, by rw [e]; rfl, by rw [e]; rfl, by rw [e]; rfl⟩
    · obtain ⟨i, h1, h2, h3⟩ := tri_at e
      exact ⟨i + 1, by simpa using h1, by simpa [cellAt] using h2, by simpa [cellAt] using h3⟩
  | [], _, _, _, h => by simp [tri] at h
  | _ :: _, [], _, _, h => by simp [tri] at h
  | _ :: _, _ :: _, [], _, h => by simp [tri] at h
theorem chg_sub {ns : List Str} {os ws : List Cell} {n : Str} (h : n ∈ chg ns os ws) : n ∈ ns := by
  rw [chg_tri] at h
  obtain ⟨t, ht, rfl⟩ := List.mem_map.mp h
  exact mem_tri (List.mem_filter.mp ht).1
theorem chg_len (ns : List Str) (os ws : List Cell) : (chg ns os ws).length ≤ ns.length := by
  rw [chg_tri, List.length_map]
  exact Nat.le_trans (List.length_filter_le ..) (tri_len ns os ws)
theorem p__law_row_may (ds : List D) (M : MS) (Q : QD) (EQ : EK) (_ : ds.length = 4) (h : d__law_row_may ds M Q EQ) : w__law_row_may T (startD N__law_row_may.length ds) M (endsD T Q EQ) := by
  obtain ⟨m, ns, old, new, rfl, ok, co, ho, hn, q⟩ := h
  have h6 := co.hi
  have hcl := chg_len ns old new
  simp [w__law_row_may, N__law_row_may, startD, Mean.D, lineD]
  refine dzip_to ?_
  refine dzip_to ?_
  rw [show mergeD [] ((ns.map Sum.inr).zip (old.map cellD)) = kz ns old from kz_merge ho co.nd, show mergeD [] ((ns.map Sum.inr).zip (new.map cellD)) = kz ns new from kz_merge hn co.nd]
  have e1 : ns.map D.str = (tri ns old new).map fun t => .str t.1 := by
    conv => lhs; rw [← tri_names ho hn]
    rw [List.map_map]; rfl
  have step : ∀ {R : List D → MS → Prop} {env : EnvD}, getE env 4 = some (.dic (kz ns old)) → getE env 5 = some (.dic (kz ns new)) → env.length = 10 → R ((chg ns old new).map D.str) M →
      lcD (wgName 9) (wTest (wBin neO (wBin itemO (wVar 4) (wVar 9)) (wBin itemO (wVar 5) (wVar 9)))) (wVar 9) (fun _ => True) env R (ns.map D.str) [] M := by
    intro R env g4 g5 gl r
    rw [e1]
    refine lc_filter (fun t : Str × Cell × Cell => .str t.1) (fun t => !decide (t.2.1 = t.2.2)) (fun t => .str t.1) (tri ns old new) trivial (Nat.le_trans (tri_len ns old new) (szLe (by omega))) (fun t ht acc Z ha h1 h2 => ?_) ?_
    · obtain ⟨i, t1, t2, t3⟩ := tri_at ht
      have k4 : getE (env.set 9 (some (D.str t.1))) 4 = some (.dic (kz ns old)) := by unfold getE at g4 ⊢; simpa using g4
      have k5 : getE (env.set 9 (some (D.str t.1))) 5 = some (.dic (kz ns new)) := by unfold getE at g5 ⊢; simpa using g5
      have k9 : getE (env.set 9 (some (D.str t.1))) 9 = some (.str t.1) := by unfold getE; simp [gl]
      simp [wVar, k4, k5, k9, kz_at ho co.nd t1, kz_at hn co.nd t1]
      refine ne_cell ?_
      rw [t2, t3]
      by_cases c : t.2.1 = t.2.2
      · simp [c]; exact h2 (by simp [c])
      · simp [c]; exact ⟨ha, h1 (by simp [c])⟩
    · have e : ((tri ns old new).filter fun t => !decide (t.2.1 = t.2.2)).map (fun t => D.str t.1) = (chg ns old new).map D.str := by
        rw [chg_tri, List.map_map]; rfl
      rw [e]; exact r
  refine ⟨by decide, ?_⟩
  simp [asT]
  refine step rfl rfl rfl ?_
  have hco : ∀ n ∈ chg ns old new, PyData.strOk n = true := fun n h => strOk_of co.nm (chg_sub h)
  refine lc_filter .str (fun n => decide (n ∉ m.fs) && decide (some n ≠ m.s)) .str (chg ns old new) trivial (szLe (by omega)) (fun n hn' acc Z ha h1 h2 => ?_) ?_
  · simp [inF_strs, all_flat_strs]
    by_cases c : n ∈ m.fs
    · simp [c]; exact h2 (by simp [c])
    · simp [c]
      refine ne_stD (hco n hn') (stOk ok) ?_
      by_cases c2 : some n = m.s
      · simp [c2]; exact h2 (by simp [c2])
      · simp [c2]; exact ⟨ha, h1 (by simp [c, c2])⟩
  unfold rowMayB at q
  generalize hbad : ((chg ns old new).filter fun n => decide (n ∉ m.fs) && decide (some n ≠ m.s)) = bad at q ⊢
  have hbo : ∀ n ∈ bad, PyData.strOk n = true := fun n h => hco n (by rw [← hbad] at h; exact (List.mem_filter.mp h).1)
  refine ne_strs0 hbo ?_
  by_cases hb : bad = []
  · subst hb
    simp at q ⊢
    unfold stampB at q
    cases hs : m.s with
    | none =>
      rw [hs] at q
      simp [stD, inF_non]
      exact rt_ok q
    | some n =>
      rw [hs] at q
      by_cases hm : n ∈ ns
      · obtain ⟨i, hi, hil⟩ := idxS_mem hm
        simp only [hi] at q
        have hni := (idxS_some hi).1
        simp [stD, inF_strs, hm, kz_at ho co.nd hni, kz_at hn co.nd hni]
        refine lc_filter .str (fun n => decide (n ∈ m.fs)) .str (chg ns old new) trivial (szLe (by omega)) (fun n hn' acc Z ha h1 h2 => ?_) ?_
        · simp [inF_strs, all_flat_strs]
          by_cases c : n ∈ m.fs
          · simp [c]; exact ⟨ha, h1 (by simp [c])⟩
          · simp [c]; exact h2 (by simp [c])
        refine eq_strs0 (fun n h => hco n (List.mem_filter.mp h).1) ?_
        by_cases hf : ((chg ns old new).filter fun n => decide (n ∈ m.fs)) = []
        · simp only [hf, List.isEmpty_nil] at q
          simp [hf]
          exact eq_cell (rt_ok (by simpa using q))
        · have hf2 : ((chg ns old new).filter fun n => decide (n ∈ m.fs)).isEmpty = false := by
            cases z : ((chg ns old new).filter fun n => decide (n ∈ m.fs)) with
            | nil => exact absurd z hf
            | cons a b => rfl
          simp only [hf2] at q
          simp only [hf, decide_false]
          generalize cellAt old i = was at q ⊢
          generalize cellAt new i = now at q ⊢
          cases now with
          | none => simp [cellD, isND]; exact rt_ok q
          | some n =>
            cases was with
            | none => simp [cellD, isND]; exact rt_ok q
            | some w =>
              simp [cellD, isND]
              simp [laterB] at q
              exact rt_ok q
      · have : idxS n ns = none := by
          cases z : idxS n ns with
          | none => rfl
          | some i => exact absurd (List.mem_of_getElem? (idxS_some z).1) hm
        simp only [this] at q
        simp [stD, inF_strs, hm]
        exact rt_ok (by simpa using q)
  · have hb2 : bad.isEmpty = false := by cases bad with
      | nil => exact absurd rfl hb
      | cons a b => rfl
    rw [hb2] at q
    simp [hb]
    exact rt_ok q
theorem keys_int (m : Rw) : (rowsK m).map (fun kv => kD kv.1) = m.map fun p => D.int p.1 := by
  unfold rowsK; rw [List.map_map]; rfl
theorem ne_ints0 {xs : List Int} (q : Q (.bl (!decide (xs = []))) M) : neO (.lst (xs.map .int)) (.lst []) M Q :=
  ne_em (e := fun ns : List Int => .lst (ns.map .int)) (f := fun ns : List Int => .lst (ns.map .int)) (x := xs) (y := []) (em_lst em_int) (em_lst em_int) (pd_lst pd_int) (by decide) (fun _ _ => trivial) (fun _ _ => trivial) q
theorem has_get {m : Rw} {k : Int} : (getR m k).isSome = decide (k ∈ keysR m) := by
  cases e : getR m k with
  | none => simp [getR_none.mp e]
  | some l =>
    have : k ∈ keysR m := List.mem_map.mpr ⟨_, getR_some e, rfl⟩
    simp [this]
theorem new_filter (m1 m2 : Rw) : newB m1 m2 = !((m2.filter fun p => decide (p.1 ∉ keysR m1)).map (·.1)).isEmpty := by
  unfold newB
  rw [List.isEmpty_map]
  rw [Bool.eq_iff_iff, List.any_eq_true]
  constructor
  · rintro ⟨p, hp, h⟩
    cases z : m2.filter fun p => decide (p.1 ∉ keysR m1) with
    | nil =>
      have : p ∈ m2.filter fun p => decide (p.1 ∉ keysR m1) := List.mem_filter.mpr ⟨hp, h⟩
      rw [z] at this; simp at this
    | cons a b => rfl
  · intro h
    cases z : m2.filter fun p => decide (p.1 ∉ keysR m1) with
    | nil => rw [z] at h; simp at h
    | cons a b =>
      have : a ∈ m2.filter fun p => decide (p.1 ∉ keysR m1) := by rw [z]; exact List.mem_cons_self ..
      obtain ⟨h1, h2⟩ := List.mem_filter.mp this
      exact ⟨a, h1, h2⟩
theorem both_filter (f : List Cell → List Cell → Bool) (m1 m2 : Rw) : bothB f m1 m2 = ((m1.filter fun p => decide (p.1 ∈ keysR m2)).all fun p => f p.2 ((getR m2 p.1).getD [])) := by
  unfold bothB
  rw [List.all_filter]
  congr 1
  funext p
  cases e : getR m2 p.1 with
  | none => simp [getR_none.mp e]
  | some l =>
    have : p.1 ∈ keysR m2 := List.mem_map.mpr ⟨_, getR_some e, rfl⟩
    simp [this]
theorem p__law_may (ds : List D) (M : MS) (Q : QD) (EQ : EK) (_ : ds.length = 4) (h : d__law_may ds M Q EQ) : w__law_may T d__law_row_may (startD N__law_may.length ds) M (endsD T Q EQ) := by
  obtain ⟨m, ns, m1, m2, rfl, ok, co, r1, r2, l1, l2, q⟩ := h
  simp [w__law_may, N__law_may, startD, Mean.D]
  have part : ∀ {a b : Rw} {R : List D → MS → Prop} {env : EnvD} {i : Nat}, i < 4 → 4 < env.length → getE env i = some (.dic (rowsK a)) → b.length ≤ 100 → R (((b.filter fun p => decide (p.1 ∉ keysR a)).map (·.1)).map D.int) M →
      lcD (wgName 4) (wTest (wBin (inO true) (wVar 4) (wVar i))) (wVar 4) (fun _ => True) env R ((rowsK b).map fun kv => kD kv.1) [] M := by
    intro a b R env i hi he g lb r
    rw [keys_int]
    refine lc_filter (fun p : Int × List Cell => .int p.1) (fun p => decide (p.1 ∉ keysR a)) (fun p => .int p.1) b trivial (szLe (by omega)) (fun p hp acc Z ha h1 h2 => ?_) (by rw [List.map_map] at r; exact r)
    have k4 : getE (env.set 4 (some (D.int p.1))) 4 = some (.int p.1) := by unfold getE; simp [he]
    have ki : getE (env.set 4 (some (D.int p.1))) i = some (.dic (rowsK a)) := by
      unfold getE at g ⊢
      rw [List.getElem?_set_ne (by omega)]; exact g
    simp [wVar, k4, ki, val_rows]
    by_cases c : getR a p.1 = none
    · simp [c]; exact ⟨ha, h1 (by simpa using getR_none.mp c)⟩
    · simp [c]; exact h2 (by simpa using fun z => c (getR_none.mpr z))
  have fin : Q (.bl (bothB (rowMayB m ns) m1 m2)) M → lcD (wgName 4) (wTest (wBin (inO false) (wVar 4) (wVar 3))) (wCal d__law_row_may 4 0 (wCons (wVar 0) (wCons (wVar 1) (wCons (wBin itemO (wVar 2) (wVar 4)) (wCons (wBin itemO (wVar 3) (wVar 4)) wNil)))) wNil) (fun _ => True) [some (D.tup (ns.map .str)), some (D.tup [D.tup (m.fs.map .str), D.bl m.b, D.bl m.d, stD m.s]), some (D.dic (rowsK m1)), some (D.dic (rowsK m2)), none] (fun ys M2 => allO [D.lst ys] M2 (endsD T Q EQ).rt) ((rowsK m1).map fun kv => kD kv.1) [] M := by
    intro q
    rw [keys_int]
    refine lc_filter (fun p : Int × List Cell => .int p.1) (fun p => decide (p.1 ∈ keysR m2)) (fun p => .bl (rowMayB m ns p.2 ((getR m2 p.1).getD []))) m1 trivial (szLe (by omega)) (fun p hp acc Z ha h1 h2 => ?_) ?_
    · simp [val_rows, getR_mem r1.nd (show (p.1, p.2) ∈ m1 from hp)]
      cases g : getR m2 p.1 with
      | none => simp; exact h2 (by simpa using getR_none.mp g)
      | some l =>
        have hm := getR_some g
        simp
        refine ⟨m, ns, p.2, l, rfl, ok, co, r1.ln p hp, r2.ln _ hm, ha, ?_⟩
        have := h1 (decide_eq_true (List.mem_map.mpr ⟨_, hm, rfl⟩))
        rw [g] at this
        exact this
    · rw [all_bl, ← both_filter]
      exact rt_ok q
  have second : Q (.bl ((m.d || !newB m2 m1) && bothB (rowMayB m ns) m1 m2)) M → if m.d = true then lcD (wgName 4) (wTest (wBin (inO false) (wVar 4) (wVar 3))) (wCal d__law_row_may 4 0 (wCons (wVar 0) (wCons (wVar 1) (wCons (wBin itemO (wVar 2) (wVar 4)) (wCons (wBin itemO (wVar 3) (wVar 4)) wNil)))) wNil) (fun _ => True) [some (D.tup (ns.map .str)), some (D.tup [D.tup (m.fs.map .str), D.bl m.b, D.bl m.d, stD m.s]), some (D.dic (rowsK m1)), some (D.dic (rowsK m2)), none] (fun ys M2 => allO [D.lst ys] M2 (endsD T Q EQ).rt) ((rowsK m1).map fun kv => kD kv.1) [] M else lcD (wgName 4) (wTest (wBin (inO true) (wVar 4) (wVar 3))) (wVar 4) (fun _ => True) [some (D.tup (ns.map .str)), some (D.tup [D.tup (m.fs.map .str), D.bl m.b, D.bl m.d, stD m.s]), some (D.dic (rowsK m1)), some (D.dic (rowsK m2)), none] (fun ys M2 => neO (D.lst ys) (D.lst []) M2 fun d M1 => match d with | D.bl b => if b = true then (endsD T Q EQ).rt (D.bl false) M1 else lcD (wgName 4) (wTest (wBin (inO false) (wVar 4) (wVar 3))) (wCal d__law_row_may 4 0 (wCons (wVar 0) (wCons (wVar 1) (wCons (wBin itemO (wVar 2) (wVar 4)) (wCons (wBin itemO (wVar 3) (wVar 4)) wNil)))) wNil) (fun _ => True) [some (D.tup (ns.map .str)), some (D.tup [D.tup (m.fs.map .str), D.bl m.b, D.bl m.d, stD m.s]), some (D.dic (rowsK m1)), some (D.dic (rowsK m2)), none] (fun ys M2 => allO [D.lst ys] M2 (endsD T Q EQ).rt) ((rowsK m1).map fun kv => kD kv.1) [] M1 | _ => False) ((rowsK m1).map fun kv => kD kv.1) [] M := by
    intro q
    by_cases hd : m.d = true
    · rw [if_pos hd]
      exact fin (by simpa [hd] using q)
    · rw [if_neg hd]
      have hd' : m.d = false := by simpa using hd
      refine part (a := m2) (b := m1) (i := 3) (by omega) (by simp) rfl l1 ?_
      refine ne_ints0 ?_
      rw [new_filter, hd'] at q
      by_cases hz : ((m1.filter fun p => decide (p.1 ∉ keysR m2)).map (·.1)) = []
      · rw [hz] at q ⊢
        exact fin (by simpa using q)
      · have hz2 : ((m1.filter fun p => decide (p.1 ∉ keysR m2)).map (·.1)).isEmpty = false := by
          cases z : ((m1.filter fun p => decide (p.1 ∉ keysR m2)).map (·.1)) with
          | nil => exact absurd z hz
          | cons a b => rfl
        rw [hz2] at q
        rw [decide_eq_false hz]
        exact rt_ok (by simpa using q)
  unfold mayB at q
  by_cases hb : m.b = true
  · rw [if_pos hb]
    exact second (by simpa [hb] using q)
  · rw [if_neg hb]
    have hb' : m.b = false := by simpa using hb
    refine part (a := m1) (b := m2) (i := 2) (by omega) (by simp) rfl l2 ?_
    refine ne_ints0 ?_
    rw [new_filter m1 m2, hb'] at q
    by_cases hz : ((m2.filter fun p => decide (p.1 ∉ keysR m1)).map (·.1)) = []
    · rw [hz] at q ⊢
      exact second (by simpa using q)
    · have hz2 : ((m2.filter fun p => decide (p.1 ∉ keysR m1)).map (·.1)).isEmpty = false := by
        cases z : ((m2.filter fun p => decide (p.1 ∉ keysR m1)).map (·.1)) with
        | nil => exact absurd z hz
        | cons a b => rfl
      rw [hz2] at q
      rw [decide_eq_false hz]
      exact rt_ok (by simpa using q)
theorem p__law_told (ds : List D) (M : MS) (Q : QD) (EQ : EK) (_ : ds.length = 1) (h : d__law_told ds M Q EQ) : w__law_told T (startD N__law_told.length ds) M (endsD T Q EQ) := by
  obtain ⟨m, rfl, nd, hl, q⟩ := h
  simp [w__law_told, N__law_told, startD]
  rw [keys_rows]
  refine s_sorted_ints ?_
  simp
  refine lc_all (fun k : Int => .int k) (fun k => .tup [.int k, lineD ((getR m k).getD [])]) (sortI (keysR m)) trivial (szLe (by rw [(sortI_perm _).length_eq]; unfold keysR; rw [List.length_map]; omega)) (fun k hk acc Z ha hz => ?_) ?_
  · have hm : k ∈ keysR m := (sortI_perm _).mem_iff.mp hk
    simp [val_rows]
    cases g : getR m k with
    | none => exact absurd hm (getR_none.mp g)
    | some r =>
      rw [g] at hz
      simp
      exact ⟨by decide, ha, hz⟩
  · have e : (sortI (keysR m)).map (fun k => D.tup [.int k, lineD ((getR m k).getD [])]) = (told m).map fun p => .tup [.int p.1, lineD p.2] := by
      unfold told; rw [List.map_map]; rfl
    rw [e]
    exact rt_ok q
end
end K49

namespace K49
open PySem PySem.Spec PyProof.Rows L2 G SB TL
section
variable {T : Wd} {cls : List Str} {noA : List (Str × Str)}
theorem p_Meanwhile_allows (P : Pure T cls noA) (h1 : ("Meanwhile" : Str) ∈ cls) (h2 : (("Meanwhile" : Str), ("told" : Str)) ∈ noA) (ds : List D) (M : MS) (Q : QD) (EQ : EK) (_ : ds.length = 3) (h : d_Meanwhile_allows ds M Q EQ) : w_Meanwhile_allows T d_Store_columns d_Store_rows d_may_become (startD N_Meanwhile_allows.length ds) M (endsD T Q EQ) := by
  obtain ⟨x, m, y, z, ns, ks, m1, m2, rfl, hx, ok, hy, hz, cn, ck, r1, r2, l1, l2, q⟩ := h
  simp [w_Meanwhile_allows, N_Meanwhile_allows, startD]
  rw [s_fld (v := m.D) P hx h1 h2 (by kernel_rfl)]
  simp [Mean.D, asT]
  refine s_meth1 hy (by kernel_rfl) ?_
  simp
  refine ⟨y, ns, m1, rfl, hy, ?_⟩
  refine s_meth1 hz (by kernel_rfl) ?_
  simp
  refine ⟨z, ks, m2, rfl, hz, ?_⟩
  refine ne_names (names_strOk cn.nm) (names_strOk ck.nm) ?_
  by_cases e : ns = ks
  · subst e
    simp at q ⊢
    refine s_meth1 hy (by kernel_rfl) ?_
    simp
    refine ⟨y, ns, m1, rfl, hy, ?_⟩
    refine s_dict_lst (pairs_rows m1) ?_
    refine s_meth1 hz (by kernel_rfl) ?_
    simp
    refine ⟨z, ns, m2, rfl, hz, ?_⟩
    refine s_dict_lst (pairs_rows m2) ?_
    have d1 : mergeD [] (rowsK m1) = rowsK m1 := by have := merge_rows (m := m1) (acc := []) (by simpa using r1.nd); simpa [rowsK] using this
    have d2 : mergeD [] (rowsK m2) = rowsK m2 := by have := merge_rows (m := m2) (acc := []) (by simpa using r2.nd); simpa [rowsK] using this
    rw [d1, d2]
    refine ⟨by decide, ?_⟩
    have part : ∀ {a b : Rw} {R : List D → MS → Prop} {env : EnvD} {i : Nat}, i < 10 → 10 < env.length → getE env i = some (.dic (rowsK a)) → b.length ≤ 100 → R (b.map fun p => .bl (decide (p.1 ∉ keysR a))) M →
        lcD (wgName 10) wYes (wBin (inO true) (wVar 10) (wVar i)) (fun _ => True) env R ((rowsK b).map fun kv => kD kv.1) [] M := by
      intro a b R env i hi he g lb r
      rw [keys_int]
      refine lc_all (fun p : Int × List Cell => .int p.1) (fun p => .bl (decide (p.1 ∉ keysR a))) b trivial (szLe (by omega)) (fun p hp acc Z ha h => ?_) r
      have k4 : getE (env.set 10 (some (D.int p.1))) 10 = some (.int p.1) := by unfold getE; simp [he]
      have ki : getE (env.set 10 (some (D.int p.1))) i = some (.dic (rowsK a)) := by
        unfold getE at g ⊢
        rw [List.getElem?_set_ne (by omega)]; exact g
      simp [wVar, k4, ki, val_rows]
      refine ⟨ha, ?_⟩
      have e : (!(getR a p.1).isSome) = decide (p.1 ∉ keysR a) := by rw [has_get]; simp
      first | (rw [← e] at h; simpa using h) | simpa [← e] using h
    have fin : Q (.bl (bothB (becomeB m ns) m1 m2)) M → meth1O (Str.ofString "Store") (Str.ofString "columns") d_Store_columns 1 0 wNil wNil [some x, some y, some z, some (D.tup (m.fs.map .str)), some (D.bl m.b), some (D.bl m.d), some (stD m.s), some (D.dic (rowsK m1)), some (D.dic (rowsK m2)), none, none] (fun d M1 => lcD (wgName 10) (wTest (wBin (inO false) (wVar 10) (wVar 8))) (wCal d_may_become 4 0 (wCons (wFld T (Str.ofString "told") (wVar 0)) (wCons (wVar 9) (wCons (wBin itemO (wVar 7) (wVar 10)) (wCons (wBin itemO (wVar 8) (wVar 10)) wNil)))) wNil) (fun _ => True) [some x, some y, some z, some (D.tup (m.fs.map .str)), some (D.bl m.b), some (D.bl m.d), some (stD m.s), some (D.dic (rowsK m1)), some (D.dic (rowsK m2)), some d, none] (fun ys M2 => allO [D.lst ys] M2 (endsD T Q EQ).rt) ((rowsK m1).map fun kv => kD kv.1) [] M1) (fun x_1 M1 => (endsD T Q EQ).ex x_1 [some x, some y, some z, some (D.tup (m.fs.map .str)), some (D.bl m.b), some (D.bl m.d), some (stD m.s), some (D.dic (rowsK m1)), some (D.dic (rowsK m2)), none, none] M1) y M := by
      intro q
      refine s_meth1 hy (by kernel_rfl) ?_
      simp
      refine ⟨y, ns, m1, rfl, hy, ?_⟩
      rw [keys_int]
      refine lc_filter (fun p : Int × List Cell => .int p.1) (fun p => decide (p.1 ∈ keysR m2)) (fun p => .bl (becomeB m ns p.2 ((getR m2 p.1).getD []))) m1 trivial (szLe (by omega)) (fun p hp acc Z ha h1' h2' => ?_) ?_
      · simp [val_rows, getR_mem r1.nd (show (p.1, p.2) ∈ m1 from hp)]
        cases g : getR m2 p.1 with
        | none => simp; exact h2' (by simpa using getR_none.mp g)
        | some l =>
          have hm := getR_some g
          simp
          rw [s_fld (v := m.D) P hx h1 h2 (by kernel_rfl)]
          refine ⟨m, ns, p.2, l, rfl, ok, cn, r1.ln p hp, r2.ln _ hm, ha, ?_⟩
          have := h1' (decide_eq_true (List.mem_map.mpr ⟨_, hm, rfl⟩))
          rw [g] at this
          exact this
      · rw [all_bl, ← both_filter]
        exact rt_ok q
    have second : Q (.bl ((m.d || !newB m2 m1) && bothB (becomeB m ns) m1 m2)) M → if m.d = true then meth1O (Str.ofString "Store") (Str.ofString "columns") d_Store_columns 1 0 wNil wNil [some x, some y, some z, some (D.tup (m.fs.map .str)), some (D.bl m.b), some (D.bl m.d), some (stD m.s), some (D.dic (rowsK m1)), some (D.dic (rowsK m2)), none, none] (fun d M1 => lcD (wgName 10) (wTest (wBin (inO false) (wVar 10) (wVar 8))) (wCal d_may_become 4 0 (wCons (wFld T (Str.ofString "told") (wVar 0)) (wCons (wVar 9) (wCons (wBin itemO (wVar 7) (wVar 10)) (wCons (wBin itemO (wVar 8) (wVar 10)) wNil)))) wNil) (fun _ => True) [some x, some y, some z, some (D.tup (m.fs.map .str)), some (D.bl m.b), some (D.bl m.d), some (stD m.s), some (D.dic (rowsK m1)), some (D.dic (rowsK m2)), some d, none] (fun ys M2 => allO [D.lst ys] M2 (endsD T Q EQ).rt) ((rowsK m1).map fun kv => kD kv.1) [] M1) (fun x_1 M1 => (endsD T Q EQ).ex x_1 [some x, some y, some z, some (D.tup (m.fs.map .str)), some (D.bl m.b), some (D.bl m.d), some (stD m.s), some (D.dic (rowsK m1)), some (D.dic (rowsK m2)), none, none] M1) y M else lcD (wgName 10) wYes (wBin (inO true) (wVar 10) (wVar 8)) (fun _ => True) [some x, some y, some z, some (D.tup (m.fs.map .str)), some (D.bl m.b), some (D.bl m.d), some (stD m.s), some (D.dic (rowsK m1)), some (D.dic (rowsK m2)), none, none] (fun ys M2 => anyO [D.lst ys] M2 fun d M1 => match d with | D.bl b => if b = true then (endsD T Q EQ).rt (D.bl false) M1 else meth1O (Str.ofString "Store") (Str.ofString "columns") d_Store_columns 1 0 wNil wNil [some x, some y, some z, some (D.tup (m.fs.map .str)), some (D.bl m.b), some (D.bl m.d), some (stD m.s), some (D.dic (rowsK m1)), some (D.dic (rowsK m2)), none, none] (fun d M1 => lcD (wgName 10) (wTest (wBin (inO false) (wVar 10) (wVar 8))) (wCal d_may_become 4 0 (wCons (wFld T (Str.ofString "told") (wVar 0)) (wCons (wVar 9) (wCons (wBin itemO (wVar 7) (wVar 10)) (wCons (wBin itemO (wVar 8) (wVar 10)) wNil)))) wNil) (fun _ => True) [some x, some y, some z, some (D.tup (m.fs.map .str)), some (D.bl m.b), some (D.bl m.d), some (stD m.s), some (D.dic (rowsK m1)), some (D.dic (rowsK m2)), some d, none] (fun ys M2 => allO [D.lst ys] M2 (endsD T Q EQ).rt) ((rowsK m1).map fun kv => kD kv.1) [] M1) (fun x_1 M1 => (endsD T Q EQ).ex x_1 [some x, some y, some z, some (D.tup (m.fs.map .str)), some (D.bl m.b), some (D.bl m.d), some (stD m.s), some (D.dic (rowsK m1)), some (D.dic (rowsK m2)), none, none] M1) y M1 | _ => False) ((rowsK m1).map fun kv => kD kv.1) [] M := by
      intro q
      by_cases hd : m.d = true
      · rw [if_pos hd]
        exact fin (by simpa [hd] using q)
      · rw [if_neg hd]
        have hd' : m.d = false := by simpa using hd
        refine part (a := m2) (b := m1) (i := 8) (by omega) (by simp) rfl l1 ?_
        rw [any_bl]
        rw [hd'] at q
        cases hz : newB m2 m1 with
        | true =>
          rw [hz] at q
          have hz' : m1.any (fun p => decide (p.1 ∉ keysR m2)) = true := hz
          rw [hz']
          exact rt_ok (by simpa using q)
        | false =>
          rw [hz] at q
          have hz' : m1.any (fun p => decide (p.1 ∉ keysR m2)) = false := hz
          rw [hz']
          exact fin (by simpa using q)
    unfold allowsB at q
    by_cases hb : m.b = true
    · rw [if_pos hb]
      exact second (by simpa [hb] using q)
    · rw [if_neg hb]
      have hb' : m.b = false := by simpa using hb
      refine ⟨rowsK m2, rfl, ?_⟩
      refine part (a := m1) (b := m2) (i := 7) (by omega) (by simp) rfl l2 ?_
      rw [any_bl]
      rw [hb'] at q
      cases hz : newB m1 m2 with
      | true =>
        rw [hz] at q
        have hz' : m2.any (fun p => decide (p.1 ∉ keysR m1)) = true := hz
        rw [hz']
        exact rt_ok (by simpa using q)
      | false =>
        rw [hz] at q
        have hz' : m2.any (fun p => decide (p.1 ∉ keysR m1)) = false := hz
        rw [hz']
        exact second (by simpa using q)
  · simp [e] at q ⊢
    exact rt_ok q
end
end K49

namespace K49
open PySem PySem.Spec PyProof.Rows L2 G SB TL
section
variable {T : Wd} {cls : List Str} {noA : List (Str × Str)}
theorem sort_mem {m : Rw} {d : D} (h : d ∈ (sortI (keysR m)).map D.int) (g : ∀ p ∈ m, 1 ≤ p.1) : ∃ k : Int, d = .int k ∧ 1 ≤ k := by
  obtain ⟨k, hk, rfl⟩ := List.mem_map.mp h
  obtain ⟨p, hp, rfl⟩ := List.mem_map.mp ((sortI_perm _).mem_iff.mp hk)
  exact ⟨_, rfl, g p hp⟩
theorem p__law_key (ds : List D) (M : MS) (Q : QD) (EQ : EK) (_ : ds.length = 2) (h : d__law_key ds M Q EQ) : w__law_key T d__law_pull (startD N__law_key.length ds) M (endsD T Q EQ) := by
  obtain ⟨a, x, m, rfl, hx, hg, hl, n, hs, hn, q⟩ := h
  have e14 : (10 : Int) ^ 14 = 100000000000000 := by decide
  have p14 : CPowW 10 14 := powI (k := 4) (by decide) (by decide) (by decide) (by decide)
  have p30 : CPowW 10 30 := powI (k := 4) (by decide) (by decide) (by decide) (by decide)
  have lk : ∀ {R : QD}, R (.lst ((keysR m).map .int)) M → listKO [x] M R := fun {R} r => by
    rcases hx with rfl | ⟨u, rfl, hu⟩
    · rw [s_listK_dic, keys_rows]; exact r
    · rw [s_listK_ref hu, keys_rows]; exact r
  have hsl : (sortI (keysR m)).length ≤ 100 := by rw [(sortI_perm _).length_eq]; unfold keysR; rw [List.length_map]; exact hl
  simp [w__law_key, N__law_key, startD]
  refine lk ?_
  refine s_sorted_ints ?_
  refine pull_use hs (by omega) (by decide) (by decide) fun r M1 hr s1 o1 => ?_
  have c1 : ((r : Int) < 2) ↔ r < 2 := by omega
  have c2 : ((r : Int) = 2) ↔ r = 2 := by omega
  have c3 : ((r : Int) = 3) ↔ r = 3 := by omega
  have fin : ∀ {R : EK}, ¬ r = 2 → ¬ r = 3 → d__law_pull [D.ref a, D.int 30] M1 (fun y M2 => addO (D.int 1) y M2 (endsD T Q EQ).rt) R := fun {R} _ _ => by
    refine pull_use s1 (by omega) (by decide) (by decide) fun y M2 hy s2 o2 => ?_
    simp
    exact rt_ok (q _ M2 (s2.mono (by omega)) (o1.trans o2) ⟨_, rfl, by omega⟩)
  by_cases r2 : r < 2
  · have z2 : ¬ r = 2 := by omega
    have z3 : ¬ r = 3 := by omega
    simp [c1, r2]
    refine ne_ints0 ?_
    by_cases hk : sortI (keysR m) = []
    · simp [hk, c2, c3, z2, z3]
      have := fin (R := fun x_1 M1 => (endsD T Q EQ).ex x_1 [some (D.ref a), some x, some (D.lst []), some (D.int ↑r)] M1) z2 z3
      simpa using this
    · simp [hk]
      have hp : 0 < (sortI (keysR m)).length := List.length_pos_iff.mpr hk
      refine pull_use s1 (by omega) (by omega) (by omega) fun y M2 hy s2 o2 => ?_
      exact item_mem (by rw [List.length_map]; omega) fun d hd => rt_ok (q d M2 (s2.mono (by omega)) (o1.trans o2) (sort_mem hd hg))
  by_cases z2 : r = 2
  · simp [c1, r2, c2, z2, p30]
    refine pull_use s1 (by omega) (by decide) (by decide) fun y M2 hy s2 o2 => ?_
    simp
    exact rt_ok (q _ M2 (s2.mono (by omega)) (o1.trans o2) ⟨_, rfl, by omega⟩)
  by_cases z3 : r = 3
  · simp [c1, r2, c2, z2, c3, z3, p14]
    refine pull_use s1 (by omega) (by decide) (by decide) fun y M2 hy s2 o2 => ?_
    have g1 : (y : Int).natAbs.log2 ≤ 60 := lgI (by omega) (Int.lt_of_lt_of_le hy (by decide))
    have g2 : Nat.log2 100000000000000 = 46 := by decide +kernel
    have g3 : y.log2 ≤ 60 := by simpa using g1
    simp [p14]
    refine ⟨by rw [g2]; omega, ?_⟩
    refine pull_use s2 (by omega) (by decide) (by decide) fun w M3 hw s3 o3 => ?_
    simp
    exact rt_ok (q _ M3 (s3.mono (by omega)) ((o1.trans o2).trans o3) ⟨_, rfl, by omega⟩)
  · simp [c1, r2, c2, z2, c3, z3]
    have := fin (R := fun x_1 M1 => (endsD T Q EQ).ex x_1 [some (D.ref a), some x, some (D.lst ((sortI (keysR m)).map .int)), some (D.int ↑r)] M1) z2 z3
    simpa using this
theorem p__law_number_near (ds : List D) (M : MS) (Q : QD) (EQ : EK) (_ : ds.length = 2) (h : d__law_number_near ds M Q EQ) : w__law_number_near T d__law_pull (startD N__law_number_near.length ds) M (endsD T Q EQ) := by
  obtain ⟨a, rfl, n, hs, hn, q⟩ := h
  have p15 : CPowW 10 15 := powI (k := 4) (by decide) (by decide) (by decide) (by decide)
  have p30 : CPowW 10 30 := powI (k := 4) (by decide) (by decide) (by decide) (by decide)
  have nat : ∀ {z : Int} {M' : MS} (k : Nat), z = (k : Int) → k < 10 ^ 30 → SpAt (n + 4) M' a → Off a M M' → (endsD T Q EQ).rt (.int z) M' := fun {z M'} k e hk h1 h2 => by
    rw [e]; exact rt_ok (q _ M' h1 h2 ⟨k, rfl, hk⟩)
  simp [w__law_number_near, N__law_number_near, startD]
  refine pull_use hs (by omega) (by decide) (by decide) fun r M1 hr s1 o1 => ?_
  have c0 : ((r : Int) = 0) ↔ r = 0 := by omega
  have c1 : ((r : Int) = 1) ↔ r = 1 := by omega
  have c2 : ((r : Int) = 2) ↔ r = 2 := by omega
  by_cases z0 : r = 0
  · simp [z0, p30]
    refine pull_use s1 (by omega) (by decide) (by decide) fun y M2 hy s2 o2 => ?_
    simp
    exact nat (999999999999999999999999999999 - y) (by omega) (by omega) (s2.mono (by omega)) (o1.trans o2)
  by_cases z1 : r = 1
  · simp [z1, p15]
    refine pull_use s1 (by omega) (by decide) (by decide) fun y M2 hy s2 o2 => ?_
    have g1 : (y : Int).natAbs.log2 ≤ 60 := lgI (by omega) (Int.lt_of_lt_of_le hy (by decide))
    have g2 : Nat.log2 1000000000000000 = 49 := by decide +kernel
    have g3 : y.log2 ≤ 60 := by simpa using g1
    simp [p15]
    refine ⟨by rw [g2]; omega, ?_⟩
    refine pull_use s2 (by omega) (by decide) (by decide) fun w M3 hw s3 o3 => ?_
    simp
    exact nat (1000000000000000 * y + w) (by omega) (by omega) (s3.mono (by omega)) ((o1.trans o2).trans o3)
  by_cases z2 : r = 2
  · simp [z2]
    refine pull_use s1 (by omega) (by decide) (by decide) fun y M2 hy s2 o2 => ?_
    exact nat y rfl (by omega) (s2.mono (by omega)) (o1.trans o2)
  · have z0' : ¬ ((r : Int) = 0) := by omega
    simp [c0, c1, c2, z0, z1, z2]
    refine pull_use s1 (by omega) (by decide) (by decide) fun y M2 hy s2 o2 => ?_
    have g1 : (y : Int).natAbs.log2 ≤ 60 := lgI (by omega) (Int.lt_of_lt_of_le hy (by decide))
    have g3 : y.log2 ≤ 60 := by simpa using g1
    simp
    refine ⟨by have : Nat.log2 1 = 0 := by decide +kernel
               omega, by decide, ?_⟩
    refine pull_use s2 (by omega) (by decide) (by decide) fun w M3 hw s3 o3 => ?_
    refine item_mem (by simp; omega) fun d hd => ?_
    simp at hd
    rcases hd with rfl | rfl | rfl | rfl | rfl | rfl <;> simp
    all_goals first
      | exact nat y (by omega) (by omega) (s3.mono (by omega)) ((o1.trans o2).trans o3)
      | exact nat (y + 1) (by omega) (by omega) (s3.mono (by omega)) ((o1.trans o2).trans o3)
      | exact nat (y + 2) (by omega) (by omega) (s3.mono (by omega)) ((o1.trans o2).trans o3)
theorem p__law_some (ds : List D) (M : MS) (Q : QD) (EQ : EK) (_ : ds.length = 3) (h : d__law_some ds M Q EQ) : w__law_some T d__law_pull (startD N__law_some.length ds) M (endsD T Q EQ) := by
  obtain ⟨a, ns, n, rfl, hl, hs, hn, q⟩ := h
  simp [w__law_some, N__law_some, startD]
  refine lcD_rule (fun rest acc M' => ∃ (fs gs hs : List Str), acc = fs.map .str ∧ rest = gs.map .str ∧ ns = hs ++ gs ∧ fs.Sublist hs ∧ SpAt (n + hs.length) M' a ∧ Off a M M') (fun x xs acc M' Z h hZ => ?_) (fun acc M' h => ?_) _ _ _ ⟨[], ns, [], rfl, rfl, rfl, List.Sublist.refl _, hs, Off.refl⟩
  · obtain ⟨fs, gs, hs', rfl, hr, e, sub, s1, o1⟩ := h
    cases gs with
    | nil => simp at hr
    | cons g gs =>
      rw [List.map_cons] at hr
      injection hr with h1 h2
      subst h1 h2
      have hl1 : hs'.length + (g :: gs).length = ns.length := by rw [e, List.length_append]
      rw [List.length_cons] at hl1
      have hfl := sub.length_le
      simp
      refine pull_use s1 (by omega) (by decide) (by decide) fun r M2 hr2 s2 o2 => ?_
      simp
      by_cases z : r = 0
      · simp [z]
        refine ⟨Nat.lt_of_lt_of_le (show fs.length < 60 by omega) (by decide), hZ _ _ ⟨fs ++ [g], gs, hs' ++ [g], by simp, rfl, by simp [e], ?_, by rw [List.length_append, List.length_singleton, ← Nat.add_assoc]; exact s2, o1.trans o2⟩⟩
        exact sub.append (List.Sublist.refl _)
      · simp [z]
        refine hZ _ _ ⟨fs, gs, hs' ++ [g], rfl, rfl, by simp [e], ?_, by rw [List.length_append, List.length_singleton, ← Nat.add_assoc]; exact s2, o1.trans o2⟩
        exact sub.trans (List.sublist_append_left ..)
  · obtain ⟨fs, gs, hs', rfl, hr, e, sub, s1, o1⟩ := h
    have : gs = [] := by cases gs with
      | nil => rfl
      | cons g gs => simp at hr
    subst this
    rw [List.append_nil] at e
    subst e
    intro u hu
    exact rt_ok (q fs u M' sub s1 o1 hu)
theorem del_at {M : MS} {a u : Addr} {n : Nat} (hs : SpAt n M a) (h : a ≠ u) : SpAt n (M.del u) a := by
  obtain ⟨m, h1, h2⟩ := hs
  exact ⟨m, by rw [MS.del_ne h]; exact h1, h2⟩
theorem set_at {M : MS} {a u : Addr} {n : Nat} {x : MO} (hs : SpAt n M a) (h : a ≠ u) : SpAt n (M.set u x) a := by
  obtain ⟨m, h1, h2⟩ := hs
  exact ⟨m, by rw [MS.set_ne h]; exact h1, h2⟩
theorem sp_ne {M : MS} {a u : Addr} {n : Nat} (hs : SpAt n M a) (hu : M u = none) : a ≠ u := fun e => by
  obtain ⟨m, h1, _⟩ := hs
  rw [e, hu] at h1; cases h1
/-- nothing but a and u is changed -/
def Off2 (a u : Addr) (M M' : MS) : Prop := ∀ c, c ≠ a → c ≠ u → M' c = M c
theorem Off2.del {a u : Addr} {M M' : MS} (h : Off2 a u M M') (hu : M u = none) : Off a M (M'.del u) := fun c hc => by
  by_cases e : c = u
  · rw [e, MS.del_same, hu]
  · rw [MS.del_ne e]; exact h c hc e
theorem p__law_model (ds : List D) (M : MS) (Q : QD) (EQ : EK) (_ : ds.length = 3) (h : d__law_model ds M Q EQ) : w__law_model T d__law_key d__law_pull d__law_row (startD N__law_model.length ds) M (endsD T Q EQ) := by
  obtain ⟨a, k, n, rfl, hk, hn6, n0, hs, hn, q⟩ := h
  simp [w__law_model, N__law_model, startD]
  intro u hu
  have hau := sp_ne hs hu
  refine pull_use (set_at hs hau) (by omega) (by omega) (by omega) fun r M1 hr s1 o1 => ?_
  simp
  refine ⟨by omega, ?_⟩
  have o1' : Off2 a u M M1 := fun c h1 h2 => by rw [o1 c h1, MS.set_ne h2]
  have u1 : M1 u = some (.dic []) := by rw [o1 u (Ne.symm hau), MS.set_same]
  refine forD_rule (fun rest env M2 => ∃ (m : Rw) (e4 e5 : Option D), m.length + rest.length ≤ n ∧ env = [some (.ref a), some (.int k), some (.int n), some (.ref u), e4, e5] ∧ M2 u = some (.dic (rowsK m)) ∧ RowsOk k m ∧ SpAt (n0 + 200 - 30 * rest.length) M2 a ∧ 30 * rest.length ≤ 199 ∧ Off2 a u M M2)
    (fun x xs env M2 Z h hZ => ?_) (fun env M2 h => ?_) (rangeD 0 r) _ _ ⟨[], none, none, by rw [rangeD_len]; simp; omega, rfl, u1, RowsOk.nil, s1.mono (by rw [rangeD_len]; omega), by rw [rangeD_len]; omega, o1'⟩
  · obtain ⟨m, e4, e5, hl, rfl, hM, ok, s2, hb, o2⟩ := h
    rw [List.length_cons] at hl hb s2
    simp
    refine ⟨a, .ref u, m, rfl, .inr ⟨u, rfl, hM⟩, ok.ge, by omega, _, s2, by omega, fun d M3 s3 o3 ⟨key, ek, h1⟩ => ?_⟩
    subst ek
    have hM3 : M3 u = some (.dic (rowsK m)) := by rw [o3 u (Ne.symm hau)]; exact hM
    refine ⟨a, k, rfl, by omega, _, s3, by omega, fun d M4 s4 o4 ⟨l, el, hll, hlo⟩ => ?_⟩
    subst el
    have hM4 : M4 u = some (.dic (rowsK m)) := by rw [o4 u (Ne.symm hau)]; exact hM3
    refine s_setD hM4 rfl (by rw [rowsK_len]; exact Nat.lt_of_lt_of_le (show m.length < 60 by omega) (by decide)) ?_
    rw [put_rows]
    refine hZ _ _ ⟨putR m key l, _, _, ?_, rfl, MS.set_same, ok.put h1 hll hlo, set_at (s4.mono (by omega)) hau, by omega, fun c h1 h2 => ?_⟩
    · have := put_len m key l; omega
    · rw [MS.set_ne h2, o4 c h1, o3 c h1]; exact o2 c h1 h2
  · obtain ⟨m, e4, e5, hl, rfl, hM, ok, s2, hb, o2⟩ := h
    simp at hl s2
    simp
    exact ⟨u, rowsK m, rfl, hM, rt_ok (q _ _ (del_at (s2.mono (by omega)) hau) (o2.del hu) ⟨m, rfl, ok, hl⟩)⟩
end
end K49

namespace K49
open PySem PySem.Spec PyProof.Rows L2 G SB TL
section
variable {T : Wd} {cls : List Str} {noA : List (Str × Str)}
abbrev mkStore : DSp := newS "Store" SB.d_Store_init [.u 0, .d 0] 1 [.tup []]
theorem cols_names {ns : List Str} (co : ColsOk ns) : colsD (.tup (ns.map .str)) = true := by
  have h1 := co.lo
  have h2 := co.hi
  show (((ns.map D.str).all nmD && decide (strsN (ns.map .str)).Nodup) && (decide (1 ≤ (ns.map D.str).length) && decide ((ns.map D.str).length ≤ 6))) = true
  rw [strsN_map, List.all_map, List.length_map]
  have e : ns.all (nmD ∘ D.str) = true := co.nm
  rw [e, decide_eq_true co.nd, decide_eq_true h1, decide_eq_true h2]; rfl
theorem name_size {ns : List Str} (h : ns.all nameB = true) : ∀ n ∈ ns, n.length ≤ sizeLine := fun n hn => szLe (by have := (nameB_len (List.all_eq_true.mp h n hn)).1; omega)
theorem st_to {a : Addr} {M : MS} {Q : QD} {E : EK} {ns : List Str} (co : ColsOk ns) (q : Q .non ((M.set a (.ins "Store" [])).set a (.ins "Store" (storeF ns [])))) : SB.d_Store_init [.ref a, .tup (ns.map .str), .tup []] (M.set a (.ins "Store" [])) Q E :=
  ⟨a, ns, rfl, MS.set_same, by have := co.hi; omega, name_size co.nm, cols_names co, q⟩
def pick (m : Rw) (ks : List Int) : Rw := ks.map fun k => (k, (getR m k).getD [])
theorem pick_keys (m : Rw) (ks : List Int) : keysR (pick m ks) = ks := by
  unfold pick keysR
  rw [List.map_map]
  exact List.map_id' _
theorem p__law_made (ds : List D) (M : MS) (Q : QD) (EQ : EK) (_ : ds.length = 3) (h : d__law_made ds M Q EQ) : w__law_made T mkStore d_Store_setitem (startD N__law_made.length ds) M (endsD T Q EQ) := by
  obtain ⟨ns, m, ks, rfl, co, ok, hl, pm, q⟩ := h
  have hkn : ks.Nodup := pm.nodup_iff.mpr ok.nd
  have hkl : ks.length ≤ 50 := by rw [pm.length_eq]; unfold keysR; rw [List.length_map]; exact hl
  have t0 : told (pick m []) = [] := by simp [told, pick, keysR, sortI]
  simp [w__law_made, N__law_made, startD]
  intro u hu
  refine st_to co ?_
  rw [MS.set_set]
  simp
  refine forD_rule (fun rest env M2 => ∃ (dn gs : List Int) (e4 : Option D), ks = dn ++ gs ∧ rest = gs.map .int ∧ env = [some (.tup (ns.map .str)), some (.dic (rowsK m)), some (.lst (ks.map .int)), some (.ref u), e4] ∧ M2 = M.set u (.ins "Store" (storeF ns (told (pick m dn)))))
    (fun x xs env M2 Z h hZ => ?_) (fun env M2 h => ?_) (ks.map .int) _ _ ⟨[], ks, none, rfl, rfl, rfl, by rw [t0]⟩
  · obtain ⟨dn, gs, e4, e, hr, rfl, rfl⟩ := h
    cases gs with
    | nil => simp at hr
    | cons k gs =>
      rw [List.map_cons] at hr
      injection hr with h1 h2
      subst h1 h2
      have hk : k ∈ keysR m := pm.mem_iff.mp (by rw [e]; simp)
      have hkd : k ∉ dn := fun z => by
        rw [e, List.nodup_append] at hkn
        exact hkn.2.2 k z k (by simp) rfl
      have hdn : dn.Nodup := by rw [e] at hkn; exact (List.nodup_append.mp hkn).1
      have hdl : dn.length ≤ 50 := by rw [e, List.length_append] at hkl; omega
      simp [val_rows]
      cases g : getR m k with
      | none => exact absurd hk (getR_none.mp g)
      | some l =>
        have hm := getR_some g
        simp
        refine ⟨u, ns, told (pick m dn), k, l, rfl, MS.set_same, told_nd (by rw [pick_keys]; exact hdn), ?_, ok.ge _ hm, ok.ln _ hm, by have := co.hi; omega, ok.ok _ hm, by rw [told_len]; unfold pick; rw [List.length_map]; omega, ?_⟩
        · rw [told_keys, pick_keys]
          exact fun z => hkd ((sortI_perm _).mem_iff.mp z)
        · rw [MS.set_set]
          have e2 : told (told (pick m dn) ++ [(k, l)]) = told (pick m (dn ++ [k])) := by
            have e3 : pick m (dn ++ [k]) = pick m dn ++ [(k, l)] := by unfold pick; simp [g]
            rw [e3]
            refine told_congr ?_ ((told_perm (by rw [pick_keys]; exact hdn)).append_right _)
            unfold keysR
            rw [List.map_append, List.nodup_append]
            refine ⟨told_nd (by rw [pick_keys]; exact hdn), by simp, fun x hx y hy => ?_⟩
            have hy' : y = k := by simpa using hy
            have hx' : x ∈ keysR (told (pick m dn)) := hx
            rw [told_keys, pick_keys] at hx'
            rw [hy']
            exact fun z => hkd (z ▸ (sortI_perm _).mem_iff.mp hx')
          rw [e2]
          exact hZ _ _ ⟨dn ++ [k], gs, _, by simp [e], rfl, rfl, rfl⟩
  · obtain ⟨dn, gs, e4, e, hr, rfl, rfl⟩ := h
    have : gs = [] := by cases gs with
      | nil => rfl
      | cons g gs => simp at hr
    subst this
    rw [List.append_nil] at e
    subst e
    simp
    have e2 : told (pick m ks) = told m := by
      refine told_congr (by rw [pick_keys]; exact hkn) ?_
      have := pm.map fun k => (k, (getR m k).getD [])
      rw [map_get ok.nd] at this
      exact this
    rw [e2]
    exact rt_ok (q u hu)
theorem plan_cols (ns : List Str) : valD (planK ns) (.inr "columns") = some (.tup (ns.map .str)) := by kernel_rfl
theorem plan_tests (ns : List Str) : valD (planK ns) (.inr "tests") = some (.tup []) := by kernel_rfl
theorem plan_shown (ns : List Str) : valD (planK ns) (.inr "shown") = some (.tup []) := by kernel_rfl
theorem p__law_cell_near (ds : List D) (M : MS) (Q : QD) (EQ : EK) (_ : ds.length = 3) (h : d__law_cell_near ds M Q EQ) : w__law_cell_near T d__law_number_near d__law_pull (startD N__law_cell_near.length ds) M (endsD T Q EQ) := by
  obtain ⟨a, ns, nm, rfl, n, hs, hn, q⟩ := h
  simp [w__law_cell_near, N__law_cell_near, startD, plan_tests, plan_shown]
  refine pull_use hs (by omega) (by decide) (by decide) fun r M1 hr s1 o1 => ?_
  by_cases z : r = 0
  · simp [z]
    exact rt_ok (q _ M1 (s1.mono (by omega)) o1 ⟨none, rfl, fun n h => by cases h⟩)
  · simp [z]
    refine ⟨by decide, ?_⟩
    refine pull_use s1 (by omega) (by decide) (by decide) fun y M2 hy s2 o2 => ?_
    refine item_mem (by simp; omega) fun d hd => ?_
    have hd : d = .int 0 := by simpa using hd
    subst hd
    refine s_dict_tup (ys := []) (kvs := []) rfl ?_
    refine ⟨rfl, [], .inr nm, .str nm, rfl, rfl, .inr ⟨.int 1, rfl, ?_⟩⟩
    have e1 : (valD [] (Sum.inr nm)).getD (D.int 1) = .int 1 := rfl
    have l0 : Nat.log2 0 = 0 := by decide +kernel
    have l1 : Nat.log2 1 = 0 := by decide +kernel
    have l2 : Nat.log2 2 = 1 := by decide +kernel
    have p30 : CPowW 10 30 := powI (k := 4) (by decide) (by decide) (by decide) (by decide)
    have dv : CDivW 0 1 := ⟨by decide, by decide +kernel⟩
    simp only [e1]
    simp [l0, l1, l2, dv, p30]
    refine ⟨by decide, a, rfl, _, s2, by omega, fun d M3 s3 o3 ⟨w, ew, hw⟩ => ?_⟩
    subst ew
    refine ⟨by decide, by decide, ?_⟩
    refine pull_use s3 (by omega) (by decide) (by decide) fun v M4 hv s4 o4 => ?_
    refine item_mem (by simp; omega) fun d hd => ?_
    obtain ⟨i, ei⟩ : ∃ i : Int, d = .int i := by
      simp at hd
      rcases hd with rfl | rfl | rfl | rfl | rfl | rfl | rfl | rfl | rfl | rfl | rfl <;> exact ⟨_, rfl⟩
    subst ei
    simp
    have hw2 : ∃ k : Nat, (if 0 < (if i < 999999999999999999999999999999 then i else 999999999999999999999999999999) then (if i < 999999999999999999999999999999 then i else 999999999999999999999999999999) else 0) = (k : Int) ∧ k < 10 ^ 30 := by
      generalize hm : (if i < 999999999999999999999999999999 then i else 999999999999999999999999999999) = m
      have hle : m ≤ 999999999999999999999999999999 := by
        by_cases c : i < 999999999999999999999999999999
        · rw [if_pos c] at hm; omega
        · rw [if_neg c] at hm; omega
      by_cases c : 0 < m
      · exact ⟨m.toNat, by rw [if_pos c]; omega, by omega⟩
      · exact ⟨0, by rw [if_neg c]; rfl, by decide⟩
    obtain ⟨k, ek, hk⟩ := hw2
    rw [ek]
    exact rt_ok (q _ M4 (s4.mono (by omega)) (((o1.trans o2).trans o3).trans o4) ⟨some k, rfl, fun n h => by cases h; exact hk⟩)
end
end K49

namespace K49
open PySem PySem.Spec PyProof.Rows L2 G SB TL
section
variable {T : Wd} {cls : List Str} {noA : List (Str × Str)} {M : MS} {Q : QD} {EQ : EK}
def ghosts : List Str := ["ghost", "phantom", "spectre", "wraith", "spook", "shade", "banshee"]
theorem ghosts_ok : ghosts.all nameB = true ∧ ghosts.Nodup := by decide +kernel
/-- fields as they are told -/
structure FsOk (ns fs : List Str) : Prop where
  nm : fs.all nameB = true
  nd : fs.Nodup
  le : fs.length ≤ 7
theorem in_ref {u : Addr} {fs : List Str} {s : Option Str} {R : QD} (h : M u = some (.lst (fs.map .str))) (q : R (.bl (match s with | none => false | some n => decide (n ∈ fs))) M) : inO false (stD s) (.ref u) M R := by
  rw [s_in_ref h]
  cases s with
  | none => exact ⟨rfl, all_flat_strs _, by rw [show stD none = .non from rfl, inF_non]; exact q⟩
  | some n => exact ⟨rfl, all_flat_strs _, by rw [show stD (some n) = .str n from rfl, inF_strs]; exact q⟩
theorem notin_ref {u : Addr} {fs : List Str} {n : Str} {R : QD} (h : M u = some (.lst (fs.map .str))) (q : R (.bl (!decide (n ∈ fs))) M) : inO true (.str n) (.ref u) M R := by
  rw [s_in_ref h]
  exact ⟨rfl, all_flat_strs _, by rw [inF_strs]; exact q⟩
variable {x3 x4 x5 x6 x7 x8 : Option D} {K : KD} {a u : Addr} {ns fs : List Str} {n n0 : Nat}
/-- what is owed at the end -/
abbrev Owed (K : KD) (a u : Addr) (n : Nat) (M : MS) : Prop := ∀ (m : Mean) M', MeanOk m → SpAt n M' a → (∀ c, c ≠ a → c ≠ u → M' c = M c) → K.rt m.D M'
theorem mean8 {s : Option Str} (hf : FsOk ns fs) (hs : ∀ n, s = some n → nameB n = true ∧ n ∉ fs) (hM : M u = some (.lst (fs.map .str))) (h1 : SpAt n0 M a) (hn : n0 + 2 ≤ n) (hl : n ≤ LIM) (q : Owed K a u n M) :
    w__law_mean_8 T d__law_pull d__law_some [some (.ref a), some (.tup (ns.map .str)), some (.lst (ghosts.map .str)), x3, some (.ref u), x5, some (stD s), x7, x8] M K := by
  simp [w__law_mean_8]
  refine ⟨fs.map .str, by show lstMO (M u) = _; rw [hM]; rfl, ?_⟩
  refine pull_use h1 (by omega) (by decide) (by decide) fun r M1 hr s1 o1 => ?_
  simp
  refine pull_use s1 (by omega) (by decide) (by decide) fun r2 M2 hr2 s2 o2 => ?_
  simp
  refine ⟨by decide, ?_⟩
  have e : (fs.map D.str).reverse = fs.reverse.map D.str := by rw [List.map_reverse]
  have z := q ⟨fs.reverse, decide (r = 0), decide (r2 = 0), s⟩ M2 ⟨by rw [List.all_reverse]; exact hf.nm, (List.reverse_perm fs).nodup_iff.mpr hf.nd, by show fs.reverse.length ≤ 7; rw [List.length_reverse]; exact hf.le, fun n hn => ⟨(hs n hn).1, by show n ∉ fs.reverse; rw [List.mem_reverse]; exact (hs n hn).2⟩⟩ (s2.mono (by omega)) (fun c h1 h2 => by rw [o2 c h1, o1 c h1])
  first
  | exact z
  | (unfold Mean.D at z; simpa using z)
theorem mean7 {s : Option Str} (hf : FsOk ns fs) (hs : ∀ n, s = some n → nameB n = true) (hM : M u = some (.lst (fs.map .str))) (h1 : SpAt n0 M a) (hn : n0 + 2 ≤ n) (hl : n ≤ LIM) (q : Owed K a u n M) :
    w__law_mean_7 T d__law_pull d__law_some [some (.ref a), some (.tup (ns.map .str)), some (.lst (ghosts.map .str)), x3, some (.ref u), x5, some (stD s), x7, x8] M K := by
  simp [w__law_mean_7]
  refine in_ref hM ?_
  cases s with
  | none =>
    exact mean8 (T := T) (s := none) hf (fun _ h => by cases h) hM h1 hn hl q
  | some x =>
    by_cases c : x ∈ fs
    · simp [c]
      exact mean8 (T := T) (s := none) hf (fun _ h => by cases h) hM h1 hn hl q
    · simp [c]
      exact mean8 (T := T) (s := some x) hf (fun n h => by cases h; exact ⟨hs x rfl, c⟩) hM h1 hn hl q
theorem mean4 {g : Str} {st : List Str} (hf : FsOk ns fs) (co : ColsOk ns) (hst : st ≠ []) (hsn : st.all nameB = true) (hM : M u = some (.lst (fs.map .str))) (h1 : SpAt n0 M a) (hn : n0 + 3 ≤ n) (hl : n ≤ LIM) (q : Owed K a u n M) :
    w__law_mean_4 T d__law_pull d__law_some [some (.ref a), some (.tup (ns.map .str)), some (.lst (ghosts.map .str)), some (.lst (st.map .str)), some (.ref u), x5, x6, x7, x8] M K := by
  have h6 := co.hi
  simp [w__law_mean_4]
  refine lc_filter .str (fun n => !decide (n ∈ fs)) .str ns trivial (szLe (by omega)) (fun v hv acc Z ha h1 h2 => ?_) ?_
  · simp
    refine notin_ref hM ?_
    by_cases c : v ∈ fs
    · simp [c]; exact h2 (by simp [c])
    · simp [c]; exact ⟨ha, h1 (by simp [c])⟩
  have hrl : (ns.filter fun n => !decide (n ∈ fs)).length ≤ 6 := Nat.le_trans (List.length_filter_le ..) h6
  have hrm : ∀ n ∈ ns.filter (fun n => !decide (n ∈ fs)), nameB n = true := fun n hm => List.all_eq_true.mp co.nm n (List.mem_filter.mp hm).1
  generalize (ns.filter fun n => !decide (n ∈ fs)) = rs at hrl hrm ⊢
  obtain ⟨l, e⟩ : ∃ l, atI (st.map D.str) (-1) = some (.str l) ∧ nameB l = true := ⟨st.getLast hst, last_of (r := st.dropLast) (List.dropLast_concat_getLast hst).symm, List.all_eq_true.mp hsn _ (List.getLast_mem hst)⟩
  obtain ⟨e, hln⟩ := e
  simp [w__law_mean_5, e]
  refine ⟨by decide, szLe (by omega), ?_⟩
  simp [w__law_mean_6]
  refine pull_use h1 (by omega) (by omega) (by omega) fun r M1 hr s1 o1 => ?_
  have hr2 : r < (rs.map D.str ++ [D.non, D.non, D.str l]).length := by simp; omega
  simp
  rw [at_nat (List.getElem?_eq_getElem hr2)]
  have hs := List.getElem_mem hr2
  generalize (rs.map D.str ++ [D.non, D.non, D.str l])[r] = sd at hs ⊢
  have hsd : ∃ s, sd = stD s ∧ ∀ n, s = some n → nameB n = true := by
    rcases List.mem_append.mp hs with hs | hs
    · obtain ⟨z, hz, rfl⟩ := List.mem_map.mp hs
      exact ⟨some z, rfl, fun n h => by cases h; exact hrm z hz⟩
    · simp at hs
      rcases hs with rfl | rfl
      · exact ⟨none, rfl, fun n h => by cases h⟩
      · exact ⟨some l, rfl, fun n h => by cases h; exact hln⟩
  obtain ⟨s, rfl, hs2⟩ := hsd
  exact mean7 (T := T) hf hs2 (by rw [o1 u (fun z => by obtain ⟨m, hm, r, s, t, em, _⟩ := h1; rw [← z, hM] at hm; cases hm; cases em)]; exact hM) s1 (by omega) hl (fun m M' k1 k2 k3 => q m M' k1 k2 fun c c1 c2 => by rw [k3 c c1 c2, o1 c c1])
theorem p__law_mean (ds : List D) (M : MS) (Q : QD) (EQ : EK) (_ : ds.length = 2) (h : d__law_mean ds M Q EQ) : w__law_mean T d__law_pull d__law_some (startD N__law_mean.length ds) M (endsD T Q EQ) := by
  obtain ⟨a, ns, rfl, co, n, h1, hn, q⟩ := h
  have h6 := co.hi
  simp [w__law_mean, N__law_mean, startD]
  refine ⟨by decide, ?_⟩
  have eg : ([D.str "ghost", .str "phantom", .str "spectre", .str "wraith", .str "spook", .str "shade", .str "banshee"] : List D) = ghosts.map .str := rfl
  rw [eg]
  simp [w__law_mean_1]
  refine lc_filter .str (fun n => !decide (n ∈ ns)) .str ghosts trivial (by decide) (fun v hv acc Z ha h1 h2 => ?_) ?_
  · simp [inF_strs, all_flat_strs]
    by_cases c : v ∈ ns
    · simp [c]; exact h2 (by simp [c])
    · simp [c]; exact ⟨ha, h1 (by simp [c])⟩
  have hst : ghosts.filter (fun n => !decide (n ∈ ns)) ≠ [] := fun z => by
    have := pigeon ghosts ns ghosts_ok.2 (fun x hx => by
      have := List.filter_eq_nil_iff.mp z x hx
      simpa using this)
    have e : ghosts.length = 7 := rfl
    omega
  have hsm : ∀ g ∈ ghosts.filter (fun n => !decide (n ∈ ns)), nameB g = true ∧ g ∉ ns := fun g hg => by
    obtain ⟨m1, m2⟩ := List.mem_filter.mp hg
    exact ⟨List.all_eq_true.mp ghosts_ok.1 g m1, by simpa using m2⟩
  generalize ghosts.filter (fun n => !decide (n ∈ ns)) = st at hst hsm ⊢
  have hsn : st.all nameB = true := List.all_eq_true.mpr fun g hg => (hsm g hg).1
  simp [w__law_mean_2]
  refine ⟨a, ns, n, rfl, by omega, h1, by omega, fun fs u M1 sub s1 o1 hu => ?_⟩
  have hau := sp_ne s1 hu
  have hfn : fs.all nameB = true := List.all_eq_true.mpr fun x hx => List.all_eq_true.mp co.nm x (sub.subset hx)
  have hfd : fs.Nodup := co.nd.sublist sub
  have hfl : fs.length ≤ 6 := Nat.le_trans sub.length_le h6
  have owed : ∀ {M2 : MS}, (∀ c, c ≠ a → c ≠ u → M2 c = M1 c) → Owed (endsD T Q EQ) a u (n + 20) M2 := fun {M2} k m M' k1 k2 k3 => by
    refine rt_cv (d' := m.D) (M' := M'.del u) (Cv.drop del_sub) (q m.D (M'.del u) (del_at k2 hau) (fun c hc => ?_) ⟨m, rfl, k1⟩)
    by_cases e : c = u
    · have : M u = none := by rw [← o1 u (Ne.symm hau)]; exact hu
      rw [e, MS.del_same, this]
    · rw [MS.del_ne e, k3 c hc e, k c hc e, o1 c hc]
  simp [w__law_mean_3]
  refine pull_use (set_at s1 hau) (by omega) (by decide) (by decide) fun r M2 hr s2 o2 => ?_
  have m2 : M2 u = some (.lst (fs.map .str)) := by rw [o2 u (Ne.symm hau), MS.set_same]
  by_cases z : r = 0
  · simp [z]
    cases st with
    | nil => exact absurd rfl hst
    | cons g gs =>
      obtain ⟨g1, g2⟩ := hsm g (List.mem_cons_self ..)
      simp
      refine ⟨by show bmMO (M2 u) = _; rw [m2]; rfl, ?_⟩
      refine (s_append m2 (Nat.lt_of_lt_of_le (show (fs.map D.str).length < 60 by rw [List.length_map]; omega) (by decide)) ?_).2
      have e2 : fs.map D.str ++ [D.str g] = (fs ++ [g]).map D.str := by simp
      rw [e2]
      have ge : D.str g :: gs.map D.str = (g :: gs).map D.str := rfl
      rw [ge]
      refine mean4 (T := T) (fs := fs ++ [g]) (g := g) ⟨?_, ?_, by rw [List.length_append, List.length_singleton]; omega⟩ co hst hsn MS.set_same (set_at s2 hau) (n := n + 20) (by omega) hn (owed fun c c1 c2 => by rw [MS.set_ne c2, o2 c c1, MS.set_ne c2])
      · rw [List.all_append, hfn]; simp [g1]
      · rw [List.nodup_append]
        exact ⟨hfd, by simp, fun x hx y hy => by rw [List.mem_singleton.mp hy]; exact fun e => g2 (e ▸ sub.subset hx)⟩
  · simp [z]
    exact mean4 (T := T) (g := "") ⟨hfn, hfd, by omega⟩ co hst hsn m2 s2 (n := n + 20) (by omega) hn (owed fun c c1 c2 => by rw [o2 c c1, MS.set_ne c2])
end
end K49

namespace K49
open PySem PySem.Spec PyProof.Rows L2 G SB TL
section
variable {T : Wd} {cls : List Str} {noA : List (Str × Str)} {M : MS} {Q : QD} {EQ : EK} {K : KD} {a u : Addr} {ns : List Str} {n n0 : Nat} {m : Mean} {l : List Cell} {x4 x6 x7 x8 x9 x10 x11 : Option D}
theorem sp_ne' {M : MS} {a u : Addr} {n : Nat} {xs : List D} (hs : SpAt n M a) (hu : M u = some (.lst xs)) : a ≠ u := fun e => by
  obtain ⟨m, h1, r, s, t, em, _⟩ := hs
  rw [e, hu] at h1; cases h1; cases em
structure RowOk (ns : List Str) (l : List Cell) : Prop where
  ln : l.length = ns.length
  ok : ∀ c ∈ l, CellOk c
theorem RowOk.set {i : Nat} {c : Cell} (h : RowOk ns l) (hc : CellOk c) : RowOk ns (l.set i c) := ⟨by rw [List.length_set]; exact h.ln, fun y hy => by
  rcases List.mem_or_eq_of_mem_set hy with z | z
  · exact h.ok y z
  · rw [z]; exact hc⟩
abbrev OwedL (K : KD) (ns : List Str) (a u : Addr) (n : Nat) (M : MS) : Prop := ∀ (l' : List Cell) M', RowOk ns l' → SpAt n M' a → (∀ c, c ≠ a → c ≠ u → M' c = M c) → K.rt (lineD l') M'
theorem later3 {cs : List Cell} {d1 d2 d3 : Option D} (hc : RowOk ns cs) (hM : M u = some (.lst (cs.map cellD))) (h1 : SpAt n0 M a) (hn : n0 ≤ n) (q : OwedL K ns a u n M) :
    w__law_later_3 T d__law_cell_near d__law_number_near d__law_pull [some (.ref a), d1, d2, d3, x4, some (.ref u), x6, x7] M K := by
  simp [w__law_later_3, s_tup_ref hM]
  exact q cs M hc (h1.mono hn) fun _ _ _ => rfl
theorem set_nat {i : Nat} {k : Nat} (h : i < k) : ixN k (i : Int) = some i := by
  unfold ixN
  rw [if_pos (by omega), if_pos (by omega)]
  simp
theorem set_cell {cs : List Cell} {i : Nat} {c : Cell} : (cs.map cellD).set i (cellD c) = (cs.set i c).map cellD := by rw [List.map_set]
theorem ne_line {a b : List Cell} (q : Q (.bl (!decide (a = b))) M) : neO (lineD a) (lineD b) M Q := ne_em (x := a) (y := b) em_line em_line pd_line (by decide) trivial trivial q
theorem later2 {cs : List Cell} (ok : MeanOk m) (co : ColsOk ns) (hl : RowOk ns l) (hc : RowOk ns cs) (hM : M u = some (.lst (cs.map cellD))) (h1 : SpAt n0 M a) (hn : n0 + 5 ≤ n) (hlim : n ≤ LIM) (q : OwedL K ns a u n M) :
    w__law_later_2 T d__law_cell_near d__law_number_near d__law_pull [some (.ref a), some (.dic (planK ns)), some m.D, some (lineD l), some (.tup (ns.map .str)), some (.ref u), x6, x7] M K := by
  have p30 : CPowW 10 30 := powI (k := 4) (by decide) (by decide) (by decide) (by decide)
  have skip : w__law_later_3 T d__law_cell_near d__law_number_near d__law_pull [some (.ref a), some (.dic (planK ns)), some m.D, some (lineD l), some (.tup (ns.map .str)), some (.ref u), x6, x7] M K := later3 hc hM h1 (by omega) q
  have hau := sp_ne' h1 hM
  simp [w__law_later_2, Mean.D]
  cases hs : m.s with
  | none =>
    simp [stD, inF_non]
    exact later3 (T := T) hc hM h1 (by omega) q
  | some st =>
    by_cases hm : st ∈ ns
    · obtain ⟨i, hi, hil⟩ := idxS_mem hm
      simp [stD, inF_strs, hm, s_tup_ref hM]
      refine ne_line (a := cs) (b := l) ?_
      by_cases e : cs = l
      · rw [decide_eq_true e]
        exact later3 (T := T) hc hM h1 (by omega) q
      · rw [decide_eq_false e]
        refine ⟨ns, st, i, rfl, rfl, hi, ?_⟩
        have hil2 : i < l.length := by rw [hl.ln]; exact hil
        refine item_tup (d := cellD (cellAt l i)) (by unfold cellAt; simp [hil2]) ?_
        have fin : ∀ {M1 : MS} {n1 : Nat} {w : Nat} {d6 d7 : Option D}, w < 10 ^ 30 → SpAt n1 M1 a → n1 ≤ n → Off a M M1 → setItO (.ref u) (.int (i : Nat)) (.int (w : Nat)) M1 fun M3 =>
            w__law_later_3 T d__law_cell_near d__law_number_near d__law_pull [some (D.ref a), some (D.dic (planK ns)), some (D.tup [D.tup (List.map D.str m.fs), D.bl m.b, D.bl m.d, D.str st]), some (lineD l), some (D.tup (List.map D.str ns)), some (D.ref u), d6, d7] M3 K := fun {M1 n1 w d6 d7} hw s1 hn1 o1 => by
          have m1 : M1 u = some (.lst (cs.map cellD)) := by rw [o1 u (Ne.symm hau)]; exact hM
          refine s_setL m1 (set_nat (by rw [List.length_map, hc.ln]; exact hil)) ?_
          have e2 : (cs.map cellD).set i (.int (w : Nat)) = (cs.set i (some w)).map cellD := set_cell (c := some w)
          rw [e2]
          exact later3 (hc.set fun n h => by cases h; exact hw) MS.set_same (set_at s1 hau) hn1 (fun l' M' k1 k2 k3 => q l' M' k1 k2 fun c c1 c2 => by rw [k3 c c1 c2, MS.set_ne c2, o1 c c1])
        cases ho : cellAt l i with
        | none =>
          simp [cellD, isND, plan_shown]
          refine s_dict_tup (ys := []) (kvs := []) rfl ?_
          refine ⟨rfl, [], .inr st, .str st, rfl, rfl, .inr ⟨.int 1, rfl, ?_⟩⟩
          refine ⟨a, rfl, n0, h1, by omega, fun d M1 s1 o1 ⟨w, ew, hw⟩ => ?_⟩
          subst ew
          exact fin hw s1 (by omega) o1
        | some o =>
          simp [cellD, isND, p30]
          by_cases c : (o : Int) = 999999999999999999999999999999
          · simp [c]
            exact q l M hl (h1.mono (by omega)) fun _ _ _ => rfl
          · simp [c, p30]
            refine pull_use h1 (by omega) (by decide) (by decide) fun r M1 hr s1 o1 => ?_
            simp
            have hw2 : ∃ k : Nat, (if (o : Int) + 1 + (r : Int) < 999999999999999999999999999999 then (o : Int) + 1 + (r : Int) else 999999999999999999999999999999) = (k : Int) ∧ k < 10 ^ 30 := by
              by_cases z : (o : Int) + 1 + (r : Int) < 999999999999999999999999999999
              · exact ⟨o + 1 + r, by rw [if_pos z]; omega, by omega⟩
              · exact ⟨999999999999999999999999999999, by rw [if_neg z]; rfl, by decide⟩
            obtain ⟨k, ek, hk⟩ := hw2
            rw [ek]
            exact fin hk s1 (by omega) o1
    · simp [stD, inF_strs, hm]
      exact later3 (T := T) hc hM h1 (by omega) q
theorem p__law_later (ds : List D) (M : MS) (Q : QD) (EQ : EK) (_ : ds.length = 4) (h : d__law_later ds M Q EQ) : w__law_later T d__law_cell_near d__law_number_near d__law_pull (startD N__law_later.length ds) M (endsD T Q EQ) := by
  obtain ⟨a, ns, m, l, rfl, co, ok, hl, ho, n, h1, hn, q⟩ := h
  have h6 := co.hi
  simp [w__law_later, N__law_later, startD, plan_cols, lineD]
  intro u hu
  have hau := sp_ne h1 hu
  simp [w__law_later_1]
  refine ⟨by omega, ?_⟩
  refine forD_rule (fun rest env M2 => ∃ (gs : List Nat) (cs : List Cell) (e6 e7 : Option D), (∀ i ∈ gs, i < ns.length) ∧ rest = gs.map (fun i : Nat => .int (i : Int)) ∧ gs.length ≤ 6 ∧ env = [some (.ref a), some (.dic (planK ns)), some m.D, some (lineD l), some (.tup (ns.map .str)), some (.ref u), e6, e7] ∧ M2 u = some (.lst (cs.map cellD)) ∧ RowOk ns cs ∧ SpAt (n + 90 - 10 * gs.length) M2 a ∧ Off2 a u M M2)
    (fun x xs env M2 Z h hZ => ?_) (fun env M2 h => ?_) _ _ _ ⟨List.range ns.length, l, none, none, fun i hi => List.mem_range.mp hi, ?_, by rw [List.length_range]; exact h6, rfl, MS.set_same, ⟨hl, ho⟩, (set_at h1 hau).mono (by rw [List.length_range]; omega), fun c c1 c2 => by rw [MS.set_ne c2]⟩
  · obtain ⟨gs, cs, e6, e7, hg, hr, h6', rfl, hM, hc, s2, o2⟩ := h
    cases gs with
    | nil => simp at hr
    | cons i gs =>
      rw [List.map_cons] at hr
      injection hr with hx1 hx2
      subst hx1 hx2
      have hi := hg i (List.mem_cons_self ..)
      rw [List.length_cons] at s2 h6'
      have next : ∀ {M3 : MS} {cs' : List Cell} {n3 : Nat}, M3 u = some (.lst (cs'.map cellD)) → RowOk ns cs' → SpAt n3 M3 a → n3 ≤ n + 90 - 10 * gs.length → Off2 a u M M3 → ∀ {e7 : Option D}, Z [some (.ref a), some (.dic (planK ns)), some m.D, some (lineD l), some (.tup (ns.map .str)), some (.ref u), some (.int (i : Int)), e7] M3 := fun {M3 cs' n3} k1 k2 k3 k4 k5 {e7} =>
        hZ _ _ ⟨gs, cs', _, _, fun j hj => hg j (List.mem_cons_of_mem _ hj), rfl, by omega, rfl, k1, k2, k3.mono k4, k5⟩
      have hat : atI (ns.map D.str) (i : Int) = some (.str ns[i]) := at_nat (by simp [hi])
      simp [Mean.D, hat, inF_strs, all_flat_strs]
      have hstay := next hM hc s2 (by omega) o2 (e7 := e7)
      by_cases c : ns[i] ∈ m.fs
      · simp [c]
        refine pull_use s2 (by omega) (by decide) (by decide) fun r M3 hr3 s3 o3 => ?_
        simp
        have o3' : Off2 a u M M3 := fun c h1 h2 => by rw [o3 c h1]; exact o2 c h1 h2
        have m3 : M3 u = some (.lst (cs.map cellD)) := by rw [o3 u (Ne.symm hau)]; exact hM
        by_cases z : r = 0
        · simp [z, hat]
          refine ⟨a, ns, ns[i], rfl, _, s3, by omega, fun d M4 s4 o4 ⟨w, ew, hw⟩ => ?_⟩
          subst ew
          have m4 : M4 u = some (.lst (cs.map cellD)) := by rw [o4 u (Ne.symm hau)]; exact m3
          refine s_setL m4 (set_nat (by rw [List.length_map, hc.ln]; exact hi)) ?_
          rw [set_cell]
          exact next MS.set_same (hc.set hw) (set_at s4 hau) (by omega) (fun c h1 h2 => by rw [MS.set_ne h2, o4 c h1]; exact o3' c h1 h2)
        · simp [z]
          exact next m3 hc s3 (by omega) o3'
      · simp [c]
        exact hstay
  · obtain ⟨gs, cs, e6, e7, hg, hr, h6', rfl, hM, hc, s2, o2⟩ := h
    have : gs = [] := by cases gs with
      | nil => rfl
      | cons g gs => simp at hr
    subst this
    simp at s2
    refine later2 ok co ⟨hl, ho⟩ hc hM s2 (n := n + 100) (by omega) (by omega) fun l' M' k1 k2 k3 => ?_
    refine rt_cv (d' := lineD l') (M' := M'.del u) (Cv.drop del_sub) (q _ _ (del_at k2 hau) (fun c h1 => ?_) ⟨l', rfl, k1.ln, k1.ok⟩)
    by_cases e : c = u
    · rw [e, MS.del_same, hu]
    · rw [MS.del_ne e, k3 c h1 e]; exact o2 c h1 e
  · unfold rangeD
    simp
end
end K49

namespace K49
open PySem PySem.Spec PyProof.Rows L2 G SB TL
section
variable {T : Wd} {cls : List Str} {noA : List (Str × Str)} {M : MS} {Q : QD} {EQ : EK} {K : KD} {a u : Addr} {ns : List Str} {n n0 : Nat} {m : Mean} {l : List Cell} {r : Rw} {x3 x5 x6 x7 x8 x9 x10 x11 : Option D}
abbrev OwedS (K : KD) (ns : List Str) (a u : Addr) (n b : Nat) (M : MS) : Prop := ∀ (r' : Rw) M', RowsOk ns.length r' → r'.length ≤ b → SpAt n M' a → (∀ c, c ≠ a → c ≠ u → M' c = M c) → M' u = some (.dic (rowsK r')) → frzK K.rt (.ref u) M'
abbrev SA (f : Wd → DSp → DSp → DSp → DSp → WS) (T : Wd) : WS := f T d__law_cell_drawn d__law_key d__law_pull d__law_row
theorem spoilt8 {c : Cell} {i : Nat} {k : Int} {d1 d2 d3 d5 d6 d11 : Option D} {b : Nat} (hau : a ≠ u) (ok : RowsOk ns.length r) (hl : r.length ≤ b) (hb : b ≤ 60) (hk : k ∈ keysR r) (hrow : RowOk ns l) (hi : i < ns.length) (h6 : ns.length ≤ 6) (hc : CellOk c) (hM : M u = some (.dic (rowsK r))) (h1 : SpAt n0 M a) (hn : n0 ≤ n) (q : OwedS K ns a u n b M) :
    SA w__law_spoilt_8 T [some (.ref a), d1, d2, d3, some (.ref u), d5, d6, some (.int k), some (lineD l), some (.int (i : Nat)), some (cellD c), d11] M K := by
  have hil : i < l.length := by rw [hrow.ln]; exact hi
  have hll : l.length ≤ 6 := by rw [hrow.ln]; exact h6
  have e1 : G.cutD (l.map cellD) none (some (i : Int)) = (l.take i).map cellD := by rw [cutD_head _ (by rw [List.length_map]; omega), List.map_take]
  have e2 : G.cutD (l.map cellD) (some ((i : Int) + 1)) none = (l.drop (i + 1)).map cellD := by
    have e3 : ((i : Int) + 1) = ((i + 1 : Nat) : Int) := rfl
    rw [e3, cutD_tail _ (by rw [List.length_map]; omega), List.map_drop]
  simp [SA, w__law_spoilt_8, lineD, e1, e2]
  have t1 : (l.take i).length = i := by rw [List.length_take]; omega
  refine ⟨by decide, szLe (by omega), szLe (by omega), ?_⟩
  have row' : RowOk ns (l.take i ++ c :: l.drop (i + 1)) := ⟨by rw [List.length_append, List.length_cons, List.length_take, List.length_drop, ← hrow.ln]; omega, fun y hy => by
    rcases List.mem_append.mp hy with z | z
    · exact hrow.ok y (List.mem_of_mem_take z)
    · rcases List.mem_cons.mp z with z | z
      · rw [z]; exact hc
      · exact hrow.ok y (List.mem_of_mem_drop z)⟩
  refine s_setD hM rfl (by rw [rowsK_len]; exact Nat.lt_of_lt_of_le (show r.length < 100 by omega) (by decide)) ?_
  have e4 : D.tup ((l.take i).map cellD ++ cellD c :: (l.drop (i + 1)).map cellD) = lineD (l.take i ++ c :: l.drop (i + 1)) := by unfold lineD; simp
  have e4' : ∀ {kvs : List (Key × D)}, putKD kvs (.inl k) (D.tup ((l.take i).map cellD ++ cellD c :: (l.drop (i + 1)).map cellD)) = putKD kvs (.inl k) (lineD (l.take i ++ c :: l.drop (i + 1))) := by intro kvs; rw [e4]
  first
  | rw [e4', put_rows]
  | (simp only [List.map_take, List.map_drop] at e4' ⊢; rw [e4', put_rows])
  have h1k : 1 ≤ k := by
    obtain ⟨p, hp, rfl⟩ := List.mem_map.mp hk
    exact ok.ge p hp
  have hpl : (putR r k (l.take i ++ c :: l.drop (i + 1))).length ≤ b := by
    have : (putR r k (l.take i ++ c :: l.drop (i + 1))).length = r.length := by unfold putR; rw [if_pos hk, List.length_map]
    omega
  simp [w__law_spoilt_9]
  exact q _ _ (ok.put h1k row'.ln row'.ok) hpl (set_at (h1.mono hn) hau) (fun c c1 c2 => by rw [MS.set_ne c2]) MS.set_same
theorem spoilt7 {c : Cell} {i way : Nat} {k : Int} {d3 d5 d11 : Option D} {b : Nat} (mo : MeanOk m) (hau : a ≠ u) (ok : RowsOk ns.length r) (hl : r.length ≤ b) (hb : b ≤ 60) (hk : k ∈ keysR r) (hrow : RowOk ns l) (hi : i < ns.length) (h6 : ns.length ≤ 6) (hc : CellOk c) (hM : M u = some (.dic (rowsK r))) (h1 : SpAt n0 M a) (hn : n0 + 1 ≤ n) (hlim : n ≤ LIM) (q : OwedS K ns a u n b M) :
    SA w__law_spoilt_7 T [some (.ref a), some (.tup (ns.map .str)), some m.D, d3, some (.ref u), d5, some (.int (way : Nat)), some (.int k), some (lineD l), some (.int (i : Nat)), some (cellD c), d11] M K := by
  have p30 : CPowW 10 30 := powI (k := 4) (by decide) (by decide) (by decide) (by decide)
  have skip : ∀ {d2 : Option D}, SA w__law_spoilt_8 T [some (.ref a), some (.tup (ns.map .str)), d2, d3, some (.ref u), d5, some (.int (way : Nat)), some (.int k), some (lineD l), some (.int (i : Nat)), some (cellD c), d11] M K := fun {d2} => spoilt8 hau ok hl hb hk hrow hi h6 hc hM h1 (by omega) q
  simp [SA, w__law_spoilt_7, Mean.D]
  by_cases hw : (way : Int) < 4
  · simp [hw]
    cases hs : m.s with
    | none => simp [stD, inF_non]; exact skip
    | some st =>
      by_cases hm : st ∈ ns
      · obtain ⟨j, hj, hjl⟩ := idxS_mem hm
        simp [stD, inF_strs, hm]
        refine ⟨ns, st, j, rfl, rfl, hj, ?_⟩
        have hjl2 : j < l.length := by rw [hrow.ln]; exact hjl
        have hat : atI (l.map cellD) (j : Int) = some (cellD (cellAt l j)) := at_nat (by unfold cellAt; simp [hjl2])
        simp [lineD, hat]
        have fin : ∀ {xs : List D} {d11 : Option D} {R : EK}, xs.length = 5 → (∀ d ∈ xs, ∃ c', d = cellD c' ∧ CellOk c') → d__law_pull [D.ref a, D.int 5] M (fun y M2 => itemO (D.lst xs) y M2 fun d M3 =>
            SA w__law_spoilt_8 T [some (.ref a), some (.tup (ns.map .str)), some (D.tup [D.tup (m.fs.map D.str), D.bl m.b, D.bl m.d, D.str st]), d3, some (.ref u), d5, some (.int (way : Nat)), some (.int k), some (lineD l), some (.int (j : Nat)), some d, d11] M3 K) R := fun {xs d11 R} hx5 hxs => by
          refine pull_use h1 (by omega) (by decide) (by decide) fun y M2 hy s2 o2 => ?_
          refine item_mem (by omega) fun d hd => ?_
          obtain ⟨c', rfl, hc'⟩ := hxs d hd
          exact spoilt8 hau ok hl hb hk hrow hjl h6 hc' (by rw [o2 u (Ne.symm hau)]; exact hM) s2 (by omega) (fun r' M' k1 k2 k3 k4 k5 => q r' M' k1 k2 k3 (fun c c1 c2 => by rw [k4 c c1 c2, o2 c c1]) k5)
        have cell : ∀ z : Int, 0 ≤ z → z < 10 ^ 30 → ∃ c', D.int z = cellD c' ∧ CellOk c' := fun z h0 h1 => ⟨some z.toNat, by show _ = D.int ((z.toNat : Nat) : Int); congr 1; omega, fun n h => by cases h; omega⟩
        have non : ∃ c', D.non = cellD c' ∧ CellOk c' := ⟨none, rfl, fun n h => by cases h⟩
        cases ho : cellAt l j with
        | none =>
          simp [cellD, isND, p30]
          refine ⟨by decide, fin rfl fun d hd => ?_⟩
          simp at hd
          rcases hd with rfl | rfl | rfl | rfl | rfl <;> first | exact non | exact cell _ (by decide) (by decide)
        | some o =>
          have hco : o < 10 ^ 30 := hrow.ok (cellAt l j) (by unfold cellAt; simp [hjl2]) o ho
          simp [cellD, isND, p30]
          refine ⟨by decide, fin rfl fun d hd => ?_⟩
          simp at hd
          rcases hd with rfl | rfl | rfl | rfl | rfl
          · exact non
          · exact cell _ (by split <;> omega) (by split <;> omega)
          · exact cell _ (by split <;> omega) (by split <;> omega)
          · exact cell _ (by omega) (by omega)
          · exact cell _ (by decide) (by decide)
      · simp [stD, inF_strs, hm]
        exact skip
  · simp [hw]
    exact skip
theorem p__law_spoilt (ds : List D) (M : MS) (Q : QD) (EQ : EK) (_ : ds.length = 4) (h : d__law_spoilt ds M Q EQ) : SA w__law_spoilt T (startD N__law_spoilt.length ds) M (endsD T Q EQ) := by
  obtain ⟨a, ns, m, r, rfl, co, mo, ok, hl, n, h1, hn, q⟩ := h
  have h6 := co.hi
  have hsl : (sortI (keysR r)).length = r.length := by rw [(sortI_perm _).length_eq]; unfold keysR; rw [List.length_map]
  simp [SA, w__law_spoilt, N__law_spoilt, startD]
  refine ⟨_, rfl, .inl ⟨rowsK r, rfl, fun u hu => ?_⟩⟩
  have hau := sp_ne h1 hu
  have owed : OwedS (endsD T Q EQ) ns a u (n + 60) (r.length + 1) (M.set u (.dic (rowsK r))) := fun r' M' k1 k2 k3 k4 k5 => by
    refine ⟨u, rowsK r', rfl, k5, rt_ok (q _ _ (del_at k3 hau) (fun c hc => ?_) ⟨r', rfl, k1, k2⟩)⟩
    by_cases e : c = u
    · rw [e, MS.del_same, hu]
    · rw [MS.del_ne e, k4 c hc e, MS.set_ne e]
  rw [keys_rows]
  refine s_sorted_ints ?_
  simp [w__law_spoilt_1]
  refine pull_use (set_at h1 hau) (by omega) (by decide) (by decide) fun way M1 hway s1 o1 => ?_
  have m1 : M1 u = some (.dic (rowsK r)) := by rw [o1 u (Ne.symm hau), MS.set_same]
  have owed1 : OwedS (endsD T Q EQ) ns a u (n + 60) (r.length + 1) M1 := fun r' M' k1 k2 k3 k4 k5 => owed r' M' k1 k2 k3 (fun c c1 c2 => by rw [k4 c c1 c2, o1 c c1]) k5
  have first : ∀ {R1 R2 : EK}, d__law_row [D.ref a, D.int (ns.length : Nat)] M1 (fun x M2 => d__law_key [D.ref a, D.ref u] M2 (fun y M3 => setItO (.ref u) y x M3 fun M4 => frzK (endsD T Q EQ).rt (.ref u) M4) R1) R2 := by
    intro R1 R2
    refine ⟨a, ns.length, rfl, by omega, _, s1, by omega, fun d M2 s2 o2 ⟨l, el, hll, hlo⟩ => ?_⟩
    subst el
    have m2 : M2 u = some (.dic (rowsK r)) := by rw [o2 u (Ne.symm hau)]; exact m1
    refine ⟨a, .ref u, r, rfl, .inr ⟨u, rfl, m2⟩, ok.ge, by omega, _, s2, by omega, fun d M3 s3 o3 ⟨key, ek, hk1⟩ => ?_⟩
    subst ek
    have m3 : M3 u = some (.dic (rowsK r)) := by rw [o3 u (Ne.symm hau)]; exact m2
    refine s_setD m3 rfl (by rw [rowsK_len]; exact Nat.lt_of_lt_of_le (show r.length < 100 by omega) (by decide)) ?_
    rw [put_rows]
    exact owed1 _ _ (ok.put hk1 hll hlo) (put_len r key l) (set_at (s3.mono (by omega)) hau) (fun c c1 c2 => by rw [MS.set_ne c2, o3 c c1, o2 c c1]) MS.set_same
  simp [w__law_spoilt_2]
  by_cases w0 : way = 0
  · rw [if_pos w0]
    exact first (R1 := fun _ _ => True) (R2 := fun _ _ => True)
  rw [if_neg w0]
  refine eq_em (e := fun ns : List Int => .lst (ns.map .int)) (f := fun ns : List Int => .lst (ns.map .int)) (x := sortI (keysR r)) (y := []) (em_lst em_int) (em_lst em_int) (pd_lst pd_int) (by decide) (fun _ _ => trivial) (fun _ _ => trivial) ?_
  by_cases hk : sortI (keysR r) = []
  · rw [decide_eq_true hk]
    exact first (R1 := fun _ _ => True) (R2 := fun _ _ => True)
  rw [decide_eq_false hk]
  have hp : 0 < (sortI (keysR r)).length := List.length_pos_iff.mpr hk
  show SA w__law_spoilt_3 T _ M1 (endsD T Q EQ)
  simp [SA, w__law_spoilt_3]
  refine pull_use s1 (by omega) (by omega) (by omega) fun y M2 hy s2 o2 => ?_
  have hy2 : y < ((sortI (keysR r)).map D.int).length := by rw [List.length_map]; omega
  simp
  rw [at_nat (List.getElem?_eq_getElem hy2)]
  have hmem := List.getElem_mem hy2
  generalize ((sortI (keysR r)).map D.int)[y] = dk at hmem ⊢
  obtain ⟨k, hks, rfl⟩ := List.mem_map.mp hmem
  have hkm : k ∈ keysR r := (sortI_perm _).mem_iff.mp hks
  have m2 : M2 u = some (.dic (rowsK r)) := by rw [o2 u (Ne.symm hau)]; exact m1
  obtain ⟨l, hg⟩ : ∃ l, getR r k = some l := by
    cases g : getR r k with
    | none => exact absurd hkm (getR_none.mp g)
    | some l => exact ⟨l, rfl⟩
  have hml := getR_some hg
  have hrow : RowOk ns l := ⟨ok.ln _ hml, ok.ok _ hml⟩
  have hit : ∀ {R : QD}, itemO (.ref u) (.int k) M2 R = R (lineD l) M2 := by
    intro R
    rw [s_item_dic m2 (show keyD (.int k) = some (.inl k) from rfl), val_rows, hg]
    rfl
  simp [w__law_spoilt_4]
  by_cases w1 : (way : Int) = 1
  · simp [w1]
    obtain ⟨b1, b2⟩ := s_dpop (Q := fun _ M3 => frzK (endsD T Q EQ).rt (.ref u) M3) m2 (y := .int k) (k := .inl k) rfl (d := lineD l) (by rw [val_rows, hg]; rfl) (by
      rw [drop_rows]
      refine owed1 _ _ (ok.drop k) (Nat.le_succ_of_le (List.length_filter_le ..)) (set_at (s2.mono (by omega)) hau) (fun c c1 c2 => by rw [MS.set_ne c2, o2 c c1]) MS.set_same)
    exact ⟨b1, b2⟩
  · simp [w1, w__law_spoilt_5, hit]
    refine pull_use s2 (by omega) (by have := co.lo; omega) (by omega) fun i M3 hi s3 o3 => ?_
    simp [w__law_spoilt_6]
    refine ⟨a, rfl, _, s3, by omega, fun d M4 s4 o4 ⟨c, ec, hc⟩ => ?_⟩
    subst ec
    have m4 : M4 u = some (.dic (rowsK r)) := by rw [o4 u (Ne.symm hau), o3 u (Ne.symm hau)]; exact m2
    exact spoilt7 (T := T) mo hau ok (Nat.le_succ _) (by omega) hkm hrow (by omega) h6 hc m4 s4 (n := n + 60) (by omega) hn (fun r' M' k1 k2 k3 k4 k5 => owed1 r' M' k1 k2 k3 (fun c c1 c2 => by rw [k4 c c1 c2, o4 c c1, o3 c c1, o2 c c1]) k5)
end
end K49

namespace K49
open PySem PySem.Spec PyProof.Rows L2 G SB TL
section
variable {T : Wd} {cls : List Str} {noA : List (Str × Str)} {M : MS} {Q : QD} {EQ : EK} {K : KD} {a : Addr} {ns : List Str} {m : Mean} {e lt : Rw} {x0 x1 x2 x3 x4 x5 x6 x7 x8 x9 x10 x11 x12 x13 x14 x15 x16 : Option D}
abbrev mkMean : DSp := newS "Meanwhile" d_Meanwhile_init [.u 0, .u 1, .u 2, .u 3] 4 [.tup [], .bl false, .bl false, .non]
abbrev App (f : Wd → DSp → DSp → DSp → DSp → DSp → DSp → DSp → DSp → DSp → DSp → DSp → DSp → DSp → DSp → DSp → DSp → WS) (T : Wd) : WS :=
  f T mkMean d_Meanwhile_allows d_Store_rows mkStore d__law_key d__law_later (d__law_like 5) d__law_made d__law_may d__law_mean d__law_model d__law_names d__law_pull d__law_row d__law_spoilt d__law_told
theorem keep {x b : Addr} {y : MO} {v : Str × List (Str × D)} (h : insD M (.ref x) = some v) (hb : M b = none) : insD (M.set b y) (.ref x) = some v := by
  have e : b ≠ x := fun z => by
    have h : insMO (M x) = _ := h
    rw [← z, hb] at h; cases h
  show insMO _ = _
  rw [MS.set_ne (Ne.symm e)]; exact h
theorem keepL {x b : Addr} {y : MO} {xs : List D} {v : Str × List (Str × D)} (h : insD M (.ref x) = some v) (hb : M b = some (.lst xs)) : insD (M.set b y) (.ref x) = some v := by
  have e : b ≠ x := fun z => by
    have h : insMO (M x) = _ := h
    rw [← z, hb] at h; cases h
  show insMO _ = _
  rw [MS.set_ne (Ne.symm e)]; exact h
theorem keepO {x a : Addr} {M' : MS} {n : Nat} {v : Str × List (Str × D)} (h : insD M (.ref x) = some v) (hs : SpAt n M a) (o : Off a M M') : insD M' (.ref x) = some v := by
  have e : x ≠ a := fun z => by
    obtain ⟨m, hm, r, s, t, em, _⟩ := hs
    have h : insMO (M x) = _ := h
    rw [z, hm, em] at h; cases h
  show insMO _ = _
  rw [o x e]; exact h
/-- what the walk holds on to -/
structure Held (M : MS) (ns : List Str) (m : Mean) (e : Rw) (w f : Addr) : Prop where
  what : insD M (.ref w) = some (("Meanwhile" : Str), [(("told" : Str), m.D)])
  first : StoreAt M (.ref f) ns (told e)
theorem Held.set {w f b : Addr} {y : MO} (h : Held M ns m e w f) (hb : M b = none) : Held (M.set b y) ns m e w f := ⟨keep h.what hb, keep h.first hb⟩
theorem Held.setL {w f b : Addr} {y : MO} {xs : List D} (h : Held M ns m e w f) (hb : M b = some (.lst xs)) : Held (M.set b y) ns m e w f := ⟨keepL h.what hb, keepL h.first hb⟩
theorem like_to {n : Nat} {x y : D} {E : EK} (h : Like n x y) (q : Q (.bl true) M) : d__law_like n [x, y] M Q E := ⟨x, y, rfl, h, q⟩
theorem rt_c {d : D} (hQ : ∀ M', Q d M') : (endsD T Q EQ).rt d M := rt_ok (hQ M)
theorem allows_to {x m y z ns ks m1 m2} {E : EK} {M : MS} {Q : QD} (hx : insD M x = some (("Meanwhile" : Str), [(("told" : Str), Mean.D m)])) (ok : MeanOk m) (hy : StoreAt M y ns m1) (hz : StoreAt M z ks m2) (cn : ColsOk ns) (ck : ColsOk ks) (r1 : RowsOk ns.length m1) (r2 : RowsOk ks.length m2) (l1 : m1.length ≤ 100) (l2 : m2.length ≤ 100)
    (q : Q (.bl (decide (ns = ks) && allowsB m ns m1 m2)) M) : d_Meanwhile_allows [x, y, z] M Q E := ⟨x, m, y, z, ns, ks, m1, m2, rfl, hx, ok, hy, hz, cn, ck, r1, r2, l1, l2, q⟩
structure RwOk (ns : List Str) (r : Rw) : Prop where
  ok : RowsOk ns.length r
  le : r.length ≤ 50
theorem RwOk.told_le {r : Rw} (h : RwOk ns r) : (told r).length ≤ 100 := by rw [told_len]; have := h.le; omega
/-- a store's own judgement and the law's -/
theorem like_may {w f b : Addr} {o1 o2 : Rw} {E1 : EK} {R : QD} (co : ColsOk ns) (mo : MeanOk m) (hw : insD M (.ref w) = some (("Meanwhile" : Str), [(("told" : Str), m.D)])) (h1 : StoreAt M (.ref f) ns (told o1)) (h2 : StoreAt M (.ref b) ns (told o2)) (r1 : RwOk ns o1) (r2 : RwOk ns o2) (q : R (.bl true) M) :
    d_Meanwhile_allows [.ref w, .ref f, .ref b] M (fun x M1 => d__law_may [.tup (ns.map .str), m.D, .dic (rowsK o1), .dic (rowsK o2)] M1 (fun y M2 => d__law_like 5 [x, y] M2 R E1) E1) E1 := by
  refine allows_to hw mo h1 h2 co co r1.ok.told r2.ok.told r1.told_le r2.told_le ?_
  refine ⟨m, ns, o1, o2, rfl, mo, co, r1.ok, r2.ok, by have := r1.le; omega, by have := r2.le; omega, ?_⟩
  rw [allows_may mo ns r1.ok.nd r2.ok.nd]
  simp
  exact like_to (Like.sca rfl) q
theorem like_told {r : Rw} (hn : ns.length ≤ 6) (h : RwOk ns r) : Like 5 (.lst ((told r).map pairR)) (toldL r) := by
  refine Like.lst (by rw [List.length_map, told_len]; exact szLe (by have := h.le; omega)) (LikeL.map fun p hp => ?_)
  refine Like.tup (xs := [.int p.1, lineD p.2]) (ys := [.int p.1, lineD p.2]) rfl rfl (by show (2 : Nat) ≤ sizeLine; decide) ⟨Like.sca rfl, Like.refl (like_line 2 (szLe ?_)), trivial⟩
  have := h.ok.told.ln p hp
  omega
theorem p13 (hQ : ∀ M', Q (.bl true) M') : App w__law_right_at_13 T [x0, x1, x2, x3, x4, x5, x6, x7, x8, x9, x10, x11, x12, x13, x14, some (.lst [.bl true, .bl false, .bl false]), x16] M (endsD T Q EQ) := by
  simp [App, w__law_right_at_13]
  exact ⟨by decide, like_to (Like.refl rfl) (rt_c hQ)⟩
theorem p12 {w f c d : Addr} {ks : List Str} (co : ColsOk ns) (ck : ColsOk ks) (hne : ks ≠ ns) (mo : MeanOk m) (hr : RwOk ns e) (h : Held M ns m e w f) (hc : StoreAt M (.ref c) ks []) (hd : insD M (.ref d) = some (("Meanwhile" : Str), [(("told" : Str), (⟨ns, true, true, none⟩ : Mean).D)])) (hQ : ∀ M', Q (.bl true) M') :
    App w__law_right_at_12 T [x0, x1, x2, x3, x4, x5, x6, some (.ref w), some (.ref f), x9, x10, x11, x12, some (.ref c), some (.ref d), x15, x16] M (endsD T Q EQ) := by
  have fo : MeanOk ⟨ns, true, true, none⟩ := ⟨co.nm, co.nd, by have := co.hi; show ns.length ≤ 7; omega, fun n h => by cases h⟩
  have hne1 : ¬ (ns = ks) := fun z => hne z.symm
  simp [App, w__law_right_at_12]
  refine s_meth1 h.what (by kernel_rfl) ?_
  simp
  refine allows_to h.what mo h.first h.first co co hr.ok.told hr.ok.told hr.told_le hr.told_le ?_
  refine s_meth1 hd (by kernel_rfl) ?_
  simp
  refine allows_to hd fo h.first hc co ck hr.ok.told RowsOk.nil hr.told_le (by simp) ?_
  refine s_meth1 hd (by kernel_rfl) ?_
  simp
  refine allows_to hd fo hc h.first ck co RowsOk.nil hr.ok.told (by simp) hr.told_le ?_
  rw [allows_self m ns hr.ok.told.nd]
  simp [hne1, hne]
  refine ⟨by decide, ?_⟩
  exact p13 (T := T) hQ
theorem p11 {w f c : Addr} {ks : List Str} (co : ColsOk ns) (ck : ColsOk ks) (hne : ks ≠ ns) (mo : MeanOk m) (hr : RwOk ns e) (h : Held M ns m e w f) (hc : StoreAt M (.ref c) ks []) (hQ : ∀ M', Q (.bl true) M') :
    App w__law_right_at_11 T [x0, some (.tup (ns.map .str)), x2, x3, x4, x5, x6, some (.ref w), some (.ref f), x9, x10, x11, x12, some (.ref c), x14, x15, x16] M (endsD T Q EQ) := by
  simp [App, w__law_right_at_11]
  intro d hd
  refine ⟨d, ⟨ns, true, true, none⟩, rfl, MS.set_same, ⟨co.nm, co.nd, by have := co.hi; show ns.length ≤ 7; omega, fun n h => by cases h⟩, ?_⟩
  rw [MS.set_set]
  simp
  exact p12 (T := T) co ck hne mo hr (h.set hd) (keep hc hd) ins_at hQ
theorem rev_ne {α : Type} {xs : List α} (nd : xs.Nodup) (h : 1 < xs.length) : xs.reverse ≠ xs := fun z => by
  have h0 : xs.reverse[0]? = xs[0]? := by rw [z]
  rw [List.getElem?_reverse (by omega)] at h0
  have l1 : xs.length - 1 - 0 < xs.length := by omega
  have l2 : 0 < xs.length := by omega
  rw [List.getElem?_eq_getElem l1, List.getElem?_eq_getElem l2] at h0
  exact List.pairwise_iff_getElem.mp nd 0 (xs.length - 1 - 0) l2 l1 (by omega) (Option.some.inj h0).symm
theorem others_ok : ColsOk ["other", "another"] := ⟨by decide +kernel, by decide +kernel, by decide, by decide⟩
theorem p10 {w f : Addr} (co : ColsOk ns) (mo : MeanOk m) (hr : RwOk ns e) (h : Held M ns m e w f) (hQ : ∀ M', Q (.bl true) M') :
    App w__law_right_at_10 T [x0, some (.tup (ns.map .str)), x2, x3, x4, x5, x6, some (.ref w), some (.ref f), x9, x10, x11, x12, x13, x14, x15, x16] M (endsD T Q EQ) := by
  have fin : ∀ {ks : List Str}, ColsOk ks → ks ≠ ns → mkStore [.tup (ks.map .str)] M (fun d M1 => App w__law_right_at_11 T [x0, some (.tup (ns.map .str)), x2, x3, x4, x5, x6, some (.ref w), some (.ref f), x9, x10, x11, x12, some d, x14, x15, x16] M1 (endsD T Q EQ)) (fun _ _ => True) := fun {ks} ck hne => by
    simp
    intro c hc
    refine st_to ck ?_
    rw [MS.set_set]
    simp
    exact p11 (T := T) co ck hne mo hr (h.set hc) ins_at hQ
  simp [App, w__law_right_at_10]
  by_cases hl : (1 : Int) < ns.length
  · simp [hl]
    have e1 : (ns.map D.str).reverse = ns.reverse.map D.str := by rw [List.map_reverse]
    have z := fin (ks := ns.reverse) ⟨by rw [List.all_reverse]; exact co.nm, (List.reverse_perm ns).nodup_iff.mpr co.nd, by rw [List.length_reverse]; exact co.lo, by rw [List.length_reverse]; exact co.hi⟩ (rev_ne co.nd (by omega))
    simp at z
    exact z
  · simp [hl]
    have hne : (["other", "another"] : List Str) ≠ ns := fun z => by
      have := congrArg List.length z
      simp at this
      omega
    have z := fin others_ok hne
    simp at z
    exact ⟨by decide, z⟩
end
end K49

namespace K49
open PySem PySem.Spec PyProof.Rows L2 G SB TL
section
variable {T : Wd} {cls : List Str} {noA : List (Str × Str)} {M : MS} {Q : QD} {EQ : EK} {K : KD} {a : Addr} {ns : List Str} {m : Mean} {e lt : Rw} {x0 x1 x2 x3 x4 x5 x6 x7 x8 x9 x10 x11 x12 x13 x14 x15 x16 : Option D}
theorem made_to {o : Rw} {ks : List Int} {E : EK} (co : ColsOk ns) (h : RwOk ns o) (hp : ks.Perm (keysR o)) (q : ∀ a, M a = none → Q (.ref a) (M.set a (.ins "Store" (storeF ns (told o))))) : d__law_made [.tup (ns.map .str), .dic (rowsK o), .lst (ks.map .int)] M Q E := ⟨ns, o, ks, rfl, co, h.ok, h.le, hp, q⟩
theorem told_to {o : Rw} {E : EK} (h : RwOk ns o) (q : Q (toldL o) M) : d__law_told [.dic (rowsK o)] M Q E := ⟨o, rfl, h.ok.nd, by have := h.le; omega, q⟩
theorem rows_to {x : D} {o : Rw} {E : EK} (h : StoreAt M x ns o) (q : Q (.lst (o.map pairR)) M) : d_Store_rows [x] M Q E := ⟨x, ns, o, rfl, h, q⟩
theorem p9 {w f b : Addr} {rs : List Rw} (co : ColsOk ns) (mo : MeanOk m) (hr : RwOk ns e) (hlt : RwOk ns lt) (h : Held M ns m e w f) (hb : M b = some (.lst (rs.map fun r => .dic (rowsK r)))) (hrs : ∀ r ∈ rs, RwOk ns r) (hlen : rs.length ≤ 10) (hQ : ∀ M', Q (.bl true) M') :
    App w__law_right_at_9 T [x0, some (.tup (ns.map .str)), some m.D, x3, some (.dic (rowsK e)), some (.dic (rowsK lt)), x6, some (.ref w), some (.ref f), some (.ref b), x10, x11, x12, x13, x14, x15, x16] M (endsD T Q EQ) := by
  have h6 := co.hi
  simp [App, w__law_right_at_9]
  rw [s_add_refl hb]
  refine ⟨by decide, by rw [List.length_map]; exact szLe (show rs.length + 1 ≤ 300000 by omega), ?_⟩
  simp
  have e1 : (rs.map fun r => D.dic (rowsK r)) ++ [D.dic (rowsK lt)] = (rs ++ [lt]).map fun r => .dic (rowsK r) := by simp
  rw [e1]
  have hall : ∀ r ∈ rs ++ [lt], RwOk ns r := fun r hr => by
    rcases List.mem_append.mp hr with z | z
    · exact hrs r z
    · rw [List.mem_singleton.mp z]; exact hlt
  refine forD_rule (fun rest env M2 => ∃ (gs : List Rw) (y10 y11 y12 : Option D), rest = gs.map (fun r => .dic (rowsK r)) ∧ (∀ r ∈ gs, RwOk ns r) ∧ env = [x0, some (.tup (ns.map .str)), some m.D, x3, some (.dic (rowsK e)), some (.dic (rowsK lt)), x6, some (.ref w), some (.ref f), some (.ref b), y10, y11, y12, x13, x14, x15, x16] ∧ Held M2 ns m e w f)
    (fun x xs env M2 Z h2 hZ => ?_) (fun env M2 h2 => ?_) _ _ _ ⟨rs ++ [lt], x10, x11, x12, rfl, hall, rfl, h⟩
  · obtain ⟨gs, y10, y11, y12, hg, hgs, rfl, hh⟩ := h2
    cases gs with
    | nil => simp at hg
    | cons o gs =>
      rw [List.map_cons] at hg
      injection hg with hx1 hx2
      subst hx1 hx2
      have ho := hgs o (List.mem_cons_self ..)
      simp
      rw [keys_rows]
      refine ⟨_, rfl, ?_⟩
      rw [← List.map_reverse]
      refine made_to co ho (List.reverse_perm _) fun s hs => ?_
      have hh1 := hh.set (y := .ins "Store" (storeF ns (told o))) hs
      have hso : StoreAt (M2.set s (.ins "Store" (storeF ns (told o)))) (.ref s) ns (told o) := ins_at
      refine s_meth1 hh1.what (by kernel_rfl) ?_
      simp
      refine like_may co mo hh1.what hh1.first hso hr ho ?_
      refine ⟨by decide, fun c hc => ?_⟩
      have hh2 := hh1.set (y := .lst [.bl true]) hc
      have hso2 : StoreAt ((M2.set s (.ins "Store" (storeF ns (told o)))).set c (.lst [.bl true])) (.ref s) ns (told o) := keep hso hc
      refine ⟨by show bmMO _ = _; rw [MS.set_same]; rfl, ?_⟩
      refine s_meth1 hh2.what (by kernel_rfl) ?_
      simp
      refine like_may co mo hh2.what hso2 hh2.first ho hr ?_
      refine (s_append MS.set_same (by show 1 < sizeLine; decide) ?_).2
      rw [MS.set_set]
      simp
      have hh3 := hh1.set (y := .lst [.bl true, .bl true]) hc
      have hso3 : StoreAt ((M2.set s (.ins "Store" (storeF ns (told o)))).set c (.lst [.bl true, .bl true])) (.ref s) ns (told o) := keep hso hc
      refine ⟨by show bmMO _ = _; rw [MS.set_same]; rfl, ?_⟩
      refine s_meth1 hh3.first (by kernel_rfl) ?_
      simp
      refine rows_to hh3.first ?_
      refine told_to hr ?_
      refine like_to (like_told h6 hr) ?_
      simp
      refine s_meth1 hso3 (by kernel_rfl) ?_
      simp
      refine rows_to hso3 ?_
      refine told_to ho ?_
      refine like_to (like_told h6 ho) ?_
      refine (s_append MS.set_same (by show 2 < sizeLine; decide) ?_).2
      rw [MS.set_set]
      simp
      have hin : ∀ {R : QD} {M3 : MS}, M3 c = some (.lst [.bl true, .bl true, .bl true]) → R (.bl false) M3 → inO false (.bl false) (.ref c) M3 R := fun {R M3} h r => by
        rw [s_in_ref h]
        exact ⟨rfl, rfl, r⟩
      refine hin MS.set_same ?_
      simp
      exact hZ _ _ ⟨gs, _, _, _, rfl, fun r hr => hgs r (List.mem_cons_of_mem _ hr), rfl, hh1.set hc⟩
  · obtain ⟨gs, y10, y11, y12, hg, hgs, rfl, hh⟩ := h2
    exact p10 (T := T) co mo hr hh hQ
theorem spoilt_to {E : EK} {r : Rw} {n : Nat} (co : ColsOk ns) (mo : MeanOk m) (hr : RowsOk ns.length r) (hl : r.length ≤ 40) (h1 : SpAt n M a) (hn : n + 60 ≤ LIM) (q : ∀ (r' : Rw) M', RowsOk ns.length r' → r'.length ≤ r.length + 1 → SpAt (n + 60) M' a → Off a M M' → Q (.dic (rowsK r')) M') : d__law_spoilt [.ref a, .tup (ns.map .str), m.D, .dic (rowsK r)] M Q E :=
  ⟨a, ns, m, r, rfl, co, mo, hr, hl, n, h1, hn, fun d M' s o ⟨r', ed, k1, k2⟩ => by rw [ed]; exact q r' M' k1 k2 s o⟩
theorem p8 {w f b : Addr} {rs : List Rw} {n : Nat} (co : ColsOk ns) (mo : MeanOk m) (hr : RowsOk ns.length e) (hel : e.length ≤ 30) (hlt : RwOk ns lt) (h : Held M ns m e w f) (h1 : SpAt n M a) (hn : n + 60 ≤ LIM) (hb : M b = some (.lst (rs.map fun r => .dic (rowsK r)))) (hrs : ∀ r ∈ rs, RwOk ns r) (hlen : rs.length ≤ 9) (hQ : ∀ M', Q (.bl true) M') :
    App w__law_right_at_8 T [some (.ref a), some (.tup (ns.map .str)), some m.D, x3, some (.dic (rowsK e)), some (.dic (rowsK lt)), x6, some (.ref w), some (.ref f), some (.ref b), x10, x11, x12, x13, x14, x15, x16] M (endsD T Q EQ) := by
  have hab := sp_ne' h1 hb
  simp [App, w__law_right_at_8]
  refine ⟨by show bmMO (M b) = _; rw [hb]; rfl, ?_⟩
  refine spoilt_to co mo hr (by omega) h1 hn fun r' M' k1 k2 s1 o1 => ?_
  have hb1 : M' b = some (.lst (rs.map fun r => .dic (rowsK r))) := by rw [o1 b (Ne.symm hab)]; exact hb
  refine (s_append hb1 (Nat.lt_of_lt_of_le (show (rs.map fun r => D.dic (rowsK r)).length < 60 by rw [List.length_map]; omega) (by decide)) ?_).2
  have e1 : (rs.map fun r => D.dic (rowsK r)) ++ [D.dic (rowsK r')] = (rs ++ [r']).map fun r => .dic (rowsK r) := by simp
  rw [e1]
  refine p9 (T := T) co mo ⟨hr, by omega⟩ hlt ⟨keepL (keepO h.what h1 o1) hb1, keepL (keepO h.first h1 o1) hb1⟩ MS.set_same (fun r hm => ?_) (by rw [List.length_append, List.length_singleton]; omega) hQ
  rcases List.mem_append.mp hm with z | z
  · exact hrs r z
  · rw [List.mem_singleton.mp z]; exact ⟨k1, by omega⟩
theorem p7 {w f : Addr} {n : Nat} (co : ColsOk ns) (mo : MeanOk m) (hr : RowsOk ns.length e) (hel : e.length ≤ 30) (hlt : RowsOk ns.length lt) (hll : lt.length ≤ 30) (h : Held M ns m e w f) (h1 : SpAt n M a) (hn : n + 240 ≤ LIM) (hQ : ∀ M', Q (.bl true) M') :
    App w__law_right_at_7 T [some (.ref a), some (.tup (ns.map .str)), some m.D, x3, some (.dic (rowsK e)), some (.dic (rowsK lt)), x6, some (.ref w), some (.ref f), x9, x10, x11, x12, x13, x14, x15, x16] M (endsD T Q EQ) := by
  simp [App, w__law_right_at_7]
  refine ⟨by decide, ?_⟩
  refine lcD_rule (fun rest acc M' => ∃ rs : List Rw, acc = rs.map (fun r => .dic (rowsK r)) ∧ rs.length + rest.length = 3 ∧ (∀ r ∈ rs, RwOk ns r) ∧ SpAt (n + 60 * rs.length) M' a ∧ Off a M M') (fun x xs acc M' Z h2 hZ => ?_) (fun acc M' h2 => ?_) _ _ _ ⟨[], rfl, by rw [rangeD_len]; rfl, by simp, h1, Off.refl⟩
  · obtain ⟨rs, rfl, hl, hrs, s1, o1⟩ := h2
    rw [List.length_cons] at hl
    simp
    refine spoilt_to co mo hlt (by omega) s1 (by omega) fun r' M2 k1 k2 s2 o2 => ?_
    refine ⟨Nat.lt_of_lt_of_le (show rs.length < 60 by omega) (by decide), hZ _ _ ⟨rs ++ [r'], by simp, by rw [List.length_append, List.length_singleton]; omega, fun r hm => ?_, by rw [List.length_append, List.length_singleton]; exact s2.mono (by omega), o1.trans o2⟩⟩
    rcases List.mem_append.mp hm with z | z
    · exact hrs r z
    · rw [List.mem_singleton.mp z]; exact ⟨k1, by omega⟩
  · obtain ⟨rs, rfl, hl, hrs, s1, o1⟩ := h2
    simp at hl
    simp
    refine ⟨szLe (by omega), fun b hb => ?_⟩
    have e1 : D.dic (rowsK lt) :: (rs.map fun r => D.dic (rowsK r)) = (lt :: rs).map fun r => .dic (rowsK r) := rfl
    rw [e1]
    have hh : Held M' ns m e w f := ⟨keepO h.what h1 o1, keepO h.first h1 o1⟩
    refine p8 (T := T) co mo hr hel ⟨hlt, by omega⟩ (hh.set hb) (set_at s1 (sp_ne s1 hb)) (by omega) MS.set_same (fun r hm => ?_) (by rw [List.length_cons]; omega) hQ
    rcases List.mem_cons.mp hm with z | z
    · rw [z]; exact ⟨hlt, by omega⟩
    · exact hrs r z
theorem p6 {w : Addr} {n : Nat} (co : ColsOk ns) (mo : MeanOk m) (hr : RowsOk ns.length e) (hel : e.length ≤ 30) (hlt : RowsOk ns.length lt) (hll : lt.length ≤ 30) (hw : insD M (.ref w) = some (("Meanwhile" : Str), [(("told" : Str), m.D)])) (h1 : SpAt n M a) (hn : n + 240 ≤ LIM) (hQ : ∀ M', Q (.bl true) M') :
    App w__law_right_at_6 T [some (.ref a), some (.tup (ns.map .str)), some m.D, x3, some (.dic (rowsK e)), some (.dic (rowsK lt)), x6, some (.ref w), x8, x9, x10, x11, x12, x13, x14, x15, x16] M (endsD T Q EQ) := by
  simp [App, w__law_right_at_6]
  rw [keys_rows]
  refine made_to co ⟨hr, by omega⟩ (List.Perm.refl _) fun f hf => ?_
  exact p7 (T := T) co mo hr hel hlt hll ⟨keep hw hf, ins_at⟩ (set_at h1 (sp_ne h1 hf)) hn hQ
theorem p5 {u : Addr} {n : Nat} (co : ColsOk ns) (mo : MeanOk m) (hr : RowsOk ns.length e) (hel : e.length ≤ 30) (hlt : RowsOk ns.length lt) (hll : lt.length ≤ 30) (hu : M u = some (.dic (rowsK lt))) (hau : a ≠ u) (h1 : SpAt n M a) (hn : n + 240 ≤ LIM) (hQ : ∀ M', Q (.bl true) M') :
    App w__law_right_at_5 T [some (.ref a), some (.tup (ns.map .str)), some m.D, x3, some (.dic (rowsK e)), some (.ref u), x6, x7, x8, x9, x10, x11, x12, x13, x14, x15, x16] M (endsD T Q EQ) := by
  simp [App, w__law_right_at_5]
  refine s_frzD rfl hu ?_
  simp [Mean.D]
  intro w hw
  refine ⟨w, m, rfl, MS.set_same, mo, ?_⟩
  rw [MS.set_set]
  simp
  exact p6 (T := T) co mo hr hel hlt hll ins_at (set_at (del_at h1 hau) (sp_ne (del_at h1 hau) hw)) hn hQ
end
end K49

namespace K49
open PySem PySem.Spec PyProof.Rows L2 G SB TL
section
variable {T : Wd} {cls : List Str} {noA : List (Str × Str)} {M : MS} {Q : QD} {EQ : EK} {K : KD} {a : Addr} {ns : List Str} {m : Mean} {e lt : Rw} {x0 x1 x2 x3 x4 x5 x6 x7 x8 x9 x10 x11 x12 x13 x14 x15 x16 : Option D}
theorem p4 {u : Addr} {n : Nat} (co : ColsOk ns) (mo : MeanOk m) (hr : RowsOk ns.length e) (hel : e.length ≤ 30) (hlt : RowsOk ns.length lt) (hll : lt.length ≤ 29) (hu : M u = some (.dic (rowsK lt))) (hau : a ≠ u) (h1 : SpAt n M a) (hn : n + 300 ≤ LIM) (hQ : ∀ M', Q (.bl true) M') :
    App w__law_right_at_4 T [some (.ref a), some (.tup (ns.map .str)), some m.D, x3, some (.dic (rowsK e)), some (.ref u), x6, x7, x8, x9, x10, x11, x12, x13, x14, x15, x16] M (endsD T Q EQ) := by
  have h6 := co.hi
  simp [App, w__law_right_at_4, Mean.D]
  by_cases hb : m.b = true
  · simp [hb]
    refine ⟨a, ns.length, rfl, by omega, _, h1, by omega, fun d M2 s2 o2 ⟨l, el, hl1, hl2⟩ => ?_⟩
    subst el
    have m2 : M2 u = some (.dic (rowsK lt)) := by rw [o2 u (Ne.symm hau)]; exact hu
    refine ⟨a, .ref u, lt, rfl, .inr ⟨u, rfl, m2⟩, hlt.ge, by omega, _, s2, by omega, fun d M3 s3 o3 ⟨key, ek, hk1⟩ => ?_⟩
    subst ek
    have m3 : M3 u = some (.dic (rowsK lt)) := by rw [o3 u (Ne.symm hau)]; exact m2
    refine s_setD m3 rfl (by rw [rowsK_len]; exact Nat.lt_of_lt_of_le (show lt.length < 60 by omega) (by decide)) ?_
    rw [put_rows]
    have := put_len lt key l
    have z := p5 (T := T) (EQ := EQ) (x3 := x3) (x6 := x6) (x7 := x7) (x8 := x8) (x9 := x9) (x10 := x10) (x11 := x11) (x12 := x12) (x13 := x13) (x14 := x14) (x15 := x15) (x16 := x16) (M := M3.set u (.dic (rowsK (putR lt key l)))) co mo hr hel (hlt.put hk1 hl1 hl2) (by omega) MS.set_same hau (set_at s3 hau) (by omega) hQ
    simpa [Mean.D, hb] using z
  · have hb' : m.b = false := by simpa using hb
    simp [hb']
    have z := p5 (T := T) (EQ := EQ) (x3 := x3) (x6 := x6) (x7 := x7) (x8 := x8) (x9 := x9) (x10 := x10) (x11 := x11) (x12 := x12) (x13 := x13) (x14 := x14) (x15 := x15) (x16 := x16) (M := M) co mo hr hel hlt (by omega) hu hau h1 (by omega) hQ
    simpa [Mean.D, hb'] using z
theorem p3 {u : Addr} {n : Nat} (co : ColsOk ns) (mo : MeanOk m) (hr : RowsOk ns.length e) (hel : e.length ≤ 6) (hu : M u = some (.dic [])) (hau : a ≠ u) (h1 : SpAt n M a) (hn : n + 1000 ≤ LIM) (hQ : ∀ M', Q (.bl true) M') :
    App w__law_right_at_3 T [some (.ref a), some (.tup (ns.map .str)), some m.D, some (.dic (planK ns)), some (.dic (rowsK e)), some (.ref u), x6, x7, x8, x9, x10, x11, x12, x13, x14, x15, x16] M (endsD T Q EQ) := by
  have h6 := co.hi
  simp [App, w__law_right_at_3]
  rw [keys_int]
  refine forD_rule (fun rest env M2 => ∃ (gs : List (Int × List Cell)) (r : Rw) (y6 : Option D), rest = gs.map (fun p => .int p.1) ∧ (∀ p ∈ gs, p ∈ e) ∧ env = [some (.ref a), some (.tup (ns.map .str)), some m.D, some (.dic (planK ns)), some (.dic (rowsK e)), some (.ref u), y6, x7, x8, x9, x10, x11, x12, x13, x14, x15, x16] ∧
      M2 u = some (.dic (rowsK r)) ∧ RowsOk ns.length r ∧ r.length + gs.length ≤ 6 ∧ SpAt (n + 610 - 101 * gs.length) M2 a)
    (fun x xs env M2 Z h2 hZ => ?_) (fun env M2 h2 => ?_) _ _ _ ⟨e, [], x6, rfl, fun _ h => h, rfl, hu, RowsOk.nil, by simpa using hel, h1.mono (by omega)⟩
  · obtain ⟨gs, r, y6, hg, hgs, rfl, hM, ok, hl, s2⟩ := h2
    cases gs with
    | nil => simp at hg
    | cons p gs =>
      rw [List.map_cons] at hg
      injection hg with hx1 hx2
      subst hx1 hx2
      have hp := hgs p (List.mem_cons_self ..)
      rw [List.length_cons] at hl s2
      have next : ∀ {M3 : MS} {r' : Rw} {n3 : Nat}, M3 u = some (.dic (rowsK r')) → RowsOk ns.length r' → r'.length ≤ r.length + 1 → SpAt n3 M3 a → n3 ≤ n + 610 - 101 * gs.length → Z [some (.ref a), some (.tup (ns.map .str)), some m.D, some (.dic (planK ns)), some (.dic (rowsK e)), some (.ref u), some (.int p.1), x7, x8, x9, x10, x11, x12, x13, x14, x15, x16] M3 := fun {M3 r' n3} k1 k2 k3 k4 k5 =>
        hZ _ _ ⟨gs, r', _, rfl, fun q hq => hgs q (List.mem_cons_of_mem _ hq), rfl, k1, k2, by omega, k4.mono k5⟩
      have hv : valD (rowsK e) (.inl p.1) = some (lineD p.2) := by rw [val_rows, getR_mem hr.nd (show (p.1, p.2) ∈ e from hp)]; rfl
      have doit : ∀ {M3 : MS} {n3 : Nat} {R : EK}, M3 u = some (.dic (rowsK r)) → SpAt n3 M3 a → n3 + 100 ≤ n + 610 - 101 * gs.length → d__law_later [.ref a, .dic (planK ns), m.D, lineD p.2] M3 (fun d M4 => setItO (.ref u) (.int p.1) d M4 fun M5 => Z [some (.ref a), some (.tup (ns.map .str)), some m.D, some (.dic (planK ns)), some (.dic (rowsK e)), some (.ref u), some (.int p.1), x7, x8, x9, x10, x11, x12, x13, x14, x15, x16] M5) R := fun {M3 n3 R} k1 k2 k3 => by
        refine ⟨a, ns, m, p.2, rfl, co, mo, hr.ln p hp, hr.ok p hp, _, k2, by omega, fun d M4 s4 o4 ⟨l', el, hl1, hl2⟩ => ?_⟩
        subst el
        have m4 : M4 u = some (.dic (rowsK r)) := by rw [o4 u (Ne.symm hau)]; exact k1
        refine s_setD m4 rfl (by rw [rowsK_len]; exact Nat.lt_of_lt_of_le (show r.length < 60 by omega) (by decide)) ?_
        rw [put_rows]
        exact next MS.set_same (ok.put (hr.ge p hp) hl1 hl2) (put_len ..) (set_at s4 hau) k3
      simp [Mean.D, hv]
      by_cases hd : m.d = true
      · simp [hd]
        refine pull_use s2 (by omega) (by decide) (by decide) fun y M3 hy s3 o3 => ?_
        have m3 : M3 u = some (.dic (rowsK r)) := by rw [o3 u (Ne.symm hau)]; exact hM
        simp
        by_cases hy0 : 0 < y
        · simp [hy0]
          have z := doit (R := fun _ _ => True) m3 s3 (by omega)
          simp only [Mean.D, hd] at z
          exact z
        · simp [hy0]
          have z := next m3 ok (Nat.le_succ _) s3 (by omega)
          simp only [Mean.D, hd] at z
          exact z
      · have hd' : m.d = false := by simpa using hd
        simp [hd']
        have z := doit (R := fun _ _ => True) hM s2 (by omega)
        simp only [Mean.D, hd'] at z
        exact z
  · obtain ⟨gs, r, y6, hg, hgs, rfl, hM, ok, hl, s2⟩ := h2
    have : gs = [] := by cases gs with
      | nil => rfl
      | cons g gs => simp at hg
    subst this
    simp at hl s2
    exact p4 (T := T) co mo hr (by omega) ok (by omega) hM hau s2 (by omega) hQ
theorem plan_mk (ns : List Str) : mergeD [] [((.inr "columns" : Key), D.tup (ns.map .str)), (.inr "shown", .tup []), (.inr "tests", .tup [])] = planK ns := by kernel_rfl
theorem p__law_right_at (ds : List D) (M : MS) (Q : QD) (EQ : EK) (_ : ds.length = 1) (h : d__law_right_at ds M Q EQ) : App w__law_right_at T (startD N__law_right_at.length ds) M (endsD T Q EQ) := by
  obtain ⟨a, rfl, hs, hQ⟩ := h
  simp -implicitDefEqProofs [App, w__law_right_at, N__law_right_at, startD]
  refine pull_use hs (by decide) (by decide) (by decide) fun r M1 hr s1 o1 => ?_
  simp
  refine ⟨a, 1 + r, rfl, by omega, by omega, 1, s1, by unfold LIM; omega, fun x M2 s2 o2 hx => ?_⟩
  obtain ⟨ns, rfl, hl, hn, hd⟩ := hx
  have co : ColsOk ns := ⟨hn, hd, by omega, by omega⟩
  simp -implicitDefEqProofs [w__law_right_at_1]
  refine ⟨a, ns, rfl, co, _, s2, by unfold LIM; omega, fun d M3 s3 o3 ⟨m, em, mo⟩ => ?_⟩
  subst em
  intro b hb
  refine ⟨by decide, ?_⟩
  simp -implicitDefEqProofs [asT, plan_mk, w__law_right_at_2]
  refine ⟨a, ns.length, 6, rfl, co.hi, by decide, _, s3, by unfold LIM; omega, fun d M4 s4 o4 ⟨e, ed, er, el⟩ => ?_⟩
  subst ed
  intro u hu
  have hau := sp_ne s4 hu
  refine ⟨by decide, ?_⟩
  exact p3 (T := T) co mo er el MS.set_same hau (set_at s4 hau) (by unfold LIM; omega) hQ
theorem p_law (ds : List D) (M : MS) (Q : QD) (EQ : EK) (_ : ds.length = 1) (h : d_law ds M Q EQ) : w_law T d__law_right_at d__law_spool (startD N_law.length ds) M (endsD T Q EQ) := by
  obtain ⟨ns, rfl, hl, hQ⟩ := h
  simp [w_law, N_law, startD]
  generalize hj : (if 1 < if 12 < (ns.length : Int) then (12 : Int) else (ns.length : Int) then if 12 < (ns.length : Int) then (12 : Int) else (ns.length : Int) else 1) = j
  have hb : 1 ≤ j ∧ j ≤ 12 := by
    by_cases h10 : 12 < (ns.length : Int)
    · simp [h10] at hj; omega
    · simp [h10] at hj
      by_cases h1 : 1 < (ns.length : Int)
      · rw [if_pos (by omega)] at hj; omega
      · rw [if_neg (by omega)] at hj; omega
  refine ⟨by omega, by omega, ?_⟩
  refine lcD_rule (fun rest acc M' => (∀ x ∈ rest, ∃ i : Nat, x = .int i ∧ i ≤ 100) ∧ acc = List.replicate acc.length (.bl true) ∧ acc.length + rest.length ≤ 20) (fun x xs acc M' Z ⟨h1, h2, h3⟩ hZ => ?_) (fun acc M' ⟨h1, h2, h3⟩ => ?_) _ _ _ ⟨fun x hx => ?_, rfl, by rw [rangeD_len]; simp; omega⟩
  · unfold rangeD at hx
    obtain ⟨i, hi, rfl⟩ := List.mem_map.mp hx
    exact ⟨i, by simp, by have := List.mem_range.mp hi; omega⟩
  · obtain ⟨i, rfl, hi⟩ := h1 x (List.mem_cons_self ..)
    rw [List.length_cons] at h3
    simp
    refine ⟨ns, i, rfl, hi, fun a M2 ha hs o => ?_⟩
    refine ⟨a, rfl, hs, fun M3 => ⟨Nat.lt_of_lt_of_le (show acc.length < 21 by omega) (by decide), hZ _ _ ⟨fun y hy => h1 y (List.mem_cons_of_mem _ hy), ?_, by rw [List.length_append, List.length_singleton]; omega⟩⟩⟩
    rw [List.length_append, List.length_singleton, List.replicate_succ', ← h2]
  · rw [h2]
    have e := all_bl (M := M') (Q := (endsD T Q EQ).rt) (fun _ : Unit => true) (List.replicate acc.length ())
    rw [List.map_replicate] at e
    rw [e]
    have : (List.replicate acc.length ()).all (fun _ => true) = true := List.all_eq_true.mpr fun _ _ => rfl
    rw [this]
    exact rt_ok (hQ _)
end
end K49

/-! K49: the assembly, printed by asm.py -/
namespace K49
open PySem PySem.Spec PyProof.Rows L2 G SB
theorem kw_of {K : PySem.W.Frag} {x qual : Str} {st : Stmt} {f : Addr} {fd : FuncData} {ps ks : List Str} {np : Nat} (F : Fun K x qual st f fd)
    (h : ∀ (kV doc pm : Value) (an : Option Addr) (cdv ct : Value) (us ws : List Value), us.length = np → ws.length = ks.length → bindArgs (PySem.W.fnOf x qual (defArgs st) (defBody st) (defScope st) .none kV doc pm an cdv ct) ⟨us, ks.zip ws⟩ = pure (ps.zip (us ++ ws))) : KBn K fd ps np ks (fun us ws => us ++ ws) (fun vs zs => vs ++ zs) := by
  obtain ⟨oc, od, kV, doc, pm, an, cdv, ct, osl, rfl, lk, hcd⟩ := F.ex
  exact ⟨fun s us ws _ h1 h2 => BindsTo.of_eq (h kV doc pm an cdv ct us ws h1 h2), fun r1 r2 => r1.append r2⟩
theorem exm_pair {K : PySem.W.Frag} {D S : Addr} {b : Bool} (h1 : PySem.W.subIn K (.ref S) (.type "BaseException") = some true) (h2 : PySem.W.isClsIn K S = true) (h3 : PySem.W.typeIn K (.ref S) = some (.type "type")) (h4 : PySem.W.subIn K (.ref D) (.ref S) = some b) :
    PySem.W.exmOne K (.ref D) (.ref S) = some b := by
  unfold PySem.W.exmOne
  rw [h1]
  unfold PySem.W.kitCls
  have e : (PySem.W.clsIn K S).isSome = true := h2
  simp only [e, h3]
  simpa using h4
abbrev clsN : List Str := [("Store" : Str), ("Meanwhile" : Str)]
abbrev noAN : List (Str × Str) := [(("Store" : Str), ("heads" : Str)), (("Store" : Str), ("kept" : Str)), (("Meanwhile" : Str), ("told" : Str))]
theorem law_ok {T : Wd} (E : Env T) (P : Pure T clsN noAN)
    {f__law_spool : Addr} {fd__law_spool : FuncData} (F__law_spool : Fun T.K "_law_spool" "_law_spool" s__law_spool f__law_spool fd__law_spool)
    (m__law_spool : T.mg "_law_spool" = some (.ref f__law_spool))
    {f__law_pull : Addr} {fd__law_pull : FuncData} (F__law_pull : Fun T.K "_law_pull" "_law_pull" s__law_pull f__law_pull fd__law_pull)
    (m__law_pull : T.mg "_law_pull" = some (.ref f__law_pull))
    {f__law_names : Addr} {fd__law_names : FuncData} (F__law_names : Fun T.K "_law_names" "_law_names" s__law_names f__law_names fd__law_names)
    (m__law_names : T.mg "_law_names" = some (.ref f__law_names))
    {f__law_some : Addr} {fd__law_some : FuncData} (F__law_some : Fun T.K "_law_some" "_law_some" s__law_some f__law_some fd__law_some)
    (m__law_some : T.mg "_law_some" = some (.ref f__law_some))
    {f__law_mean : Addr} {fd__law_mean : FuncData} (F__law_mean : Fun T.K "_law_mean" "_law_mean" s__law_mean f__law_mean fd__law_mean)
    (m__law_mean : T.mg "_law_mean" = some (.ref f__law_mean))
    {f__law_key : Addr} {fd__law_key : FuncData} (F__law_key : Fun T.K "_law_key" "_law_key" s__law_key f__law_key fd__law_key)
    (m__law_key : T.mg "_law_key" = some (.ref f__law_key))
    {f__law_cell_drawn : Addr} {fd__law_cell_drawn : FuncData} (F__law_cell_drawn : Fun T.K "_law_cell_drawn" "_law_cell_drawn" s__law_cell_drawn f__law_cell_drawn fd__law_cell_drawn)
    (m__law_cell_drawn : T.mg "_law_cell_drawn" = some (.ref f__law_cell_drawn))
    {f__law_row : Addr} {fd__law_row : FuncData} (F__law_row : Fun T.K "_law_row" "_law_row" s__law_row f__law_row fd__law_row)
    (m__law_row : T.mg "_law_row" = some (.ref f__law_row))
    {f__law_model : Addr} {fd__law_model : FuncData} (F__law_model : Fun T.K "_law_model" "_law_model" s__law_model f__law_model fd__law_model)
    (m__law_model : T.mg "_law_model" = some (.ref f__law_model))
    {f__law_number_near : Addr} {fd__law_number_near : FuncData} (F__law_number_near : Fun T.K "_law_number_near" "_law_number_near" s__law_number_near f__law_number_near fd__law_number_near)
    (m__law_number_near : T.mg "_law_number_near" = some (.ref f__law_number_near))
    {f__law_cell_near : Addr} {fd__law_cell_near : FuncData} (F__law_cell_near : Fun T.K "_law_cell_near" "_law_cell_near" s__law_cell_near f__law_cell_near fd__law_cell_near)
    (m__law_cell_near : T.mg "_law_cell_near" = some (.ref f__law_cell_near))
    {f__law_later : Addr} {fd__law_later : FuncData} (F__law_later : Fun T.K "_law_later" "_law_later" s__law_later f__law_later fd__law_later)
    (m__law_later : T.mg "_law_later" = some (.ref f__law_later))
    {f_is_name : Addr} {fd_is_name : FuncData} (F_is_name : Fun T.K "is_name" "is_name" s_is_name f_is_name fd_is_name)
    (m_is_name : T.mg "is_name" = some (.ref f_is_name))
    {f_are_distinct : Addr} {fd_are_distinct : FuncData} (F_are_distinct : Fun T.K "are_distinct" "are_distinct" s_are_distinct f_are_distinct fd_are_distinct)
    (m_are_distinct : T.mg "are_distinct" = some (.ref f_are_distinct))
    {f_are_names : Addr} {fd_are_names : FuncData} (F_are_names : Fun T.K "are_names" "are_names" s_are_names f_are_names fd_are_names)
    (m_are_names : T.mg "are_names" = some (.ref f_are_names))
    {f_Meanwhile_init : Addr} {fd_Meanwhile_init : FuncData} {e15x0 : Addr} (F_Meanwhile_init : L2.FunD T.K "__init__" "Meanwhile.__init__" (defArgs s_Meanwhile_init) (defBody s_Meanwhile_init) (defScope s_Meanwhile_init) [.ref e15x0, .bl false, .bl false, .non] [] f_Meanwhile_init fd_Meanwhile_init) (dc_Meanwhile_init : ConstsD T [.ref e15x0, .bl false, .bl false, .non] [.tup [], .bl false, .bl false, .non])
    (mk_Meanwhile : Mk T.K (T.adr "Meanwhile") f_Meanwhile_init)
    {f_are_columns : Addr} {fd_are_columns : FuncData} (F_are_columns : Fun T.K "are_columns" "are_columns" s_are_columns f_are_columns fd_are_columns)
    (m_are_columns : T.mg "are_columns" = some (.ref f_are_columns))
    {f_Store_init : Addr} {fd_Store_init : FuncData} {e17x0 : Addr} (F_Store_init : L2.FunD T.K "__init__" "Store.__init__" (defArgs s_Store_init) (defBody s_Store_init) (defScope s_Store_init) [.ref e17x0] [] f_Store_init fd_Store_init) (dc_Store_init : ConstsD T [.ref e17x0] [.tup []])
    (mk_Store : Mk T.K (T.adr "Store") f_Store_init)
    {f_is_whole : Addr} {fd_is_whole : FuncData} (F_is_whole : Fun T.K "is_whole" "is_whole" s_is_whole f_is_whole fd_is_whole)
    (m_is_whole : T.mg "is_whole" = some (.ref f_is_whole))
    {f_is_key : Addr} {fd_is_key : FuncData} (F_is_key : Fun T.K "is_key" "is_key" s_is_key f_is_key fd_is_key)
    (m_is_key : T.mg "is_key" = some (.ref f_is_key))
    {f_is_number : Addr} {fd_is_number : FuncData} (F_is_number : Fun T.K "is_number" "is_number" s_is_number f_is_number fd_is_number)
    (m_is_number : T.mg "is_number" = some (.ref f_is_number))
    {f_is_cell : Addr} {fd_is_cell : FuncData} (F_is_cell : Fun T.K "is_cell" "is_cell" s_is_cell f_is_cell fd_is_cell)
    (m_is_cell : T.mg "is_cell" = some (.ref f_is_cell))
    {f_is_row : Addr} {fd_is_row : FuncData} (F_is_row : Fun T.K "is_row" "is_row" s_is_row f_is_row fd_is_row)
    (m_is_row : T.mg "is_row" = some (.ref f_is_row))
    {f_Store_setitem : Addr} {fd_Store_setitem : FuncData} (F_Store_setitem : Fun T.K "__setitem__" "Store.__setitem__" s_Store_setitem f_Store_setitem fd_Store_setitem)
    (ns_Store_setitem : PySem.W.noSeq T.K (T.adr "Store") = true) (fi_Store_setitem : PySem.W.findIn T.K (.ref (T.adr "Store")) "__setitem__" = some (some (.ref f_Store_setitem))) (fn_Store_setitem : PySem.W.isFn T.K (.ref f_Store_setitem) = true)
    {f__law_made : Addr} {fd__law_made : FuncData} (F__law_made : Fun T.K "_law_made" "_law_made" s__law_made f__law_made fd__law_made)
    (m__law_made : T.mg "_law_made" = some (.ref f__law_made))
    {f__law_spoilt : Addr} {fd__law_spoilt : FuncData} (F__law_spoilt : Fun T.K "_law_spoilt" "_law_spoilt" s__law_spoilt f__law_spoilt fd__law_spoilt)
    (m__law_spoilt : T.mg "_law_spoilt" = some (.ref f__law_spoilt))
    {f_Store_columns : Addr} {fd_Store_columns : FuncData} (F_Store_columns : Fun T.K "columns" "Store.columns" s_Store_columns f_Store_columns fd_Store_columns)
    (me_Store_columns : Meth T.K (T.adr "Store") "columns" f_Store_columns)
    {f_Store_rows : Addr} {fd_Store_rows : FuncData} (F_Store_rows : Fun T.K "rows" "Store.rows" s_Store_rows f_Store_rows fd_Store_rows)
    (me_Store_rows : Meth T.K (T.adr "Store") "rows" f_Store_rows)
    {f_is_later : Addr} {fd_is_later : FuncData} (F_is_later : Fun T.K "is_later" "is_later" s_is_later f_is_later fd_is_later)
    (m_is_later : T.mg "is_later" = some (.ref f_is_later))
    {f_may_become : Addr} {fd_may_become : FuncData} (F_may_become : Fun T.K "may_become" "may_become" s_may_become f_may_become fd_may_become)
    (m_may_become : T.mg "may_become" = some (.ref f_may_become))
    {f_Meanwhile_allows : Addr} {fd_Meanwhile_allows : FuncData} (F_Meanwhile_allows : Fun T.K "allows" "Meanwhile.allows" s_Meanwhile_allows f_Meanwhile_allows fd_Meanwhile_allows)
    (me_Meanwhile_allows : Meth T.K (T.adr "Meanwhile") "allows" f_Meanwhile_allows)
    {f__law_row_may : Addr} {fd__law_row_may : FuncData} (F__law_row_may : Fun T.K "_law_row_may" "_law_row_may" s__law_row_may f__law_row_may fd__law_row_may)
    (m__law_row_may : T.mg "_law_row_may" = some (.ref f__law_row_may))
    {f__law_may : Addr} {fd__law_may : FuncData} (F__law_may : Fun T.K "_law_may" "_law_may" s__law_may f__law_may fd__law_may)
    (m__law_may : T.mg "_law_may" = some (.ref f__law_may))
    {f__law_like : Addr} {fd__law_like : FuncData} (F__law_like : Fun T.K "_law_like" "_law_like" s__law_like f__law_like fd__law_like)
    (m__law_like : T.mg "_law_like" = some (.ref f__law_like))
    {f__law_told : Addr} {fd__law_told : FuncData} (F__law_told : Fun T.K "_law_told" "_law_told" s__law_told f__law_told fd__law_told)
    (m__law_told : T.mg "_law_told" = some (.ref f__law_told))
    {f__law_right_at : Addr} {fd__law_right_at : FuncData} (F__law_right_at : Fun T.K "_law_right_at" "_law_right_at" s__law_right_at f__law_right_at fd__law_right_at)
    (m__law_right_at : T.mg "_law_right_at" = some (.ref f__law_right_at))
    {f_law : Addr} {fd_law : FuncData} (F_law : Fun T.K "law" "law" s_law f_law fd_law)
    (m_law : T.mg "law" = some (.ref f_law))
    (cl_Store : Cls T.K (T.adr "Store"))
    (cl_Meanwhile : Cls T.K (T.adr "Meanwhile")) :
    G.FnD T 8 f_law fd_law ["_law_script"] d_law := by
  have b__law_spool := F__law_spool.binds (ps := ["_law_script", "_law_at"]) fun _ _ _ _ _ _ us hl => match us, hl with | [_, _], _ => rfl
  have G__law_spool : G.FnD T 1 f__law_spool fd__law_spool ["_law_script", "_law_at"] d__law_spool := def_rule F__law_spool sc__law_spool (j__law_spool E ) (p__law_spool )
  have c__law_spool_2 : ∀ lv, 1 ≤ lv → CalOk T lv "_law_spool" d__law_spool 2 [] := fun lv h => ⟨Callee.all G__law_spool F__law_spool.kp b__law_spool, h, m__law_spool, rfl, rfl, rfl⟩
  have b__law_pull := F__law_pull.binds (ps := ["_law_spool_here", "_law_below"]) fun _ _ _ _ _ _ us hl => match us, hl with | [_, _], _ => rfl
  have G__law_pull : G.FnD T 1 f__law_pull fd__law_pull ["_law_spool_here", "_law_below"] d__law_pull := def_rule F__law_pull sc__law_pull (j__law_pull E ) (p__law_pull )
  have c__law_pull_2 : ∀ lv, 1 ≤ lv → CalOk T lv "_law_pull" d__law_pull 2 [] := fun lv h => ⟨Callee.all G__law_pull F__law_pull.kp b__law_pull, h, m__law_pull, rfl, rfl, rfl⟩
  have b__law_names := F__law_names.binds (ps := ["_law_spool_here", "_law_many"]) fun _ _ _ _ _ _ us hl => match us, hl with | [_, _], _ => rfl
  have G__law_names : G.FnD T 2 f__law_names fd__law_names ["_law_spool_here", "_law_many"] d__law_names := def_rule F__law_names sc__law_names (j__law_names E (c__law_pull_2 _ (by decide))) (p__law_names )
  have c__law_names_2 : ∀ lv, 2 ≤ lv → CalOk T lv "_law_names" d__law_names 2 [] := fun lv h => ⟨Callee.all G__law_names F__law_names.kp b__law_names, h, m__law_names, rfl, rfl, rfl⟩
  have b__law_some := F__law_some.binds (ps := ["_law_spool_here", "_law_names_here", "_law_out_of"]) fun _ _ _ _ _ _ us hl => match us, hl with | [_, _, _], _ => rfl
  have G__law_some : G.FnD T 2 f__law_some fd__law_some ["_law_spool_here", "_law_names_here", "_law_out_of"] d__law_some := def_rule F__law_some sc__law_some (j__law_some E (c__law_pull_2 _ (by decide))) (p__law_some )
  have c__law_some_3 : ∀ lv, 2 ≤ lv → CalOk T lv "_law_some" d__law_some 3 [] := fun lv h => ⟨Callee.all G__law_some F__law_some.kp b__law_some, h, m__law_some, rfl, rfl, rfl⟩
  have b__law_mean := F__law_mean.binds (ps := ["_law_spool_here", "_law_columns"]) fun _ _ _ _ _ _ us hl => match us, hl with | [_, _], _ => rfl
  have G__law_mean : G.FnD T 3 f__law_mean fd__law_mean ["_law_spool_here", "_law_columns"] d__law_mean := def_rule F__law_mean sc__law_mean (j__law_mean E (c__law_some_3 _ (by decide)) (c__law_pull_2 _ (by decide))) (p__law_mean )
  have c__law_mean_2 : ∀ lv, 3 ≤ lv → CalOk T lv "_law_mean" d__law_mean 2 [] := fun lv h => ⟨Callee.all G__law_mean F__law_mean.kp b__law_mean, h, m__law_mean, rfl, rfl, rfl⟩
  have b__law_key := F__law_key.binds (ps := ["_law_spool_here", "_law_present"]) fun _ _ _ _ _ _ us hl => match us, hl with | [_, _], _ => rfl
  have G__law_key : G.FnD T 2 f__law_key fd__law_key ["_law_spool_here", "_law_present"] d__law_key := def_rule F__law_key sc__law_key (j__law_key E (c__law_pull_2 _ (by decide))) (p__law_key )
  have c__law_key_2 : ∀ lv, 2 ≤ lv → CalOk T lv "_law_key" d__law_key 2 [] := fun lv h => ⟨Callee.all G__law_key F__law_key.kp b__law_key, h, m__law_key, rfl, rfl, rfl⟩
  have b__law_cell_drawn := F__law_cell_drawn.binds (ps := ["_law_spool_here"]) fun _ _ _ _ _ _ us hl => match us, hl with | [_], _ => rfl
  have G__law_cell_drawn : G.FnD T 2 f__law_cell_drawn fd__law_cell_drawn ["_law_spool_here"] d__law_cell_drawn := def_rule F__law_cell_drawn sc__law_cell_drawn (j__law_cell_drawn E (c__law_pull_2 _ (by decide))) (p__law_cell_drawn )
  have c__law_cell_drawn_1 : ∀ lv, 2 ≤ lv → CalOk T lv "_law_cell_drawn" d__law_cell_drawn 1 [] := fun lv h => ⟨Callee.all G__law_cell_drawn F__law_cell_drawn.kp b__law_cell_drawn, h, m__law_cell_drawn, rfl, rfl, rfl⟩
  have b__law_row := F__law_row.binds (ps := ["_law_spool_here", "_law_many"]) fun _ _ _ _ _ _ us hl => match us, hl with | [_, _], _ => rfl
  have G__law_row : G.FnD T 3 f__law_row fd__law_row ["_law_spool_here", "_law_many"] d__law_row := def_rule F__law_row sc__law_row (j__law_row E (c__law_cell_drawn_1 _ (by decide))) (p__law_row )
  have c__law_row_2 : ∀ lv, 3 ≤ lv → CalOk T lv "_law_row" d__law_row 2 [] := fun lv h => ⟨Callee.all G__law_row F__law_row.kp b__law_row, h, m__law_row, rfl, rfl, rfl⟩
  have b__law_model := F__law_model.binds (ps := ["_law_spool_here", "_law_many", "_law_most"]) fun _ _ _ _ _ _ us hl => match us, hl with | [_, _, _], _ => rfl
  have G__law_model : G.FnD T 4 f__law_model fd__law_model ["_law_spool_here", "_law_many", "_law_most"] d__law_model := def_rule F__law_model sc__law_model (j__law_model E (c__law_pull_2 _ (by decide)) (c__law_key_2 _ (by decide)) (c__law_row_2 _ (by decide))) (p__law_model )
  have c__law_model_3 : ∀ lv, 4 ≤ lv → CalOk T lv "_law_model" d__law_model 3 [] := fun lv h => ⟨Callee.all G__law_model F__law_model.kp b__law_model, h, m__law_model, rfl, rfl, rfl⟩
  have b__law_number_near := F__law_number_near.binds (ps := ["_law_spool_here", "_law_grain"]) fun _ _ _ _ _ _ us hl => match us, hl with | [_, _], _ => rfl
  have G__law_number_near : G.FnD T 2 f__law_number_near fd__law_number_near ["_law_spool_here", "_law_grain"] d__law_number_near := def_rule F__law_number_near sc__law_number_near (j__law_number_near E (c__law_pull_2 _ (by decide))) (p__law_number_near )
  have c__law_number_near_2 : ∀ lv, 2 ≤ lv → CalOk T lv "_law_number_near" d__law_number_near 2 [] := fun lv h => ⟨Callee.all G__law_number_near F__law_number_near.kp b__law_number_near, h, m__law_number_near, rfl, rfl, rfl⟩
  have b__law_cell_near := F__law_cell_near.binds (ps := ["_law_spool_here", "_law_plan", "_law_name"]) fun _ _ _ _ _ _ us hl => match us, hl with | [_, _, _], _ => rfl
  have G__law_cell_near : G.FnD T 3 f__law_cell_near fd__law_cell_near ["_law_spool_here", "_law_plan", "_law_name"] d__law_cell_near := def_rule F__law_cell_near sc__law_cell_near (j__law_cell_near E (c__law_pull_2 _ (by decide)) (c__law_number_near_2 _ (by decide))) (p__law_cell_near )
  have c__law_cell_near_3 : ∀ lv, 3 ≤ lv → CalOk T lv "_law_cell_near" d__law_cell_near 3 [] := fun lv h => ⟨Callee.all G__law_cell_near F__law_cell_near.kp b__law_cell_near, h, m__law_cell_near, rfl, rfl, rfl⟩
  have b__law_later := F__law_later.binds (ps := ["_law_spool_here", "_law_plan", "_law_mean_here", "_law_row_here"]) fun _ _ _ _ _ _ us hl => match us, hl with | [_, _, _, _], _ => rfl
  have G__law_later : G.FnD T 4 f__law_later fd__law_later ["_law_spool_here", "_law_plan", "_law_mean_here", "_law_row_here"] d__law_later := def_rule F__law_later sc__law_later (j__law_later E (c__law_pull_2 _ (by decide)) (c__law_cell_near_3 _ (by decide)) (c__law_number_near_2 _ (by decide))) (p__law_later )
  have c__law_later_4 : ∀ lv, 4 ≤ lv → CalOk T lv "_law_later" d__law_later 4 [] := fun lv h => ⟨Callee.all G__law_later F__law_later.kp b__law_later, h, m__law_later, rfl, rfl, rfl⟩
  have b_is_name := F_is_name.binds (ps := ["thing"]) fun _ _ _ _ _ _ us hl => match us, hl with | [_], _ => rfl
  have G_is_name : G.FnD T 1 f_is_name fd_is_name ["thing"] d_is_nameX := def_rule F_is_name sc_is_name (j_is_name E ) (p_is_name P)
  have c_is_name_1 : ∀ lv, 1 ≤ lv → CalOk T lv "is_name" d_is_nameX 1 [] := fun lv h => ⟨Callee.all G_is_name F_is_name.kp b_is_name, h, m_is_name, rfl, rfl, rfl⟩
  have b_are_distinct := F_are_distinct.binds (ps := ["things"]) fun _ _ _ _ _ _ us hl => match us, hl with | [_], _ => rfl
  have G_are_distinct : G.FnD T 1 f_are_distinct fd_are_distinct ["things"] d_are_distinct := def_rule F_are_distinct sc_are_distinct (j_are_distinct E ) (p_are_distinct )
  have c_are_distinct_1 : ∀ lv, 1 ≤ lv → CalOk T lv "are_distinct" d_are_distinct 1 [] := fun lv h => ⟨Callee.all G_are_distinct F_are_distinct.kp b_are_distinct, h, m_are_distinct, rfl, rfl, rfl⟩
  have b_are_names := F_are_names.binds (ps := ["thing"]) fun _ _ _ _ _ _ us hl => match us, hl with | [_], _ => rfl
  have G_are_names : G.FnD T 2 f_are_names fd_are_names ["thing"] d_are_names := def_rule F_are_names sc_are_names (j_are_names E (c_is_name_1 _ (by decide)) (c_are_distinct_1 _ (by decide))) (p_are_names P)
  have c_are_names_1 : ∀ lv, 2 ≤ lv → CalOk T lv "are_names" d_are_names 1 [] := fun lv h => ⟨Callee.all G_are_names F_are_names.kp b_are_names, h, m_are_names, rfl, rfl, rfl⟩
  have G_Meanwhile_init : G.FnD T 3 f_Meanwhile_init fd_Meanwhile_init ["self", "fields", "born", "died", "stamp"] d_Meanwhile_init := def_ruleD F_Meanwhile_init sc_Meanwhile_init (j_Meanwhile_init E (c_are_names_1 _ (by decide)) (c_is_name_1 _ (by decide))) (p_Meanwhile_init P (by decide) (by decide))
  have c_Meanwhile_4 : ∀ lv, 4 ≤ lv → CalOk T lv "Meanwhile" (newS "Meanwhile" d_Meanwhile_init [.u 0, .u 1, .u 2, .u 3] 4 [.tup [], .bl false, .bl false, .non]) 4 [] := fun lv h => newOkS mk_Meanwhile G_Meanwhile_init E.c_Meanwhile (np := 4) (ks := []) (kbn_funD F_Meanwhile_init (selfS [.u 0, .u 1, .u 2, .u 3]) (by simp) fun _ _ _ _ _ _ _ us its ws h1 h2 h3 => match us, its, ws, h1, h2, h3 with | [u0, u1, u2, u3, u4], [i0, i1, i2, i3], [], _, _, _ => ⟨_, rfl, rfl⟩) dc_Meanwhile_init rfl rfl h
  have b_are_columns := F_are_columns.binds (ps := ["thing"]) fun _ _ _ _ _ _ us hl => match us, hl with | [_], _ => rfl
  have G_are_columns : G.FnD T 3 f_are_columns fd_are_columns ["thing"] d_are_columns := def_rule F_are_columns sc_are_columns (j_are_columns E (c_are_names_1 _ (by decide))) (p_are_columns )
  have c_are_columns_1 : ∀ lv, 3 ≤ lv → CalOk T lv "are_columns" d_are_columns 1 [] := fun lv h => ⟨Callee.all G_are_columns F_are_columns.kp b_are_columns, h, m_are_columns, rfl, rfl, rfl⟩
  have G_Store_init : G.FnD T 4 f_Store_init fd_Store_init ["self", "columns", "rows"] d_Store_init := def_ruleD F_Store_init sc_Store_init (j_Store_init E (c_are_columns_1 _ (by decide))) (p_Store_init P (by decide) (by decide) (by decide))
  have c_Store_1 : ∀ lv, 5 ≤ lv → CalOk T lv "Store" (newS "Store" d_Store_init [.u 0, .d 0] 1 [.tup []]) 1 [] := fun lv h => newOkS mk_Store G_Store_init E.c_Store (np := 1) (ks := []) (kbn_funD F_Store_init (selfS [.u 0, .d 0]) (by simp) fun _ _ _ _ _ _ _ us its ws h1 h2 h3 => match us, its, ws, h1, h2, h3 with | [u0, u1], [i0], [], _, _, _ => ⟨_, rfl, rfl⟩) dc_Store_init rfl rfl h
  have b_is_whole := F_is_whole.binds (ps := ["thing"]) fun _ _ _ _ _ _ us hl => match us, hl with | [_], _ => rfl
  have G_is_whole : G.FnD T 1 f_is_whole fd_is_whole ["thing"] d_is_whole := def_rule F_is_whole sc_is_whole (j_is_whole E ) (p_is_whole P)
  have c_is_whole_1 : ∀ lv, 1 ≤ lv → CalOk T lv "is_whole" d_is_whole 1 [] := fun lv h => ⟨Callee.all G_is_whole F_is_whole.kp b_is_whole, h, m_is_whole, rfl, rfl, rfl⟩
  have b_is_key := F_is_key.binds (ps := ["thing"]) fun _ _ _ _ _ _ us hl => match us, hl with | [_], _ => rfl
  have G_is_key : G.FnD T 2 f_is_key fd_is_key ["thing"] d_is_key := def_rule F_is_key sc_is_key (j_is_key E (c_is_whole_1 _ (by decide))) (p_is_key )
  have c_is_key_1 : ∀ lv, 2 ≤ lv → CalOk T lv "is_key" d_is_key 1 [] := fun lv h => ⟨Callee.all G_is_key F_is_key.kp b_is_key, h, m_is_key, rfl, rfl, rfl⟩
  have b_is_number := F_is_number.binds (ps := ["thing"]) fun _ _ _ _ _ _ us hl => match us, hl with | [_], _ => rfl
  have G_is_number : G.FnD T 2 f_is_number fd_is_number ["thing"] d_is_number := def_rule F_is_number sc_is_number (j_is_number E (c_is_whole_1 _ (by decide))) (p_is_number P)
  have c_is_number_1 : ∀ lv, 2 ≤ lv → CalOk T lv "is_number" d_is_number 1 [] := fun lv h => ⟨Callee.all G_is_number F_is_number.kp b_is_number, h, m_is_number, rfl, rfl, rfl⟩
  have b_is_cell := F_is_cell.binds (ps := ["thing"]) fun _ _ _ _ _ _ us hl => match us, hl with | [_], _ => rfl
  have G_is_cell : G.FnD T 3 f_is_cell fd_is_cell ["thing"] d_is_cell := def_rule F_is_cell sc_is_cell (j_is_cell E (c_is_number_1 _ (by decide))) (p_is_cell P)
  have c_is_cell_1 : ∀ lv, 3 ≤ lv → CalOk T lv "is_cell" d_is_cell 1 [] := fun lv h => ⟨Callee.all G_is_cell F_is_cell.kp b_is_cell, h, m_is_cell, rfl, rfl, rfl⟩
  have b_is_row := F_is_row.binds (ps := ["thing", "columns"]) fun _ _ _ _ _ _ us hl => match us, hl with | [_, _], _ => rfl
  have G_is_row : G.FnD T 4 f_is_row fd_is_row ["thing", "columns"] d_is_row := def_rule F_is_row sc_is_row (j_is_row E (c_is_cell_1 _ (by decide))) (p_is_row P)
  have c_is_row_2 : ∀ lv, 4 ≤ lv → CalOk T lv "is_row" d_is_row 2 [] := fun lv h => ⟨Callee.all G_is_row F_is_row.kp b_is_row, h, m_is_row, rfl, rfl, rfl⟩
  have b_Store_setitem := F_Store_setitem.binds (ps := ["self", "key", "row"]) fun _ _ _ _ _ _ us hl => match us, hl with | [_, _, _], _ => rfl
  have G_Store_setitem : G.FnD T 5 f_Store_setitem fd_Store_setitem ["self", "key", "row"] d_Store_setitem := def_rule F_Store_setitem sc_Store_setitem (j_Store_setitem E (c_is_key_1 _ (by decide)) (c_is_row_2 _ (by decide))) (p_Store_setitem P (by decide) (by decide) (by decide))
  have c_Store_setitem : ∀ lv, 5 ≤ lv → SetOk T lv "Store" d_Store_setitem := fun lv h => ⟨Callee.all G_Store_setitem F_Store_setitem.kp b_Store_setitem, h, rfl, rfl, rfl, ns_Store_setitem, fi_Store_setitem, fn_Store_setitem⟩
  have b__law_made := F__law_made.binds (ps := ["_law_heads", "_law_kept", "_law_keys"]) fun _ _ _ _ _ _ us hl => match us, hl with | [_, _, _], _ => rfl
  have G__law_made : G.FnD T 6 f__law_made fd__law_made ["_law_heads", "_law_kept", "_law_keys"] d__law_made := def_rule F__law_made sc__law_made (j__law_made E (c_Store_1 _ (by decide)) (c_Store_setitem _ (by decide))) (p__law_made )
  have c__law_made_3 : ∀ lv, 6 ≤ lv → CalOk T lv "_law_made" d__law_made 3 [] := fun lv h => ⟨Callee.all G__law_made F__law_made.kp b__law_made, h, m__law_made, rfl, rfl, rfl⟩
  have b__law_spoilt := F__law_spoilt.binds (ps := ["_law_spool_here", "_law_heads", "_law_mean_here", "_law_later_here"]) fun _ _ _ _ _ _ us hl => match us, hl with | [_, _, _, _], _ => rfl
  have G__law_spoilt : G.FnD T 4 f__law_spoilt fd__law_spoilt ["_law_spool_here", "_law_heads", "_law_mean_here", "_law_later_here"] d__law_spoilt := def_rule F__law_spoilt sc__law_spoilt (j__law_spoilt E (c__law_pull_2 _ (by decide)) (c__law_row_2 _ (by decide)) (c__law_key_2 _ (by decide)) (c__law_cell_drawn_1 _ (by decide))) (p__law_spoilt )
  have c__law_spoilt_4 : ∀ lv, 4 ≤ lv → CalOk T lv "_law_spoilt" d__law_spoilt 4 [] := fun lv h => ⟨Callee.all G__law_spoilt F__law_spoilt.kp b__law_spoilt, h, m__law_spoilt, rfl, rfl, rfl⟩
  have b_Store_columns := F_Store_columns.binds (ps := ["self"]) fun _ _ _ _ _ _ us hl => match us, hl with | [_], _ => rfl
  have G_Store_columns : G.FnD T 1 f_Store_columns fd_Store_columns ["self"] d_Store_columns := def_rule F_Store_columns sc_Store_columns (j_Store_columns E ) (p_Store_columns P (by decide) (by decide))
  have c_Store_columns_1 : ∀ lv, 1 ≤ lv → MetOk T lv "Store" "columns" d_Store_columns 1 [] := fun lv h => ⟨Callee.all G_Store_columns F_Store_columns.kp b_Store_columns, h, ⟨cl_Store, me_Store_columns⟩, rfl, rfl, rfl⟩
  have b_Store_rows := F_Store_rows.binds (ps := ["self"]) fun _ _ _ _ _ _ us hl => match us, hl with | [_], _ => rfl
  have G_Store_rows : G.FnD T 1 f_Store_rows fd_Store_rows ["self"] d_Store_rows := def_rule F_Store_rows sc_Store_rows (j_Store_rows E ) (p_Store_rows P (by decide) (by decide))
  have c_Store_rows_1 : ∀ lv, 1 ≤ lv → MetOk T lv "Store" "rows" d_Store_rows 1 [] := fun lv h => ⟨Callee.all G_Store_rows F_Store_rows.kp b_Store_rows, h, ⟨cl_Store, me_Store_rows⟩, rfl, rfl, rfl⟩
  have b_is_later := F_is_later.binds (ps := ["was", "now"]) fun _ _ _ _ _ _ us hl => match us, hl with | [_, _], _ => rfl
  have G_is_later : G.FnD T 1 f_is_later fd_is_later ["was", "now"] d_is_later := def_rule F_is_later sc_is_later (j_is_later E ) (p_is_later )
  have c_is_later_2 : ∀ lv, 1 ≤ lv → CalOk T lv "is_later" d_is_later 2 [] := fun lv h => ⟨Callee.all G_is_later F_is_later.kp b_is_later, h, m_is_later, rfl, rfl, rfl⟩
  have b_may_become := F_may_become.binds (ps := ["parts", "columns", "old", "new"]) fun _ _ _ _ _ _ us hl => match us, hl with | [_, _, _, _], _ => rfl
  have G_may_become : G.FnD T 2 f_may_become fd_may_become ["parts", "columns", "old", "new"] d_may_become := def_rule F_may_become sc_may_become (j_may_become E (c_is_later_2 _ (by decide))) (p_may_become )
  have c_may_become_4 : ∀ lv, 2 ≤ lv → CalOk T lv "may_become" d_may_become 4 [] := fun lv h => ⟨Callee.all G_may_become F_may_become.kp b_may_become, h, m_may_become, rfl, rfl, rfl⟩
  have b_Meanwhile_allows := F_Meanwhile_allows.binds (ps := ["self", "earlier", "later"]) fun _ _ _ _ _ _ us hl => match us, hl with | [_, _, _], _ => rfl
  have G_Meanwhile_allows : G.FnD T 3 f_Meanwhile_allows fd_Meanwhile_allows ["self", "earlier", "later"] d_Meanwhile_allows := def_rule F_Meanwhile_allows sc_Meanwhile_allows (j_Meanwhile_allows E (c_Store_columns_1 _ (by decide)) (c_Store_rows_1 _ (by decide)) (c_may_become_4 _ (by decide))) (p_Meanwhile_allows P (by decide) (by decide))
  have c_Meanwhile_allows_3 : ∀ lv, 3 ≤ lv → MetOk T lv "Meanwhile" "allows" d_Meanwhile_allows 3 [] := fun lv h => ⟨Callee.all G_Meanwhile_allows F_Meanwhile_allows.kp b_Meanwhile_allows, h, ⟨cl_Meanwhile, me_Meanwhile_allows⟩, rfl, rfl, rfl⟩
  have b__law_row_may := F__law_row_may.binds (ps := ["_law_columns", "_law_mean_here", "_law_old", "_law_new"]) fun _ _ _ _ _ _ us hl => match us, hl with | [_, _, _, _], _ => rfl
  have G__law_row_may : G.FnD T 1 f__law_row_may fd__law_row_may ["_law_columns", "_law_mean_here", "_law_old", "_law_new"] d__law_row_may := def_rule F__law_row_may sc__law_row_may (j__law_row_may E ) (p__law_row_may )
  have c__law_row_may_4 : ∀ lv, 1 ≤ lv → CalOk T lv "_law_row_may" d__law_row_may 4 [] := fun lv h => ⟨Callee.all G__law_row_may F__law_row_may.kp b__law_row_may, h, m__law_row_may, rfl, rfl, rfl⟩
  have b__law_may := F__law_may.binds (ps := ["_law_columns", "_law_mean_here", "_law_earlier", "_law_later_here"]) fun _ _ _ _ _ _ us hl => match us, hl with | [_, _, _, _], _ => rfl
  have G__law_may : G.FnD T 2 f__law_may fd__law_may ["_law_columns", "_law_mean_here", "_law_earlier", "_law_later_here"] d__law_may := def_rule F__law_may sc__law_may (j__law_may E (c__law_row_may_4 _ (by decide))) (p__law_may )
  have c__law_may_4 : ∀ lv, 2 ≤ lv → CalOk T lv "_law_may" d__law_may 4 [] := fun lv h => ⟨Callee.all G__law_may F__law_may.kp b__law_may, h, m__law_may, rfl, rfl, rfl⟩
  have b__law_like := F__law_like.binds (ps := ["_law_found", "_law_due"]) fun _ _ _ _ _ _ us hl => match us, hl with | [_, _], _ => rfl
  have R__law_like : ∀ n, FnD T n f__law_like fd__law_like ["_law_found", "_law_due"] (dl n) := fun n => by
    induction n with
    | zero => exact ⟨fun vs H Q E h => by obtain ⟨_, _, _, _, _, _, _, _, _, z, _⟩ := h; exact z.elim, fun A outer s H args us vs Q E hr he hb hv h => by obtain ⟨_, _, _, _, _, _, _, _, _, z, _⟩ := h; exact z.elim⟩
    | succ n ih => exact def_rule F__law_like sc__law_like (j__law_like E ⟨Callee.all ih F__law_like.kp b__law_like, Nat.le_refl _, m__law_like, rfl, rfl, rfl⟩) (p__law_like P n)
  have G__law_like : FnD T 6 f__law_like fd__law_like ["_law_found", "_law_due"] (d__law_like 5) := R__law_like 6
  have c__law_like_2 : ∀ lv, 6 ≤ lv → CalOk T lv "_law_like" (d__law_like 5) 2 [] := fun lv h => ⟨Callee.all G__law_like F__law_like.kp b__law_like, h, m__law_like, rfl, rfl, rfl⟩
  have b__law_told := F__law_told.binds (ps := ["_law_kept"]) fun _ _ _ _ _ _ us hl => match us, hl with | [_], _ => rfl
  have G__law_told : G.FnD T 1 f__law_told fd__law_told ["_law_kept"] d__law_told := def_rule F__law_told sc__law_told (j__law_told E ) (p__law_told )
  have c__law_told_1 : ∀ lv, 1 ≤ lv → CalOk T lv "_law_told" d__law_told 1 [] := fun lv h => ⟨Callee.all G__law_told F__law_told.kp b__law_told, h, m__law_told, rfl, rfl, rfl⟩
  have b__law_right_at := F__law_right_at.binds (ps := ["_law_spool_here"]) fun _ _ _ _ _ _ us hl => match us, hl with | [_], _ => rfl
  have G__law_right_at : G.FnD T 7 f__law_right_at fd__law_right_at ["_law_spool_here"] d__law_right_at := def_rule F__law_right_at sc__law_right_at (j__law_right_at E (c__law_pull_2 _ (by decide)) (c__law_names_2 _ (by decide)) (c__law_mean_2 _ (by decide)) (c__law_model_3 _ (by decide)) (c__law_later_4 _ (by decide)) (c__law_row_2 _ (by decide)) (c__law_key_2 _ (by decide)) (c_Meanwhile_4 _ (by decide)) (c__law_made_3 _ (by decide)) (c__law_spoilt_4 _ (by decide)) (c_Meanwhile_allows_3 _ (by decide)) (c__law_may_4 _ (by decide)) (c__law_like_2 _ (by decide)) (c_Store_rows_1 _ (by decide)) (c__law_told_1 _ (by decide)) (c_Store_1 _ (by decide))) (p__law_right_at )
  have c__law_right_at_1 : ∀ lv, 7 ≤ lv → CalOk T lv "_law_right_at" d__law_right_at 1 [] := fun lv h => ⟨Callee.all G__law_right_at F__law_right_at.kp b__law_right_at, h, m__law_right_at, rfl, rfl, rfl⟩
  have b_law := F_law.binds (ps := ["_law_script"]) fun _ _ _ _ _ _ us hl => match us, hl with | [_], _ => rfl
  have G_law : G.FnD T 8 f_law fd_law ["_law_script"] d_law := def_rule F_law sc_law (j_law E (c__law_spool_2 _ (by decide)) (c__law_right_at_1 _ (by decide))) (p_law )
  exact G_law
/-- the world of the law -/
def mkT (P : Program) (w : World) (K : PySem.W.Frag) (mg : Str → Option Value) (base : Heap) (adr : Str → Addr) : Wd where
  P := P
  w := w
  K := K
  mg := mg
  base := base
  adr := adr
  cls := fun C => decide (C ∈ clsN)
  isi := isiTab
  noA := fun C f => decide ((C, f) ∈ noAN)
def spL (K : PySem.W.Frag) : Sp := fun vs H Q _ => ∃ (a : Addr) (ns : List Int), vs = [.ref a] ∧ SqL K H a (ns.map V.int) ∧ ns.length ≤ 63 ∧ ∀ H', Q (.bl true) H'
theorem spL_lift {T : Wd} {vs : List V} {H : Hp} {Q : VK} {E : XK} (h : spL T.K vs H Q E) : lift T 1 d_law vs H Q E := by
  obtain ⟨a, ns, rfl, hs, hl, q⟩ := h
  refine ⟨H, fun _ => none, fun _ => none, [.scr (ns.map .int)], fun d _ => d = .bl true, fun _ _ => False, rfl, ⟨fun _ _ h => h, fun _ _ h => (nomatch h), fun _ _ h => (nomatch h)⟩, .one (.scr hs (.ints ns)), ⟨ns, rfl, by omega, fun _ => rfl⟩, fun v H' F' d M' _ _ dn e => ?_, fun _ _ _ _ _ _ _ _ _ z => z.elim⟩
  subst e
  cases dn
  exact q H'

def adrN (AStore : Addr) (AMeanwhile : Addr) : Str → Addr := fun C => if C = "Store" then AStore else if C = "Meanwhile" then AMeanwhile else 0
theorem all_mk {l : PySem.W.OpenLaw} {w : World} {K : PySem.W.Frag} {h : Heap} {mg : Str → Option Value} {fa : Addr} {AMeanwhile : Addr} {AStore : Addr} {f0 : Addr} {od0 an0 : Option Addr} {sl0 : Array (Option Value)} {oc0 kV0 dc0 pm0 cd0 ct0 : Value} {f1 : Addr} {od1 an1 : Option Addr} {sl1 : Array (Option Value)} {oc1 kV1 dc1 pm1 cd1 ct1 : Value} {f2 : Addr} {od2 an2 : Option Addr} {sl2 : Array (Option Value)} {oc2 kV2 dc2 pm2 cd2 ct2 : Value} {f3 : Addr} {od3 an3 : Option Addr} {sl3 : Array (Option Value)} {oc3 kV3 dc3 pm3 cd3 ct3 : Value} {f4 : Addr} {od4 an4 : Option Addr} {sl4 : Array (Option Value)} {oc4 kV4 dc4 pm4 cd4 ct4 : Value} {f5 : Addr} {od5 an5 : Option Addr} {sl5 : Array (Option Value)} {oc5 kV5 dc5 pm5 cd5 ct5 : Value} {f6 : Addr} {od6 an6 : Option Addr} {sl6 : Array (Option Value)} {oc6 kV6 dc6 pm6 cd6 ct6 : Value} {f7 : Addr} {od7 an7 : Option Addr} {sl7 : Array (Option Value)} {oc7 kV7 dc7 pm7 cd7 ct7 : Value} {f8 : Addr} {od8 an8 : Option Addr} {sl8 : Array (Option Value)} {oc8 kV8 dc8 pm8 cd8 ct8 : Value} {f9 : Addr} {od9 an9 : Option Addr} {sl9 : Array (Option Value)} {oc9 kV9 dc9 pm9 cd9 ct9 : Value} {f10 : Addr} {od10 an10 : Option Addr} {sl10 : Array (Option Value)} {oc10 kV10 dc10 pm10 cd10 ct10 : Value} {f11 : Addr} {od11 an11 : Option Addr} {sl11 : Array (Option Value)} {oc11 kV11 dc11 pm11 cd11 ct11 : Value} {f12 : Addr} {od12 an12 : Option Addr} {sl12 : Array (Option Value)} {oc12 kV12 dc12 pm12 cd12 ct12 : Value} {f13 : Addr} {od13 an13 : Option Addr} {sl13 : Array (Option Value)} {oc13 kV13 dc13 pm13 cd13 ct13 : Value} {f14 : Addr} {od14 an14 : Option Addr} {sl14 : Array (Option Value)} {oc14 kV14 dc14 pm14 cd14 ct14 : Value} {f15 : Addr} {od15 an15 : Option Addr} {sl15 : Array (Option Value)} {oc15 kV15 dc15 pm15 cd15 ct15 : Value} {D15 : Addr} {Dd15 : Option Addr} {Dn15 : Nat} {Ds15 : Array (Option Value)} {e15x0 : Addr} {en15x0 : Nat} {es15x0 : Array (Option Value)} {f16 : Addr} {od16 an16 : Option Addr} {sl16 : Array (Option Value)} {oc16 kV16 dc16 pm16 cd16 ct16 : Value} {f17 : Addr} {od17 an17 : Option Addr} {sl17 : Array (Option Value)} {oc17 kV17 dc17 pm17 cd17 ct17 : Value} {D17 : Addr} {Dd17 : Option Addr} {Dn17 : Nat} {Ds17 : Array (Option Value)} {e17x0 : Addr} {en17x0 : Nat} {es17x0 : Array (Option Value)} {f18 : Addr} {od18 an18 : Option Addr} {sl18 : Array (Option Value)} {oc18 kV18 dc18 pm18 cd18 ct18 : Value} {f19 : Addr} {od19 an19 : Option Addr} {sl19 : Array (Option Value)} {oc19 kV19 dc19 pm19 cd19 ct19 : Value} {f20 : Addr} {od20 an20 : Option Addr} {sl20 : Array (Option Value)} {oc20 kV20 dc20 pm20 cd20 ct20 : Value} {f21 : Addr} {od21 an21 : Option Addr} {sl21 : Array (Option Value)} {oc21 kV21 dc21 pm21 cd21 ct21 : Value} {f22 : Addr} {od22 an22 : Option Addr} {sl22 : Array (Option Value)} {oc22 kV22 dc22 pm22 cd22 ct22 : Value} {f23 : Addr} {od23 an23 : Option Addr} {sl23 : Array (Option Value)} {oc23 kV23 dc23 pm23 cd23 ct23 : Value} {f24 : Addr} {od24 an24 : Option Addr} {sl24 : Array (Option Value)} {oc24 kV24 dc24 pm24 cd24 ct24 : Value} {f25 : Addr} {od25 an25 : Option Addr} {sl25 : Array (Option Value)} {oc25 kV25 dc25 pm25 cd25 ct25 : Value} {f26 : Addr} {od26 an26 : Option Addr} {sl26 : Array (Option Value)} {oc26 kV26 dc26 pm26 cd26 ct26 : Value} {f27 : Addr} {od27 an27 : Option Addr} {sl27 : Array (Option Value)} {oc27 kV27 dc27 pm27 cd27 ct27 : Value} {f28 : Addr} {od28 an28 : Option Addr} {sl28 : Array (Option Value)} {oc28 kV28 dc28 pm28 cd28 ct28 : Value} {f29 : Addr} {od29 an29 : Option Addr} {sl29 : Array (Option Value)} {oc29 kV29 dc29 pm29 cd29 ct29 : Value} {f30 : Addr} {od30 an30 : Option Addr} {sl30 : Array (Option Value)} {oc30 kV30 dc30 pm30 cd30 ct30 : Value} {f31 : Addr} {od31 an31 : Option Addr} {sl31 : Array (Option Value)} {oc31 kV31 dc31 pm31 cd31 ct31 : Value} {f32 : Addr} {od32 an32 : Option Addr} {sl32 : Array (Option Value)} {oc32 kV32 dc32 pm32 cd32 ct32 : Value} {f33 : Addr} {od33 an33 : Option Addr} {sl33 : Array (Option Value)} {oc33 kV33 dc33 pm33 cd33 ct33 : Value} {f34 : Addr} {od34 an34 : Option Addr} {sl34 : Array (Option Value)} {oc34 kV34 dc34 pm34 cd34 ct34 : Value} {f35 : Addr} {od35 an35 : Option Addr} {sl35 : Array (Option Value)} {oc35 kV35 dc35 pm35 cd35 ct35 : Value} {f36 : Addr} {od36 an36 : Option Addr} {sl36 : Array (Option Value)} {oc36 kV36 dc36 pm36 cd36 ct36 : Value} {t_KEY : Tok} {t_LETTERS : Tok} {t_MOST : Tok} (X : K.In h) (G : h.Ns mainGlobals mg) (hfa : mg "law" = some (.ref fa))
    (aCStore : PySem.W.nsIn K mainGlobals "Store" = some (some (.ref AStore)))
    (aCMeanwhile : PySem.W.nsIn K mainGlobals "Meanwhile" = some (some (.ref AMeanwhile)))
    (a0 : PySem.W.nsIn K mainGlobals "_law_spool" = some (some (.ref f0)))
    (l0 : K.lookup f0 = some ⟨oc0, od0, .func (PySem.W.fnOf "_law_spool" "_law_spool" (defArgs s__law_spool) (defBody s__law_spool) (defScope s__law_spool) .none kV0 dc0 pm0 an0 cd0 ct0), sl0⟩) (c0 : PySem.W.codeIn K cd0 "_law_spool" = true) (k0 : PySem.W.keepIn K (.ref f0) = true)
    (a1 : PySem.W.nsIn K mainGlobals "_law_pull" = some (some (.ref f1)))
    (l1 : K.lookup f1 = some ⟨oc1, od1, .func (PySem.W.fnOf "_law_pull" "_law_pull" (defArgs s__law_pull) (defBody s__law_pull) (defScope s__law_pull) .none kV1 dc1 pm1 an1 cd1 ct1), sl1⟩) (c1 : PySem.W.codeIn K cd1 "_law_pull" = true) (k1 : PySem.W.keepIn K (.ref f1) = true)
    (a2 : PySem.W.nsIn K mainGlobals "_law_names" = some (some (.ref f2)))
    (l2 : K.lookup f2 = some ⟨oc2, od2, .func (PySem.W.fnOf "_law_names" "_law_names" (defArgs s__law_names) (defBody s__law_names) (defScope s__law_names) .none kV2 dc2 pm2 an2 cd2 ct2), sl2⟩) (c2 : PySem.W.codeIn K cd2 "_law_names" = true) (k2 : PySem.W.keepIn K (.ref f2) = true)
    (a3 : PySem.W.nsIn K mainGlobals "_law_some" = some (some (.ref f3)))
    (l3 : K.lookup f3 = some ⟨oc3, od3, .func (PySem.W.fnOf "_law_some" "_law_some" (defArgs s__law_some) (defBody s__law_some) (defScope s__law_some) .none kV3 dc3 pm3 an3 cd3 ct3), sl3⟩) (c3 : PySem.W.codeIn K cd3 "_law_some" = true) (k3 : PySem.W.keepIn K (.ref f3) = true)
    (a4 : PySem.W.nsIn K mainGlobals "_law_mean" = some (some (.ref f4)))
    (l4 : K.lookup f4 = some ⟨oc4, od4, .func (PySem.W.fnOf "_law_mean" "_law_mean" (defArgs s__law_mean) (defBody s__law_mean) (defScope s__law_mean) .none kV4 dc4 pm4 an4 cd4 ct4), sl4⟩) (c4 : PySem.W.codeIn K cd4 "_law_mean" = true) (k4 : PySem.W.keepIn K (.ref f4) = true)
    (a5 : PySem.W.nsIn K mainGlobals "_law_key" = some (some (.ref f5)))
    (l5 : K.lookup f5 = some ⟨oc5, od5, .func (PySem.W.fnOf "_law_key" "_law_key" (defArgs s__law_key) (defBody s__law_key) (defScope s__law_key) .none kV5 dc5 pm5 an5 cd5 ct5), sl5⟩) (c5 : PySem.W.codeIn K cd5 "_law_key" = true) (k5 : PySem.W.keepIn K (.ref f5) = true)
    (a6 : PySem.W.nsIn K mainGlobals "_law_cell_drawn" = some (some (.ref f6)))
    (l6 : K.lookup f6 = some ⟨oc6, od6, .func (PySem.W.fnOf "_law_cell_drawn" "_law_cell_drawn" (defArgs s__law_cell_drawn) (defBody s__law_cell_drawn) (defScope s__law_cell_drawn) .none kV6 dc6 pm6 an6 cd6 ct6), sl6⟩) (c6 : PySem.W.codeIn K cd6 "_law_cell_drawn" = true) (k6 : PySem.W.keepIn K (.ref f6) = true)
    (a7 : PySem.W.nsIn K mainGlobals "_law_row" = some (some (.ref f7)))
    (l7 : K.lookup f7 = some ⟨oc7, od7, .func (PySem.W.fnOf "_law_row" "_law_row" (defArgs s__law_row) (defBody s__law_row) (defScope s__law_row) .none kV7 dc7 pm7 an7 cd7 ct7), sl7⟩) (c7 : PySem.W.codeIn K cd7 "_law_row" = true) (k7 : PySem.W.keepIn K (.ref f7) = true)
    (a8 : PySem.W.nsIn K mainGlobals "_law_model" = some (some (.ref f8)))
    (l8 : K.lookup f8 = some ⟨oc8, od8, .func (PySem.W.fnOf "_law_model" "_law_model" (defArgs s__law_model) (defBody s__law_model) (defScope s__law_model) .none kV8 dc8 pm8 an8 cd8 ct8), sl8⟩) (c8 : PySem.W.codeIn K cd8 "_law_model" = true) (k8 : PySem.W.keepIn K (.ref f8) = true)
    (a9 : PySem.W.nsIn K mainGlobals "_law_number_near" = some (some (.ref f9)))
    (l9 : K.lookup f9 = some ⟨oc9, od9, .func (PySem.W.fnOf "_law_number_near" "_law_number_near" (defArgs s__law_number_near) (defBody s__law_number_near) (defScope s__law_number_near) .none kV9 dc9 pm9 an9 cd9 ct9), sl9⟩) (c9 : PySem.W.codeIn K cd9 "_law_number_near" = true) (k9 : PySem.W.keepIn K (.ref f9) = true)
    (a10 : PySem.W.nsIn K mainGlobals "_law_cell_near" = some (some (.ref f10)))
    (l10 : K.lookup f10 = some ⟨oc10, od10, .func (PySem.W.fnOf "_law_cell_near" "_law_cell_near" (defArgs s__law_cell_near) (defBody s__law_cell_near) (defScope s__law_cell_near) .none kV10 dc10 pm10 an10 cd10 ct10), sl10⟩) (c10 : PySem.W.codeIn K cd10 "_law_cell_near" = true) (k10 : PySem.W.keepIn K (.ref f10) = true)
    (a11 : PySem.W.nsIn K mainGlobals "_law_later" = some (some (.ref f11)))
    (l11 : K.lookup f11 = some ⟨oc11, od11, .func (PySem.W.fnOf "_law_later" "_law_later" (defArgs s__law_later) (defBody s__law_later) (defScope s__law_later) .none kV11 dc11 pm11 an11 cd11 ct11), sl11⟩) (c11 : PySem.W.codeIn K cd11 "_law_later" = true) (k11 : PySem.W.keepIn K (.ref f11) = true)
    (a12 : PySem.W.nsIn K mainGlobals "is_name" = some (some (.ref f12)))
    (l12 : K.lookup f12 = some ⟨oc12, od12, .func (PySem.W.fnOf "is_name" "is_name" (defArgs s_is_name) (defBody s_is_name) (defScope s_is_name) .none kV12 dc12 pm12 an12 cd12 ct12), sl12⟩) (c12 : PySem.W.codeIn K cd12 "is_name" = true) (k12 : PySem.W.keepIn K (.ref f12) = true)
    (a13 : PySem.W.nsIn K mainGlobals "are_distinct" = some (some (.ref f13)))
    (l13 : K.lookup f13 = some ⟨oc13, od13, .func (PySem.W.fnOf "are_distinct" "are_distinct" (defArgs s_are_distinct) (defBody s_are_distinct) (defScope s_are_distinct) .none kV13 dc13 pm13 an13 cd13 ct13), sl13⟩) (c13 : PySem.W.codeIn K cd13 "are_distinct" = true) (k13 : PySem.W.keepIn K (.ref f13) = true)
    (a14 : PySem.W.nsIn K mainGlobals "are_names" = some (some (.ref f14)))
    (l14 : K.lookup f14 = some ⟨oc14, od14, .func (PySem.W.fnOf "are_names" "are_names" (defArgs s_are_names) (defBody s_are_names) (defScope s_are_names) .none kV14 dc14 pm14 an14 cd14 ct14), sl14⟩) (c14 : PySem.W.codeIn K cd14 "are_names" = true) (k14 : PySem.W.keepIn K (.ref f14) = true)
    (a15 : PySem.W.findIn K (.ref AMeanwhile) "__init__" = some (some (.ref f15))) (i15 : PySem.W.isFn K (.ref f15) = true)
    (l15 : K.lookup f15 = some ⟨oc15, od15, .func (PySem.W.fnOf "__init__" "Meanwhile.__init__" (defArgs s_Meanwhile_init) (defBody s_Meanwhile_init) (defScope s_Meanwhile_init) (.ref D15) kV15 dc15 pm15 an15 cd15 ct15), sl15⟩) (c15 : PySem.W.codeIn K cd15 "Meanwhile.__init__" = true) (k15 : PySem.W.keepIn K (.ref f15) = true)
    (a16 : PySem.W.nsIn K mainGlobals "are_columns" = some (some (.ref f16)))
    (l16 : K.lookup f16 = some ⟨oc16, od16, .func (PySem.W.fnOf "are_columns" "are_columns" (defArgs s_are_columns) (defBody s_are_columns) (defScope s_are_columns) .none kV16 dc16 pm16 an16 cd16 ct16), sl16⟩) (c16 : PySem.W.codeIn K cd16 "are_columns" = true) (k16 : PySem.W.keepIn K (.ref f16) = true)
    (a17 : PySem.W.findIn K (.ref AStore) "__init__" = some (some (.ref f17))) (i17 : PySem.W.isFn K (.ref f17) = true)
    (l17 : K.lookup f17 = some ⟨oc17, od17, .func (PySem.W.fnOf "__init__" "Store.__init__" (defArgs s_Store_init) (defBody s_Store_init) (defScope s_Store_init) (.ref D17) kV17 dc17 pm17 an17 cd17 ct17), sl17⟩) (c17 : PySem.W.codeIn K cd17 "Store.__init__" = true) (k17 : PySem.W.keepIn K (.ref f17) = true)
    (a18 : PySem.W.nsIn K mainGlobals "is_whole" = some (some (.ref f18)))
    (l18 : K.lookup f18 = some ⟨oc18, od18, .func (PySem.W.fnOf "is_whole" "is_whole" (defArgs s_is_whole) (defBody s_is_whole) (defScope s_is_whole) .none kV18 dc18 pm18 an18 cd18 ct18), sl18⟩) (c18 : PySem.W.codeIn K cd18 "is_whole" = true) (k18 : PySem.W.keepIn K (.ref f18) = true)
    (a19 : PySem.W.nsIn K mainGlobals "is_key" = some (some (.ref f19)))
    (l19 : K.lookup f19 = some ⟨oc19, od19, .func (PySem.W.fnOf "is_key" "is_key" (defArgs s_is_key) (defBody s_is_key) (defScope s_is_key) .none kV19 dc19 pm19 an19 cd19 ct19), sl19⟩) (c19 : PySem.W.codeIn K cd19 "is_key" = true) (k19 : PySem.W.keepIn K (.ref f19) = true)
    (a20 : PySem.W.nsIn K mainGlobals "is_number" = some (some (.ref f20)))
    (l20 : K.lookup f20 = some ⟨oc20, od20, .func (PySem.W.fnOf "is_number" "is_number" (defArgs s_is_number) (defBody s_is_number) (defScope s_is_number) .none kV20 dc20 pm20 an20 cd20 ct20), sl20⟩) (c20 : PySem.W.codeIn K cd20 "is_number" = true) (k20 : PySem.W.keepIn K (.ref f20) = true)
    (a21 : PySem.W.nsIn K mainGlobals "is_cell" = some (some (.ref f21)))
    (l21 : K.lookup f21 = some ⟨oc21, od21, .func (PySem.W.fnOf "is_cell" "is_cell" (defArgs s_is_cell) (defBody s_is_cell) (defScope s_is_cell) .none kV21 dc21 pm21 an21 cd21 ct21), sl21⟩) (c21 : PySem.W.codeIn K cd21 "is_cell" = true) (k21 : PySem.W.keepIn K (.ref f21) = true)
    (a22 : PySem.W.nsIn K mainGlobals "is_row" = some (some (.ref f22)))
    (l22 : K.lookup f22 = some ⟨oc22, od22, .func (PySem.W.fnOf "is_row" "is_row" (defArgs s_is_row) (defBody s_is_row) (defScope s_is_row) .none kV22 dc22 pm22 an22 cd22 ct22), sl22⟩) (c22 : PySem.W.codeIn K cd22 "is_row" = true) (k22 : PySem.W.keepIn K (.ref f22) = true)
    (a23 : PySem.W.findIn K (.ref AStore) "__setitem__" = some (some (.ref f23))) (i23 : PySem.W.isFn K (.ref f23) = true)
    (l23 : K.lookup f23 = some ⟨oc23, od23, .func (PySem.W.fnOf "__setitem__" "Store.__setitem__" (defArgs s_Store_setitem) (defBody s_Store_setitem) (defScope s_Store_setitem) .none kV23 dc23 pm23 an23 cd23 ct23), sl23⟩) (c23 : PySem.W.codeIn K cd23 "Store.__setitem__" = true) (k23 : PySem.W.keepIn K (.ref f23) = true)
    (a24 : PySem.W.nsIn K mainGlobals "_law_made" = some (some (.ref f24)))
    (l24 : K.lookup f24 = some ⟨oc24, od24, .func (PySem.W.fnOf "_law_made" "_law_made" (defArgs s__law_made) (defBody s__law_made) (defScope s__law_made) .none kV24 dc24 pm24 an24 cd24 ct24), sl24⟩) (c24 : PySem.W.codeIn K cd24 "_law_made" = true) (k24 : PySem.W.keepIn K (.ref f24) = true)
    (a25 : PySem.W.nsIn K mainGlobals "_law_spoilt" = some (some (.ref f25)))
    (l25 : K.lookup f25 = some ⟨oc25, od25, .func (PySem.W.fnOf "_law_spoilt" "_law_spoilt" (defArgs s__law_spoilt) (defBody s__law_spoilt) (defScope s__law_spoilt) .none kV25 dc25 pm25 an25 cd25 ct25), sl25⟩) (c25 : PySem.W.codeIn K cd25 "_law_spoilt" = true) (k25 : PySem.W.keepIn K (.ref f25) = true)
    (a26 : PySem.W.findIn K (.ref AStore) "columns" = some (some (.ref f26))) (i26 : PySem.W.isFn K (.ref f26) = true)
    (l26 : K.lookup f26 = some ⟨oc26, od26, .func (PySem.W.fnOf "columns" "Store.columns" (defArgs s_Store_columns) (defBody s_Store_columns) (defScope s_Store_columns) .none kV26 dc26 pm26 an26 cd26 ct26), sl26⟩) (c26 : PySem.W.codeIn K cd26 "Store.columns" = true) (k26 : PySem.W.keepIn K (.ref f26) = true)
    (a27 : PySem.W.findIn K (.ref AStore) "rows" = some (some (.ref f27))) (i27 : PySem.W.isFn K (.ref f27) = true)
    (l27 : K.lookup f27 = some ⟨oc27, od27, .func (PySem.W.fnOf "rows" "Store.rows" (defArgs s_Store_rows) (defBody s_Store_rows) (defScope s_Store_rows) .none kV27 dc27 pm27 an27 cd27 ct27), sl27⟩) (c27 : PySem.W.codeIn K cd27 "Store.rows" = true) (k27 : PySem.W.keepIn K (.ref f27) = true)
    (a28 : PySem.W.nsIn K mainGlobals "is_later" = some (some (.ref f28)))
    (l28 : K.lookup f28 = some ⟨oc28, od28, .func (PySem.W.fnOf "is_later" "is_later" (defArgs s_is_later) (defBody s_is_later) (defScope s_is_later) .none kV28 dc28 pm28 an28 cd28 ct28), sl28⟩) (c28 : PySem.W.codeIn K cd28 "is_later" = true) (k28 : PySem.W.keepIn K (.ref f28) = true)
    (a29 : PySem.W.nsIn K mainGlobals "may_become" = some (some (.ref f29)))
    (l29 : K.lookup f29 = some ⟨oc29, od29, .func (PySem.W.fnOf "may_become" "may_become" (defArgs s_may_become) (defBody s_may_become) (defScope s_may_become) .none kV29 dc29 pm29 an29 cd29 ct29), sl29⟩) (c29 : PySem.W.codeIn K cd29 "may_become" = true) (k29 : PySem.W.keepIn K (.ref f29) = true)
    (a30 : PySem.W.findIn K (.ref AMeanwhile) "allows" = some (some (.ref f30))) (i30 : PySem.W.isFn K (.ref f30) = true)
    (l30 : K.lookup f30 = some ⟨oc30, od30, .func (PySem.W.fnOf "allows" "Meanwhile.allows" (defArgs s_Meanwhile_allows) (defBody s_Meanwhile_allows) (defScope s_Meanwhile_allows) .none kV30 dc30 pm30 an30 cd30 ct30), sl30⟩) (c30 : PySem.W.codeIn K cd30 "Meanwhile.allows" = true) (k30 : PySem.W.keepIn K (.ref f30) = true)
    (a31 : PySem.W.nsIn K mainGlobals "_law_row_may" = some (some (.ref f31)))
    (l31 : K.lookup f31 = some ⟨oc31, od31, .func (PySem.W.fnOf "_law_row_may" "_law_row_may" (defArgs s__law_row_may) (defBody s__law_row_may) (defScope s__law_row_may) .none kV31 dc31 pm31 an31 cd31 ct31), sl31⟩) (c31 : PySem.W.codeIn K cd31 "_law_row_may" = true) (k31 : PySem.W.keepIn K (.ref f31) = true)
    (a32 : PySem.W.nsIn K mainGlobals "_law_may" = some (some (.ref f32)))
    (l32 : K.lookup f32 = some ⟨oc32, od32, .func (PySem.W.fnOf "_law_may" "_law_may" (defArgs s__law_may) (defBody s__law_may) (defScope s__law_may) .none kV32 dc32 pm32 an32 cd32 ct32), sl32⟩) (c32 : PySem.W.codeIn K cd32 "_law_may" = true) (k32 : PySem.W.keepIn K (.ref f32) = true)
    (a33 : PySem.W.nsIn K mainGlobals "_law_like" = some (some (.ref f33)))
    (l33 : K.lookup f33 = some ⟨oc33, od33, .func (PySem.W.fnOf "_law_like" "_law_like" (defArgs s__law_like) (defBody s__law_like) (defScope s__law_like) .none kV33 dc33 pm33 an33 cd33 ct33), sl33⟩) (c33 : PySem.W.codeIn K cd33 "_law_like" = true) (k33 : PySem.W.keepIn K (.ref f33) = true)
    (a34 : PySem.W.nsIn K mainGlobals "_law_told" = some (some (.ref f34)))
    (l34 : K.lookup f34 = some ⟨oc34, od34, .func (PySem.W.fnOf "_law_told" "_law_told" (defArgs s__law_told) (defBody s__law_told) (defScope s__law_told) .none kV34 dc34 pm34 an34 cd34 ct34), sl34⟩) (c34 : PySem.W.codeIn K cd34 "_law_told" = true) (k34 : PySem.W.keepIn K (.ref f34) = true)
    (a35 : PySem.W.nsIn K mainGlobals "_law_right_at" = some (some (.ref f35)))
    (l35 : K.lookup f35 = some ⟨oc35, od35, .func (PySem.W.fnOf "_law_right_at" "_law_right_at" (defArgs s__law_right_at) (defBody s__law_right_at) (defScope s__law_right_at) .none kV35 dc35 pm35 an35 cd35 ct35), sl35⟩) (c35 : PySem.W.codeIn K cd35 "_law_right_at" = true) (k35 : PySem.W.keepIn K (.ref f35) = true)
    (a36 : PySem.W.nsIn K mainGlobals "law" = some (some (.ref f36)))
    (l36 : K.lookup f36 = some ⟨oc36, od36, .func (PySem.W.fnOf "law" "law" (defArgs s_law) (defBody s_law) (defScope s_law) .none kV36 dc36 pm36 an36 cd36 ct36), sl36⟩) (c36 : PySem.W.codeIn K cd36 "law" = true) (k36 : PySem.W.keepIn K (.ref f36) = true)
    (q15 : K.lookup D15 = some ⟨.type "tuple", Dd15, .seq #[.ref e15x0, .bool false, .bool false, .none] Dn15, Ds15⟩)
    (qe15x0 : K.lookup e15x0 = some ⟨.type "tuple", none, .seq #[] en15x0, es15x0⟩)
    (q17 : K.lookup D17 = some ⟨.type "tuple", Dd17, .seq #[.ref e17x0] Dn17, Ds17⟩)
    (qe17x0 : K.lookup e17x0 = some ⟨.type "tuple", none, .seq #[] en17x0, es17x0⟩)
    (nqStore : PySem.W.noSeq K AStore = true)
    (pgStore : PySem.W.plainGet K AStore Str.empty = true) (hdStore : PySem.W.hasDictIn K AStore = true) (poStore : PySem.W.plainOver K AStore = true) (saStore : PySem.W.findIn K (.ref AStore) "__setattr__" = some (some (.builtin "object.__setattr__"))) (mkStore : PySem.W.makesIn K AStore = true) (kcStore : PySem.W.keepIn K (.ref AStore) = true)
    (haStore : PySem.W.findIn K (.ref AStore) "__class__" = some (some (.builtin "object.__class__"))) (hnStore : PySem.W.specialIn K (.builtin "object.__class__") "__get__" = some (some (.builtin "getset_descriptor.__get__"))) (htStore : PySem.W.takesIn K (.builtin "object.__class__") = some true) (hmStore : PySem.W.mroIn K AStore (.type "object") = some true)
    (nStoreheads : PySem.W.findIn K (.ref AStore) "heads" = some none)
    (nStorekept : PySem.W.findIn K (.ref AStore) "kept" = some none)
    (pgMeanwhile : PySem.W.plainGet K AMeanwhile Str.empty = true) (hdMeanwhile : PySem.W.hasDictIn K AMeanwhile = true) (poMeanwhile : PySem.W.plainOver K AMeanwhile = true) (saMeanwhile : PySem.W.findIn K (.ref AMeanwhile) "__setattr__" = some (some (.builtin "object.__setattr__"))) (mkMeanwhile : PySem.W.makesIn K AMeanwhile = true) (kcMeanwhile : PySem.W.keepIn K (.ref AMeanwhile) = true)
    (haMeanwhile : PySem.W.findIn K (.ref AMeanwhile) "__class__" = some (some (.builtin "object.__class__"))) (hnMeanwhile : PySem.W.specialIn K (.builtin "object.__class__") "__get__" = some (some (.builtin "getset_descriptor.__get__"))) (htMeanwhile : PySem.W.takesIn K (.builtin "object.__class__") = some true) (hmMeanwhile : PySem.W.mroIn K AMeanwhile (.type "object") = some true)
    (nMeanwhiletold : PySem.W.findIn K (.ref AMeanwhile) "told" = some none)
    (z_abs : PySem.W.nsIn K mainGlobals "abs" = some none)
    (z_all : PySem.W.nsIn K mainGlobals "all" = some none)
    (z_any : PySem.W.nsIn K mainGlobals "any" = some none)
    (z_bool : PySem.W.nsIn K mainGlobals "bool" = some none)
    (z_dict : PySem.W.nsIn K mainGlobals "dict" = some none)
    (z_int : PySem.W.nsIn K mainGlobals "int" = some none)
    (z_isinstance : PySem.W.nsIn K mainGlobals "isinstance" = some none)
    (z_len : PySem.W.nsIn K mainGlobals "len" = some none)
    (z_list : PySem.W.nsIn K mainGlobals "list" = some none)
    (z_max : PySem.W.nsIn K mainGlobals "max" = some none)
    (z_min : PySem.W.nsIn K mainGlobals "min" = some none)
    (z_range : PySem.W.nsIn K mainGlobals "range" = some none)
    (z_set : PySem.W.nsIn K mainGlobals "set" = some none)
    (z_sorted : PySem.W.nsIn K mainGlobals "sorted" = some none)
    (z_str : PySem.W.nsIn K mainGlobals "str" = some none)
    (z_tuple : PySem.W.nsIn K mainGlobals "tuple" = some none)
    (z_zip : PySem.W.nsIn K mainGlobals "zip" = some none)
    (g_KEY : PySem.W.nsIn K mainGlobals "KEY" = some (some (.str "key" t_KEY)))
    (g_LETTERS : PySem.W.nsIn K mainGlobals "LETTERS" = some (some (.str "abcdefghijklmnopqrstuvwxyz" t_LETTERS)))
    (g_MOST : PySem.W.nsIn K mainGlobals "MOST" = some (some (.int 1000000000000000000000000000000 t_MOST))) :
    ∃ fd : FuncData, (∀ (s : Shared) (v : Value), BindsTo s fd ⟨[v], []⟩ [("_law_script", v)]) ∧ ∀ base : Heap, K.In base → base.Ns mainGlobals mg → FnOk l.prog w K mg base (L2.CX l.prog w) 8 fa fd ["_law_script"] (spL K) := by
  have e := hfa.symm.trans (PySem.W.mg_of X G a36)
  cases e
  have F0 := fun_mk (st := s__law_spool) l0 c0 k0
  have F1 := fun_mk (st := s__law_pull) l1 c1 k1
  have F2 := fun_mk (st := s__law_names) l2 c2 k2
  have F3 := fun_mk (st := s__law_some) l3 c3 k3
  have F4 := fun_mk (st := s__law_mean) l4 c4 k4
  have F5 := fun_mk (st := s__law_key) l5 c5 k5
  have F6 := fun_mk (st := s__law_cell_drawn) l6 c6 k6
  have F7 := fun_mk (st := s__law_row) l7 c7 k7
  have F8 := fun_mk (st := s__law_model) l8 c8 k8
  have F9 := fun_mk (st := s__law_number_near) l9 c9 k9
  have F10 := fun_mk (st := s__law_cell_near) l10 c10 k10
  have F11 := fun_mk (st := s__law_later) l11 c11 k11
  have F12 := fun_mk (st := s_is_name) l12 c12 k12
  have F13 := fun_mk (st := s_are_distinct) l13 c13 k13
  have F14 := fun_mk (st := s_are_names) l14 c14 k14
  have F15 : L2.FunD K "__init__" "Meanwhile.__init__" (defArgs s_Meanwhile_init) (defBody s_Meanwhile_init) (defScope s_Meanwhile_init) [.ref e15x0, .bl false, .bl false, .non] [] f15 _ := ⟨⟨_, _, _, _, _, _, _, _, _, _, rfl, l15, c15, .inr ⟨by simp, _, _, _, _, rfl, q15, rfl, (.cons rfl (.cons rfl (.cons rfl (.cons rfl .nil))))⟩, .inl rfl⟩, k15⟩
  have F16 := fun_mk (st := s_are_columns) l16 c16 k16
  have F17 : L2.FunD K "__init__" "Store.__init__" (defArgs s_Store_init) (defBody s_Store_init) (defScope s_Store_init) [.ref e17x0] [] f17 _ := ⟨⟨_, _, _, _, _, _, _, _, _, _, rfl, l17, c17, .inr ⟨by simp, _, _, _, _, rfl, q17, rfl, (.cons rfl .nil)⟩, .inl rfl⟩, k17⟩
  have F18 := fun_mk (st := s_is_whole) l18 c18 k18
  have F19 := fun_mk (st := s_is_key) l19 c19 k19
  have F20 := fun_mk (st := s_is_number) l20 c20 k20
  have F21 := fun_mk (st := s_is_cell) l21 c21 k21
  have F22 := fun_mk (st := s_is_row) l22 c22 k22
  have F23 := fun_mk (st := s_Store_setitem) l23 c23 k23
  have F24 := fun_mk (st := s__law_made) l24 c24 k24
  have F25 := fun_mk (st := s__law_spoilt) l25 c25 k25
  have F26 := fun_mk (st := s_Store_columns) l26 c26 k26
  have F27 := fun_mk (st := s_Store_rows) l27 c27 k27
  have F28 := fun_mk (st := s_is_later) l28 c28 k28
  have F29 := fun_mk (st := s_may_become) l29 c29 k29
  have F30 := fun_mk (st := s_Meanwhile_allows) l30 c30 k30
  have F31 := fun_mk (st := s__law_row_may) l31 c31 k31
  have F32 := fun_mk (st := s__law_may) l32 c32 k32
  have F33 := fun_mk (st := s__law_like) l33 c33 k33
  have F34 := fun_mk (st := s__law_told) l34 c34 k34
  have F35 := fun_mk (st := s__law_right_at) l35 c35 k35
  have F36 := fun_mk (st := s_law) l36 c36 k36
  have xStore : (adrN AStore AMeanwhile) "Store" = AStore := by kernel_rfl
  have xMeanwhile : (adrN AStore AMeanwhile) "Meanwhile" = AMeanwhile := by kernel_rfl
  refine ⟨PySem.W.fnOf "law" "law" (defArgs s_law) (defBody s_law) (defScope s_law) .none kV36 dc36 pm36 an36 cd36 ct36, fun s v => .of_eq rfl, fun base _ _ => ?_⟩
  have ok : WdOk (mkT l.prog w K mg base (adrN AStore AMeanwhile)) := by
    refine ⟨isiTab_ok _, fun C hC => ?_, fun C f hf => ?_⟩
    · have hC : decide (C ∈ clsN) = true := hC
      have hC := of_decide_eq_true hC
      simp only [clsN, List.mem_cons, List.not_mem_nil, or_false] at hC
      rcases hC with rfl | rfl
      · show ClsX K ((adrN AStore AMeanwhile) "Store")
        rw [xStore]
        exact ⟨⟨pgStore, hdStore, poStore, saStore⟩, haStore, hnStore, htStore, hmStore⟩
      · show ClsX K ((adrN AStore AMeanwhile) "Meanwhile")
        rw [xMeanwhile]
        exact ⟨⟨pgMeanwhile, hdMeanwhile, poMeanwhile, saMeanwhile⟩, haMeanwhile, hnMeanwhile, htMeanwhile, hmMeanwhile⟩
    · have hf : decide ((C, f) ∈ noAN) = true := hf
      have hf := of_decide_eq_true hf
      simp only [noAN, List.mem_cons, List.not_mem_nil, or_false, Prod.mk.injEq] at hf
      rcases hf with ⟨rfl, rfl⟩ | ⟨rfl, rfl⟩ | ⟨rfl, rfl⟩
      · show NoAttr K ((adrN AStore AMeanwhile) "Store") "heads"
        rw [xStore]
        exact nStoreheads
      · show NoAttr K ((adrN AStore AMeanwhile) "Store") "kept"
        rw [xStore]
        exact nStorekept
      · show NoAttr K ((adrN AStore AMeanwhile) "Meanwhile") "told"
        rw [xMeanwhile]
        exact nMeanwhiletold
  have E : Env (mkT l.prog w K mg base (adrN AStore AMeanwhile)) := {
    ok := ok,
    b_abs := PySem.W.mg_none_of X G z_abs,
    b_all := PySem.W.mg_none_of X G z_all,
    b_any := PySem.W.mg_none_of X G z_any,
    b_bool := PySem.W.mg_none_of X G z_bool,
    b_dict := PySem.W.mg_none_of X G z_dict,
    b_int := PySem.W.mg_none_of X G z_int,
    b_isinstance := PySem.W.mg_none_of X G z_isinstance,
    b_len := PySem.W.mg_none_of X G z_len,
    b_list := PySem.W.mg_none_of X G z_list,
    b_max := PySem.W.mg_none_of X G z_max,
    b_min := PySem.W.mg_none_of X G z_min,
    b_range := PySem.W.mg_none_of X G z_range,
    b_set := PySem.W.mg_none_of X G z_set,
    b_sorted := PySem.W.mg_none_of X G z_sorted,
    b_str := PySem.W.mg_none_of X G z_str,
    b_tuple := PySem.W.mg_none_of X G z_tuple,
    b_zip := PySem.W.mg_none_of X G z_zip,
    g_KEY := ⟨_, PySem.W.mg_of X G g_KEY, ⟨_, rfl⟩⟩,
    g_LETTERS := ⟨_, PySem.W.mg_of X G g_LETTERS, ⟨_, rfl⟩⟩,
    g_MOST := ⟨_, PySem.W.mg_of X G g_MOST, ⟨_, rfl⟩⟩,
    c_Meanwhile := (by show mg "Meanwhile" = some (.ref ((adrN AStore AMeanwhile) "Meanwhile")); rw [xMeanwhile]; exact PySem.W.mg_of X G aCMeanwhile),
    c_Store := (by show mg "Store" = some (.ref ((adrN AStore AMeanwhile) "Store")); rw [xStore]; exact PySem.W.mg_of X G aCStore) }
  have P : Pure (mkT l.prog w K mg base (adrN AStore AMeanwhile)) clsN noAN := ⟨rfl, fun C hC => decide_eq_true hC, fun C f hf => decide_eq_true hf⟩
  have z := law_ok E P F0 (PySem.W.mg_of X G a0) F1 (PySem.W.mg_of X G a1) F2 (PySem.W.mg_of X G a2) F3 (PySem.W.mg_of X G a3) F4 (PySem.W.mg_of X G a4) F5 (PySem.W.mg_of X G a5) F6 (PySem.W.mg_of X G a6) F7 (PySem.W.mg_of X G a7) F8 (PySem.W.mg_of X G a8) F9 (PySem.W.mg_of X G a9) F10 (PySem.W.mg_of X G a10) F11 (PySem.W.mg_of X G a11) F12 (PySem.W.mg_of X G a12) F13 (PySem.W.mg_of X G a13) F14 (PySem.W.mg_of X G a14) F15 (fun F => (.cons (.tup (.inr ⟨_, _, _, qe15x0, rfl, rfl, rfl, by decide, .nil⟩) .nil) (.cons (.bl _) (.cons (.bl _) (.cons .non .nil))))) (by show Mk K ((adrN AStore AMeanwhile) "Meanwhile") _; rw [xMeanwhile]; exact ⟨mkMeanwhile, a15, i15, kcMeanwhile⟩) F16 (PySem.W.mg_of X G a16) F17 (fun F => (.cons (.tup (.inr ⟨_, _, _, qe17x0, rfl, rfl, rfl, by decide, .nil⟩) .nil) .nil)) (by show Mk K ((adrN AStore AMeanwhile) "Store") _; rw [xStore]; exact ⟨mkStore, a17, i17, kcStore⟩) F18 (PySem.W.mg_of X G a18) F19 (PySem.W.mg_of X G a19) F20 (PySem.W.mg_of X G a20) F21 (PySem.W.mg_of X G a21) F22 (PySem.W.mg_of X G a22) F23 (by show PySem.W.noSeq K ((adrN AStore AMeanwhile) "Store") = true; rw [xStore]; exact nqStore) (by show PySem.W.findIn K (.ref ((adrN AStore AMeanwhile) "Store")) "__setitem__" = _; rw [xStore]; exact a23) i23 F24 (PySem.W.mg_of X G a24) F25 (PySem.W.mg_of X G a25) F26 (by show Meth K ((adrN AStore AMeanwhile) "Store") _ _; rw [xStore]; exact ⟨a26, i26, k26⟩) F27 (by show Meth K ((adrN AStore AMeanwhile) "Store") _ _; rw [xStore]; exact ⟨a27, i27, k27⟩) F28 (PySem.W.mg_of X G a28) F29 (PySem.W.mg_of X G a29) F30 (by show Meth K ((adrN AStore AMeanwhile) "Meanwhile") _ _; rw [xMeanwhile]; exact ⟨a30, i30, k30⟩) F31 (PySem.W.mg_of X G a31) F32 (PySem.W.mg_of X G a32) F33 (PySem.W.mg_of X G a33) F34 (PySem.W.mg_of X G a34) F35 (PySem.W.mg_of X G a35) F36 (PySem.W.mg_of X G a36) (by show Cls K ((adrN AStore AMeanwhile) "Store"); rw [xStore]; exact ⟨pgStore, hdStore, poStore, saStore⟩) (by show Cls K ((adrN AStore AMeanwhile) "Meanwhile"); rw [xMeanwhile]; exact ⟨pgMeanwhile, hdMeanwhile, poMeanwhile, saMeanwhile⟩)
  exact FnOk.imp z fun vs H Q E h => spL_lift h
end K49

open PySem PySem.W PyProof.Rows
open_top hd for PySem.Challenge.rw_sheetback_k49_what_meanwhile_allows

open PySem PySem.W PyProof.Rows
theorem PySem.Challenge.cw_sheetback_k49_what_meanwhile_allows_holds : PySem.Challenge.rw_sheetback_k49_what_meanwhile_allows.Holds := by
  exact hd (by
  k_fill
  refine L2.walk_of (l := PySem.Challenge.rw_sheetback_k49_what_meanwhile_allows) (n := 63) (k := 8) (x := "_law_script") (CX := fun w => L2.CX (PySem.Challenge.rw_sheetback_k49_what_meanwhile_allows).prog w) (sp := fun w => K49.spL _) rfl (by decide) rfl ⟨rfl, by decide, by decide⟩ (fun w h Y => PySem.W.kIn_of Y) ?F (fun _ _ a ns hl _ hS => ⟨a, ns, rfl, hS, hl, fun _ => rfl⟩) (fun _ _ _ _ _ h => by obtain ⟨_, _, _, _, _, _, _, _, _, _, _, _, z⟩ := h; exact z)
  case F =>
    intro w mg fa h KX G hmg
    refine' K49.all_mk KX G hmg ?aCStore ?aCMeanwhile ?a0 ?l0 ?c0 ?k0 ?a1 ?l1 ?c1 ?k1 ?a2 ?l2 ?c2 ?k2 ?a3 ?l3 ?c3 ?k3 ?a4 ?l4 ?c4 ?k4 ?a5 ?l5 ?c5 ?k5 ?a6 ?l6 ?c6 ?k6 ?a7 ?l7 ?c7 ?k7 ?a8 ?l8 ?c8 ?k8 ?a9 ?l9 ?c9 ?k9 ?a10 ?l10 ?c10 ?k10 ?a11 ?l11 ?c11 ?k11 ?a12 ?l12 ?c12 ?k12 ?a13 ?l13 ?c13 ?k13 ?a14 ?l14 ?c14 ?k14 ?a15 ?i15 ?l15 ?c15 ?k15 ?a16 ?l16 ?c16 ?k16 ?a17 ?i17 ?l17 ?c17 ?k17 ?a18 ?l18 ?c18 ?k18 ?a19 ?l19 ?c19 ?k19 ?a20 ?l20 ?c20 ?k20 ?a21 ?l21 ?c21 ?k21 ?a22 ?l22 ?c22 ?k22 ?a23 ?i23 ?l23 ?c23 ?k23 ?a24 ?l24 ?c24 ?k24 ?a25 ?l25 ?c25 ?k25 ?a26 ?i26 ?l26 ?c26 ?k26 ?a27 ?i27 ?l27 ?c27 ?k27 ?a28 ?l28 ?c28 ?k28 ?a29 ?l29 ?c29 ?k29 ?a30 ?i30 ?l30 ?c30 ?k30 ?a31 ?l31 ?c31 ?k31 ?a32 ?l32 ?c32 ?k32 ?a33 ?l33 ?c33 ?k33 ?a34 ?l34 ?c34 ?k34 ?a35 ?l35 ?c35 ?k35 ?a36 ?l36 ?c36 ?k36 ?q15 ?qe15x0 ?q17 ?qe17x0 ?nqStore ?pgStore ?hdStore ?poStore ?saStore ?mkStore ?kcStore ?haStore ?hnStore ?htStore ?hmStore ?nStoreheads ?nStorekept ?pgMeanwhile ?hdMeanwhile ?poMeanwhile ?saMeanwhile ?mkMeanwhile ?kcMeanwhile ?haMeanwhile ?hnMeanwhile ?htMeanwhile ?hmMeanwhile ?nMeanwhiletold ?z_abs ?z_all ?z_any ?z_bool ?z_dict ?z_int ?z_isinstance ?z_len ?z_list ?z_max ?z_min ?z_range ?z_set ?z_sorted ?z_str ?z_tuple ?z_zip ?g_KEY ?g_LETTERS ?g_MOST
    (case aCStore => k_is)
    (case aCMeanwhile => k_is)
    (case a0 => k_is)
    (case l0 => k_is)
    (case c0 => k_is)
    (case k0 => k_is)
    (case a1 => k_is)
    (case l1 => k_is)
    (case c1 => k_is)
    (case k1 => k_is)
    (case a2 => k_is)
    (case l2 => k_is)
    (case c2 => k_is)
    (case k2 => k_is)
    (case a3 => k_is)
    (case l3 => k_is)
    (case c3 => k_is)
    (case k3 => k_is)
    (case a4 => k_is)
    (case l4 => k_is)
    (case c4 => k_is)
    (case k4 => k_is)
    (case a5 => k_is)
    (case l5 => k_is)
    (case c5 => k_is)
    (case k5 => k_is)
    (case a6 => k_is)
    (case l6 => k_is)
    (case c6 => k_is)
    (case k6 => k_is)
    (case a7 => k_is)
    (case l7 => k_is)
    (case c7 => k_is)
    (case k7 => k_is)
    (case a8 => k_is)
    (case l8 => k_is)
    (case c8 => k_is)
    (case k8 => k_is)
    (case a9 => k_is)
    (case l9 => k_is)
    (case c9 => k_is)
    (case k9 => k_is)
    (case a10 => k_is)
    (case l10 => k_is)
    (case c10 => k_is)
    (case k10 => k_is)
    (case a11 => k_is)
    (case l11 => k_is)
    (case c11 => k_is)
    (case k11 => k_is)
    (case a12 => k_is)
    (case l12 => k_is)
    (case c12 => k_is)
    (case k12 => k_is)
    (case a13 => k_is)
    (case l13 => k_is)
    (case c13 => k_is)
    (case k13 => k_is)
    (case a14 => k_is)
    (case l14 => k_is)
    (case c14 => k_is)
    (case k14 => k_is)
    (case a15 => k_is)
    (case i15 => k_is)
    (case l15 => k_is)
    (case c15 => k_is)
    (case k15 => k_is)
    (case a16 => k_is)
    (case l16 => k_is)
    (case c16 => k_is)
    (case k16 => k_is)
    (case a17 => k_is)
    (case i17 => k_is)
    (case l17 => k_is)
    (case c17 => k_is)
    (case k17 => k_is)
    (case a18 => k_is)
    (case l18 => k_is)
    (case c18 => k_is)
    (case k18 => k_is)
    (case a19 => k_is)
    (case l19 => k_is)
    (case c19 => k_is)
    (case k19 => k_is)
    (case a20 => k_is)
    (case l20 => k_is)
    (case c20 => k_is)
    (case k20 => k_is)
    (case a21 => k_is)
    (case l21 => k_is)
    (case c21 => k_is)
    (case k21 => k_is)
    (case a22 => k_is)
    (case l22 => k_is)
    (case c22 => k_is)
    (case k22 => k_is)
    (case a23 => k_is)
    (case i23 => k_is)
    (case l23 => k_is)
    (case c23 => k_is)
    (case k23 => k_is)
    (case a24 => k_is)
    (case l24 => k_is)
    (case c24 => k_is)
    (case k24 => k_is)
    (case a25 => k_is)
    (case l25 => k_is)
    (case c25 => k_is)
    (case k25 => k_is)
    (case a26 => k_is)
    (case i26 => k_is)
    (case l26 => k_is)
    (case c26 => k_is)
    (case k26 => k_is)
    (case a27 => k_is)
    (case i27 => k_is)
    (case l27 => k_is)
    (case c27 => k_is)
    (case k27 => k_is)
    (case a28 => k_is)
    (case l28 => k_is)
    (case c28 => k_is)
    (case k28 => k_is)
    (case a29 => k_is)
    (case l29 => k_is)
    (case c29 => k_is)
    (case k29 => k_is)
    (case a30 => k_is)
    (case i30 => k_is)
    (case l30 => k_is)
    (case c30 => k_is)
    (case k30 => k_is)
    (case a31 => k_is)
    (case l31 => k_is)
    (case c31 => k_is)
    (case k31 => k_is)
    (case a32 => k_is)
    (case l32 => k_is)
    (case c32 => k_is)
    (case k32 => k_is)
    (case a33 => k_is)
    (case l33 => k_is)
    (case c33 => k_is)
    (case k33 => k_is)
    (case a34 => k_is)
    (case l34 => k_is)
    (case c34 => k_is)
    (case k34 => k_is)
    (case a35 => k_is)
    (case l35 => k_is)
    (case c35 => k_is)
    (case k35 => k_is)
    (case a36 => k_is)
    (case l36 => k_is)
    (case c36 => k_is)
    (case k36 => k_is)
    (case q15 => k_is)
    (case qe15x0 => k_is)
    (case q17 => k_is)
    (case qe17x0 => k_is)
    (case nqStore => k_is)
    (case pgStore => k_is)
    (case hdStore => k_is)
    (case poStore => k_is)
    (case saStore => k_is)
    (case mkStore => k_is)
    (case kcStore => k_is)
    (case haStore => k_is)
    (case hnStore => k_is)
    (case htStore => k_is)
    (case hmStore => k_is)
    (case nStoreheads => k_is)
    (case nStorekept => k_is)
    (case pgMeanwhile => k_is)
    (case hdMeanwhile => k_is)
    (case poMeanwhile => k_is)
    (case saMeanwhile => k_is)
    (case mkMeanwhile => k_is)
    (case kcMeanwhile => k_is)
    (case haMeanwhile => k_is)
    (case hnMeanwhile => k_is)
    (case htMeanwhile => k_is)
    (case hmMeanwhile => k_is)
    (case nMeanwhiletold => k_is)
    (case z_abs => k_is)
    (case z_all => k_is)
    (case z_any => k_is)
    (case z_bool => k_is)
    (case z_dict => k_is)
    (case z_int => k_is)
    (case z_isinstance => k_is)
    (case z_len => k_is)
    (case z_list => k_is)
    (case z_max => k_is)
    (case z_min => k_is)
    (case z_range => k_is)
    (case z_set => k_is)
    (case z_sorted => k_is)
    (case z_str => k_is)
    (case z_tuple => k_is)
    (case z_zip => k_is)
    (case g_KEY => k_is)
    (case g_LETTERS => k_is)
    (case g_MOST => k_is)
    )
