import PyProof.Rows.All
import Wide.All
import OpenK.AllK
import Wide.FinOn
import HandS.List
import HandS.ExcOwn
import HandS.ExcInit
import HandS.ExcIs
import HandS.ExcField
import HandS.ForMost
import HandS.Wide
import HandS.IsInst
import HandS.Conv
import HandS.Defaults
import HandS.Style
import HandS.Flow
import HandS.Strs
import HandS.TupSets
import PyProof.LongRange
import PyProof.ListRange
import KE.KExcIs
import HandS.Deep
import HandS.Iter
import HandS.TryOnly
import HandS.ExcValue
import HandS.Property
import HandS.MakeKwOnly
import KE.SortCalls
import KE.DatumOrd
import PyProof.TupleOfSeq
import HandS.More
import KE.GoesEnum
import KE.GoesMore
import KE.KIndexOf
import HandS.Codes
import KE.LtData
import PySem.Challenge.RW_handsatwork_k02_wants_and_neighbours
set_option Elab.async false
set_option linter.all false
set_option maxRecDepth 100000
set_option maxHeartbeats 4000000
/-! DLg: new tuples, laid so that it is known that they have no dict. -/
namespace L2
open PySem PySem.Spec PyProof.Rows
section
variable {X : Cx} {pn : List (Addr × Obj)} {st : St} {H : Hp} {sh : Shared}
/-- a new tuple on top -/
theorem Inv.tupN {tk : Nat} {xs : List V} {its : List Value} (I : Inv X pn st H sh) (rel : Vals xs its) (few : xs.length ≤ sizeLine) :
    Inv X pn st (upd H sh.heap.objs.size (.frz { cls := .type "tuple", data := .seq its.toArray } (.tup xs))) { sh with heap := sh.heap.push { cls := .type "tuple", data := .seq its.toArray }, toks := tk } := by
  have top := Heap.get?_push_size sh.heap (o := { cls := .type "tuple", data := .seq its.toArray }) rfl
  exact I.laid (t' := tk) (fun b u e => Heap.get?_push_of_some _ e) (Nat.le_refl _) ⟨top, few, its, rel, ⟨_, top, rfl, _, rfl⟩⟩
def tTupN (t : TA) : TE := fun σ H Q => t σ H fun xs H1 => xs.length ≤ sizeLine ∧ ∀ (p : Addr) (o : Obj), o.dict = none → H1 p = none → Q (.ref p) (upd H1 p (.frz o (.tup xs)))
theorem pe_tupN {es : List Expr} {t : TA} {k : Nat} {pos : Pos} (h : PA X es t) : PE X (.Tuple es k pos) (tTupN t) := ⟨fun pn sh st H Q I hq => by
  refine wpAny_Tuple_spliced (thn (h.run pos pn sh st H _ I hq) ?_)
  rintro us s1 ⟨xs, H1, I1, rel, few, q⟩
  exact ⟨rel.length ▸ few, .ref _, _, I1.tupN (tk := s1.toks) rel few, rfl, q _ _ rfl (I1.hok.fresh (Nat.le_refl _))⟩⟩
def rTupleN (K : PySem.W.Frag) : List V → Hp → VK → Prop := fun xs H Q => ∃ p ys, xs = [.ref p] ∧ ((SqL K H p ys ∧ ∀ (l : Addr) (o : Obj), o.dict = none → H l = none → Q (.ref l) (upd H l (.frz o (.tup ys)))) ∨ (SqT K H p ys ∧ Q (.ref p) H))
theorem call_tupleN : CallR X (.type "tuple") (rTupleN X.K) := by
  intro pn sh st H xs us Q I rel ⟨p, ys, ex, way⟩
  subst ex
  rcases way with ⟨hq, q⟩ | ⟨hq, q⟩
  · obtain ⟨u, rfl, ru⟩ := vals1 rel
    cases ru
    obtain ⟨its, rv, pl, few⟩ := I.list hq
    have same := rv.length
    refine call_tuple_list pl.isList (fun h1 kept => ?_) (by rw [List.size_toArray, ← same]; exact few)
    have I1 : Inv X pn st H { sh with heap := h1 } := I.kept (t' := sh.toks) kept
    exact ⟨.ref _, _, I1.tupN (tk := sh.toks) rv few, rfl, q _ _ rfl (I1.hok.fresh (Nat.le_refl _))⟩
  · exact call_tuple_of pn sh st H [.ref p] us Q I rel ⟨p, ys, rfl, .inr ⟨hq, q⟩⟩
def rDivmodN : List V → Hp → VK → Prop := fun xs H Q => ∃ i j, xs = [.int i, .int j] ∧ CDiv i j ∧ ∀ (p : Addr) (o : Obj), o.dict = none → H p = none → Q (.ref p) (upd H p (.frz o (.tup [.int (i / j), .int (i % j)])))
theorem call_divmodN : CallR X (.builtin "divmod") rDivmodN := by
  intro pn sh st H xs us Q I rel ⟨i, j, ex, ⟨pos, small⟩, q⟩
  subst ex
  obtain ⟨u, v, rfl, ⟨t, rfl⟩, ⟨t', rfl⟩⟩ := vals2 rel
  have quo := Int.fdiv_eq_ediv_of_nonneg i (show (0 : Int) ≤ j by omega)
  have rest := Int.fmod_eq_emod_of_nonneg i (show (0 : Int) ≤ j by omega)
  have short := PyProof.noPylong_small (x := i) (y := j) (h := by omega)
  refine divmod_int (by have := pos; omega) ?_ (Or.inl short)
  rw [quo, rest]
  exact ⟨.ref _, _, I.tupN (xs := [.int (i / j), .int (i % j)]) (its := [.int (i / j) sh.toks, .int (i % j) (sh.toks + 1)]) (.cons ⟨_, rfl⟩ (.cons ⟨_, rfl⟩ .nil)) (by show 2 ≤ sizeLine; decide), rfl, q _ _ rfl (I.hok.fresh (Nat.le_refl _))⟩
def rSlTN (K : PySem.W.Frag) : V → Option Int → Option Int → Hp → VK → Prop := fun x lo hi H Q => ∃ a xs, x = .ref a ∧ SqT K H a xs ∧
  ¬ (HT.sIx xs.length 0 lo = 0 ∧ HT.sIx xs.length xs.length hi = xs.length) ∧ ∀ (p : Addr) (o : Obj), o.dict = none → H p = none → Q (.ref p) (upd H p (.frz o (.tup (cutV xs lo hi))))
theorem sl_tupN : SlR X (rSlTN X.K) := by
  intro pn sh st H x v vl vu lo hi sl Q I rx hs pl pu ⟨a, xs, ex, hx, notAll, q⟩
  subst ex
  cases rx
  obtain ⟨its, rv, tup, few⟩ := I.tuple hx
  have size : its.toArray.size = xs.length := by rw [List.size_toArray]; exact rv.length.symm
  refine ⟨"tuple", _, PyProof.Rows.slot_tuple_getitem.lookup, tup.typeIs, HT.getItem_tuple_cut tup hs pl pu (by rw [size]; exact notAll) ?_ (by rw [size]; exact few)⟩
  rw [size]
  exact ⟨.ref _, _, I.tupN (tk := sh.toks) ((rv.drop (HT.sIx xs.length 0 lo)).take (HT.sIx xs.length xs.length hi - HT.sIx xs.length 0 lo)) (Nat.le_trans (cutV_length xs lo hi) few), rfl, q _ _ rfl (I.hok.fresh (Nat.le_refl _))⟩
end
end L2

/-! DL: a layer of data over the hand layer. D: what a value is worth; Rel: how an environment of data lies in a frame and a heap. -/
namespace DL
open PySem L2

inductive D where
  | non | bl (b : Bool) | int (i : Int) | str (s : Str) | lst (xs : List D) | tup (xs : List D) | fz (xs : List D)
  /-- an instance that stays; an exception that was not raised: its class by name, its fields -/
  | obj (c : Str) (ns : List Str) (xs : List D) | exn (c : Str) (ns : List Str) (xs : List D)
/-- an exception: its class by name, its fields -/
structure Exn where
  c : Str
  fs : List (Str × D)
inductive Res (α : Type) where
  | ok (a : α) | ex (x : Exn) | no
def Res.bind {α β : Type} (r : Res α) (f : α → Res β) : Res β := match r with
  | .ok a => f a
  | .ex x => .ex x
  | .no => .no
@[simp] theorem Res.bind_ok {α β : Type} (a : α) (f : α → Res β) : (Res.ok a).bind f = f a := rfl
@[simp] theorem Res.bind_no {α β : Type} (f : α → Res β) : (Res.no : Res α).bind f = .no := rfl
@[simp] theorem Res.bind_xx {α β : Type} (x : Exn) (f : α → Res β) : (Res.ex x : Res α).bind f = .ex x := rfl
theorem Res.bind_ex {α β : Type} {r : Res α} {f : α → Res β} {x : Exn} (h : r.bind f = .ex x) : r = .ex x ∨ ∃ a, r = .ok a ∧ f a = .ex x := by
  cases r with
  | ok a => exact .inr ⟨a, rfl, h⟩
  | ex y => cases h; exact .inl rfl
  | no => cases h
theorem Res.bind_eq {α β : Type} {r : Res α} {f : α → Res β} {b : β} (h : r.bind f = .ok b) : ∃ a, r = .ok a ∧ f a = .ok b := by
  cases r with
  | ok a => exact ⟨a, rfl, h⟩
  | ex y => cases h
  | no => cases h
def flat : D → Bool
  | .lst _ => false
  | .tup _ => false
  | .fz _ => false
  | .obj _ _ _ => false
  | .exn _ _ _ => false
  | _ => true
/-- kept data; data that was lent; a list that stands in a slot; a new list -/
inductive Kd where
  | g | b | h | o
structure Vl where
  k : Kd
  d : D
/-- may it be kept as it is -/
def Vl.keep : Vl → Bool
  | ⟨.g, _⟩ => true
  | ⟨.o, _⟩ => true
  | ⟨_, d⟩ => flat d
/-- may its items be kept -/
def Kd.it : Kd → List D → Bool
  | .b, xs => xs.all flat
  | _, _ => true
def Kd.sub : Kd → Kd
  | .b => .b
  | _ => .g
/-- what stands in a slot as the def's own, beside lists: an instance, a set of ints, a set of tuples of ints -/
inductive Om where
  | ins (c : Str) (ns : List Str) | slf (c : Str) (ns : List Str) | sti | stt
inductive Sl where
  | no | vl (g : Bool) (d : D) | ow (xs : List D) | xc (x : Exn) | om (t : Om) (xs : List D)
def Sl.own : Sl → Bool
  | .ow _ => true
  | .om _ _ => true
  | _ => false
abbrev En := List Sl

/-- at a: a tuple that is known to have no dict -/
def NoD (K : PySem.W.Frag) (G : Hp) (a : Addr) : Prop := (∃ (o : Obj) (u : HO), G a = some (.frz o u) ∧ o.dict = none) ∨ ∃ o : Obj, K.lookup a = some o ∧ o.dict = none
def SqN (K : PySem.W.Frag) (G : Hp) (a : Addr) (xs : List V) : Prop := SqT K G a xs ∧ NoD K G a
mutual
inductive Rep (K : PySem.W.Frag) (G : Hp) : V → D → Prop where
  | non : Rep K G .non .non
  | bl (b : Bool) : Rep K G (.bl b) (.bl b)
  | int (i : Int) : Rep K G (.int i) (.int i)
  | str (x : Str) : Rep K G (.str x) (.str x)
  | lst {a : Addr} {xs : List V} {ds : List D} : G a = some (.lst xs) → RepL K G xs ds → Rep K G (.ref a) (.lst ds)
  | fz {a : Addr} {xs : List V} {ds : List D} : SqL K G a xs → RepL K G xs ds → Rep K G (.ref a) (.fz ds)
  | tup {a : Addr} {xs : List V} {ds : List D} : SqN K G a xs → RepL K G xs ds → Rep K G (.ref a) (.tup ds)
  | obj {a C dx : Addr} {c : Str} {ns : List Str} {fs : List (Str × V)} {vs : List V} {ds : List D} : PySem.W.nsIn K mainGlobals c = some (some (.ref C)) → G a = some (.ins C dx fs) → fs.map Prod.fst = ns → fs.map Prod.snd = vs → RepL K G vs ds → Rep K G (.ref a) (.obj c ns ds)
  | exn0 {a C : Addr} {c : Str} : PySem.W.nsIn K mainGlobals c = some (some (.ref C)) → G a = some (exo a C none) → Rep K G (.ref a) (.exn c [] [])
  | exn {a C dx : Addr} {c : Str} {ns : List Str} {fs : List (Str × V)} {vs : List V} {ds : List D} : PySem.W.nsIn K mainGlobals c = some (some (.ref C)) → G a = some (exo a C (some dx)) → G dx = some (exd dx fs) → (∀ (i : Nat) (n : Str) (v : V), ns[i]? = some n → vs[i]? = some v → fs.lookup n = some v) → RepL K G vs ds → Rep K G (.ref a) (.exn c ns ds)
inductive RepL (K : PySem.W.Frag) (G : Hp) : List V → List D → Prop where
  | nil : RepL K G [] []
  | cons {v : V} {vs : List V} {d : D} {ds : List D} : Rep K G v d → RepL K G vs ds → RepL K G (v :: vs) (d :: ds)
end
theorem Same.sqt {K : PySem.W.Frag} {H H' : Hp} {a : Addr} {xs : List V} (e : Same H H') (h : SqT K H a xs) : SqT K H' a xs := by
  rcases h with (h | ⟨o, h⟩) | h
  · exact .inl (.inl (e _ _ h))
  · exact .inl (.inr ⟨o, e _ _ h⟩)
  · exact .inr h
theorem Same.sqn {K : PySem.W.Frag} {H H' : Hp} {a : Addr} {xs : List V} (e : Same H H') (h : SqN K H a xs) : SqN K H' a xs := by
  refine ⟨Same.sqt e h.1, ?_⟩
  rcases h.2 with ⟨o, u, h1, h2⟩ | h
  · exact .inl ⟨o, u, e _ _ h1, h2⟩
  · exact .inr h
theorem SqN.new {K : PySem.W.Frag} {H : Hp} {a : Addr} {xs : List V} {o : Obj} (hd : o.dict = none) : SqN K (upd H a (.frz o (.tup xs))) a xs := ⟨.inl (.inr ⟨o, upd_same⟩), .inl ⟨o, _, upd_same, hd⟩⟩
mutual
theorem Rep.mono {K : PySem.W.Frag} {G G' : Hp} (e : Same G G') : ∀ {v : V} {d : D}, Rep K G v d → Rep K G' v d
  | _, _, .non => .non
  | _, _, .bl b => .bl b
  | _, _, .int i => .int i
  | _, _, .str x => .str x
  | _, _, .lst h l => .lst (e _ _ h) (RepL.mono e l)
  | _, _, .fz h l => .fz (e.seq h) (RepL.mono e l)
  | _, _, .tup h l => .tup (Same.sqn e h) (RepL.mono e l)
  | _, _, .obj c h n v l => .obj c (e _ _ h) n v (RepL.mono e l)
  | _, _, .exn0 c h => .exn0 c (e _ _ h)
  | _, _, .exn c h hd k l => .exn c (e _ _ h) (e _ _ hd) k (RepL.mono e l)
theorem RepL.mono {K : PySem.W.Frag} {G G' : Hp} (e : Same G G') : ∀ {vs : List V} {ds : List D}, RepL K G vs ds → RepL K G' vs ds
  | _, _, .nil => .nil
  | _, _, .cons h l => .cons (Rep.mono e h) (RepL.mono e l)
end
section
variable {K : PySem.W.Frag} {G G' B H H' : Hp}
theorem Rep.flat {v : V} {d : D} (h : Rep K G v d) (f : flat d = true) : Rep K G' v d := by
  cases h with
  | non => exact .non
  | bl b => exact .bl b
  | int i => exact .int i
  | str x => exact .str x
  | lst _ _ => cases f
  | tup _ _ => cases f
  | fz _ _ => cases f
  | obj _ _ _ _ _ => cases f
  | exn0 _ _ => cases f
  | exn _ _ _ _ _ => cases f
theorem RepL.flat : ∀ {vs : List V} {ds : List D}, RepL K G vs ds → ds.all DL.flat = true → RepL K G' vs ds
  | _, _, .nil, _ => .nil
  | _, _, .cons h l, f => by
    rw [List.all_cons, Bool.and_eq_true] at f
    exact .cons (h.flat f.1) (RepL.flat l f.2)
theorem RepL.len : ∀ {vs : List V} {ds : List D}, RepL K G vs ds → vs.length = ds.length
  | _, _, .nil => rfl
  | _, _, .cons _ l => congrArg (· + 1) (RepL.len l)
theorem RepL.get : ∀ {vs : List V} {ds : List D} {i : Nat} {v : V}, RepL K G vs ds → vs[i]? = some v → ∃ d, ds[i]? = some d ∧ Rep K G v d
  | _, _, _, _, .nil, e => by simp at e
  | _, _, 0, _, .cons h _, e => by
    simp at e
    subst e
    exact ⟨_, rfl, h⟩
  | _, _, i + 1, _, .cons _ l, e => by
    obtain ⟨d, a, b⟩ := RepL.get (i := i) l (by simpa using e)
    exact ⟨d, by simpa using a, b⟩
theorem RepL.get' : ∀ {vs : List V} {ds : List D} {i : Nat} {d : D}, RepL K G vs ds → ds[i]? = some d → ∃ v, vs[i]? = some v ∧ Rep K G v d
  | _, _, _, _, .nil, e => by simp at e
  | _, _, 0, _, .cons h _, e => by
    simp at e
    subst e
    exact ⟨_, rfl, h⟩
  | _, _, i + 1, _, .cons _ l, e => by
    obtain ⟨d, a, b⟩ := RepL.get' (i := i) l (by simpa using e)
    exact ⟨d, by simpa using a, b⟩
theorem RepL.app : ∀ {vs ws : List V} {ds es : List D}, RepL K G vs ds → RepL K G ws es → RepL K G (vs ++ ws) (ds ++ es)
  | _, _, _, _, .nil, r => r
  | _, _, _, _, .cons h l, r => .cons h (RepL.app l r)
theorem RepL.set {v : V} {d : D} (h : Rep K G v d) : ∀ {vs : List V} {ds : List D} (i : Nat), RepL K G vs ds → RepL K G (vs.set i v) (ds.set i d)
  | _, _, _, .nil => .nil
  | _, _, 0, .cons _ l => .cons h l
  | _, _, i + 1, .cons q l => .cons q (RepL.set h i l)
theorem RepL.take : ∀ {vs : List V} {ds : List D} (n : Nat), RepL K G vs ds → RepL K G (vs.take n) (ds.take n)
  | _, _, 0, _ => .nil
  | _, _, _ + 1, .nil => .nil
  | _, _, n + 1, .cons h l => .cons h (RepL.take n l)
theorem RepL.drop : ∀ {vs : List V} {ds : List D} (n : Nat), RepL K G vs ds → RepL K G (vs.drop n) (ds.drop n)
  | _, _, 0, r => r
  | _, _, _ + 1, .nil => .nil
  | _, _, n + 1, .cons _ l => RepL.drop n l
theorem RepL.ints : ∀ {vs : List V} {ns : List Int}, RepL K G vs (ns.map D.int) → vs = ns.map V.int
  | [], [], _ => rfl
  | v :: vs, n :: ns, .cons h l => by
    cases h
    rw [RepL.ints l]
    rfl
theorem RepL.ofInts : ∀ ns : List Int, RepL K G (ns.map V.int) (ns.map D.int)
  | [] => .nil
  | n :: ns => .cons (.int n) (RepL.ofInts ns)
end

/-- what an expression may have done: new objects, in the kept part and beside it -/
structure Ext (G H G' H' : Hp) : Prop where
  gg : Same G G'
  hh : Same H H'
  gh : Same G' H'
  fr : ∀ a, G a = none → G' a ≠ none → H a = none
section
variable {K : PySem.W.Frag} {W : Wi} {B G0 G G' G'' H H' H'' : Hp} {env : En} {σ : L2.St}
theorem Ext.refl (h : Same G H) : Ext G H G H := ⟨Same.refl G, Same.refl H, h, fun a e n => absurd e n⟩
theorem Ext.trans (a : Ext G H G' H') (b : Ext G' H' G'' H'') : Ext G H G'' H'' :=
  ⟨a.gg.trans b.gg, a.hh.trans b.hh, b.gh, fun x e n => by
    by_cases h : G' x = none
    · exact a.hh.free (b.fr x h n)
    · exact a.fr x e h⟩
theorem not_some {α : Type} {o : Option α} (h : ∀ x, o = some x → False) : o = none := by
  cases o with
  | none => rfl
  | some x => exact (h x rfl).elim
theorem same_upd {H H' : Hp} {p : Addr} {o : HO} (s : Same H H') (h : H p = none) : Same H (upd H' p o) := fun b u e => by
  rw [upd_ne (ne_of_none e h)]
  exact s b u e
/-- a new object beside the kept part -/
theorem Ext.new {p : Addr} {o : HO} (h : Same G H) (hp : H p = none) : Ext G H G (upd H p o) :=
  ⟨Same.refl G, same_upd (Same.refl H) hp, same_upd h (h.free hp), fun a e n => absurd e n⟩
/-- a new object of the kept part -/
theorem Ext.newG {p : Addr} {o : HO} (h : Same G H) (hp : H p = none) : Ext G H (upd G p o) (upd H p o) :=
  ⟨same_upd (Same.refl G) (h.free hp), same_upd (Same.refl H) hp, fun b u e => by
    by_cases q : b = p
    · subst q
      rw [upd_same] at e ⊢
      exact e
    · rw [upd_ne q] at e ⊢
      exact h b u e, fun a e n => by
    by_cases q : a = p
    · rw [q]; exact hp
    · rw [upd_ne q] at n
      exact absurd e n⟩

/-- what is wished of exceptions; the caught one: where, its class, its dict -/
structure Tl where
  P : Program
  wd : World
  me : Addr
structure Wi where
  w : WX
  ρ : Addr × Value × Option Addr
  T : Tl
/-- an exception as it lies -/
def RepX (K : PySem.W.Frag) (G H : Hp) (x : Exn) (cls : Value) (d : Option Addr) : Prop := ∃ C : Addr, cls = .ref C ∧ PySem.W.nsIn K mainGlobals x.c = some (some (.ref C)) ∧ (x.fs = [] → d = none) ∧
  (x.fs ≠ [] → ∃ (dd : Addr) (l : List (Str × V)), d = some dd ∧ G dd = some (.xd l) ∧ ∀ f y, (f, y) ∈ x.fs → ∃ v, l.lookup f = some v ∧ Rep K G v y)
theorem RepX.ext {K : PySem.W.Frag} {G H G' H' : Hp} {x : Exn} {cls : Value} {d : Option Addr} (e : Ext G H G' H') (h : RepX K G H x cls d) : RepX K G' H' x cls d := by
  obtain ⟨C, h1, h2, h0, h3⟩ := h
  refine ⟨C, h1, h2, h0, fun n => ?_⟩
  obtain ⟨dd, l, e1, e2, e3⟩ := h3 n
  refine ⟨dd, l, e1, e.gg _ _ e2, fun f y m => ?_⟩
  obtain ⟨v, a, b⟩ := e3 f y m
  exact ⟨v, a, b.mono e.gg⟩
/-- how an own thing lies -/
def OmOk (K : PySem.W.Frag) (W : Wi) (G H : Hp) : Om → Addr → List D → Prop
  | .ins c ns, L, xs => ∃ (C dx : Addr) (fs : List (Str × V)), PySem.W.nsIn K mainGlobals c = some (some (.ref C)) ∧ H L = some (.ins C dx fs) ∧ fs.map Prod.fst = ns ∧ RepL K G (fs.map Prod.snd) xs
  | .slf c ns, L, xs => L = W.T.me ∧ ∃ (C dx : Addr) (fs : List (Str × V)), PySem.W.nsIn K mainGlobals c = some (some (.ref C)) ∧ H L = some (.ins C dx fs) ∧ fs.map Prod.fst = ns ∧ RepL K G (fs.map Prod.snd) xs
  | .sti, L, xs => ∃ (S : Int → Bool) (ns : List Int), H L = some (SetO W.T.wd L S ns.length) ∧ xs = ns.map D.int ∧ ns.Nodup ∧ ∀ i, S i = decide (i ∈ ns)
  | .stt, L, xs => ∃ Ls : List (Addr × List Int), H L = some (SetTO W.T.P W.T.wd L Ls) ∧ (Ls.map fun p => D.tup (p.2.map D.int)).Perm xs ∧ ∀ p ∈ Ls, SqT K G p.1 (p.2.map V.int)
theorem OmOk.there {K : PySem.W.Frag} {W : Wi} {G H : Hp} {t : Om} {L : Addr} {xs : List D} (h : OmOk K W G H t L xs) : ∃ o, H L = some o := by
  match t, h with
  | .ins c ns, ⟨C, dx, fs, _, h, _⟩ => exact ⟨_, h⟩
  | .slf c ns, ⟨_, C, dx, fs, _, h, _⟩ => exact ⟨_, h⟩
  | .sti, ⟨S, ns, h, _⟩ => exact ⟨_, h⟩
  | .stt, ⟨Ls, h, _⟩ => exact ⟨_, h⟩
/-- it stays as it is, while the kept part grows -/
theorem OmOk.mono {K : PySem.W.Frag} {W W' : Wi} {G H G' H' : Hp} {t : Om} {L : Addr} {xs : List D} (h : OmOk K W G H t L xs) (s : Same G G') (e : H' L = H L) (hT : W.T = W'.T) : OmOk K W' G' H' t L xs := by
  match t, h with
  | .ins c ns, ⟨C, dx, fs, h1, h2, h3, h4⟩ => exact ⟨C, dx, fs, h1, e.trans h2, h3, h4.mono s⟩
  | .slf c ns, ⟨h0, C, dx, fs, h1, h2, h3, h4⟩ => exact ⟨hT ▸ h0, C, dx, fs, h1, e.trans h2, h3, h4.mono s⟩
  | .sti, ⟨S, ns, h1, h2⟩ => exact ⟨S, ns, hT ▸ e.trans h1, h2⟩
  | .stt, ⟨Ls, h1, h2, h3⟩ => exact ⟨Ls, hT ▸ e.trans h1, h2, fun p hp => DL.Same.sqt s (h3 p hp)⟩
def SlOk (K : PySem.W.Frag) (W : Wi) (B G H : Hp) : Sl → Option V → Prop
  | .no, _ => True
  | .vl true d, o => ∃ v, o = some v ∧ Rep K G v d
  | .vl false d, o => ∃ v, o = some v ∧ Rep K B v d
  | .xc x, o => o = some (.ref W.ρ.1) ∧ RepX K G H x W.ρ.2.1 W.ρ.2.2
  | .ow xs, o => ∃ L vs, o = some (.ref L) ∧ B L = none ∧ G L = none ∧ H L = some (.lst vs) ∧ RepL K G vs xs
  | .om t xs, o => ∃ L, o = some (.ref L) ∧ B L = none ∧ G L = none ∧ OmOk K W G H t L xs
structure Rel (K : PySem.W.Frag) (W : Wi) (B G0 G : Hp) (env : En) (σ : L2.St) (H : Hp) : Prop where
  g0 : Same G0 G
  gh : Same G H
  bh : Same B H
  fr : ∀ a, G0 a = none → G a ≠ none → B a = none
  len : env.length = σ.length
  sl : ∀ (i : Nat) s o, env[i]? = some s → σ[i]? = some o → SlOk K W B G H s o
  ds : ∀ (i j : Nat) s t L, i ≠ j → env[i]? = some s → env[j]? = some t → s.own = true → t.own = true → σ[i]? = some (some (.ref L)) → σ[j]? = some (some (.ref L)) → False
theorem RepX.same {K : PySem.W.Frag} {G H G' : Hp} {x : Exn} {cls : Value} {d : Option Addr} (e : Same G G') (h : RepX K G H x cls d) : RepX K G' H x cls d := by
  obtain ⟨C, h1, h2, h0, h3⟩ := h
  refine ⟨C, h1, h2, h0, fun n => ?_⟩
  obtain ⟨dd, l, e1, e2, e3⟩ := h3 n
  refine ⟨dd, l, e1, e _ _ e2, fun f y m => ?_⟩
  obtain ⟨v, a, b⟩ := e3 f y m
  exact ⟨v, a, b.mono e⟩
theorem SlOk.ext {s : Sl} {o : Option V} (x : Ext G H G' H') (h : SlOk K W B G H s o) : SlOk K W B G' H' s o := by
  match s, h with
  | .no, _ => exact trivial
  | .xc y, ⟨e1, e2⟩ => exact ⟨e1, e2.ext x⟩
  | .vl true d, ⟨v, e, r⟩ => exact ⟨v, e, r.mono x.gg⟩
  | .vl false d, ⟨v, e, r⟩ => exact ⟨v, e, r⟩
  | .ow xs, ⟨L, vs, e, b, g, hl, r⟩ =>
    refine ⟨L, vs, e, b, not_some fun u q => ?_, x.hh _ _ hl, r.mono x.gg⟩
    have := x.fr L g (by rw [q]; exact fun z => nomatch z)
    rw [hl] at this
    cases this
  | .om t xs, ⟨L, e, b, g, h⟩ =>
    obtain ⟨o, hl⟩ := h.there
    refine ⟨L, e, b, not_some fun u q => ?_, h.mono x.gg ((x.hh _ _ hl).trans hl.symm) rfl⟩
    have := x.fr L g (by rw [q]; exact fun z => nomatch z)
    rw [hl] at this
    cases this
theorem Rel.ext (r : Rel K W B G0 G env σ H) (x : Ext G H G' H') : Rel K W B G0 G' env σ H' :=
  ⟨r.g0.trans x.gg, x.gh, r.bh.trans x.hh, fun a e n => by
    by_cases h : G a = none
    · exact r.bh.free (x.fr a h n)
    · exact r.fr a e h, r.len, fun i s o e1 e2 => (r.sl i s o e1 e2).ext x, r.ds⟩

/-- how a value lies: behind an expression that began at H -/
def Rp (K : PySem.W.Frag) (B G' H H' : Hp) (u : Vl) (v : V) : Prop := match u.k with
  | .g => Rep K G' v u.d
  | .b => Rep K B v u.d
  | .h => ∃ L vs ds, v = .ref L ∧ u.d = .lst ds ∧ B L = none ∧ G' L = none ∧ H' L = some (.lst vs) ∧ RepL K G' vs ds
  | .o => ∃ L vs ds, v = .ref L ∧ u.d = .lst ds ∧ H L = none ∧ G' L = none ∧ H' L = some (.lst vs) ∧ RepL K G' vs ds
theorem Ext.out {L : Addr} {o : HO} (x : Ext G' H' G'' H'') (g : G' L = none) (h : H' L = some o) : G'' L = none := not_some fun u q => by
  have := x.fr L g (by rw [q]; exact fun z => nomatch z)
  rw [h] at this
  cases this
theorem Rp.mono {u : Vl} {v : V} (x : Ext G' H' G'' H'') (h : Rp K B G' H H' u v) : Rp K B G'' H H'' u v := by
  obtain ⟨k, d⟩ := u
  cases k with
  | g => exact Rep.mono x.gg h
  | b => exact h
  | h =>
    obtain ⟨L, vs, ds, e1, e2, b, g, e3, e4⟩ := h
    exact ⟨L, vs, ds, e1, e2, b, x.out g e3, x.hh _ _ e3, e4.mono x.gg⟩
  | o =>
    obtain ⟨L, vs, ds, e1, e2, e3, e4, e5, e6⟩ := h
    exact ⟨L, vs, ds, e1, e2, e3, x.out e4 e5, x.hh _ _ e5, e6.mono x.gg⟩
/-- made later -/
theorem Rp.from {u : Vl} {v : V} {H0 : Hp} (s : Same H0 H) (h : Rp K B G' H H' u v) : Rp K B G' H0 H' u v := by
  obtain ⟨k, d⟩ := u
  cases k with
  | g => exact h
  | b => exact h
  | h => exact h
  | o =>
    obtain ⟨L, vs, ds, e1, e2, e3, e4, e5, e6⟩ := h
    exact ⟨L, vs, ds, e1, e2, s.free e3, e4, e5, e6⟩
/-- read only -/
theorem Rp.look {u : Vl} {v : V} (r : Rel K W B G0 G' env σ H') (h : Rp K B G' H H' u v) : Rep K H' v u.d := by
  obtain ⟨k, d⟩ := u
  cases k with
  | g => exact Rep.mono r.gh h
  | b => exact Rep.mono r.bh h
  | h =>
    obtain ⟨L, vs, ds, e1, e2, _, _, e3, e4⟩ := h
    dsimp only at e2
    subst e1 e2
    exact .lst e3 (e4.mono r.gh)
  | o =>
    obtain ⟨L, vs, ds, e1, e2, e3, e4, e5, e6⟩ := h
    dsimp only at e2
    subst e1 e2
    exact .lst e5 (e6.mono r.gh)
/-- kept from now on -/
theorem Rp.freeze {u : Vl} {v : V} (x : Ext G H G' H') (hk : u.keep = true) (h : Rp K B G' H H' u v) : ∃ G'', Ext G H G'' H' ∧ Same G' G'' ∧ Rep K G'' v u.d := by
  obtain ⟨k, d⟩ := u
  cases k with
  | g => exact ⟨G', x, Same.refl _, h⟩
  | b => exact ⟨G', x, Same.refl _, Rep.flat h hk⟩
  | h =>
    obtain ⟨L, vs, ds, e1, e2, _, _, e3, e4⟩ := h
    dsimp only at e2
    subst e2
    cases hk
  | o =>
    obtain ⟨L, vs, ds, e1, e2, e3, e4, e5, e6⟩ := h
    dsimp only at e2
    subst e1 e2
    have s1 : Same G' (upd G' L (.lst vs)) := same_upd (Same.refl _) e4
    refine ⟨upd G' L (.lst vs), ⟨x.gg.trans s1, x.hh, fun b u e => ?_, fun a e n => ?_⟩, s1, .lst upd_same (e6.mono s1)⟩
    · by_cases q : b = L
      · subst q
        rw [upd_same] at e
        cases e
        exact e5
      · rw [upd_ne q] at e
        exact x.gh b u e
    · by_cases q : a = L
      · rw [q]; exact e3
      · rw [upd_ne q] at n
        exact x.fr a e n
theorem Rep.lst_inv {v : V} {xs : List D} (h : Rep K G v (.lst xs)) : ∃ a vs, v = .ref a ∧ G a = some (.lst vs) ∧ RepL K G vs xs := by
  cases h with
  | lst a b => exact ⟨_, _, rfl, a, b⟩
theorem Rep.tup_inv {v : V} {xs : List D} (h : Rep K G v (.tup xs)) : ∃ a vs, v = .ref a ∧ SqT K G a vs ∧ RepL K G vs xs := by
  cases h with
  | tup a b => exact ⟨_, _, rfl, a.1, b⟩
theorem Rep.tup_invN {v : V} {xs : List D} (h : Rep K G v (.tup xs)) : ∃ a vs, v = .ref a ∧ SqN K G a vs ∧ RepL K G vs xs := by
  cases h with
  | tup a b => exact ⟨_, _, rfl, a, b⟩
theorem Rep.fz_inv {v : V} {xs : List D} (h : Rep K G v (.fz xs)) : ∃ a vs, v = .ref a ∧ SqL K G a vs ∧ RepL K G vs xs := by
  cases h with
  | fz a b => exact ⟨_, _, rfl, a, b⟩
theorem Rep.int_inv {v : V} {i : Int} (h : Rep K G v (.int i)) : v = .int i := by cases h; rfl
theorem Rep.bl_inv {v : V} {b : Bool} (h : Rep K G v (.bl b)) : v = .bl b := by cases h; rfl
theorem Rep.str_inv {v : V} {x : Str} (h : Rep K G v (.str x)) : v = .str x := by cases h; rfl
theorem Rep.non_inv {v : V} (h : Rep K G v .non) : v = .non := by cases h; rfl
/-- a list's items, as they lie -/
theorem Rp.items {u : Vl} {v : V} {xs : List D} (r : Rel K W B G0 G' env σ H') (h : Rp K B G' H H' u v) (e : u.d = .lst xs) (hk : u.k.it xs = true) : ∃ a vs, v = .ref a ∧ H' a = some (.lst vs) ∧ RepL K G' vs xs := by
  obtain ⟨k, d⟩ := u
  dsimp only at e hk
  subst e
  cases k with
  | g =>
    obtain ⟨a, vs, e, h1, h2⟩ := Rep.lst_inv h
    exact ⟨a, vs, e, r.gh _ _ h1, h2⟩
  | b =>
    obtain ⟨a, vs, e, h1, h2⟩ := Rep.lst_inv h
    exact ⟨a, vs, e, r.bh _ _ h1, h2.flat hk⟩
  | h =>
    obtain ⟨L, vs, ds, e1, e2, _, _, e3, e4⟩ := h
    cases e2
    exact ⟨L, vs, e1, e3, e4⟩
  | o =>
    obtain ⟨L, vs, ds, e1, e2, _, _, e3, e4⟩ := h
    cases e2
    exact ⟨L, vs, e1, e3, e4⟩
end

def XOk (K : PySem.W.Frag) (G : Hp) (σ : L2.St) (H : Hp) (W : Wi) (x : Exn) : Prop := ∀ G' H' cls d, Ext G H G' H' → RepX K G' H' x cls d → W.w cls d σ H'
theorem XOk.ext {K : PySem.W.Frag} {G H G' H' : Hp} {σ : L2.St} {W : Wi} {x : Exn} (h : XOk K G σ H W x) (e : Ext G H G' H') : XOk K G' σ H' W x := fun G2 H2 cls d e2 r => h G2 H2 cls d (e.trans e2) r
/-- the reading te of an expression gives what f says -/
structure EvD (K : PySem.W.Frag) (W : Wi) (te : TE) (f : En → Res Vl) : Prop where
  ok : ∀ (B G0 G : Hp) (env : En) (σ : L2.St) (H : Hp) (u : Vl), Rel K W B G0 G env σ H → f env = .ok u → ∀ Q : VK, (∀ G' H' v, Ext G H G' H' → Rp K B G' H H' u v → Q v H') → te σ H Q
  ex : ∀ (B G0 G : Hp) (env : En) (σ : L2.St) (H : Hp) (x : Exn), Rel K W B G0 G env σ H → f env = .ex x → XOk K G σ H W x → ∀ Q : VK, te σ H Q
structure EvT (K : PySem.W.Frag) (W : Wi) (tt : TT) (f : En → Res Bool) : Prop where
  ok : ∀ (B G0 G : Hp) (env : En) (σ : L2.St) (H : Hp) (b : Bool), Rel K W B G0 G env σ H → f env = .ok b → ∀ Q : Bool → Hp → Prop, (∀ G' H', Ext G H G' H' → Q b H') → tt σ H Q
  ex : ∀ (B G0 G : Hp) (env : En) (σ : L2.St) (H : Hp) (x : Exn), Rel K W B G0 G env σ H → f env = .ex x → XOk K G σ H W x → ∀ Q : Bool → Hp → Prop, tt σ H Q
/-- arguments: what was new is kept -/
def Vl.arg : Vl → Vl
  | ⟨.o, d⟩ => ⟨.g, d⟩
  | u => u
def RpL (K : PySem.W.Frag) (B G' H' : Hp) : List Vl → List V → Prop
  | [], vs => vs = []
  | u :: us, vs => ∃ v r, vs = v :: r ∧ Rp K B G' H' H' u v ∧ RpL K B G' H' us r
structure EvA (K : PySem.W.Frag) (W : Wi) (ta : TA) (f : En → Res (List Vl)) : Prop where
  ok : ∀ (B G0 G : Hp) (env : En) (σ : L2.St) (H : Hp) (us : List Vl), Rel K W B G0 G env σ H → f env = .ok us → ∀ Q : List V → Hp → Prop, (∀ G' H' vs, Ext G H G' H' → RpL K B G' H' us vs → Q vs H') → ta σ H Q
  ex : ∀ (B G0 G : Hp) (env : En) (σ : L2.St) (H : Hp) (x : Exn), Rel K W B G0 G env σ H → f env = .ex x → XOk K G σ H W x → ∀ Q : List V → Hp → Prop, ta σ H Q
structure DE (X : Cx) (W : Wi) (e : Expr) (te : TE) (f : En → Res Vl) : Prop where
  pe : PE X e te
  ev : EvD X.K W te f
structure DT (X : Cx) (W : Wi) (e : Expr) (tt : TT) (f : En → Res Bool) : Prop where
  pt : PT X e tt
  ev : EvT X.K W tt f
structure DW (X : Cx) (W : Wi) (e : Expr) (tt : TT) (f : En → Res Bool) : Prop where
  pw : PW X e tt
  ev : EvT X.K W tt f
structure DA (X : Cx) (W : Wi) (es : List Expr) (ta : TA) (f : En → Res (List Vl)) : Prop where
  pa : PA X es ta
  ev : EvA X.K W ta f
section
variable {K : PySem.W.Frag} {W : Wi} {B G0 G G' G'' H H' H'' : Hp} {env : En} {σ : L2.St}
theorem Rp.arg {u : Vl} {v : V} (x : Ext G H G' H') (h : Rp K B G' H H' u v) : ∃ G'', Ext G H G'' H' ∧ Rp K B G'' H' H' u.arg v := by
  obtain ⟨k, d⟩ := u
  cases k with
  | g => exact ⟨G', x, h⟩
  | b => exact ⟨G', x, h⟩
  | h => exact ⟨G', x, h⟩
  | o =>
    obtain ⟨G2, x2, _, h2⟩ := h.freeze x rfl
    exact ⟨G2, x2, h2⟩
theorem Rp.own {u : Vl} {v : V} (h : Rp K B G' H' H' u v) (k : u.k ≠ .o) : Rp K B G' H H' u v := by
  obtain ⟨k', d⟩ := u
  cases k' with
  | g => exact h
  | b => exact h
  | h => exact h
  | o => exact absurd rfl k
theorem Vl.arg_k (u : Vl) : u.arg.k ≠ .o := by
  obtain ⟨k, d⟩ := u
  cases k <;> exact fun z => nomatch z
theorem Vl.arg_d (u : Vl) : u.arg.d = u.d := by
  obtain ⟨k, d⟩ := u
  cases k <;> rfl
/-- the operands of a two-place operation -/
theorem ev_two {ta tb : TE} {f g : En → Res Vl} (ha : EvD K W ta f) (hb : EvD K W tb g) {u w : Vl} (r : Rel K W B G0 G env σ H) (e1 : f env = .ok u) (e2 : g env = .ok w) {R : V → V → Hp → Prop}
    (k : ∀ G' H' x y, Ext G H G' H' → Rel K W B G0 G' env σ H' → Rp K B G' H H' u x → Rp K B G' H H' w y → R x y H') : ta σ H fun x H1 => tb σ H1 fun y H2 => R x y H2 :=
  ha.ok B G0 G env σ H u r e1 _ fun G1 H1 x x1 h1 => hb.ok B G0 G1 env σ H1 w (r.ext x1) e2 _ fun G2 H2 y x2 h2 => k G2 H2 x y (x1.trans x2) ((r.ext x1).ext x2) (h1.mono x2) (h2.from x1.hh)
end

/-! ### expressions -/
def cE (d : D) : En → Res Vl := fun _ => .ok ⟨.g, d⟩
def kd : Bool → Kd
  | true => .g
  | false => .b
def nmE (i : Nat) : En → Res Vl := fun env => match env[i]? with
  | some (.vl g d) => .ok ⟨kd g, d⟩
  | some (.ow xs) => .ok ⟨.h, .lst xs⟩
  | _ => .no
def binE (p : Vl → Vl → Res Vl) (f g : En → Res Vl) : En → Res Vl := fun env => (f env).bind fun x => (g env).bind fun y => p x y
def unE (p : Vl → Res Vl) (f : En → Res Vl) : En → Res Vl := fun env => (f env).bind p
def nilA : En → Res (List Vl) := fun _ => .ok []
def consA (f : En → Res Vl) (g : En → Res (List Vl)) : En → Res (List Vl) := fun env => (f env).bind fun x => (g env).bind fun xs => .ok (x.arg :: xs)
def callE (p : List Vl → Res Vl) (f : En → Res (List Vl)) : En → Res Vl := fun env => (f env).bind p
section
variable {X : Cx} {W : Wi} {pos : Pos}
theorem ev_c {K : PySem.W.Frag} {W : Wi} {d : D} {v : V} (h : ∀ G, Rep K G v d) : EvD K W (tC v) (cE d) := ⟨fun B G0 G env σ H u r e Q q => by
  cases e
  exact q G H v (Ext.refl r.gh) (h G), fun B G0 G env σ H x r e => nomatch e⟩
theorem de_int {i : Int} {j} : DE X W (.Constant (.int i) j pos) (tC (.int i)) (cE (.int i)) := ⟨pe_int, ev_c fun _ => .int i⟩
theorem de_bl {b : Bool} {j} : DE X W (.Constant (.bool b) j pos) (tC (.bl b)) (cE (.bl b)) := ⟨pe_bl, ev_c fun _ => .bl b⟩
theorem de_non {j} : DE X W (.Constant .none j pos) (tC .non) (cE .non) := ⟨pe_non, ev_c fun _ => .non⟩
theorem de_str {x : Str} {j} : DE X W (.Constant (.str x) j pos) (tC (.str x)) (cE (.str x)) := ⟨pe_str, ev_c fun _ => .str x⟩
theorem nmE_ne {i : Nat} {env : En} {x : Exn} : nmE i env ≠ .ex x := by
  unfold nmE
  split <;> exact fun z => nomatch z
theorem ev_nm {K : PySem.W.Frag} {W : Wi} (i : Nat) : EvD K W (tVar i) (nmE i) := ⟨fun B G0 G env σ H u r e Q q => by
  have hl := r.len
  unfold nmE at e
  cases es : env[i]? with
  | none => rw [es] at e; cases e
  | some s =>
    rw [es] at e
    have hi : i < σ.length := by
      have := (List.getElem?_eq_some_iff.mp es).1
      omega
    have eo : σ[i]? = some σ[i] := List.getElem?_eq_getElem hi
    have h := r.sl i s _ es eo
    match s, h, e with
    | .vl true d, ⟨v, e1, h1⟩, e =>
      cases e
      exact ⟨v, by rw [eo, e1], q G H v (Ext.refl r.gh) h1⟩
    | .vl false d, ⟨v, e1, h1⟩, e =>
      cases e
      exact ⟨v, by rw [eo, e1], q G H v (Ext.refl r.gh) h1⟩
    | .ow xs, ⟨L, vs, e1, h1⟩, e =>
      cases e
      exact ⟨.ref L, by rw [eo, e1], q G H _ (Ext.refl r.gh) ⟨L, vs, xs, rfl, rfl, h1⟩⟩, fun B G0 G env σ H x r e => absurd e nmE_ne⟩
theorem de_nm (i : Nat) {x : Str} (hN : X.N[i]? = some x := by rfl) (hv : Vis X.env.scope x := by first | exact Or.inl rfl | exact Or.inr (Or.inl rfl) | exact Or.inr (Or.inr rfl)) (hd : (x == ("__debug__" : Str)) = false := by decide)
    (hcd : (x == ("__classdict__" : Str)) = false := by decide) : DE X W (.Name x pos) (tVar i) (nmE i) := ⟨pe_var hN hv hd hcd, ev_nm i⟩
end

/-- a two-place reading does what p says -/
structure Snd2 (K : PySem.W.Frag) (r : R2) (p : Vl → Vl → Res Vl) : Prop where
  ok : ∀ (B G0 G G' : Hp) (env : En) (σ : L2.St) (H H' : Hp) (u w z : Vl) (x y : V) (Q : VK), Rel K W B G0 G' env σ H' → Rp K B G' H H' u x → Rp K B G' H H' w y → p u w = .ok z →
    (∀ G2 H2 v, Ext G' H' G2 H2 → Rp K B G2 H' H2 z v → Q v H2) → r x y H' Q
  ne : ∀ u w x, p u w ≠ .ex x
theorem ev_bin {K : PySem.W.Frag} {W : Wi} {r : R2} {p : Vl → Vl → Res Vl} {ta tb : TE} {f g : En → Res Vl} (s : Snd2 K r p) (ha : EvD K W ta f) (hb : EvD K W tb g) : EvD K W (tOp r ta tb) (binE p f g) := ⟨fun B G0 G env σ H z rl e Q q => by
  obtain ⟨u, e1, e⟩ := Res.bind_eq e
  obtain ⟨w, e2, e⟩ := Res.bind_eq e
  exact ev_two ha hb rl e1 e2 fun G' H' x y xt r' h1 h2 => s.ok B G0 G G' env σ H H' u w z x y Q r' h1 h2 e fun G2 H2 v x2 h3 => q G2 H2 v (xt.trans x2) (h3.from xt.hh),
  fun B G0 G env σ H x rl e w Q => by
  rcases Res.bind_ex e with e1 | ⟨u, e1, e⟩
  · exact ha.ex B G0 G env σ H x rl e1 w _
  · rcases Res.bind_ex e with e2 | ⟨u2, e2, e⟩
    · exact ha.ok B G0 G env σ H u rl e1 _ fun G1 H1 v x1 h1 => hb.ex B G0 G1 env σ H1 x (rl.ext x1) e2 (w.ext x1) _
    · exact absurd e (s.ne _ _ _)⟩
theorem Snd2.or1 {K : PySem.W.Frag} {r r' : R2} {p : Vl → Vl → Res Vl} (h : Snd2 K r p) : Snd2 K (fun x y H Q => r x y H Q ∨ r' x y H Q) p := ⟨fun B G0 G G' env σ H H' u w z x y Q a b c d e => .inl (h.ok B G0 G G' env σ H H' u w z x y Q a b c d e), h.ne⟩
section
variable {X : Cx} {W : Wi} {pos : Pos} {a b : Expr} {ta tb : TE} {f g : En → Res Vl}
theorem de_bin {op : Operator} {r : R2} {p : Vl → Vl → Res Vl} (ho : OpR X (binaryOp op) r) (s : Snd2 X.K r p) (ha : DE X W a ta f) (hb : DE X W b tb g) : DE X W (.BinOp a op b pos) (tOp r ta tb) (binE p f g) := ⟨pe_op ho ha.pe hb.pe, ev_bin s ha.ev hb.ev⟩
theorem de_cmp {op : CmpOp} {r : R2} {p : Vl → Vl → Res Vl} (ho : OpR X (compareOp op) r) (s : Snd2 X.K r p) (ha : DE X W a ta f) (hb : DE X W b tb g) (hm : behindInMarks op b = false) : DE X W (.Compare a [op] [b] pos) (tOp r ta tb) (binE p f g) :=
  ⟨pe_cmpR ho ha.pe hb.pe hm, ev_bin s ha.ev hb.ev⟩
end
end DL

namespace DL
open PySem L2
/-! ### operators by data -/
def intP (g : Int → Int → Res D) : Vl → Vl → Res Vl := fun u w => match u.d, w.d with
  | .int i, .int j => (g i j).bind fun d => .ok ⟨.g, d⟩
  | _, _ => .no
def catP : Vl → Vl → Res Vl := fun u w => match u.d, w.d with
  | .lst xs, .lst ys => if u.k.it xs = true ∧ w.k.it ys = true ∧ xs.length + ys.length ≤ sizeLine then .ok ⟨.o, .lst (xs ++ ys)⟩ else .no
  | _, _ => .no
def scatP : Vl → Vl → Res Vl := fun u w => match u.d, w.d with
  | .str a, .str b => if a.length + b.length ≤ sizeLine then .ok ⟨.g, .str (a ++ b)⟩ else .no
  | _, _ => .no
def addI (i j : Int) : Res D := .ok (.int (i + j))
def addP : Vl → Vl → Res Vl := fun u w => match u.d, w.d with
  | .int _, _ => intP addI u w
  | .lst _, _ => catP u w
  | .str _, _ => scatP u w
  | _, _ => .no
def subI (i j : Int) : Res D := .ok (.int (i - j))
instance (i j : Int) : Decidable (CMulW i j) := by unfold CMulW; infer_instance
instance (i j : Int) : Decidable (CDivW i j) := by unfold CDivW; infer_instance
instance (i j : Int) : Decidable (CPow i j) := by unfold CPow; infer_instance
instance (i j : Int) : Decidable (CDiv i j) := by unfold CDiv; infer_instance
def mulI (i j : Int) : Res D := if CMulW i j then .ok (.int (i * j)) else .no
def divI (i j : Int) : Res D := if CDivW i j then .ok (.int (i / j)) else .no
def modI (i j : Int) : Res D := if 0 < j then .ok (.int (i % j)) else .no
def powI (i j : Int) : Res D := if CPow i j then .ok (.int (i ^ j.toNat)) else .no
def ltI (i j : Int) : Res D := .ok (.bl (decide (i < j)))
def leI (i j : Int) : Res D := .ok (.bl (decide (i ≤ j)))
def gtI (i j : Int) : Res D := .ok (.bl (decide (j < i)))
def geI (i j : Int) : Res D := .ok (.bl (decide (j ≤ i)))
theorem if_nx {α : Type} {c : Prop} [Decidable c] {a : α} {x : Exn} : (if c then Res.ok a else Res.no) ≠ Res.ex x := by
  split <;> exact fun z => nomatch z
theorem bind_nx {α β : Type} {r : Res α} {f : α → Res β} {x : Exn} (h : ∀ x, r ≠ .ex x) (h2 : ∀ a x, f a ≠ .ex x) : r.bind f ≠ .ex x := fun e => by
  rcases Res.bind_ex e with e | ⟨a, _, e⟩
  · exact h _ e
  · exact h2 _ _ e
theorem intP_nx {g : Int → Int → Res D} (h : ∀ i j x, g i j ≠ .ex x) (u w : Vl) (x : Exn) : intP g u w ≠ .ex x := by
  unfold intP
  split
  · exact bind_nx (h _ _) fun _ _ z => nomatch z
  · exact fun z => nomatch z
section
variable {K : PySem.W.Frag}
theorem intP_inv {g : Int → Int → Res D} {u w z : Vl} (h : intP g u w = .ok z) : ∃ i j d, u.d = .int i ∧ w.d = .int j ∧ g i j = .ok d ∧ z = ⟨.g, d⟩ := by
  unfold intP at h
  split at h
  · rename_i i j e1 e2
    obtain ⟨d, h1, h2⟩ := Res.bind_eq h
    cases h2
    exact ⟨i, j, d, e1, e2, h1, rfl⟩
  · cases h
/-- readings of two ints -/
theorem snd_I0 {g : Int → Int → V} {p : Int → Int → Res D} (h : ∀ i j d, p i j = .ok d → ∀ G, Rep K G (g i j) d) (hx : ∀ i j x, p i j ≠ .ex x := by first | exact fun _ _ _ => if_nx | exact fun _ _ _ z => by cases z) : Snd2 K (rI0 g) (intP p) := ⟨fun B G0 G G' env σ H H' u w z x y Q rl hu hw e q => by
  obtain ⟨i, j, d, e1, e2, e3, e4⟩ := intP_inv e
  subst e4
  have a := hu.look rl
  have b := hw.look rl
  rw [e1] at a
  rw [e2] at b
  exact ⟨i, j, a.int_inv, b.int_inv, q G' H' _ (Ext.refl rl.gh) (h i j d e3 G')⟩, intP_nx hx⟩
theorem snd_I {C : Int → Int → Prop} {g : Int → Int → V} {p : Int → Int → Res D} (h : ∀ i j d, p i j = .ok d → C i j ∧ ∀ G, Rep K G (g i j) d) (hx : ∀ i j x, p i j ≠ .ex x := by first | exact fun _ _ _ => if_nx | exact fun _ _ _ z => by cases z) : Snd2 K (rI C g) (intP p) := ⟨fun B G0 G G' env σ H H' u w z x y Q rl hu hw e q => by
  obtain ⟨i, j, d, e1, e2, e3, e4⟩ := intP_inv e
  subst e4
  have a := hu.look rl
  have b := hw.look rl
  rw [e1] at a
  rw [e2] at b
  exact ⟨i, j, a.int_inv, b.int_inv, (h i j d e3).1, q G' H' _ (Ext.refl rl.gh) ((h i j d e3).2 G')⟩, intP_nx hx⟩
theorem if_ok {α : Type} {c : Prop} [Decidable c] {a b : α} (h : (if c then Res.ok a else Res.no) = Res.ok b) : c ∧ a = b := by
  by_cases hc : c
  · rw [if_pos hc] at h
    cases h
    exact ⟨hc, rfl⟩
  · rw [if_neg hc] at h
    cases h
theorem snd_sub : Snd2 K (rI0 fun i j => .int (i - j)) (intP subI) := snd_I0 fun i j d e G => by cases e; exact .int _
theorem snd_add : Snd2 K (rI0 fun i j => .int (i + j)) (intP addI) := snd_I0 fun i j d e G => by cases e; exact .int _
theorem snd_mul : Snd2 K (rI CMulW fun i j => .int (i * j)) (intP mulI) := snd_I fun i j d e => by obtain ⟨c, rfl⟩ := if_ok e; exact ⟨c, fun G => .int _⟩
theorem snd_div : Snd2 K (rI CDivW fun i j => .int (i / j)) (intP divI) := snd_I fun i j d e => by obtain ⟨c, rfl⟩ := if_ok e; exact ⟨c, fun G => .int _⟩
theorem snd_mod : Snd2 K (rI (fun _ j => 0 < j) fun i j => .int (i % j)) (intP modI) := snd_I fun i j d e => by obtain ⟨c, rfl⟩ := if_ok e; exact ⟨c, fun G => .int _⟩
theorem snd_pow : Snd2 K (rI CPow fun i j => .int (i ^ j.toNat)) (intP powI) := snd_I fun i j d e => by obtain ⟨c, rfl⟩ := if_ok e; exact ⟨c, fun G => .int _⟩
theorem snd_lt : Snd2 K (rI0 fun i j => .bl (decide (i < j))) (intP ltI) := snd_I0 fun i j d e G => by cases e; exact .bl _
theorem snd_le : Snd2 K (rI0 fun i j => .bl (decide (i ≤ j))) (intP leI) := snd_I0 fun i j d e G => by cases e; exact .bl _
theorem snd_gt : Snd2 K (rI0 fun i j => .bl (decide (j < i))) (intP gtI) := snd_I0 fun i j d e G => by cases e; exact .bl _
theorem snd_ge : Snd2 K (rI0 fun i j => .bl (decide (j ≤ i))) (intP geI) := snd_I0 fun i j d e G => by cases e; exact .bl _
/-- a new list -/
theorem new_list {B G0 G' H' : Hp} {env : En} {σ : L2.St} {Q : VK} {vs : List V} {ds : List D} (rl : Rel K W B G0 G' env σ H') (r : RepL K G' vs ds) (q : ∀ G2 H2 v, Ext G' H' G2 H2 → Rp K B G2 H' H2 ⟨.o, .lst ds⟩ v → Q v H2) : ∀ p, H' p = none → Q (.ref p) (upd H' p (.lst vs)) := fun p hp =>
  q G' _ _ (Ext.new rl.gh hp) ⟨p, vs, ds, rfl, rfl, hp, rl.gh.free hp, upd_same, r⟩
theorem new_tup {B G0 G' H' : Hp} {env : En} {σ : L2.St} {Q : VK} {vs : List V} {ds : List D} (rl : Rel K W B G0 G' env σ H') (r : RepL K G' vs ds) (q : ∀ G2 H2 v, Ext G' H' G2 H2 → Rp K B G2 H' H2 ⟨.g, .tup ds⟩ v → Q v H2) : ∀ p o, o.dict = none → H' p = none → Q (.ref p) (upd H' p (.frz o (.tup vs))) := fun p o hd hp =>
  q _ _ _ (Ext.newG rl.gh hp) (.tup (SqN.new hd) (r.mono (same_upd (Same.refl _) (rl.gh.free hp))))
theorem snd_cat : Snd2 K rCat catP := ⟨fun B G0 G G' env σ H H' u w z x y Q rl hu hw e q => (by
  unfold catP at e
  split at e
  · rename_i xs ys e1 e2
    obtain ⟨⟨c1, c2, c3⟩, rfl⟩ := if_ok e
    obtain ⟨a, vs, rfl, h1, r1⟩ := hu.items rl e1 c1
    obtain ⟨b, ws, rfl, h2, r2⟩ := hw.items rl e2 c2
    exact ⟨a, b, vs, ws, rfl, rfl, h1, h2, by rw [r1.len, r2.len]; exact c3, new_list rl (r1.app r2) q⟩
  · cases e), fun u w x => by
  unfold catP
  split
  · exact if_nx
  · exact fun z => nomatch z⟩
theorem snd_scat : Snd2 K (fun x y H Q => ∃ i j, x = .str i ∧ y = .str j ∧ i.length + j.length ≤ sizeLine ∧ Q (.str (i ++ j)) H) scatP := ⟨fun B G0 G G' env σ H H' u w z x y Q rl hu hw e q => (by
  unfold scatP at e
  split at e
  · rename_i i j e1 e2
    obtain ⟨c, rfl⟩ := if_ok e
    have a := hu.look rl
    have b := hw.look rl
    rw [e1] at a
    rw [e2] at b
    exact ⟨i, j, a.str_inv, b.str_inv, c, q G' H' _ (Ext.refl rl.gh) (.str _)⟩
  · cases e), fun u w x => by
  unfold scatP
  split
  · exact if_nx
  · exact fun z => nomatch z⟩
def rAdd3 : R2 := fun x y H Q => rI0 (fun i j => .int (i + j)) x y H Q ∨ (rCat x y H Q ∨ ∃ i j, x = .str i ∧ y = .str j ∧ i.length + j.length ≤ sizeLine ∧ Q (.str (i ++ j)) H)
theorem op_add3 {X : Cx} : OpR X (binaryOp .Add) rAdd3 := op_add.or (op_cat.or op_add_str)
theorem snd_add3 : Snd2 K rAdd3 addP := ⟨fun B G0 G G' env σ H H' u w z x y Q rl hu hw e q => (by
  unfold addP at e
  split at e
  · exact .inl (snd_add.ok B G0 G G' env σ H H' u w z x y Q rl hu hw e q)
  · exact .inr (.inl (snd_cat.ok B G0 G G' env σ H H' u w z x y Q rl hu hw e q))
  · exact .inr (.inr (snd_scat.ok B G0 G G' env σ H H' u w z x y Q rl hu hw e q))
  · cases e), fun u w x => by
  unfold addP
  split
  · exact snd_add.ne (K := K) _ _ _
  · exact snd_cat.ne (K := K) _ _ _
  · exact snd_scat.ne (K := K) _ _ _
  · exact fun z => nomatch z⟩
end
section
variable {X : Cx} {W : Wi} {pos : Pos} {a b : Expr} {ta tb : TE} {f g : En → Res Vl}
theorem de_add (ha : DE X W a ta f) (hb : DE X W b tb g) : DE X W (.BinOp a .Add b pos) (tOp rAdd3 ta tb) (binE addP f g) := de_bin op_add3 snd_add3 ha hb
theorem de_sub (ha : DE X W a ta f) (hb : DE X W b tb g) : DE X W (.BinOp a .Sub b pos) (tOp (rI0 fun i j => .int (i - j)) ta tb) (binE (intP subI) f g) := de_bin op_sub snd_sub ha hb
theorem de_mul (ha : DE X W a ta f) (hb : DE X W b tb g) : DE X W (.BinOp a .Mult b pos) (tOp (rI CMulW fun i j => .int (i * j)) ta tb) (binE (intP mulI) f g) := de_bin op_mulW snd_mul ha hb
theorem de_div (ha : DE X W a ta f) (hb : DE X W b tb g) : DE X W (.BinOp a .FloorDiv b pos) (tOp (rI CDivW fun i j => .int (i / j)) ta tb) (binE (intP divI) f g) := de_bin op_fdivW snd_div ha hb
theorem de_mod (ha : DE X W a ta f) (hb : DE X W b tb g) : DE X W (.BinOp a .Mod b pos) (tOp (rI (fun _ j => 0 < j) fun i j => .int (i % j)) ta tb) (binE (intP modI) f g) := de_bin op_mod snd_mod ha hb
theorem de_pow (ha : DE X W a ta f) (hb : DE X W b tb g) : DE X W (.BinOp a .Pow b pos) (tOp (rI CPow fun i j => .int (i ^ j.toNat)) ta tb) (binE (intP powI) f g) := de_bin op_pow snd_pow ha hb
theorem de_lt (ha : DE X W a ta f) (hb : DE X W b tb g) : DE X W (.Compare a [.Lt] [b] pos) (tOp (rI0 fun i j => .bl (decide (i < j))) ta tb) (binE (intP ltI) f g) := de_cmp op_lt snd_lt ha hb (nomark _)
theorem de_le (ha : DE X W a ta f) (hb : DE X W b tb g) : DE X W (.Compare a [.LtE] [b] pos) (tOp (rI0 fun i j => .bl (decide (i ≤ j))) ta tb) (binE (intP leI) f g) := de_cmp op_le snd_le ha hb (nomark _)
theorem de_gt (ha : DE X W a ta f) (hb : DE X W b tb g) : DE X W (.Compare a [.Gt] [b] pos) (tOp (rI0 fun i j => .bl (decide (j < i))) ta tb) (binE (intP gtI) f g) := de_cmp op_gt snd_gt ha hb (nomark _)
theorem de_ge (ha : DE X W a ta f) (hb : DE X W b tb g) : DE X W (.Compare a [.GtE] [b] pos) (tOp (rI0 fun i j => .bl (decide (j ≤ i))) ta tb) (binE (intP geI) f g) := de_cmp op_ge snd_ge ha hb (nomark _)
end

/-! ### == -/
mutual
def toPy : D → PyData
  | .non => .none
  | .bl b => .bool b
  | .int i => .int i
  | .str x => .str x
  | .lst xs => .list (toPyL xs)
  | .tup xs => .tuple (toPyL xs)
  | .fz xs => .list (toPyL xs)
  | .obj _ _ _ => .dict []
  | .exn _ _ _ => .dict []
def toPyL : List D → List PyData
  | [] => []
  | x :: xs => toPy x :: toPyL xs
end
theorem canL_cons {d : D} {ds : List D} (h : PyData.canLayAll0 (toPyL (d :: ds)) = true) : (toPy d).canLay0 = true ∧ PyData.canLayAll0 (toPyL ds) = true := by
  have h' : PyData.canLayAll0 (toPy d :: toPyL ds) = true := h
  simpa [PyData.canLayAll0] using h'
mutual
theorem Rep.dp0 {K : PySem.W.Frag} {G : Hp} : ∀ {v : V} {d : D}, Rep K G v d → (toPy d).canLay0 = true → Dp K G v (toPy d)
  | _, _, .non, _ => .non
  | _, _, .bl b, _ => .bl b
  | _, _, .int i, _ => .int i
  | _, _, .str x, _ => .str x
  | _, _, .lst h l, c => .lst (SqL.of h) (RepL.dp0 l (by simpa [toPy, PyData.canLay0] using c))
  | _, _, .tup h l, c => .tup h.1 (RepL.dp0 l (by simpa [toPy, PyData.canLay0] using c))
  | _, _, .fz h l, c => .lst h (RepL.dp0 l (by simpa [toPy, PyData.canLay0] using c))
  | _, _, .obj _ _ _ _ _, c => nomatch c
  | _, _, .exn0 _ _, c => nomatch c
  | _, _, .exn _ _ _ _ _, c => nomatch c
theorem RepL.dp0 {K : PySem.W.Frag} {G : Hp} : ∀ {vs : List V} {ds : List D}, RepL K G vs ds → PyData.canLayAll0 (toPyL ds) = true → DpAll K G vs (toPyL ds)
  | _, _, .nil, _ => .nil
  | _, _, .cons h l, c => .cons (Rep.dp0 h (canL_cons c).1) (RepL.dp0 l (canL_cons c).2)
end
theorem Rep.dp {K : PySem.W.Frag} {G : Hp} {v : V} {d : D} (h : Rep K G v d) (c : SeqAt.shaped (toPy d) = true) : Dp K G v (toPy d) := h.dp0 (SeqAt.canLay_of_shaped c)
def scalD : D → D → Option Bool
  | .int i, .int j => some (decide (i = j))
  | .str x, .str y => some (decide (x = y))
  | .bl a, .bl b => some (decide (a = b))
  | .non, .non => some true
  | .non, .int _ => some false
  | .int _, .non => some false
  | .non, .str _ => some false
  | .str _, .non => some false
  | .int _, .str _ => some false
  | .str _, .int _ => some false
  | _, _ => none
def eqB (neg : Bool) (u w : D) : Res Bool := match scalD u w with
  | some b => .ok (if neg then !b else b)
  | none => if SeqAt.shaped (toPy u) = true ∧ SeqAt.shaped (toPy w) = true then .ok (if neg then !PyData.eqv (toPy u) (toPy w) else PyData.eqv (toPy u) (toPy w)) else .no
def eqP (neg : Bool) : Vl → Vl → Res Vl := fun u w => (eqB neg u.d w.d).bind fun b => .ok ⟨.g, .bl b⟩
def rEq2 (K : PySem.W.Frag) : R2 := fun x y H Q => rEq x y H Q ∨ rEqD K x y H Q
def rNe2 (K : PySem.W.Frag) : R2 := fun x y H Q => rNe x y H Q ∨ rNeD K x y H Q
theorem scalD_V {K : PySem.W.Frag} {G G' : Hp} {x y : V} {d e : D} {b : Bool} (hx : Rep K G x d) (hy : Rep K G' y e) (h : scalD d e = some b) : scal x y = true ∧ decide (x = y) = b := by
  cases hx <;> cases hy <;> first
    | (simp [scalD] at h; done)
    | (simp [scalD] at h; subst h; simp [scal])
theorem eqP_nx {n : Bool} (u w : Vl) (x : Exn) : eqP n u w ≠ .ex x := by
  unfold eqP
  refine bind_nx (fun x => ?_) fun _ _ z => nomatch z
  unfold eqB
  split
  · exact fun z => nomatch z
  · exact if_nx
theorem snd_eq {K : PySem.W.Frag} : Snd2 K (rEq2 K) (eqP false) := ⟨fun B G0 G G' env σ H H' u w z x y Q rl hu hw e q => by
  obtain ⟨b, e1, e2⟩ := Res.bind_eq e
  cases e2
  have a := hu.look rl
  have c := hw.look rl
  unfold eqB at e1
  split at e1
  · rename_i b' es
    cases e1
    obtain ⟨s1, s2⟩ := scalD_V a c es
    exact .inl ⟨s1, by rw [s2]; exact q G' H' _ (Ext.refl rl.gh) (.bl _)⟩
  · obtain ⟨⟨c1, c2⟩, rfl⟩ := if_ok e1
    exact .inr ⟨_, _, a.dp c1, c.dp c2, c1, c2, q G' H' _ (Ext.refl rl.gh) (.bl _)⟩, eqP_nx⟩
theorem snd_ne {K : PySem.W.Frag} : Snd2 K (rNe2 K) (eqP true) := ⟨fun B G0 G G' env σ H H' u w z x y Q rl hu hw e q => by
  obtain ⟨b, e1, e2⟩ := Res.bind_eq e
  cases e2
  have a := hu.look rl
  have c := hw.look rl
  unfold eqB at e1
  split at e1
  · rename_i b' es
    cases e1
    obtain ⟨s1, s2⟩ := scalD_V a c es
    exact .inl ⟨s1, by rw [s2]; exact q G' H' _ (Ext.refl rl.gh) (.bl _)⟩
  · obtain ⟨⟨c1, c2⟩, rfl⟩ := if_ok e1
    exact .inr ⟨_, _, a.dp c1, c.dp c2, c1, c2, q G' H' _ (Ext.refl rl.gh) (.bl _)⟩, eqP_nx⟩
/-! ### is -/
def isP (neg : Bool) : Vl → Vl → Res Vl := fun u w => match w.d, u.d with
  | .non, .non => .ok ⟨.g, .bl (!neg)⟩
  | .non, _ => .ok ⟨.g, .bl neg⟩
  | .bl b, .bl a => .ok ⟨.g, .bl (if neg then !decide (a = b) else decide (a = b))⟩
  | .bl _, _ => .ok ⟨.g, .bl neg⟩
  | _, _ => .no
def rIs (neg : Bool) : R2 := fun x y H Q => (y = .non ∨ ∃ b, y = .bl b) ∧ Q (.bl (if neg then !decide (x = y) else decide (x = y))) H
theorem is_plain {x y : V} {v u : Value} (rx : RelV x v) (ry : RelV y u) (h : y = .non ∨ ∃ b, y = .bl b) : plainIs v u = true ∧ (v == u) = decide (x = y) := by
  rcases h with rfl | ⟨b, rfl⟩
  · cases ry
    cases x <;> first
      | (cases rx; exact ⟨rfl, rfl⟩)
      | (obtain ⟨t, rfl⟩ := rx; exact ⟨rfl, rfl⟩)
  · cases (show u = Value.bool b from ry)
    cases x <;> first
      | (obtain ⟨t, rfl⟩ := rx; exact ⟨rfl, rfl⟩)
      | (rename_i a; cases (show v = Value.bool a from rx); refine ⟨rfl, ?_⟩; rw [Bool.eq_iff_iff]; simp)
      | (cases rx; exact ⟨rfl, rfl⟩)
theorem op_is {X : Cx} : OpR X (compareOp .Is) (rIs false) := fun pins s σ H x y v u Q I rx ry ⟨h, q⟩ => by
  obtain ⟨h1, h2⟩ := is_plain rx ry h
  exact wpAny_is_plain h1 (fin_bl I q h2.symm)
theorem op_isNot {X : Cx} : OpR X (compareOp .IsNot) (rIs true) := fun pins s σ H x y v u Q I rx ry ⟨h, q⟩ => by
  obtain ⟨h1, h2⟩ := is_plain rx ry h
  exact wpAny_isNot_plain h1 (fin_bl I q (by rw [h2]; rfl))
theorem snd_is {K : PySem.W.Frag} (neg : Bool) : Snd2 K (rIs neg) (isP neg) := ⟨fun B G0 G G' env σ H H' u w z x y Q rl hu hw e q => (by
  have a := hu.look rl
  have c := hw.look rl
  have fin : ∀ b, z = ⟨.g, .bl b⟩ → Q (.bl b) H' := fun b e => by
    subst e
    exact q G' H' _ (Ext.refl rl.gh) (.bl _)
  obtain ⟨ku, du⟩ := u
  obtain ⟨kw, dw⟩ := w
  dsimp only [Vl.d] at a c
  unfold isP at e
  cases c with
  | non =>
    refine ⟨.inl rfl, fin _ ?_⟩
    cases a <;> (injection e with e; rw [← e]; cases neg <;> simp)
  | bl b =>
    refine ⟨.inr ⟨b, rfl⟩, fin _ ?_⟩
    cases a <;> (injection e with e; rw [← e]; cases neg <;> simp)
  | _ => cases e), fun u w x => by
  unfold isP
  split <;> exact fun z => nomatch z⟩
section
variable {X : Cx} {W : Wi} {pos : Pos} {a b : Expr} {ta tb : TE} {f g : En → Res Vl}
theorem de_eq (hu : X.A.units + 64 < cLine) (ha : DE X W a ta f) (hb : DE X W b tb g) : DE X W (.Compare a [.Eq] [b] pos) (tOp (fun x y H Q => rEq x y H Q ∨ rEqD X.K x y H Q) ta tb) (binE (eqP false) f g) := de_cmp (op_eq.or (op_eqD hu)) snd_eq ha hb (nomark _)
theorem de_ne (hu : X.A.units + 64 < cLine) (ha : DE X W a ta f) (hb : DE X W b tb g) : DE X W (.Compare a [.NotEq] [b] pos) (tOp (fun x y H Q => rNe x y H Q ∨ rNeD X.K x y H Q) ta tb) (binE (eqP true) f g) := de_cmp (op_ne.or (op_neD hu)) snd_ne ha hb (nomark _)
theorem de_is (ha : DE X W a ta f) (hb : DE X W b tb g) : DE X W (.Compare a [.Is] [b] pos) (tOp (rIs false) ta tb) (binE (isP false) f g) := de_cmp op_is (snd_is false) ha hb (nomark _)
theorem de_isNot (ha : DE X W a ta f) (hb : DE X W b tb g) : DE X W (.Compare a [.IsNot] [b] pos) (tOp (rIs true) ta tb) (binE (isP true) f g) := de_cmp op_isNot (snd_is true) ha hb (nomark _)
end
end DL

namespace DL
open PySem L2 PyProof.Rows
section
variable {prog : Program} {w : World} {A : Around} {E : Value → Shared → Prop} {s : Shared} {l : Addr} {its : List Value} {ns : List Int} {Q : Value → Shared → Prop}
theorem tup_lt {l : Addr} {its : Array Value} (hl : s.heap.IsTuple l its) : l < s.heap.objs.size := by obtain ⟨_, e, _⟩ := hl; exact Heap.lt_size e
theorem sum_tupRaw (hh : A.handled = none) (hl : s.heap.IsTuple l its.toArray) (hi : IntsAre its ns)
    (h : ∀ h' tk t', (∀ b o, s.heap.get? b = some o → h'.get? b = some o) → Q (.int ns.sum t') { s with heap := h', toks := tk }) : wpAny (model prog w) A (call (.builtin "sum") [.ref l]) Q E s := by
  obtain ⟨xs, e⟩ := hi.allInts.items
  have hn : numsOf (intItems xs).toList = ns := by rw [← e]; exact hi.numsOf
  rw [nums_intItems] at hn
  rw [e] at hl
  have hlt := tup_lt hl
  refine call_sum_walkG (wpAny_pyIter_tuple hl ?_)
  refine ⟨_, _, _, _, _, _, numAt xs, rfl, Walks.tuple (A := A.in1) hh _ l (Nat.ne_of_lt hlt) (intItems xs), ⟨⟨_, Heap.get?_push_size _ rfl, rfl, rfl⟩, hl.push _⟩, fun b hb => ?_, (fun _ _ => intItems_at), fun h' tk t' hk => ?_⟩
  · show b < (s.heap.push _).objs.size
    rw [Heap.size_push]
    rcases List.mem_cons.mp hb with rfl | hb
    · exact Nat.lt_succ_self _
    · rcases List.mem_cons.mp hb with rfl | hb
      · exact Nat.lt_succ_of_lt hlt
      · cases hb
  · have := h h' tk t' fun b o e => by
      refine hk b o (fun hm => ?_) (Heap.get?_push_of_some _ e)
      rcases List.mem_cons.mp hm with e1 | hm
      · exact absurd (e1 ▸ Heap.lt_size e) (Nat.lt_irrefl _)
      · cases hm
    have e2 : preSum (numAt xs) (intItems xs).size = ns.sum := by
      rw [preSum_eq, List.take_of_length_le (by simp [intItems]), hn]
    rw [e2]
    exact this
end
def rSumT (K : PySem.W.Frag) : List V → Hp → VK → Prop := fun vs H Q => ∃ (a : Addr) (ns : List Int), vs = [V.ref a] ∧ SqT K H a (ns.map V.int) ∧ Q (.int ns.sum) H
theorem cr_sumT {X : Cx} (hc : X.calm = true) : CallR X (.builtin "sum") (rSumT X.K) := by
  intro pins s σ H vs us Q I r h
  obtain ⟨a, ns, rfl, hs, q⟩ := h
  obtain ⟨its, rv, hl, _⟩ := I.tuple hs
  obtain ⟨o, h1, h2, n, h3⟩ := hl
  have hl : s.heap.IsTuple a its.toArray := ⟨o, h1, h2, n, h3⟩
  rw [Vals.ref1 r]
  exact sum_tupRaw (I.ok.hd hc) hl rv.ints fun h' tk t' hk => ⟨.int _, H, I.kept hk, ⟨_, rfl⟩, q⟩
def rSum2 (K : PySem.W.Frag) : List V → Hp → VK → Prop := fun xs H Q => rSum K xs H Q ∨ rSumT K xs H Q
end DL
namespace DL
open PySem L2
/-! ### tests -/
def boolD : D → Res Bool
  | .bl b => .ok b
  | _ => .no
def valT (f : En → Res Vl) : En → Res Bool := fun env => (f env).bind fun u => boolD u.d
def andT (f g : En → Res Bool) : En → Res Bool := fun env => (f env).bind fun b => match b with
  | true => g env
  | false => .ok false
def orT (f g : En → Res Bool) : En → Res Bool := fun env => (f env).bind fun b => match b with
  | true => .ok true
  | false => g env
def notT (f : En → Res Bool) : En → Res Bool := fun env => (f env).bind fun b => .ok (!b)
def truD : D → Res Bool
  | .non => .ok false
  | .bl b => .ok b
  | .int i => .ok (i != 0)
  | .str x => if x.length ≤ sizeLine then .ok ((x.length : Int) != 0) else .no
  | .lst xs => .ok (!xs.isEmpty)
  | .tup xs => .ok (!xs.isEmpty)
  | .fz xs => .ok (!xs.isEmpty)
  | _ => .no
def truT (f : En → Res Vl) : En → Res Bool := fun env => (f env).bind fun u => truD u.d
theorem boolD_inv {d : D} {b : Bool} (h : boolD d = .ok b) : d = .bl b := by
  cases d <;> cases h
  rfl
theorem isEmpty_rep {K : PySem.W.Frag} {G : Hp} {vs : List V} {ds : List D} (h : RepL K G vs ds) : vs.isEmpty = ds.isEmpty := by
  cases h <;> rfl
theorem truV_of {K : PySem.W.Frag} {H : Hp} {v : V} {d : D} {b : Bool} (h : Rep K H v d) (e : truD d = .ok b) : TruV K v H b := by
  cases h with
  | non => cases e; rfl
  | bl b => cases e; rfl
  | int i => cases e; rfl
  | str x => obtain ⟨c, rfl⟩ := if_ok e; exact ⟨c, rfl⟩
  | lst h l => cases e; exact .inl ⟨_, SqL.of h, by rw [isEmpty_rep l]⟩
  | tup h l => cases e; exact .inr (.inl ⟨_, h.1, by rw [isEmpty_rep l]⟩)
  | fz h l => cases e; exact .inl ⟨_, h, by rw [isEmpty_rep l]⟩
  | obj _ _ _ _ _ => cases e
  | exn0 _ _ => cases e
  | exn _ _ _ _ _ => cases e
theorem boolD_nx {d : D} {x : Exn} : boolD d ≠ .ex x := by
  unfold boolD
  split <;> exact fun z => nomatch z
theorem truD_nx {d : D} {x : Exn} : truD d ≠ .ex x := by
  unfold truD
  split <;> first
    | exact if_nx
    | exact fun z => nomatch z
section
variable {K : PySem.W.Frag} {W : Wi} {te : TE} {tt tu : TT} {f : En → Res Vl} {p q : En → Res Bool}
theorem evt_val (h : EvD K W te f) : EvT K W (tB te) (valT f) := ⟨fun B G0 G env σ H b r e Q k => (by
  obtain ⟨u, e1, e2⟩ := Res.bind_eq e
  refine h.ok B G0 G env σ H u r e1 _ fun G' H' v x hv => ?_
  have a := hv.look (r.ext x)
  rw [boolD_inv e2] at a
  exact ⟨b, a.bl_inv, k G' H' x⟩),
  fun B G0 G env σ H x r e w Q => by
  rcases Res.bind_ex e with e1 | ⟨u, e1, e⟩
  · exact h.ex B G0 G env σ H x r e1 w _
  · exact absurd e (boolD_nx)⟩
theorem evt_tru (h : EvD K W te f) : EvT K W (fun σ H Q => te σ H fun x H' => ∃ k, TruV K x H' k ∧ Q k H') (truT f) := ⟨fun B G0 G env σ H b r e Q k => (by
  obtain ⟨u, e1, e2⟩ := Res.bind_eq e
  exact h.ok B G0 G env σ H u r e1 _ fun G' H' v x hv => ⟨b, truV_of (hv.look (r.ext x)) e2, k G' H' x⟩),
  fun B G0 G env σ H x r e w Q => by
  rcases Res.bind_ex e with e1 | ⟨u, e1, e⟩
  · exact h.ex B G0 G env σ H x r e1 w _
  · exact absurd e (truD_nx)⟩
theorem evt_and (h1 : EvT K W tt p) (h2 : EvT K W tu q) : EvT K W (tAnd tt tu) (andT p q) := ⟨fun B G0 G env σ H b r e Q k => (by
  obtain ⟨c, e1, e2⟩ := Res.bind_eq e
  refine h1.ok B G0 G env σ H c r e1 _ fun G' H' x => ?_
  cases c with
  | true =>
    rw [if_pos rfl]
    exact h2.ok B G0 G' env σ H' b (r.ext x) e2 Q fun G2 H2 x2 => k G2 H2 (x.trans x2)
  | false =>
    rw [if_neg Bool.false_ne_true]
    cases e2
    exact k G' H' x),
  fun B G0 G env σ H x r e w Q => by
  rcases Res.bind_ex e with e1 | ⟨c, e1, e⟩
  · exact h1.ex B G0 G env σ H x r e1 w _
  · refine h1.ok B G0 G env σ H c r e1 _ fun G' H' x' => ?_
    cases c with
    | true =>
      rw [if_pos rfl]
      exact h2.ex B G0 G' env σ H' x (r.ext x') e (w.ext x') Q
    | false =>
      rw [if_neg Bool.false_ne_true]
      cases e⟩
theorem evt_or (h1 : EvT K W tt p) (h2 : EvT K W tu q) : EvT K W (tOr tt tu) (orT p q) := ⟨fun B G0 G env σ H b r e Q k => (by
  obtain ⟨c, e1, e2⟩ := Res.bind_eq e
  refine h1.ok B G0 G env σ H c r e1 _ fun G' H' x => ?_
  cases c with
  | true =>
    rw [if_pos rfl]
    cases e2
    exact k G' H' x
  | false =>
    rw [if_neg Bool.false_ne_true]
    exact h2.ok B G0 G' env σ H' b (r.ext x) e2 Q fun G2 H2 x2 => k G2 H2 (x.trans x2)),
  fun B G0 G env σ H x r e w Q => by
  rcases Res.bind_ex e with e1 | ⟨c, e1, e⟩
  · exact h1.ex B G0 G env σ H x r e1 w _
  · refine h1.ok B G0 G env σ H c r e1 _ fun G' H' x' => ?_
    cases c with
    | true =>
      rw [if_pos rfl]
      cases e
    | false =>
      rw [if_neg Bool.false_ne_true]
      exact h2.ex B G0 G' env σ H' x (r.ext x') e (w.ext x') Q⟩
theorem evt_not (h1 : EvT K W tt p) : EvT K W (tNot tt) (notT p) := ⟨fun B G0 G env σ H b r e Q k => (by
  obtain ⟨c, e1, e2⟩ := Res.bind_eq e
  cases e2
  exact h1.ok B G0 G env σ H c r e1 _ fun G' H' x => k G' H' x),
  fun B G0 G env σ H x r e w Q => by
  rcases Res.bind_ex e with e1 | ⟨u, e1, e⟩
  · exact h1.ex B G0 G env σ H x r e1 w _
  · exact absurd e (fun z => nomatch z)⟩
end
section
variable {X : Cx} {W : Wi} {pos : Pos} {a b : Expr} {rest : List Expr} {ta tb : TE} {tt tu : TT} {f g : En → Res Vl} {p q : En → Res Bool}
theorem dt_val (h : DE X W a ta f) (he : ∀ whole, isTrue a X.env whole = (do let v ← whole; standAt a.pos; holding [v] (truthy v)) := by intro _; rfl) : DT X W a (tB ta) (valT f) := ⟨pt_val h.pe he, evt_val h.ev⟩
theorem dt_tru {K : PySem.W.Frag} (h : DE X W a ta f) (he : ∀ whole, isTrue a X.env whole = (do let v ← whole; standAt a.pos; holding [v] (truthy v)) := by intro _; rfl) (hK : X.K = K := by rfl) : DT X W a (fun σ H Q => ta σ H fun x H' => ∃ k, TruV K x H' k ∧ Q k H') (truT f) := by
  subst hK
  exact ⟨pt_truth h.pe he, evt_tru h.ev⟩
theorem dw_and1 (h : DT X W a tt p) : DW X W (.BoolOp .And [a] pos) tt p := ⟨pw_and1 h.pt, h.ev⟩
theorem dw_and (h : DT X W a tt p) (k : DW X W (.BoolOp .And (b :: rest) pos) tu q) : DW X W (.BoolOp .And (a :: b :: rest) pos) (tAnd tt tu) (andT p q) := ⟨pw_and h.pt k.pw, evt_and h.ev k.ev⟩
theorem dw_or1 (h : DT X W a tt p) : DW X W (.BoolOp .Or [a] pos) tt p := ⟨pw_or1 h.pt, h.ev⟩
theorem dw_or (h : DT X W a tt p) (k : DW X W (.BoolOp .Or (b :: rest) pos) tu q) : DW X W (.BoolOp .Or (a :: b :: rest) pos) (tOr tt tu) (orT p q) := ⟨pw_or h.pt k.pw, evt_or h.ev k.ev⟩
theorem dt_w (h : DW X W a tt p) : DT X W a tt p := ⟨h.pw.pt, h.ev⟩
theorem dt_not (h : DT X W a tt p) : DT X W (.UnaryOp .Not a pos) (tNot tt) (notT p) := ⟨pt_not h.pt, evt_not h.ev⟩
end
/-! ### and, or, not as values -/
def andE (f g : En → Res Vl) : En → Res Vl := fun env => (f env).bind fun u => (boolD u.d).bind fun c => match c with
  | true => g env
  | false => .ok ⟨.g, .bl false⟩
def orE (f g : En → Res Vl) : En → Res Vl := fun env => (f env).bind fun u => (boolD u.d).bind fun c => match c with
  | true => .ok ⟨.g, .bl true⟩
  | false => g env
def notE (f : En → Res Vl) : En → Res Vl := fun env => (f env).bind fun u => (boolD u.d).bind fun c => .ok ⟨.g, .bl (!c)⟩
def ifE (p : En → Res Bool) (f g : En → Res Vl) : En → Res Vl := fun env => (p env).bind fun c => match c with
  | true => f env
  | false => g env
/-- a op b op' c, b once -/
def chainE (p p' : Vl → Vl → Res Vl) (f g h : En → Res Vl) : En → Res Vl := fun env => (f env).bind fun x => (g env).bind fun y => (p x y).bind fun z => (boolD z.d).bind fun c => match c with
  | true => (h env).bind fun w => p' y w
  | false => .ok ⟨.g, .bl false⟩
section
variable {K : PySem.W.Frag} {W : Wi} {ta tb tc : TE} {tt : TT} {f g h : En → Res Vl} {p : En → Res Bool}
theorem ev_and (h1 : EvD K W ta f) (h2 : EvD K W tb g) : EvD K W (tAndV ta tb) (andE f g) := ⟨fun B G0 G env σ H z r e Q k => (by
  obtain ⟨u, e1, e2⟩ := Res.bind_eq e
  obtain ⟨c, e3, e4⟩ := Res.bind_eq e2
  refine h1.ok B G0 G env σ H u r e1 _ fun G' H' v x hv => ?_
  have a := hv.look (r.ext x)
  rw [boolD_inv e3] at a
  refine ⟨c, a.bl_inv, ?_⟩
  cases c with
  | true =>
    rw [if_pos rfl]
    exact h2.ok B G0 G' env σ H' z (r.ext x) e4 Q fun G2 H2 v x2 hv => k G2 H2 v (x.trans x2) (hv.from x.hh)
  | false =>
    rw [if_neg Bool.false_ne_true]
    cases e4
    exact k G' H' _ x (.bl _)),
  fun B G0 G env σ H x r e w Q => by
  rcases Res.bind_ex e with e1 | ⟨u, e1, e⟩
  · exact h1.ex B G0 G env σ H x r e1 w _
  · rcases Res.bind_ex e with e3 | ⟨c, e3, e4⟩
    · exact absurd e3 boolD_nx
    · refine h1.ok B G0 G env σ H u r e1 _ fun G' H' v x' hv => ?_
      have a := hv.look (r.ext x')
      rw [boolD_inv e3] at a
      refine ⟨c, a.bl_inv, ?_⟩
      cases c with
      | true =>
        rw [if_pos rfl]
        exact h2.ex B G0 G' env σ H' x (r.ext x') e4 (w.ext x') Q
      | false =>
        rw [if_neg Bool.false_ne_true]
        cases e4⟩
theorem ev_or (h1 : EvD K W ta f) (h2 : EvD K W tb g) : EvD K W (tOrV ta tb) (orE f g) := ⟨fun B G0 G env σ H z r e Q k => (by
  obtain ⟨u, e1, e2⟩ := Res.bind_eq e
  obtain ⟨c, e3, e4⟩ := Res.bind_eq e2
  refine h1.ok B G0 G env σ H u r e1 _ fun G' H' v x hv => ?_
  have a := hv.look (r.ext x)
  rw [boolD_inv e3] at a
  refine ⟨c, a.bl_inv, ?_⟩
  cases c with
  | true =>
    rw [if_pos rfl]
    cases e4
    exact k G' H' _ x (.bl _)
  | false =>
    rw [if_neg Bool.false_ne_true]
    exact h2.ok B G0 G' env σ H' z (r.ext x) e4 Q fun G2 H2 v x2 hv => k G2 H2 v (x.trans x2) (hv.from x.hh)),
  fun B G0 G env σ H x r e w Q => by
  rcases Res.bind_ex e with e1 | ⟨u, e1, e⟩
  · exact h1.ex B G0 G env σ H x r e1 w _
  · rcases Res.bind_ex e with e3 | ⟨c, e3, e4⟩
    · exact absurd e3 boolD_nx
    · refine h1.ok B G0 G env σ H u r e1 _ fun G' H' v x' hv => ?_
      have a := hv.look (r.ext x')
      rw [boolD_inv e3] at a
      refine ⟨c, a.bl_inv, ?_⟩
      cases c with
      | true =>
        rw [if_pos rfl]
        cases e4
      | false =>
        rw [if_neg Bool.false_ne_true]
        exact h2.ex B G0 G' env σ H' x (r.ext x') e4 (w.ext x') Q⟩
theorem ev_not (h1 : EvD K W ta f) : EvD K W (tNotV ta) (notE f) := ⟨fun B G0 G env σ H z r e Q k => (by
  obtain ⟨u, e1, e2⟩ := Res.bind_eq e
  obtain ⟨c, e3, e4⟩ := Res.bind_eq e2
  cases e4
  refine h1.ok B G0 G env σ H u r e1 _ fun G' H' v x hv => ?_
  have a := hv.look (r.ext x)
  rw [boolD_inv e3] at a
  exact ⟨c, a.bl_inv, k G' H' _ x (.bl _)⟩),
  fun B G0 G env σ H x r e w Q => by
  rcases Res.bind_ex e with e1 | ⟨u, e1, e⟩
  · exact h1.ex B G0 G env σ H x r e1 w _
  · rcases Res.bind_ex e with e3 | ⟨c, e3, e4⟩
    · exact absurd e3 boolD_nx
    · cases e4⟩
theorem ev_if (h0 : EvT K W tt p) (h1 : EvD K W ta f) (h2 : EvD K W tb g) : EvD K W (tIf tt ta tb) (ifE p f g) := ⟨fun B G0 G env σ H z r e Q k => (by
  obtain ⟨c, e1, e2⟩ := Res.bind_eq e
  refine h0.ok B G0 G env σ H c r e1 _ fun G' H' x => ?_
  cases c with
  | true =>
    rw [if_pos rfl]
    exact h1.ok B G0 G' env σ H' z (r.ext x) e2 Q fun G2 H2 v x2 hv => k G2 H2 v (x.trans x2) (hv.from x.hh)
  | false =>
    rw [if_neg Bool.false_ne_true]
    exact h2.ok B G0 G' env σ H' z (r.ext x) e2 Q fun G2 H2 v x2 hv => k G2 H2 v (x.trans x2) (hv.from x.hh)),
  fun B G0 G env σ H x r e w Q => by
  rcases Res.bind_ex e with e1 | ⟨c, e1, e⟩
  · exact h0.ex B G0 G env σ H x r e1 w _
  · refine h0.ok B G0 G env σ H c r e1 _ fun G' H' x' => ?_
    cases c with
    | true =>
      rw [if_pos rfl]
      exact h1.ex B G0 G' env σ H' x (r.ext x') e (w.ext x') Q
    | false =>
      rw [if_neg Bool.false_ne_true]
      exact h2.ex B G0 G' env σ H' x (r.ext x') e (w.ext x') Q⟩
theorem ev_chain {r r' : R2} {p p' : Vl → Vl → Res Vl} (s : Snd2 K r p) (s' : Snd2 K r' p') (h1 : EvD K W ta f) (h2 : EvD K W tb g) (h3 : EvD K W tc h) : EvD K W (tChain r r' ta tb tc) (chainE p p' f g h) := ⟨fun B G0 G env σ H z rl e Q k => (by
  obtain ⟨u, e1, e⟩ := Res.bind_eq e
  obtain ⟨w, e2, e⟩ := Res.bind_eq e
  obtain ⟨m, e3, e⟩ := Res.bind_eq e
  obtain ⟨c, e4, e⟩ := Res.bind_eq e
  refine h1.ok B G0 G env σ H u rl e1 _ fun G1 H1 x x1 hx => h2.ok B G0 G1 env σ H1 w (rl.ext x1) e2 _ fun G2 H2 y x2 hy => ?_
  have rl2 := (rl.ext x1).ext x2
  refine s.ok B G0 G G2 env σ H H2 u w m x y _ rl2 (hx.mono x2) (hy.from x1.hh) e3 fun G3 H3 v x3 hv => ?_
  have rl3 := rl2.ext x3
  have a := hv.look rl3
  rw [boolD_inv e4] at a
  refine ⟨c, a.bl_inv, ?_⟩
  cases c with
  | true =>
    rw [if_pos rfl]
    obtain ⟨w2, e5, e6⟩ := Res.bind_eq e
    refine h3.ok B G0 G3 env σ H3 w2 rl3 e5 _ fun G4 H4 y2 x4 hy2 => ?_
    have rl4 := rl3.ext x4
    exact s'.ok B G0 G G4 env σ H H4 w w2 z y y2 _ rl4 (((hy.from x1.hh).mono x3).mono x4) (hy2.from ((x1.hh.trans x2.hh).trans x3.hh)) e6 fun G5 H5 v5 x5 hv5 => k G5 H5 v5 ((((x1.trans x2).trans x3).trans x4).trans x5) (hv5.from (((x1.hh.trans x2.hh).trans x3.hh).trans x4.hh))
  | false =>
    rw [if_neg Bool.false_ne_true]
    cases e
    exact k G3 H3 _ ((x1.trans x2).trans x3) (.bl _)),
  fun B G0 G env σ H x rl e w Q => by
  rcases Res.bind_ex e with e1 | ⟨u, e1, e⟩
  · exact h1.ex B G0 G env σ H x rl e1 w _
  rcases Res.bind_ex e with e2 | ⟨u2, e2, e⟩
  · exact h1.ok B G0 G env σ H u rl e1 _ fun G1 H1 v x1 _ => h2.ex B G0 G1 env σ H1 x (rl.ext x1) e2 (w.ext x1) _
  rcases Res.bind_ex e with e3 | ⟨m, e3, e⟩
  · exact absurd e3 (s.ne _ _ _)
  rcases Res.bind_ex e with e4 | ⟨c, e4, e⟩
  · exact absurd e4 boolD_nx
  refine h1.ok B G0 G env σ H u rl e1 _ fun G1 H1 y x1 hx => h2.ok B G0 G1 env σ H1 u2 (rl.ext x1) e2 _ fun G2 H2 y2 x2 hy => ?_
  have rl2 := (rl.ext x1).ext x2
  refine s.ok B G0 G G2 env σ H H2 u u2 m y y2 _ rl2 (hx.mono x2) (hy.from x1.hh) e3 fun G3 H3 v x3 hv => ?_
  have rl3 := rl2.ext x3
  have a := hv.look rl3
  rw [boolD_inv e4] at a
  refine ⟨c, a.bl_inv, ?_⟩
  cases c with
  | true =>
    rw [if_pos rfl]
    rcases Res.bind_ex e with e5 | ⟨w2, e5, e6⟩
    · exact h3.ex B G0 G3 env σ H3 x rl3 e5 (((w.ext x1).ext x2).ext x3) _
    · exact absurd e6 (s'.ne _ _ _)
  | false => cases e⟩
end
section
variable {X : Cx} {W : Wi} {pos : Pos} {a b c : Expr} {rest : List Expr} {ta tb tc : TE} {tt : TT} {f g h : En → Res Vl} {p : En → Res Bool}
theorem de_one {op} (k : DE X W a ta f) : DE X W (.BoolOp op [a] pos) ta f := ⟨pe_one k.pe, k.ev⟩
theorem de_and (h1 : DE X W a ta f) (h2 : DE X W (.BoolOp .And (b :: rest) pos) tb g) : DE X W (.BoolOp .And (a :: b :: rest) pos) (tAndV ta tb) (andE f g) := ⟨pe_and h1.pe h2.pe, ev_and h1.ev h2.ev⟩
theorem de_or (h1 : DE X W a ta f) (h2 : DE X W (.BoolOp .Or (b :: rest) pos) tb g) : DE X W (.BoolOp .Or (a :: b :: rest) pos) (tOrV ta tb) (orE f g) := ⟨pe_or h1.pe h2.pe, ev_or h1.ev h2.ev⟩
theorem de_not (h1 : DE X W a ta f) : DE X W (.UnaryOp .Not a pos) (tNotV ta) (notE f) := ⟨pe_not h1.pe, ev_not h1.ev⟩
theorem de_if (h0 : DT X W c tt p) (h1 : DE X W a ta f) (h2 : DE X W b tb g) : DE X W (.IfExp c a b pos) (tIf tt ta tb) (ifE p f g) := ⟨pe_ifExp h0.pt h1.pe h2.pe, ev_if h0.ev h1.ev h2.ev⟩
def negI (i : Int) : Int := -i
def negP : Vl → Res Vl := fun u => match u.d with
  | .int i => .ok ⟨.g, .int (-i)⟩
  | _ => .no
theorem de_neg (h1 : DE X W a ta f) : DE X W (.UnaryOp .USub a pos) (tUn (rU fun i => .int (-i)) ta) (unE negP f) := ⟨pe_un un_neg h1.pe, ⟨fun B G0 G env σ H z r e Q k => (by
  obtain ⟨u, e1, e2⟩ := Res.bind_eq e
  unfold negP at e2
  split at e2
  · rename_i i ed
    cases e2
    refine h1.ev.ok B G0 G env σ H u r e1 _ fun G' H' v x hv => ?_
    have y := hv.look (r.ext x)
    rw [ed] at y
    exact ⟨i, y.int_inv, k G' H' _ x (.int _)⟩
  · cases e2), fun B G0 G env σ H x r e w Q => by
  rcases Res.bind_ex e with e1 | ⟨u, e1, e⟩
  · exact h1.ev.ex B G0 G env σ H x r e1 w _
  · unfold negP at e
    split at e <;> cases e⟩⟩
end
/-! ### arguments, displays, calls -/
theorem Rp.now {K : PySem.W.Frag} {B G' H0 H' : Hp} {u : Vl} {v : V} (h : Rp K B G' H' H' u v) : Rp K B G' H0 H' u v := by
  obtain ⟨k, d⟩ := u
  cases k with
  | g => exact h
  | b => exact h
  | h => exact h
  | o =>
    obtain ⟨L, vs, ds, _, _, e1, _, e2, _⟩ := h
    rw [e1] at e2
    cases e2
theorem RpL.mono {K : PySem.W.Frag} {B G' G'' H' H'' : Hp} (x : Ext G' H' G'' H'') : ∀ {us : List Vl} {vs : List V}, RpL K B G' H' us vs → RpL K B G'' H'' us vs
  | [], _, h => h
  | u :: us, _, ⟨v, r, e, h, l⟩ => ⟨v, r, e, Rp.mono x h.now, RpL.mono x l⟩
theorem RpL.len {K : PySem.W.Frag} {B G' H' : Hp} : ∀ {us : List Vl} {vs : List V}, RpL K B G' H' us vs → vs.length = us.length
  | [], _, h => by rw [h]; rfl
  | u :: us, _, ⟨v, r, e, h, l⟩ => by rw [e, List.length_cons, List.length_cons, RpL.len l]
/-- all kept -/
theorem RpL.keep {K : PySem.W.Frag} {B G' H' : Hp} : ∀ {us : List Vl} {vs : List V}, us.all Vl.keep = true → RpL K B G' H' us vs → RepL K G' vs (us.map Vl.d)
  | [], _, _, h => by rw [h]; exact .nil
  | u :: us, _, n, ⟨v, r, e, h, l⟩ => by
    rw [List.all_cons, Bool.and_eq_true] at n
    subst e
    refine .cons ?_ (RpL.keep n.2 l)
    obtain ⟨k, d⟩ := u
    cases k with
    | g => exact h
    | b => exact Rep.flat (show Rep K B v d from h) n.1
    | h =>
      obtain ⟨L, vs, ds, e1, e2, _⟩ := h
      dsimp only at e2
      subst e2
      cases n.1
    | o =>
      obtain ⟨L, vs, ds, _, _, e1, _, e2, _⟩ := h
      rw [e1] at e2
      cases e2
theorem eva_nil {K : PySem.W.Frag} {W : Wi} : EvA K W tNil nilA := ⟨fun B G0 G env σ H us r e Q k => (by
  cases e
  exact k G H [] (Ext.refl r.gh) rfl),
  fun B G0 G env σ H x r e => nomatch e⟩
theorem eva_cons {K : PySem.W.Frag} {W : Wi} {te : TE} {ta : TA} {f : En → Res Vl} {g : En → Res (List Vl)} (h : EvD K W te f) (ht : EvA K W ta g) : EvA K W (tCons te ta) (consA f g) := ⟨fun B G0 G env σ H us r e Q k => (by
  obtain ⟨u, e1, e⟩ := Res.bind_eq e
  obtain ⟨ws, e2, e⟩ := Res.bind_eq e
  cases e
  refine h.ok B G0 G env σ H u r e1 _ fun G1 H1 v x hv => ?_
  obtain ⟨G2, x2, hv2⟩ := hv.arg x
  exact ht.ok B G0 G2 env σ H1 ws (r.ext x2) e2 _ fun G3 H3 vs x3 hl => k G3 H3 (v :: vs) (x2.trans x3) ⟨v, vs, rfl, Rp.mono x3 hv2.now, hl⟩),
  fun B G0 G env σ H x r e w Q => by
  rcases Res.bind_ex e with e1 | ⟨u, e1, e⟩
  · exact h.ex B G0 G env σ H x r e1 w _
  rcases Res.bind_ex e with e2 | ⟨ws, e2, e⟩
  · exact h.ok B G0 G env σ H u r e1 _ fun G1 H1 v x1 hv => ht.ex B G0 G1 env σ H1 x (r.ext x1) e2 (w.ext x1) _
  · cases e⟩
theorem RpL.from {K : PySem.W.Frag} {B G' H' : Hp} {us : List Vl} {vs : List V} (h : RpL K B G' H' us vs) : RpL K B G' H' us vs := h
section
variable {X : Cx} {W : Wi} {e : Expr} {es : List Expr} {te : TE} {ta : TA} {f : En → Res Vl} {g : En → Res (List Vl)}
theorem da_nil : DA X W [] tNil nilA := ⟨pa_nil, eva_nil⟩
theorem da_cons (h : DE X W e te f) (ht : DA X W es ta g) (hs : starEach (e :: es) X.env = (false, eval e X.env) :: starEach es X.env := by rfl) : DA X W (e :: es) (tCons te ta) (consA f g) := ⟨pa_cons h.pe ht.pa hs, eva_cons h.ev ht.ev⟩
end
def tupE (f : En → Res (List Vl)) : En → Res Vl := fun env => (f env).bind fun us => if us.all Vl.keep = true ∧ us.length ≤ sizeLine then .ok ⟨.g, .tup (us.map Vl.d)⟩ else .no
def lstE (f : En → Res (List Vl)) : En → Res Vl := fun env => (f env).bind fun us => if us.all Vl.keep = true ∧ us.length ≤ sizeLine then .ok ⟨.o, .lst (us.map Vl.d)⟩ else .no
section
variable {K : PySem.W.Frag} {W : Wi} {ta : TA} {f : En → Res (List Vl)}
theorem ev_tup (h : EvA K W ta f) : EvD K W (tTupN ta) (tupE f) := ⟨fun B G0 G env σ H z r e Q k => (by
  obtain ⟨us, e1, e⟩ := Res.bind_eq e
  obtain ⟨⟨c1, c2⟩, rfl⟩ := if_ok e
  exact h.ok B G0 G env σ H us r e1 _ fun G' H' vs x hl => ⟨by rw [hl.len]; exact c2, new_tup (r.ext x) (hl.keep c1) fun G2 H2 v x2 hv => k G2 H2 v (x.trans x2) hv⟩),
  fun B G0 G env σ H x r e w Q => by
  rcases Res.bind_ex e with e1 | ⟨u, e1, e⟩
  · exact h.ex B G0 G env σ H x r e1 w _
  · exact absurd e (if_nx)⟩
theorem ev_lst (h : EvA K W ta f) : EvD K W (tLst ta) (lstE f) := ⟨fun B G0 G env σ H z r e Q k => (by
  obtain ⟨us, e1, e⟩ := Res.bind_eq e
  obtain ⟨⟨c1, c2⟩, rfl⟩ := if_ok e
  exact h.ok B G0 G env σ H us r e1 _ fun G' H' vs x hl => ⟨by rw [hl.len]; exact c2, new_list (r.ext x) (hl.keep c1) fun G2 H2 v x2 hv => k G2 H2 v (x.trans x2) (hv.from x.hh)⟩),
  fun B G0 G env σ H x r e w Q => by
  rcases Res.bind_ex e with e1 | ⟨u, e1, e⟩
  · exact h.ex B G0 G env σ H x r e1 w _
  · exact absurd e (if_nx)⟩
end
/-- a reading of values does what p says -/
structure SndC (K : PySem.W.Frag) (r : List V → Hp → VK → Prop) (p : List Vl → Res Vl) : Prop where
  ok : ∀ (B G0 G' : Hp) (env : En) (σ : L2.St) (H' : Hp) (us : List Vl) (z : Vl) (vs : List V) (Q : VK), Rel K W B G0 G' env σ H' → RpL K B G' H' us vs → p us = .ok z →
    (∀ G2 H2 v, Ext G' H' G2 H2 → Rp K B G2 H' H2 z v → Q v H2) → r vs H' Q
  ne : ∀ us x, p us ≠ .ex x
theorem ev_callB {K : PySem.W.Frag} {W : Wi} {r : List V → Hp → VK → Prop} {p : List Vl → Res Vl} {ta : TA} {f : En → Res (List Vl)} (s : SndC K r p) (h : EvA K W ta f) : EvD K W (tCB r ta) (callE p f) := ⟨fun B G0 G env σ H z rl e Q k => (by
  obtain ⟨us, e1, e⟩ := Res.bind_eq e
  exact h.ok B G0 G env σ H us rl e1 _ fun G' H' vs x hl => s.ok B G0 G' env σ H' us z vs Q (rl.ext x) hl e fun G2 H2 v x2 hv => k G2 H2 v (x.trans x2) (hv.from x.hh)),
  fun B G0 G env σ H x r e w Q => by
  rcases Res.bind_ex e with e1 | ⟨u, e1, e⟩
  · exact h.ex B G0 G env σ H x r e1 w _
  · exact absurd e (s.ne _ _)⟩
section
variable {X : Cx} {W : Wi} {pos p : Pos} {e : Expr} {es : List Expr} {ta : TA} {f : En → Res (List Vl)} {x : Str}
theorem de_tup {x1} (h : DA X W es ta f) : DE X W (.Tuple es x1 pos) (tTupN ta) (tupE f) := ⟨pe_tupN h.pa, ev_tup h.ev⟩
theorem de_lst (h : DA X W es ta f) : DE X W (.List es pos) (tLst ta) (lstE f) := ⟨pe_lst h.pa, ev_lst h.ev⟩
theorem de_callB {K : PySem.W.Frag} {id : String} {r : List V → Hp → VK → Prop} {q : List Vl → Res Vl} (hc : CallR X (.builtin id) r) (s : SndC K r q) (hv : bootBuiltins x = some (.builtin id)) (hm : X.mg x = none) (h : DA X W (e :: es) ta f) (hg : Gl X x := by rfl) (hn : x ≠ "__name__" := by decide) (hdb : (x == ("__debug__" : Str)) = false := by decide)
    (he : starEach (e :: es) X.env = (false, eval e X.env) :: starEach es X.env := by rfl) (hpl : (backTo pos (starEach es X.env)).any (·.1) = false := by rfl) (hK : X.K = K := by rfl) : DE X W (.Call (.Name x p) (e :: es) [] pos) (tCB r ta) (callE q f) := by
  subst hK
  exact ⟨pe_callB hc hg hm hv h.pa hn hdb he hpl, ev_callB s h.ev⟩
theorem de_callTy {K : PySem.W.Frag} {T : String} {r : List V → Hp → VK → Prop} {q : List Vl → Res Vl} (hc : CallR X (.type T) r) (s : SndC K r q) (hv : bootBuiltins x = some (.type T)) (hm : X.mg x = none) (h : DA X W (e :: es) ta f) (hg : Gl X x := by rfl) (hn : x ≠ "__name__" := by decide) (hdb : (x == ("__debug__" : Str)) = false := by decide)
    (he : starEach (e :: es) X.env = (false, eval e X.env) :: starEach es X.env := by rfl) (hpl : (backTo pos (starEach es X.env)).any (·.1) = false := by rfl) (hK : X.K = K := by rfl) : DE X W (.Call (.Name x p) (e :: es) [] pos) (tCB r ta) (callE q f) := by
  subst hK
  exact ⟨pe_callTy hc hg hm hv h.pa hn hdb he hpl, ev_callB s h.ev⟩
end
theorem Rp.look' {K : PySem.W.Frag} {B G0 G' H' : Hp} {env : En} {σ : L2.St} {u : Vl} {v : V} {us : List Vl} {vs : List V} (r : Rel K W B G0 G' env σ H') (h : RpL K B G' H' (u :: us) vs) : ∃ v w, vs = v :: w ∧ Rep K H' v u.d ∧ RpL K B G' H' us w := by
  obtain ⟨v, w, e, h, l⟩ := h
  exact ⟨v, w, e, h.look r, l⟩
/-! ### built-ins -/
def intC : List Vl → Res Vl := fun us => match us with
  | [⟨_, .int i⟩] => .ok ⟨.g, .int i⟩
  | [⟨_, .bl b⟩] => .ok ⟨.g, .int (if b then 1 else 0)⟩
  | _ => .no
def absC : List Vl → Res Vl := fun us => match us with
  | [⟨_, .int i⟩] => .ok ⟨.g, .int (if i < 0 then -i else i)⟩
  | _ => .no
def min2C : List Vl → Res Vl := fun us => match us with
  | [⟨_, .int i⟩, ⟨_, .int j⟩] => .ok ⟨.g, .int (if j < i then j else i)⟩
  | _ => .no
def max2C : List Vl → Res Vl := fun us => match us with
  | [⟨_, .int i⟩, ⟨_, .int j⟩] => .ok ⟨.g, .int (if j > i then j else i)⟩
  | _ => .no
def lenC : List Vl → Res Vl := fun us => match us with
  | [⟨_, .lst xs⟩] => .ok ⟨.g, .int xs.length⟩
  | [⟨_, .tup xs⟩] => .ok ⟨.g, .int xs.length⟩
  | [⟨_, .fz xs⟩] => .ok ⟨.g, .int xs.length⟩
  | [⟨_, .str x⟩] => if x.length ≤ sizeLine then .ok ⟨.g, .int x.length⟩ else .no
  | _ => .no
def divmodC : List Vl → Res Vl := fun us => match us with
  | [⟨_, .int i⟩, ⟨_, .int j⟩] => if CDiv i j then .ok ⟨.g, .tup [.int (i / j), .int (i % j)]⟩ else .no
  | _ => .no
def intsOf : List D → Option (List Int)
  | [] => some []
  | .int i :: r => (intsOf r).map (i :: ·)
  | _ => none
@[simp] theorem intsOf_map (ns : List Int) : intsOf (ns.map D.int) = some ns := by
  induction ns with
  | nil => rfl
  | cons n r ih => show (intsOf (r.map D.int)).map (n :: ·) = _; rw [ih]; rfl
theorem intsOf_inv : ∀ {ds : List D} {ns : List Int}, intsOf ds = some ns → ds = ns.map D.int
  | [], ns, h => by cases h; rfl
  | .int i :: r, ns, h => by
    unfold intsOf at h
    cases e : intsOf r with
    | none => rw [e] at h; cases h
    | some ms => rw [e] at h; cases h; rw [intsOf_inv e]; rfl
  | .non :: _, _, h => by cases h
  | .bl _ :: _, _, h => by cases h
  | .str _ :: _, _, h => by cases h
  | .lst _ :: _, _, h => by cases h
  | .tup _ :: _, _, h => by cases h
  | .fz _ :: _, _, h => by cases h
  | .obj _ _ _ :: _, _, h => by cases h
  | .exn _ _ _ :: _, _, h => by cases h
def sumC : List Vl → Res Vl := fun us => match us with
  | [⟨_, .lst xs⟩] => match intsOf xs with
    | some ns => .ok ⟨.g, .int ns.sum⟩
    | none => .no
  | [⟨_, .tup xs⟩] => match intsOf xs with
    | some ns => .ok ⟨.g, .int ns.sum⟩
    | none => .no
  | _ => .no
def minOf : List Int → Int
  | [] => 0
  | n :: r => r.foldl min n
def maxOf : List Int → Int
  | [] => 0
  | n :: r => r.foldl max n
theorem foldl_min (r : List Int) : ∀ n, (r.foldl min n ∈ n :: r) ∧ ∀ y ∈ n :: r, r.foldl min n ≤ y := by
  induction r with
  | nil => intro n; simp
  | cons a r ih =>
    intro n
    obtain ⟨h1, h2⟩ := ih (min n a)
    rw [List.foldl_cons]
    refine ⟨?_, fun y hy => ?_⟩
    · rcases List.mem_cons.mp h1 with h | h
      · rw [h]
        rcases Int.le_total n a with q | q
        · rw [Int.min_eq_left q]; exact List.mem_cons_self
        · rw [Int.min_eq_right q]; exact List.mem_cons_of_mem _ List.mem_cons_self
      · exact List.mem_cons_of_mem _ (List.mem_cons_of_mem _ h)
    · have hm := h2 (min n a) List.mem_cons_self
      rcases List.mem_cons.mp hy with rfl | hy
      · exact Int.le_trans hm (Int.min_le_left _ _)
      · rcases List.mem_cons.mp hy with rfl | hy
        · exact Int.le_trans hm (Int.min_le_right _ _)
        · exact h2 y (List.mem_cons_of_mem _ hy)
theorem foldl_max (r : List Int) : ∀ n, (r.foldl max n ∈ n :: r) ∧ ∀ y ∈ n :: r, y ≤ r.foldl max n := by
  induction r with
  | nil => intro n; simp
  | cons a r ih =>
    intro n
    obtain ⟨h1, h2⟩ := ih (max n a)
    rw [List.foldl_cons]
    refine ⟨?_, fun y hy => ?_⟩
    · rcases List.mem_cons.mp h1 with h | h
      · rw [h]
        rcases Int.le_total n a with q | q
        · rw [Int.max_eq_right q]; exact List.mem_cons_of_mem _ List.mem_cons_self
        · rw [Int.max_eq_left q]; exact List.mem_cons_self
      · exact List.mem_cons_of_mem _ (List.mem_cons_of_mem _ h)
    · have hm := h2 (max n a) List.mem_cons_self
      rcases List.mem_cons.mp hy with rfl | hy
      · exact Int.le_trans (Int.le_max_left _ _) hm
      · rcases List.mem_cons.mp hy with rfl | hy
        · exact Int.le_trans (Int.le_max_right _ _) hm
        · exact h2 y (List.mem_cons_of_mem _ hy)
theorem minOf_spec {ns : List Int} (h : ns ≠ []) : minOf ns ∈ ns ∧ ∀ y ∈ ns, minOf ns ≤ y := by
  cases ns with
  | nil => exact absurd rfl h
  | cons n r => exact foldl_min r n
theorem maxOf_spec {ns : List Int} (h : ns ≠ []) : maxOf ns ∈ ns ∧ ∀ y ∈ ns, y ≤ maxOf ns := by
  cases ns with
  | nil => exact absurd rfl h
  | cons n r => exact foldl_max r n
def minC : List Vl → Res Vl := fun us => match us with
  | [⟨_, .lst xs⟩] => match intsOf xs with
    | some ns => if ns ≠ [] then .ok ⟨.g, .int (minOf ns)⟩ else .no
    | none => .no
  | _ => .no
def maxC : List Vl → Res Vl := fun us => match us with
  | [⟨_, .lst xs⟩] => match intsOf xs with
    | some ns => if ns ≠ [] then .ok ⟨.g, .int (maxOf ns)⟩ else .no
    | none => .no
  | _ => .no
/-- list(xs): a new list -/
def listC : List Vl → Res Vl := fun us => match us with
  | [⟨k, .lst xs⟩] => if k.it xs = true then .ok ⟨.o, .lst xs⟩ else .no
  | [⟨k, .tup xs⟩] => if k.it xs = true then .ok ⟨.o, .lst xs⟩ else .no
  | [⟨k, .fz xs⟩] => if k.it xs = true then .ok ⟨.o, .lst xs⟩ else .no
  | _ => .no
def tupleC : List Vl → Res Vl := fun us => match us with
  | [⟨k, .lst xs⟩] => if k.it xs = true then .ok ⟨.g, .tup xs⟩ else .no
  | [⟨k, .tup xs⟩] => .ok ⟨k, .tup xs⟩
  | _ => .no
section
variable {K : PySem.W.Frag} {W : Wi} {B G0 G' H' : Hp} {env : En} {σ : L2.St}
theorem Rp.tupItems {u : Vl} {v : V} {xs : List D} (r : Rel K W B G0 G' env σ H') (h : Rp K B G' H' H' u v) (e : u.d = .tup xs) (hk : u.k.it xs = true) : ∃ a vs, v = .ref a ∧ SqT K H' a vs ∧ RepL K G' vs xs := by
  obtain ⟨k, d⟩ := u
  dsimp only at e hk
  subst e
  cases k with
  | g =>
    obtain ⟨a, vs, e, h1, h2⟩ := Rep.tup_inv h
    exact ⟨a, vs, e, Same.sqt r.gh h1, h2⟩
  | b =>
    obtain ⟨a, vs, e, h1, h2⟩ := Rep.tup_inv h
    exact ⟨a, vs, e, Same.sqt r.bh h1, h2.flat hk⟩
  | h => obtain ⟨L, vs, ds, e1, e2, _⟩ := h; cases e2
  | o => obtain ⟨L, vs, ds, e1, e2, _⟩ := h; cases e2
theorem Rp.fzItems {u : Vl} {v : V} {xs : List D} (r : Rel K W B G0 G' env σ H') (h : Rp K B G' H' H' u v) (e : u.d = .fz xs) (hk : u.k.it xs = true) : ∃ a vs, v = .ref a ∧ SqL K H' a vs ∧ RepL K G' vs xs := by
  obtain ⟨k, d⟩ := u
  dsimp only at e hk
  subst e
  cases k with
  | g =>
    obtain ⟨a, vs, e, h1, h2⟩ := Rep.fz_inv h
    exact ⟨a, vs, e, r.gh.seq h1, h2⟩
  | b =>
    obtain ⟨a, vs, e, h1, h2⟩ := Rep.fz_inv h
    exact ⟨a, vs, e, r.bh.seq h1, h2.flat hk⟩
  | h => obtain ⟨L, vs, ds, e1, e2, _⟩ := h; cases e2
  | o => obtain ⟨L, vs, ds, e1, e2, _⟩ := h; cases e2
theorem one_int (r : Rel K W B G0 G' env σ H') {k : Kd} {i : Int} {vs : List V} (h : RpL K B G' H' [⟨k, .int i⟩] vs) : vs = [.int i] := by
  obtain ⟨v, w, e, h, l⟩ := h
  subst e
  rw [show w = [] from l, (h.look r).int_inv]
theorem two_int (r : Rel K W B G0 G' env σ H') {k l : Kd} {i j : Int} {vs : List V} (h : RpL K B G' H' [⟨k, .int i⟩, ⟨l, .int j⟩] vs) : vs = [.int i, .int j] := by
  obtain ⟨v, w, e, h, q⟩ := h
  subst e
  rw [one_int r q, (h.look r).int_inv]
end
section
variable {K : PySem.W.Frag} {W : Wi}
theorem snc_int : SndC K (fun xs H Q => (∃ i, xs = [.int i] ∧ Q (.int i) H) ∨ ∃ k, xs = [.bl k] ∧ Q (.int (if k then 1 else 0)) H) intC := ⟨fun B G0 G' env σ H' us z vs Q r h e q => (by
  unfold intC at e
  split at e
  · cases e
    exact .inl ⟨_, one_int r h, q _ _ _ (Ext.refl r.gh) (.int _)⟩
  · cases e
    obtain ⟨v, w, e, h, l⟩ := h
    subst e
    rw [show w = [] from l, (h.look r).bl_inv]
    exact .inr ⟨_, rfl, q _ _ _ (Ext.refl r.gh) (.int _)⟩
  · cases e),
  fun us x => by
  unfold intC
  repeat' split
  all_goals exact fun z => by cases z⟩
theorem snc_abs : SndC K (fun xs H Q => ∃ i, xs = [.int i] ∧ Q (.int (if i < 0 then -i else i)) H) absC := ⟨fun B G0 G' env σ H' us z vs Q r h e q => (by
  unfold absC at e
  split at e
  · cases e
    exact ⟨_, one_int r h, q _ _ _ (Ext.refl r.gh) (.int _)⟩
  · cases e),
  fun us x => by
  unfold absC
  repeat' split
  all_goals exact fun z => by cases z⟩
theorem snc_min2 : SndC K (fun xs H Q => ∃ i j, xs = [.int i, .int j] ∧ Q (.int (if j < i then j else i)) H) min2C := ⟨fun B G0 G' env σ H' us z vs Q r h e q => (by
  unfold min2C at e
  split at e
  · cases e
    exact ⟨_, _, two_int r h, q _ _ _ (Ext.refl r.gh) (.int _)⟩
  · cases e),
  fun us x => by
  unfold min2C
  repeat' split
  all_goals exact fun z => by cases z⟩
theorem snc_max2 : SndC K (fun xs H Q => ∃ i j, xs = [.int i, .int j] ∧ Q (.int (if j > i then j else i)) H) max2C := ⟨fun B G0 G' env σ H' us z vs Q r h e q => (by
  unfold max2C at e
  split at e
  · cases e
    exact ⟨_, _, two_int r h, q _ _ _ (Ext.refl r.gh) (.int _)⟩
  · cases e),
  fun us x => by
  unfold max2C
  repeat' split
  all_goals exact fun z => by cases z⟩
theorem snc_len : SndC K (fun xs H Q => ∃ x n, xs = [x] ∧ LenV K x H n ∧ Q (.int n) H) lenC := ⟨fun B G0 G' env σ H' us z vs Q r h e q => (by
  have one : ∀ {u : Vl}, us = [u] → ∃ v, vs = [v] ∧ Rep K H' v u.d := fun {u} eu => by
    subst eu
    obtain ⟨v, w, e, h, l⟩ := h
    subst e
    exact ⟨v, by rw [show w = [] from l], h.look r⟩
  unfold lenC at e
  split at e
  · cases e
    obtain ⟨v, rfl, hv⟩ := one rfl
    obtain ⟨a, ws, rfl, h1, h2⟩ := hv.lst_inv
    exact ⟨_, _, rfl, .inl ⟨_, SqL.of h1, h2.len.symm⟩, q _ _ _ (Ext.refl r.gh) (.int _)⟩
  · cases e
    obtain ⟨v, rfl, hv⟩ := one rfl
    obtain ⟨a, ws, rfl, h1, h2⟩ := hv.tup_inv
    exact ⟨_, _, rfl, .inr ⟨_, h1, h2.len.symm⟩, q _ _ _ (Ext.refl r.gh) (.int _)⟩
  · cases e
    obtain ⟨v, rfl, hv⟩ := one rfl
    obtain ⟨a, ws, rfl, h1, h2⟩ := hv.fz_inv
    exact ⟨_, _, rfl, .inl ⟨_, h1, h2.len.symm⟩, q _ _ _ (Ext.refl r.gh) (.int _)⟩
  · obtain ⟨c, rfl⟩ := if_ok e
    obtain ⟨v, rfl, hv⟩ := one rfl
    rw [hv.str_inv]
    exact ⟨_, _, rfl, ⟨c, rfl⟩, q _ _ _ (Ext.refl r.gh) (.int _)⟩
  · cases e),
  fun us x => by
  unfold lenC
  repeat' split
  all_goals exact fun z => by cases z⟩
theorem snc_divmod : SndC K rDivmodN divmodC := ⟨fun B G0 G' env σ H' us z vs Q r h e q => (by
  unfold divmodC at e
  split at e
  · obtain ⟨c, rfl⟩ := if_ok e
    exact ⟨_, _, two_int r h, c, new_tup r (.cons (.int _) (.cons (.int _) .nil)) q⟩
  · cases e),
  fun us x => by
  unfold divmodC
  repeat' split
  all_goals exact fun z => by cases z⟩
theorem snc_sum : SndC K (rSum2 K) sumC := ⟨fun B G0 G' env σ H' us z vs Q r h e q => (by
  unfold sumC at e
  split at e
  · split at e
    · rename_i ns en
      cases e
      obtain ⟨v, w, e, h, l⟩ := h
      subst e
      obtain ⟨a, ws, rfl, h1, h2⟩ := (h.look r).lst_inv
      rw [intsOf_inv en] at h2
      rw [show w = [] from l]
      exact .inl ⟨a, ns, rfl, SqL.of (by rw [h1, h2.ints]), q _ _ _ (Ext.refl r.gh) (.int _)⟩
    · cases e
  · split at e
    · rename_i ns en
      cases e
      obtain ⟨v, w, e, h, l⟩ := h
      subst e
      obtain ⟨a, ws, rfl, h1, h2⟩ := (h.look r).tup_inv
      rw [intsOf_inv en] at h2
      rw [show w = [] from l]
      exact .inr ⟨a, ns, rfl, h2.ints ▸ h1, q _ _ _ (Ext.refl r.gh) (.int _)⟩
    · cases e
  · cases e),
  fun us x => by
  unfold sumC
  repeat' split
  all_goals exact fun z => by cases z⟩
theorem snc_min : SndC K (rMin K) minC := ⟨fun B G0 G' env σ H' us z vs Q r h e q => (by
  unfold minC at e
  split at e
  · split at e
    · rename_i ns en
      obtain ⟨c, rfl⟩ := if_ok e
      obtain ⟨v, w, e, h, l⟩ := h
      subst e
      obtain ⟨a, ws, rfl, h1, h2⟩ := (h.look r).lst_inv
      rw [intsOf_inv en] at h2
      rw [show w = [] from l]
      refine ⟨a, ns, rfl, SqL.of (by rw [h1, h2.ints]), List.length_pos_iff.mpr c, fun m hm hle => ?_⟩
      obtain ⟨m1, m2⟩ := minOf_spec c
      rw [Int.le_antisymm (hle _ m1) (m2 m hm)]
      exact q _ _ _ (Ext.refl r.gh) (.int _)
    · cases e
  · cases e),
  fun us x => by
  unfold minC
  repeat' split
  all_goals exact fun z => by cases z⟩
theorem snc_max : SndC K (rMax K) maxC := ⟨fun B G0 G' env σ H' us z vs Q r h e q => (by
  unfold maxC at e
  split at e
  · split at e
    · rename_i ns en
      obtain ⟨c, rfl⟩ := if_ok e
      obtain ⟨v, w, e, h, l⟩ := h
      subst e
      obtain ⟨a, ws, rfl, h1, h2⟩ := (h.look r).lst_inv
      rw [intsOf_inv en] at h2
      rw [show w = [] from l]
      refine ⟨a, ns, rfl, SqL.of (by rw [h1, h2.ints]), List.length_pos_iff.mpr c, fun m hm hle => ?_⟩
      obtain ⟨m1, m2⟩ := maxOf_spec c
      rw [Int.le_antisymm (m2 m hm) (hle _ m1)]
      exact q _ _ _ (Ext.refl r.gh) (.int _)
    · cases e
  · cases e),
  fun us x => by
  unfold maxC
  repeat' split
  all_goals exact fun z => by cases z⟩
theorem snc_list : SndC K (fun xs H Q => ∃ p ys, xs = [.ref p] ∧ (SqL K H p ys ∨ SqT K H p ys) ∧ ∀ l, H l = none → Q (.ref l) (upd H l (.lst ys))) listC := ⟨fun B G0 G' env σ H' us z vs Q r h e q => (by
  unfold listC at e
  split at e
  · obtain ⟨c, rfl⟩ := if_ok e
    obtain ⟨v, w, e, h, l⟩ := h
    subst e
    obtain ⟨a, ws, rfl, h1, h2⟩ := Rp.items r h rfl c
    rw [show w = [] from l]
    exact ⟨a, ws, rfl, .inl (SqL.of h1), new_list r h2 q⟩
  · obtain ⟨c, rfl⟩ := if_ok e
    obtain ⟨v, w, e, h, l⟩ := h
    subst e
    obtain ⟨a, ws, rfl, h1, h2⟩ := Rp.tupItems r h rfl c
    rw [show w = [] from l]
    exact ⟨a, ws, rfl, .inr h1, new_list r h2 q⟩
  · obtain ⟨c, rfl⟩ := if_ok e
    obtain ⟨v, w, e, h, l⟩ := h
    subst e
    obtain ⟨a, ws, rfl, h1, h2⟩ := Rp.fzItems r h rfl c
    rw [show w = [] from l]
    exact ⟨a, ws, rfl, .inl h1, new_list r h2 q⟩
  · cases e),
  fun us x => by
  unfold listC
  repeat' split
  all_goals exact fun z => by cases z⟩
theorem snc_tuple : SndC K (rTupleN K) tupleC := ⟨fun B G0 G' env σ H' us z vs Q r h e q => (by
  unfold tupleC at e
  split at e
  · obtain ⟨c, rfl⟩ := if_ok e
    obtain ⟨v, w, e, h, l⟩ := h
    subst e
    obtain ⟨a, ws, rfl, h1, h2⟩ := Rp.items r h rfl c
    rw [show w = [] from l]
    exact ⟨a, ws, rfl, .inl ⟨SqL.of h1, new_tup r h2 q⟩⟩
  · cases e
    obtain ⟨v, w, e, h, l⟩ := h
    subst e
    obtain ⟨a, ws, rfl, h1, h2⟩ := (h.look r).tup_inv
    rw [show w = [] from l]
    exact ⟨a, ws, rfl, .inr ⟨h1, q _ _ _ (Ext.refl r.gh) h⟩⟩
  · cases e),
  fun us x => by
  unfold tupleC
  repeat' split
  all_goals exact fun z => by cases z⟩
end
end DL
namespace DL
open PySem L2
/-! ### comparisons, as values and as tests -/
structure CmpR (X : Cx) (op : CmpOp) (r : R2) (p : Vl → Vl → Res Vl) : Prop where
  ho : OpR X (compareOp op) r
  s : Snd2 X.K r p
section
variable {X : Cx} {W : Wi} {pos : Pos} {a b c : Expr} {ta tb tc : TE} {f g h : En → Res Vl} {op op' : CmpOp} {r r' : R2} {p p' : Vl → Vl → Res Vl}
theorem cm_lt : CmpR X .Lt (rI0 fun i j => .bl (decide (i < j))) (intP ltI) := ⟨op_lt, snd_lt⟩
theorem cm_le : CmpR X .LtE (rI0 fun i j => .bl (decide (i ≤ j))) (intP leI) := ⟨op_le, snd_le⟩
theorem cm_gt : CmpR X .Gt (rI0 fun i j => .bl (decide (j < i))) (intP gtI) := ⟨op_gt, snd_gt⟩
theorem cm_ge : CmpR X .GtE (rI0 fun i j => .bl (decide (j ≤ i))) (intP geI) := ⟨op_ge, snd_ge⟩
theorem cm_eq {K : PySem.W.Frag} (hu : X.A.units + 64 < cLine) (hK : X.K = K := by rfl) : CmpR X .Eq (fun x y H Q => rEq x y H Q ∨ rEqD K x y H Q) (eqP false) := by
  subst hK
  exact ⟨op_eq.or (op_eqD hu), snd_eq⟩
theorem cm_ne {K : PySem.W.Frag} (hu : X.A.units + 64 < cLine) (hK : X.K = K := by rfl) : CmpR X .NotEq (fun x y H Q => rNe x y H Q ∨ rNeD K x y H Q) (eqP true) := by
  subst hK
  exact ⟨op_ne.or (op_neD hu), snd_ne⟩
theorem cm_is : CmpR X .Is (rIs false) (isP false) := ⟨op_is, snd_is false⟩
theorem cm_isNot : CmpR X .IsNot (rIs true) (isP true) := ⟨op_isNot, snd_is true⟩
theorem de_cm (k : CmpR X op r p) (ha : DE X W a ta f) (hb : DE X W b tb g) (hm : behindInMarks op b = false := by first | exact nomark _ | rfl) : DE X W (.Compare a [op] [b] pos) (tOp r ta tb) (binE p f g) := de_cmp k.ho k.s ha hb hm
theorem dt_cm (k : CmpR X op r p) (ha : DE X W a ta f) (hb : DE X W b tb g) (hm : behindInMarks op b = false := by first | exact nomark _ | rfl) : DT X W (.Compare a [op] [b] pos) (tTest (tOp r ta tb)) (valT (binE p f g)) := ⟨pt_cmpR k.ho ha.pe hb.pe hm, evt_val (ev_bin k.s ha.ev hb.ev)⟩
theorem de_ch (k : CmpR X op r p) (k' : CmpR X op' r' p') (ha : DE X W a ta f) (hb : DE X W b tb g) (hc : DE X W c tc h) (hm : lastMarks [op, op'] [b, c] = false := by with_unfolding_all rfl) : DE X W (.Compare a [op, op'] [b, c] pos) (tChain r r' ta tb tc) (chainE p p' f g h) := ⟨pe_chain k.ho k'.ho ha.pe hb.pe hc.pe hm, ev_chain k.s k'.s ha.ev hb.ev hc.ev⟩
theorem dt_ch (k : CmpR X op r p) (k' : CmpR X op' r' p') (ha : DE X W a ta f) (hb : DE X W b tb g) (hc : DE X W c tc h) (hm : lastMarks [op, op'] [b, c] = false := by with_unfolding_all rfl) : DT X W (.Compare a [op, op'] [b, c] pos) (tTest (tChain r r' ta tb tc)) (valT (chainE p p' f g h)) := ⟨pt_chain k.ho k'.ho ha.pe hb.pe hc.pe hm, evt_val (ev_chain k.s k'.s ha.ev hb.ev hc.ev)⟩
/-- the calls of built-ins, the written part by its name -/
theorem ck_len {K : PySem.W.Frag} (hK : X.K = K := by rfl) : CallR X (.builtin "len") (fun xs H Q => ∃ x n, xs = [x] ∧ LenV K x H n ∧ Q (.int n) H) := by subst hK; exact call_len
theorem ck_sum {K : PySem.W.Frag} (hc : X.calm = true) (hK : X.K = K := by rfl) : CallR X (.builtin "sum") (rSum2 K) := by subst hK; exact (cr_sum hc).or (cr_sumT hc)
theorem ck_min {K : PySem.W.Frag} (hc : X.calm = true) (hK : X.K = K := by rfl) : CallR X (.builtin "min") (rMin K) := by subst hK; exact cr_min hc
theorem ck_max {K : PySem.W.Frag} (hc : X.calm = true) (hK : X.K = K := by rfl) : CallR X (.builtin "max") (rMax K) := by subst hK; exact cr_max hc
def rLs (K : PySem.W.Frag) : List V → Hp → VK → Prop := fun xs H Q => ∃ p ys, xs = [.ref p] ∧ (SqL K H p ys ∨ SqT K H p ys) ∧ ∀ l, H l = none → Q (.ref l) (upd H l (.lst ys))
abbrev rTp (K : PySem.W.Frag) : List V → Hp → VK → Prop := rTupleN K
theorem ck_list {K : PySem.W.Frag} (hK : X.K = K := by rfl) : CallR X (.type "list") (rLs K) := by subst hK; exact call_list_of
theorem ck_tuple {K : PySem.W.Frag} (hK : X.K = K := by rfl) : CallR X (.type "tuple") (rTp K) := by subst hK; exact call_tupleN
end
end DL

namespace DL
open PySem L2
/-! ### x[i] -/
def atD (xs : List D) (i : Int) : Res D := match atI xs i with
  | some d => .ok d
  | none => .no
def ixP : Vl → Vl → Res Vl := fun u w => match w.d with
  | .int i => match u.d with
    | .lst xs => (atD xs i).bind fun d => .ok ⟨u.k.sub, d⟩
    | .tup xs => (atD xs i).bind fun d => .ok ⟨u.k.sub, d⟩
    | .fz xs => (atD xs i).bind fun d => .ok ⟨u.k.sub, d⟩
    | .str x => if x.length ≤ sizeLine then (match atI x.cps.toList i with
      | some c => .ok ⟨.g, .str ⟨#[c]⟩⟩
      | none => .no) else .no
    | _ => .no
  | _ => .no
section
variable {K : PySem.W.Frag} {B G0 G G' H H' : Hp} {env : En} {σ : L2.St}
theorem atI_rep {vs : List V} {ds : List D} {i : Int} {d : D} (h : RepL K G vs ds) (e : atI ds i = some d) : ∃ v, atI vs i = some v ∧ Rep K G v d := by
  unfold atI at e ⊢
  rw [h.len]
  cases q : ixN ds.length i with
  | none => rw [q] at e; cases e
  | some j =>
    rw [q] at e
    exact h.get' e
/-- an item lies as its list does -/
theorem Rp.item {u : Vl} {v : V} {xs : List D} {i : Int} {d : D} (r : Rel K W B G0 G' env σ H') (h : Rp K B G' H H' u v) (ex : u.d = .lst xs ∨ u.d = .tup xs ∨ u.d = .fz xs) (e : atI xs i = some d) :
    ∃ a vs y, v = .ref a ∧ (u.d = .lst xs → SqL K H' a vs) ∧ (u.d = .fz xs → SqL K H' a vs) ∧ (u.d = .tup xs → SqT K H' a vs) ∧ atI vs i = some y ∧ Rp K B G' H H' ⟨u.k.sub, d⟩ y := by
  obtain ⟨k, dd⟩ := u
  dsimp only at ex
  cases k with
  | g =>
    rcases ex with rfl | rfl | rfl
    · obtain ⟨a, vs, rfl, h1, h2⟩ := Rep.lst_inv h
      obtain ⟨y, e1, e2⟩ := atI_rep h2 e
      exact ⟨a, vs, y, rfl, fun _ => SqL.of (r.gh _ _ h1), (fun z => nomatch z), (fun z => nomatch z), e1, e2⟩
    · obtain ⟨a, vs, rfl, h1, h2⟩ := Rep.tup_inv h
      obtain ⟨y, e1, e2⟩ := atI_rep h2 e
      exact ⟨a, vs, y, rfl, (fun z => nomatch z), (fun z => nomatch z), (fun _ => Same.sqt r.gh h1), e1, e2⟩
    · obtain ⟨a, vs, rfl, h1, h2⟩ := Rep.fz_inv h
      obtain ⟨y, e1, e2⟩ := atI_rep h2 e
      exact ⟨a, vs, y, rfl, (fun z => nomatch z), (fun _ => r.gh.seq h1), (fun z => nomatch z), e1, e2⟩
  | b =>
    rcases ex with rfl | rfl | rfl
    · obtain ⟨a, vs, rfl, h1, h2⟩ := Rep.lst_inv h
      obtain ⟨y, e1, e2⟩ := atI_rep h2 e
      exact ⟨a, vs, y, rfl, fun _ => SqL.of (r.bh _ _ h1), (fun z => nomatch z), (fun z => nomatch z), e1, e2⟩
    · obtain ⟨a, vs, rfl, h1, h2⟩ := Rep.tup_inv h
      obtain ⟨y, e1, e2⟩ := atI_rep h2 e
      exact ⟨a, vs, y, rfl, (fun z => nomatch z), (fun z => nomatch z), (fun _ => Same.sqt r.bh h1), e1, e2⟩
    · obtain ⟨a, vs, rfl, h1, h2⟩ := Rep.fz_inv h
      obtain ⟨y, e1, e2⟩ := atI_rep h2 e
      exact ⟨a, vs, y, rfl, (fun z => nomatch z), (fun _ => r.bh.seq h1), (fun z => nomatch z), e1, e2⟩
  | h =>
    obtain ⟨L, vs, ds, rfl, e2, _, _, e3, e4⟩ := h
    dsimp only at e2
    subst e2
    rcases ex with q | q | q <;> cases q
    obtain ⟨y, e1, e2⟩ := atI_rep e4 e
    exact ⟨L, vs, y, rfl, fun _ => SqL.of e3, (fun z => nomatch z), (fun z => nomatch z), e1, e2⟩
  | o =>
    obtain ⟨L, vs, ds, rfl, e2, _, _, e3, e4⟩ := h
    dsimp only at e2
    subst e2
    rcases ex with q | q | q <;> cases q
    obtain ⟨y, e1, e2⟩ := atI_rep e4 e
    exact ⟨L, vs, y, rfl, fun _ => SqL.of e3, (fun z => nomatch z), (fun z => nomatch z), e1, e2⟩
theorem atD_inv {xs : List D} {i : Int} {d : D} (h : atD xs i = .ok d) : atI xs i = some d := by
  unfold atD at h
  split at h
  · cases h; assumption
  · cases h
theorem atD_nx {xs : List D} {i : Int} {x : Exn} : atD xs i ≠ .ex x := by
  unfold atD
  split <;> exact fun z => nomatch z
theorem ixP_nx (u w : Vl) (x : Exn) : ixP u w ≠ .ex x := by
  unfold ixP
  split
  · split
    · exact bind_nx (fun _ => atD_nx) fun _ _ z => nomatch z
    · exact bind_nx (fun _ => atD_nx) fun _ _ z => nomatch z
    · exact bind_nx (fun _ => atD_nx) fun _ _ z => nomatch z
    · repeat' split
      all_goals exact fun z => by cases z
    · exact fun z => nomatch z
  · exact fun z => nomatch z
theorem snd_ix : Snd2 K (rIx K) ixP := ⟨fun B G0 G G' env σ H H' u w z x y Q rl hu hw e q => (by
  have hy := hw.look rl
  unfold ixP at e
  split at e
  · rename_i i ei
    rw [ei] at hy
    rw [hy.int_inv]
    split at e
    · rename_i xs ex
      obtain ⟨d, e1, e2⟩ := Res.bind_eq e
      cases e2
      obtain ⟨a, vs, t, rfl, h1, h2, h3, h4, h5⟩ := hu.item rl (.inl ex) (atD_inv e1)
      exact .inl ⟨a, vs, i, t, rfl, rfl, h1 ex, h4, q G' H' _ (Ext.refl rl.gh) (fix h5)⟩
    · rename_i xs ex
      obtain ⟨d, e1, e2⟩ := Res.bind_eq e
      cases e2
      obtain ⟨a, vs, t, rfl, h1, h2, h3, h4, h5⟩ := hu.item rl (.inr (.inl ex)) (atD_inv e1)
      exact .inr (.inl ⟨a, vs, i, t, rfl, rfl, h3 ex, h4, q G' H' _ (Ext.refl rl.gh) (fix h5)⟩)
    · rename_i xs ex
      obtain ⟨d, e1, e2⟩ := Res.bind_eq e
      cases e2
      obtain ⟨a, vs, t, rfl, h1, h2, h3, h4, h5⟩ := hu.item rl (.inr (.inr ex)) (atD_inv e1)
      exact .inl ⟨a, vs, i, t, rfl, rfl, h2 ex, h4, q G' H' _ (Ext.refl rl.gh) (fix h5)⟩
    · rename_i z' ez
      have hx := hu.look rl
      rw [ez] at hx
      rw [hx.str_inv]
      split at e
      · split at e
        · rename_i c hc
          cases e
          exact .inr (.inr ⟨z', i, c, rfl, rfl, by assumption, hc, q G' H' _ (Ext.refl rl.gh) (.str _)⟩)
        · cases e
      · cases e
    · cases e
  · cases e),
  ixP_nx⟩
where
  fix {B G' H0 H' H1 : Hp} {k : Kd} {d : D} {v : V} (h : Rp K B G' H0 H' ⟨k.sub, d⟩ v) : Rp K B G' H1 H' ⟨k.sub, d⟩ v := by
    cases k <;> exact h
end
section
variable {X : Cx} {W : Wi} {pos : Pos} {a b : Expr} {ta tb : TE} {f g : En → Res Vl}
theorem de_ix {K : PySem.W.Frag} (ha : DE X W a ta f) (hb : DE X W b tb g) (hs : PlainIx b := by intro _ _; rfl) (hK : X.K = K := by rfl) : DE X W (.Subscript a b pos) (tOp (rIx K) ta tb) (binE ixP f g) := by
  subst hK
  exact ⟨pe_ix ix_seq ha.pe hb.pe hs, ev_bin snd_ix ha.ev hb.ev⟩
end
/-! ### slices of lists -/
def cutD (xs : List D) (lo hi : Option Int) : List D := (xs.drop (HT.sIx xs.length 0 lo)).take (HT.sIx xs.length xs.length hi - HT.sIx xs.length 0 lo)
def noPart : En → Res (Option Int) := fun _ => .ok none
def part (f : En → Res Vl) : En → Res (Option Int) := fun env => (f env).bind fun u => match u.d with
  | .int i => .ok (some i)
  | _ => .no
structure EvO (K : PySem.W.Frag) (W : Wi) (to : TO) (f : En → Res (Option Int)) : Prop where
  ok : ∀ (B G0 G : Hp) (env : En) (σ : L2.St) (H : Hp) (o : Option Int), Rel K W B G0 G env σ H → f env = .ok o → ∀ Q : Option Int → Hp → Prop, (∀ G' H', Ext G H G' H' → Q o H') → to σ H Q
  ex : ∀ (B G0 G : Hp) (env : En) (σ : L2.St) (H : Hp) (x : Exn), Rel K W B G0 G env σ H → f env = .ex x → XOk K G σ H W x → ∀ Q : Option Int → Hp → Prop, to σ H Q
structure DO (X : Cx) (W : Wi) (e : Option Expr) (to : TO) (f : En → Res (Option Int)) : Prop where
  po : PO X e to
  ev : EvO X.K W to f
theorem do_none {X : Cx} {W : Wi} : DO X W none tNoPart noPart := ⟨po_none, ⟨fun B G0 G env σ H o r e Q k => by cases e; exact k G H (Ext.refl r.gh), fun B G0 G env σ H x r e => nomatch e⟩⟩
theorem do_some {X : Cx} {W : Wi} {e : Expr} {te : TE} {f : En → Res Vl} (h : DE X W e te f) : DO X W (some e) (tPart te) (part f) := ⟨po_some h.pe, ⟨fun B G0 G env σ H o r e Q k => (by
  obtain ⟨u, e1, e2⟩ := Res.bind_eq e
  refine h.ev.ok B G0 G env σ H u r e1 _ fun G' H' v x hv => ?_
  have y := hv.look (r.ext x)
  split at e2
  · rename_i i ei
    cases e2
    rw [ei] at y
    exact ⟨i, y.int_inv, k G' H' x⟩
  · cases e2), fun B G0 G env σ H x r e w Q => by
  rcases Res.bind_ex e with e1 | ⟨u, e1, e⟩
  · exact h.ev.ex B G0 G env σ H x r e1 w _
  · split at e <;> cases e⟩⟩
def slP (u : Vl) (lo hi : Option Int) : Res Vl := match u.d with
  | .lst xs => if u.k.it xs = true then .ok ⟨.o, .lst (cutD xs lo hi)⟩ else .no
  | .fz xs => if u.k.it xs = true then .ok ⟨.o, .lst (cutD xs lo hi)⟩ else .no
  | .tup xs => if u.k.it xs = true ∧ ¬ (HT.sIx xs.length 0 lo = 0 ∧ HT.sIx xs.length xs.length hi = xs.length) then .ok ⟨.g, .tup (cutD xs lo hi)⟩ else .no
  | _ => .no
def rSl2 (K : PySem.W.Frag) : V → Option Int → Option Int → Hp → VK → Prop := fun x lo hi H Q => rSlL K x lo hi H Q ∨ rSlTN K x lo hi H Q
def slE (f : En → Res Vl) (l h : En → Res (Option Int)) : En → Res Vl := fun env => (f env).bind fun u => (l env).bind fun lo => (h env).bind fun hi => slP u lo hi
theorem cut_rep {K : PySem.W.Frag} {G : Hp} {vs : List V} {ds : List D} (h : RepL K G vs ds) (lo hi : Option Int) : RepL K G (cutV vs lo hi) (cutD ds lo hi) := by
  unfold cutV cutD
  rw [h.len]
  exact (h.drop _).take _
theorem Rp.items2 {K : PySem.W.Frag} {B G0 G' H H' : Hp} {env : En} {σ : L2.St} {u : Vl} {v : V} {xs : List D} (r : Rel K W B G0 G' env σ H') (h : Rp K B G' H H' u v) (e : u.d = .fz xs) (hk : u.k.it xs = true) : ∃ a vs, v = .ref a ∧ SqL K H' a vs ∧ RepL K G' vs xs := by
  obtain ⟨k, d⟩ := u
  dsimp only at e hk
  subst e
  cases k with
  | g =>
    obtain ⟨a, vs, e, h1, h2⟩ := Rep.fz_inv h
    exact ⟨a, vs, e, r.gh.seq h1, h2⟩
  | b =>
    obtain ⟨a, vs, e, h1, h2⟩ := Rep.fz_inv h
    exact ⟨a, vs, e, r.bh.seq h1, h2.flat hk⟩
  | h => obtain ⟨L, vs, ds, e1, e2, _⟩ := h; cases e2
  | o => obtain ⟨L, vs, ds, e1, e2, _⟩ := h; cases e2
theorem Rp.items3 {K : PySem.W.Frag} {B G0 G' H H' : Hp} {env : En} {σ : L2.St} {u : Vl} {v : V} {xs : List D} (r : Rel K W B G0 G' env σ H') (h : Rp K B G' H H' u v) (e : u.d = .tup xs) (hk : u.k.it xs = true) : ∃ a vs, v = .ref a ∧ SqT K H' a vs ∧ RepL K G' vs xs := by
  obtain ⟨k, d⟩ := u
  dsimp only at e hk
  subst e
  cases k with
  | g =>
    obtain ⟨a, vs, e, h1, h2⟩ := Rep.tup_inv h
    exact ⟨a, vs, e, Same.sqt r.gh h1, h2⟩
  | b =>
    obtain ⟨a, vs, e, h1, h2⟩ := Rep.tup_inv h
    exact ⟨a, vs, e, Same.sqt r.bh h1, h2.flat hk⟩
  | h => obtain ⟨L, vs, ds, e1, e2, _⟩ := h; cases e2
  | o => obtain ⟨L, vs, ds, e1, e2, _⟩ := h; cases e2
theorem slP_nx {u : Vl} {lo hi : Option Int} {x : Exn} : slP u lo hi ≠ .ex x := by
  unfold slP
  split <;> first
    | exact if_nx
    | exact fun z => nomatch z
theorem ev_sl {K : PySem.W.Frag} {W : Wi} {te : TE} {tl th : TO} {f : En → Res Vl} {l h : En → Res (Option Int)} (h1 : EvD K W te f) (h2 : EvO K W tl l) (h3 : EvO K W th h) : EvD K W (tSl (rSl2 K) te tl th) (slE f l h) := ⟨fun B G0 G env σ H z rl e Q k => (by
  obtain ⟨u, e1, e⟩ := Res.bind_eq e
  obtain ⟨lo, e2, e⟩ := Res.bind_eq e
  obtain ⟨hi, e3, e⟩ := Res.bind_eq e
  refine h1.ok B G0 G env σ H u rl e1 _ fun G1 H1 v x1 hv => h2.ok B G0 G1 env σ H1 lo (rl.ext x1) e2 _ fun G2 H2 x2 => h3.ok B G0 G2 env σ H2 hi ((rl.ext x1).ext x2) e3 _ fun G3 H3 x3 => ?_
  have rl3 := ((rl.ext x1).ext x2).ext x3
  have hv3 := (hv.mono x2).mono x3
  unfold slP at e
  split at e
  · rename_i xs ex
    obtain ⟨c, rfl⟩ := if_ok e
    obtain ⟨a, vs, rfl, q1, q2⟩ := hv3.items rl3 ex c
    exact .inl ⟨a, vs, rfl, SqL.of q1, new_list rl3 (cut_rep q2 lo hi) fun G4 H4 w x4 hw => k G4 H4 w (((x1.trans x2).trans x3).trans x4) (hw.from ((x1.hh.trans x2.hh).trans x3.hh))⟩
  · rename_i xs ex
    obtain ⟨c, rfl⟩ := if_ok e
    obtain ⟨a, vs, rfl, q1, q2⟩ := hv3.items2 rl3 ex c
    exact .inl ⟨a, vs, rfl, q1, new_list rl3 (cut_rep q2 lo hi) fun G4 H4 w x4 hw => k G4 H4 w (((x1.trans x2).trans x3).trans x4) (hw.from ((x1.hh.trans x2.hh).trans x3.hh))⟩
  · rename_i xs ex
    obtain ⟨⟨c, c2⟩, rfl⟩ := if_ok e
    obtain ⟨a, vs, rfl, q1, q2⟩ := Rp.items3 rl3 hv3 ex c
    exact .inr ⟨a, vs, rfl, q1, by rw [q2.len]; exact c2, new_tup rl3 (cut_rep q2 lo hi) fun G4 H4 w x4 hw => k G4 H4 w (((x1.trans x2).trans x3).trans x4) (hw.from ((x1.hh.trans x2.hh).trans x3.hh))⟩
  · cases e),
  fun B G0 G env σ H x rl e w Q => by
  rcases Res.bind_ex e with e1 | ⟨u, e1, e⟩
  · exact h1.ex B G0 G env σ H x rl e1 w _
  rcases Res.bind_ex e with e2 | ⟨lo, e2, e⟩
  · exact h1.ok B G0 G env σ H u rl e1 _ fun G1 H1 v x1 hv => h2.ex B G0 G1 env σ H1 x (rl.ext x1) e2 (w.ext x1) _
  rcases Res.bind_ex e with e3 | ⟨hi, e3, e⟩
  · exact h1.ok B G0 G env σ H u rl e1 _ fun G1 H1 v x1 hv => h2.ok B G0 G1 env σ H1 lo (rl.ext x1) e2 _ fun G2 H2 x2 => h3.ex B G0 G2 env σ H2 x ((rl.ext x1).ext x2) e3 ((w.ext x1).ext x2) _
  · exact absurd e slP_nx⟩
theorem de_sl {K : PySem.W.Frag} {X : Cx} {W : Wi} {pos p2 : Pos} {a : Expr} {lo hi : Option Expr} {te : TE} {tl th : TO} {f : En → Res Vl} {l h : En → Res (Option Int)} (h1 : DE X W a te f) (h2 : DO X W lo tl l) (h3 : DO X W hi th h) (hK : X.K = K := by rfl) : DE X W (.Subscript a (.Slice lo hi none p2) pos) (tSl (rSl2 K) te tl th) (slE f l h) := by
  subst hK
  exact ⟨pe_slice (SlR.or sl_list sl_tupN) h1.pe h2.po h3.po, ev_sl h1.ev h2.ev h3.ev⟩
/-! ### isinstance(x, T), T a built-in type -/
def tyD : D → String
  | .non => "NoneType"
  | .bl _ => "bool"
  | .int _ => "int"
  | .str _ => "str"
  | .lst _ => "list"
  | .tup _ => "tuple"
  | .fz _ => "list"
  | .obj _ _ _ => ""
  | .exn _ _ _ => ""
def isOb : D → Bool
  | .obj _ _ _ => true
  | .exn _ _ _ => true
  | _ => false
def isiB (T : String) : D → Bool
  | .non => T == "NoneType"
  | .bl _ => T == "bool" || T == "int"
  | .int _ => T == "int"
  | .str _ => T == "str"
  | .lst _ => T == "list"
  | .tup _ => T == "tuple"
  | .fz _ => T == "list"
  | .obj _ _ _ => false
  | .exn _ _ _ => false
def goodT (T : String) : Bool := T == "int" || T == "str" || T == "bool" || T == "list" || T == "tuple"
def isiE (T : String) (f : En → Res Vl) : En → Res Vl := fun env => (f env).bind fun u => if isOb u.d = true then .no else .ok ⟨.g, .bl (isiB T u.d)⟩
theorem ty_sqL {K : PySem.W.Frag} {H : Hp} {a : Addr} {xs : List V} (h : SqL K H a xs) : TyX K H (.ref a) (.type "list") := by
  rcases h with (h | ⟨o, h⟩) | ⟨o, its, n, h1, h2, h3, h4, h5⟩
  · exact .base (.lst h)
  · exact .base (.frz h)
  · exact .kList h1 h2
theorem ty_sqT {K : PySem.W.Frag} {H : Hp} {a : Addr} {xs : List V} (h : SqT K H a xs) : TyX K H (.ref a) (.type "tuple") := by
  rcases h with (h | ⟨o, h⟩) | ⟨o, its, n, h1, h2, h3, h4⟩
  · exact .base (.tup h)
  · exact .fTuple h
  · exact .kTuple h1 h2
theorem ty_rep {K : PySem.W.Frag} {H : Hp} {v : V} {d : D} (h : Rep K H v d) (ho : isOb d = false) : TyX K H v (.type (tyD d)) := by
  cases h with
  | non => exact .base .non
  | bl b => exact .base (.bl b)
  | int i => exact .base (.int i)
  | str x => exact .base (.str x)
  | lst h l => exact .base (.lst h)
  | tup h l => exact ty_sqT h.1
  | fz h l => exact ty_sqL h
  | obj _ _ _ _ _ => cases ho
  | exn0 _ _ => cases ho
  | exn _ _ _ _ _ => cases ho
theorem kit_tab : ∀ t ∈ ["NoneType", "bool", "int", "str", "list", "tuple"], ∀ T ∈ ["int", "str", "bool", "list", "tuple"], kitB t T = some (t == T || (t == "bool" && T == "int")) := by decide +kernel
theorem kit_isi {K : PySem.W.Frag} {T : String} (h : goodT T = true) (d : D) (ho : isOb d = false) : PySem.W.kitOne K (.type (tyD d)) (.type T) = some (isiB T d) := by
  have hT : T ∈ ["int", "str", "bool", "list", "tuple"] := by
    unfold goodT at h
    simp only [Bool.or_eq_true, beq_iff_eq] at h
    simp only [List.mem_cons, List.not_mem_nil, or_false]
    rcases h with (((h | h) | h) | h) | h
    · exact .inl h
    · exact .inr (.inl h)
    · exact .inr (.inr (.inl h))
    · exact .inr (.inr (.inr (.inl h)))
    · exact .inr (.inr (.inr (.inr h)))
  have e := kit_tab (tyD d) (by cases d <;> first | (cases ho; done) | simp [tyD]) T hT
  refine kit_ty (e.trans ?_)
  congr 1
  simp only [List.mem_cons, List.not_mem_nil, or_false] at hT
  rcases hT with rfl | rfl | rfl | rfl | rfl <;> cases d <;> first | (cases ho; done) | rfl | simp [tyD, isiB]
theorem de_isi {K : PySem.W.Frag} {X : Cx} {W : Wi} {pos p p2 : Pos} {a : Expr} {ta : TE} {f : En → Res Vl} {T : Str} {Ts : String} (hT : goodT Ts = true) (hv : bootBuiltins T = some (.type Ts)) (hm : X.mg "isinstance" = none) (hmT : X.mg T = none) (h : DE X W a ta f)
    (hg : Gl X "isinstance" := by rfl) (hgT : Gl X T := by rfl) (hn : T ≠ "__name__" := by decide) (hdb : (T == ("__debug__" : Str)) = false := by decide)
    (h1 : starEach (a :: [.Name T p2]) X.env = (false, eval a X.env) :: starEach [.Name T p2] X.env := by rfl) (hK : X.K = K := by rfl) : DE X W (.Call (.Name "isinstance" p) [a, .Name T p2] [] pos) (tCB (rIsi K) (tCons ta (tCons (tC (.ty Ts)) tNil))) (isiE Ts f) := by
  subst hK
  exact ⟨pe_callB call_isi hg hm (by decide +kernel) (pa_cons h.pe (pa_cons (pe_bltn hgT hmT hv rfl hn hdb) pa_nil) h1) (by decide) (by decide) h1, ⟨fun B G0 G env σ H z rl e Q k => (by
    obtain ⟨u, e1, e⟩ := Res.bind_eq e
    skip
    split at e
    · cases e
    · rename_i ho
      cases e
      have ho : isOb u.d = false := Bool.eq_false_iff.mpr ho
      exact h.ev.ok B G0 G env σ H u rl e1 _ fun G' H' v x hv => ⟨v, .ty Ts, .type (tyD u.d), .type Ts, _, rfl, .ty Ts, ty_rep (hv.look (rl.ext x)) ho, kit_isi hT u.d ho, k G' H' _ x (.bl _)⟩), fun B G0 G env σ H x rl e w Q => by
    rcases Res.bind_ex e with e1 | ⟨u, e1, e⟩
    · exact h.ev.ex B G0 G env σ H x rl e1 w _
    · skip
      split at e <;> cases e⟩⟩
end DL

namespace DL
open PySem L2
/-! ### statements -/
inductive Out where
  | nx (e : En) | rt (u : Vl) | bk (e : En) | ct (e : En) | ex (e : En) (x : Exn) | no
/-- what is wanted behind an outcome -/
def OutOk (K : PySem.W.Frag) (W : Wi) (B G0 G : Hp) (D : Ends) : Out → Prop
  | .nx e => ∀ G' σ' H', Same G G' → Rel K W B G0 G' e σ' H' → D.nx σ' H'
  | .bk e => ∀ G' σ' H', Same G G' → Rel K W B G0 G' e σ' H' → D.bk σ' H'
  | .ct e => ∀ G' σ' H', Same G G' → Rel K W B G0 G' e σ' H' → D.ct σ' H'
  | .rt u => ∀ G' H' v, Same G G' → Rel K W B G0 G' [] [] H' → Rp K B G' B H' u v → D.rt v H'
  | .ex e x => ∀ G' σ' H' cls d, Same G G' → Rel K W B G0 G' e σ' H' → RepX K G' H' x cls d → W.w cls d σ' H'
  | .no => False
def SvD (K : PySem.W.Frag) (W : Wi) (ts : TS) (f : En → Out) : Prop := ∀ (B G0 G : Hp) (env : En) (σ : L2.St) (H : Hp) (D : Ends), Rel K W B G0 G env σ H → OutOk K W B G0 G D (f env) → ts D σ H
structure DS (X : Cx) (W : Wi) (st : Stmt) (ts : TS) (f : En → Out) : Prop where
  ps : PS X st ts
  sv : SvD X.K W ts f
structure DSs (X : Cx) (W : Wi) (st : List Stmt) (ts : TS) (f : En → Out) : Prop where
  ps : PSs X st ts
  sv : SvD X.K W ts f
theorem OutOk.xok {K : PySem.W.Frag} {W : Wi} {B G0 G H : Hp} {D : Ends} {env : En} {σ : L2.St} {x : Exn} (r : Rel K W B G0 G env σ H) (h : OutOk K W B G0 G D (.ex env x)) : XOk K G σ H W x := fun G' H' cls d e q => h G' σ H' cls d e.gg (r.ext e) q
theorem OutOk.mono {K : PySem.W.Frag} {W : Wi} {B G0 G G' : Hp} {D : Ends} {o : Out} (s : Same G G') (h : OutOk K W B G0 G D o) : OutOk K W B G0 G' D o := by
  cases o with
  | nx e => exact fun G2 σ' H' q r => h G2 σ' H' (s.trans q) r
  | bk e => exact fun G2 σ' H' q r => h G2 σ' H' (s.trans q) r
  | ct e => exact fun G2 σ' H' q r => h G2 σ' H' (s.trans q) r
  | rt u => exact fun G2 H' v q r => h G2 H' v (s.trans q) r
  | ex e x => exact fun G2 σ' H' cls d q r => h G2 σ' H' cls d (s.trans q) r
  | no => exact h
def seqO (f g : En → Out) : En → Out := fun env => match f env with
  | .nx e => g e
  | o => o
theorem sv_seq {K : PySem.W.Frag} {W : Wi} {t u : TS} {f g : En → Out} (h1 : SvD K W t f) (h2 : SvD K W u g) : SvD K W (tSeq t u) (seqO f g) := fun B G0 G env σ H D r k => by
  refine h1 B G0 G env σ H _ r ?_
  unfold seqO at k
  cases e : f env with
  | nx e' =>
    rw [e] at k
    exact fun G' σ' H' s r' => h2 B G0 G' e' σ' H' D r' (k.mono s)
  | _ => rw [e] at k; exact k
section
variable {X : Cx} {W : Wi} {st : Stmt} {rest : List Stmt} {t u : TS} {f g : En → Out}
def nextO : En → Out := fun env => .nx env
theorem sv_next {K : PySem.W.Frag} {W : Wi} : SvD K W tNext nextO := fun B G0 G env σ H D r k => k G σ H (Same.refl G) r
theorem dss_nil : DSs X W [] tNext nextO := ⟨pss_nil, sv_next⟩
theorem dss_cons (h1 : DS X W st t f) (h2 : DSs X W rest u g) : DSs X W (st :: rest) (tSeq t u) (seqO f g) := ⟨pss_cons h1.ps h2.ps, sv_seq h1.sv h2.sv⟩
theorem dss_one (h1 : DS X W st t f) : DSs X W [st] t f := ⟨pss_one h1.ps, h1.sv⟩
theorem ds_pass {pos : Pos} : DS X W (.Pass pos) tNext nextO := ⟨ps_pass, sv_next⟩
theorem ds_break {pos : Pos} : DS X W (.Break pos) tBreak (fun env => .bk env) := ⟨ps_break, fun B G0 G env σ H D r k => k G σ H (Same.refl G) r⟩
theorem ds_continue {pos : Pos} : DS X W (.Continue pos) tCont (fun env => .ct env) := ⟨ps_continue, fun B G0 G env σ H D r k => k G σ H (Same.refl G) r⟩
end
/-- a list that stands in slot i is kept from now on -/
def frz1 (i : Nat) (env : En) : En := match env[i]? with
  | some (.ow xs) => env.set i (.vl true (.lst xs))
  | _ => env
def frz : List Nat → En → En
  | [], env => env
  | i :: is, env => frz is (frz1 i env)
def frzO (is : List Nat) (f : En → Out) : En → Out := fun env => f (frz is env)
section
variable {K : PySem.W.Frag} {W : Wi} {B G0 G G' H H' : Hp} {env : En} {σ : L2.St}
theorem set_get {α : Type} {l : List α} {i j : Nat} {x y : α} (h : (l.set i x)[j]? = some y) : (i = j ∧ y = x) ∨ (i ≠ j ∧ l[j]? = some y) := by
  by_cases e : i = j
  · subst e
    have hl : i < l.length := by
      have := (List.getElem?_eq_some_iff.mp h).1
      rwa [List.length_set] at this
    rw [List.getElem?_set_self hl] at h
    exact .inl ⟨rfl, (Option.some.inj h).symm⟩
  · rw [List.getElem?_set_ne e] at h
    exact .inr ⟨e, h⟩
theorem Rel.frz1 (r : Rel K W B G0 G env σ H) (i : Nat) : ∃ G', Same G G' ∧ Rel K W B G0 G' (frz1 i env) σ H := by
  unfold DL.frz1
  split
  · rename_i xs e
    have hi : i < σ.length := by
      have h1 := (List.getElem?_eq_some_iff.mp e).1
      have h2 := r.len
      omega
    have eo : σ[i]? = some σ[i] := List.getElem?_eq_getElem hi
    obtain ⟨L, vs, e1, b1, g1, h1, r1⟩ := r.sl i _ _ e eo
    have s1 : Same G (upd G L (.lst vs)) := same_upd (Same.refl _) g1
    refine ⟨upd G L (.lst vs), s1, r.g0.trans s1, fun b u q => ?_, r.bh, fun a q n => ?_, by rw [List.length_set]; exact r.len, fun j s o q1 q2 => ?_, fun j k s1 t1 L' hjk q1 q2 o1 o2 q3 q4 => ?_⟩
    · by_cases z : b = L
      · subst z
        rw [upd_same] at q
        cases q
        exact h1
      · rw [upd_ne z] at q
        exact r.gh b u q
    · by_cases z : a = L
      · rw [z]; exact b1
      · rw [upd_ne z] at n
        exact r.fr a q n
    · rcases set_get q1 with ⟨rfl, rfl⟩ | ⟨ne, q1⟩
      · rw [eo] at q2
        cases q2
        exact ⟨.ref L, e1, .lst upd_same (r1.mono s1)⟩
      · have x := r.sl j s o q1 q2
        match s, x with
        | .no, _ => trivial
        | .vl true d, ⟨v, y1, y2⟩ => exact ⟨v, y1, y2.mono s1⟩
        | .vl false d, ⟨v, y1, y2⟩ => exact ⟨v, y1, y2⟩
        | .xc y, ⟨y1, y2⟩ => exact ⟨y1, y2.same s1⟩
        | .ow ys, ⟨L2, ws, y1, y2, y3, y4, y5⟩ =>
          refine ⟨L2, ws, y1, y2, ?_, y4, y5.mono s1⟩
          have : L2 ≠ L := fun z => r.ds i j _ _ L ne e q1 rfl rfl (by rw [eo, e1]) (by rw [q2, y1, z])
          rw [upd_ne this]
          exact y3
        | .om t ys, ⟨L2, y1, y2, y3, y4⟩ =>
          have : L2 ≠ L := fun z => r.ds i j _ _ L ne e q1 rfl rfl (by rw [eo, e1]) (by rw [q2, y1, z])
          exact ⟨L2, y1, y2, by rw [upd_ne this]; exact y3, y4.mono s1 rfl rfl⟩
    · rcases set_get q1 with ⟨rfl, rfl⟩ | ⟨n1, q1⟩
      · cases o1
      · rcases set_get q2 with ⟨rfl, rfl⟩ | ⟨n2, q2⟩
        · cases o2
        · exact r.ds j k s1 t1 L' hjk q1 q2 o1 o2 q3 q4
  · exact ⟨G, Same.refl G, r⟩
theorem Rel.frz : ∀ (is : List Nat) {G : Hp} {env : En}, Rel K W B G0 G env σ H → ∃ G', Same G G' ∧ Rel K W B G0 G' (frz is env) σ H
  | [], G, env, r => ⟨G, Same.refl G, r⟩
  | i :: is, G, env, r => by
    obtain ⟨G1, s1, r1⟩ := r.frz1 i
    obtain ⟨G2, s2, r2⟩ := Rel.frz is r1
    exact ⟨G2, s1.trans s2, r2⟩
/-- an own slot's value -/
def slotOf : Vl → Res Sl
  | ⟨.g, d⟩ => .ok (.vl true d)
  | ⟨.b, d⟩ => .ok (.vl false d)
  | ⟨.o, .lst xs⟩ => .ok (.ow xs)
  | ⟨_, _⟩ => .no
theorem list_ext {α : Type} {l : List α} {i : Nat} {x : α} (h : i < l.length) : l[i]? = some l[i] := List.getElem?_eq_getElem h
theorem Rel.own_at {k : Nat} {t : Sl} {L : Addr} (r : Rel K W B G0 G env σ H) (e : env[k]? = some t) (ho : t.own = true) (e2 : σ[k]? = some (some (.ref L))) : ∃ o, H L = some o := by
  have x := r.sl k _ _ e e2
  match t, ho, x with
  | .ow xs, _, ⟨L2, vs, y1, _, _, y4, _⟩ => cases y1; exact ⟨_, y4⟩
  | .om t xs, _, ⟨L2, y1, _, _, y4⟩ => cases y1; exact y4.there
/-- something goes into slot i; an own thing is new -/
theorem Rel.putS {v : V} {s : Sl} (r : Rel K W B G0 G env σ H) (x : Ext G H G' H') (hs : SlOk K W B G' H' s (some v)) (hn : s.own = true → ∀ L, v = .ref L → H L = none) (i : Nat) : Rel K W B G0 G' (env.set i s) (σ.set i (some v)) H' := by
  have r' := r.ext x
  refine ⟨r'.g0, r'.gh, r'.bh, r'.fr, by rw [List.length_set, List.length_set]; exact r'.len, fun j s' o q1 q2 => ?_, fun j k s1 t1 L hjk q1 q2 o1 o2 q3 q4 => ?_⟩
  · rcases set_get q1 with ⟨rfl, rfl⟩ | ⟨ne, q1⟩
    · rcases set_get q2 with ⟨_, rfl⟩ | ⟨ne, _⟩
      · exact hs
      · exact absurd rfl ne
    · rcases set_get q2 with ⟨z, _⟩ | ⟨_, q2⟩
      · exact absurd z ne
      · exact r'.sl j s' o q1 q2
  · have fresh : ∀ {k : Nat} {t : Sl}, s.own = true → t.own = true → env[k]? = some t → σ[k]? = some (some (.ref L)) → v = .ref L → False := fun {k t} os ot q2 q4 ev => by
      obtain ⟨o, ho⟩ := r.own_at q2 ot q4
      rw [hn os L ev] at ho
      cases ho
    rcases set_get q1 with ⟨e1, z⟩ | ⟨n1, q1⟩
    · rcases set_get q2 with ⟨e2, _⟩ | ⟨n2, q2⟩
      · exact hjk (e1.symm.trans e2)
      · rcases set_get q3 with ⟨_, z3⟩ | ⟨n3, _⟩
        · rcases set_get q4 with ⟨z4, _⟩ | ⟨_, q4⟩
          · exact n2 z4
          · exact fresh (z ▸ o1) o2 q2 q4 (Option.some.inj z3).symm
        · exact n3 e1
    · rcases set_get q2 with ⟨e2, z⟩ | ⟨n2, q2⟩
      · rcases set_get q4 with ⟨_, z4⟩ | ⟨n4, _⟩
        · rcases set_get q3 with ⟨z3, _⟩ | ⟨_, q3⟩
          · exact n1 z3
          · exact fresh (z ▸ o2) o1 q1 q3 (Option.some.inj z4).symm
        · exact n4 e2
      · rcases set_get q3 with ⟨z3, _⟩ | ⟨_, q3⟩
        · exact n1 z3
        · rcases set_get q4 with ⟨z4, _⟩ | ⟨_, q4⟩
          · exact n2 z4
          · exact r'.ds j k s1 t1 L hjk q1 q2 o1 o2 q3 q4
/-- a value goes into slot i -/
theorem Rel.put {u : Vl} {v : V} {s : Sl} (r : Rel K W B G0 G env σ H) (x : Ext G H G' H') (h : Rp K B G' H H' u v) (e : slotOf u = .ok s) (i : Nat) : Rel K W B G0 G' (env.set i s) (σ.set i (some v)) H' := by
  obtain ⟨k, d⟩ := u
  cases k with
  | g => cases e; exact r.putS (s := .vl true d) x ⟨v, rfl, h⟩ (fun z => nomatch z) i
  | b => cases e; exact r.putS (s := .vl false d) x ⟨v, rfl, h⟩ (fun z => nomatch z) i
  | h => cases d <;> cases e
  | o =>
    obtain ⟨L, vs, ds, e1, e2, e3, e4, e5, e6⟩ := h
    dsimp only at e2
    subst e2
    cases e
    exact r.putS (s := .ow ds) x ⟨L, vs, by rw [e1], r.bh.free e3, e4, e5, e6⟩ (fun _ L2 z => by rw [e1] at z; cases z; exact e3) i
theorem Rel.fin (r : Rel K W B G0 G env σ H) : Rel K W B G0 G [] [] H := ⟨r.g0, r.gh, r.bh, r.fr, rfl, fun i s o e => by simp at e, fun i j s t L _ e => by simp at e⟩
end
theorem slotOf_nx {u : Vl} {x : Exn} : slotOf u ≠ .ex x := by
  unfold slotOf
  split <;> exact fun z => nomatch z
def setO (i : Nat) (f : En → Res Vl) : En → Out := fun env => match (f env).bind slotOf with
  | .ok s => .nx (env.set i s)
  | .ex x => .ex env x
  | .no => .no
def retV : Vl → Res Vl
  | ⟨.g, d⟩ => .ok ⟨.g, d⟩
  | ⟨.o, d⟩ => .ok ⟨.o, d⟩
  | ⟨.h, d⟩ => .ok ⟨.o, d⟩
  | ⟨.b, d⟩ => if flat d = true then .ok ⟨.g, d⟩ else .no
theorem retV_nx {u : Vl} {x : Exn} : retV u ≠ .ex x := by
  unfold retV
  split <;> first
    | exact if_nx
    | exact fun z => nomatch z
def retO (f : En → Res Vl) : En → Out := fun env => match (f env).bind retV with
  | .ok u => .rt u
  | .ex x => .ex env x
  | .no => .no
def ifO (p : En → Res Bool) (f g : En → Out) : En → Out := fun env => match p env with
  | .ok true => f env
  | .ok false => g env
  | .ex x => .ex env x
  | .no => .no
def dropO (f : En → Res Vl) : En → Out := fun env => match f env with
  | .ok _ => .nx env
  | .ex x => .ex env x
  | .no => .no
section
variable {K : PySem.W.Frag} {W : Wi} {te : TE} {tt : TT} {ts tu : TS} {f : En → Res Vl} {p : En → Res Bool} {g h : En → Out}
theorem sv_set (i : Nat) (hf : EvD K W te f) : SvD K W (tAsg te (gName i)) (setO i f) := fun B G0 G env σ H D r k => by
  unfold setO at k
  split at k
  · rename_i s e
    obtain ⟨u, e1, e2⟩ := Res.bind_eq e
    exact hf.ok B G0 G env σ H u r e1 _ fun G' H' v x hv => k G' _ H' x.gg (r.put x hv e2 i)
  · rename_i y e
    rcases Res.bind_ex e with e1 | ⟨u, _, e2⟩
    · exact hf.ex B G0 G env σ H y r e1 (k.xok r) _
    · exact absurd e2 slotOf_nx
  · exact k.elim
theorem sv_ret (hf : EvD K W te f) : SvD K W (tRet te) (retO f) := fun B G0 G env σ H D r k => by
  unfold retO at k
  split at k
  · rename_i u e
    obtain ⟨w, e1, e2⟩ := Res.bind_eq e
    refine hf.ok B G0 G env σ H w r e1 _ fun G' H' v x hv => k G' H' v x.gg (r.ext x).fin ?_
    obtain ⟨kk, d⟩ := w
    cases kk with
    | g => cases e2; exact hv
    | o => cases e2; exact Rp.from r.bh hv
    | h =>
      cases e2
      obtain ⟨L, vs, ds, e1, e2, b, g, e3, e4⟩ := hv
      exact ⟨L, vs, ds, e1, e2, b, g, e3, e4⟩
    | b =>
      obtain ⟨c, rfl⟩ := if_ok e2
      exact Rep.flat (show Rep K B v d from hv) c
  · rename_i y e
    rcases Res.bind_ex e with e1 | ⟨u, _, e2⟩
    · exact hf.ex B G0 G env σ H y r e1 (k.xok r) _
    · exact absurd e2 retV_nx
  · exact k.elim
theorem sv_if (hp : EvT K W tt p) (h1 : SvD K W ts g) (h2 : SvD K W tu h) : SvD K W (tIfS tt ts tu) (ifO p g h) := fun B G0 G env σ H D r k => by
  unfold ifO at k
  split at k
  · rename_i e
    exact hp.ok B G0 G env σ H true r e _ fun G' H' x => by
      rw [if_pos rfl]
      exact h1 B G0 G' env σ H' D (r.ext x) (k.mono x.gg)
  · rename_i e
    exact hp.ok B G0 G env σ H false r e _ fun G' H' x => by
      rw [if_neg Bool.false_ne_true]
      exact h2 B G0 G' env σ H' D (r.ext x) (k.mono x.gg)
  · rename_i y e
    exact hp.ex B G0 G env σ H y r e (k.xok r) _
  · exact k.elim
theorem sv_frz (is : List Nat) (h1 : SvD K W ts g) : SvD K W ts (fun env => g (frz is env)) := fun B G0 G env σ H D r k => by
  obtain ⟨G', s, r'⟩ := r.frz is
  exact h1 B G0 G' (frz is env) σ H D r' (k.mono s)
theorem sv_drop (hf : EvD K W te f) : SvD K W (tDrop te) (dropO f) := fun B G0 G env σ H D r k => by
  unfold dropO at k
  split at k
  · rename_i u e
    exact hf.ok B G0 G env σ H u r e _ fun G' H' v x hv => k G' σ H' x.gg (r.ext x)
  · rename_i y e
    exact hf.ex B G0 G env σ H y r e (k.xok r) _
  · exact k.elim
end
section
variable {X : Cx} {W : Wi} {pos : Pos} {e : Expr} {te : TE} {tt : TT} {ts tu : TS} {f : En → Res Vl} {p : En → Res Bool} {g h : En → Out} {a b : List Stmt}
theorem ds_set (i : Nat) {x : Str} {pos' : Pos} (hN : X.N.Nodup) (he : DE X W e te f) (hi : X.N[i]? = some x := by rfl) (hx : Loc X.env.scope x := by first | exact Or.inl rfl | exact Or.inr rfl) (hs : swapsWith e (some (.Name x pos')) pos.line X.env = pure false := by rfl)
    (hf : X.fn x = true ∨ X.env.scope.names.lookup x = some .local := by first | exact .inl rfl | exact .inr rfl | assumption) : DS X W (.Assign [.Name x pos'] e pos) (tAsg te (gName i)) (setO i f) := ⟨ps_set hN hi hx he.pe hs hf, sv_set i he.ev⟩
theorem ds_ret (he : DE X W e te f) : DS X W (.Return (some e) pos) (tRet te) (retO f) := ⟨ps_ret he.pe, sv_ret he.ev⟩
theorem ds_retN : DS X W (.Return none pos) tRetN (fun _ => .rt ⟨.g, .non⟩) := ⟨ps_retN, fun B G0 G env σ H D r k => k G H .non (Same.refl G) r.fin .non⟩
theorem ds_if {c : Expr} (hc : DT X W c tt p) (ha : DSs X W a ts g) (hb : DSs X W b tu h) : DS X W (.If c a b pos) (tIfS tt ts tu) (ifO p g h) := ⟨ps_if hc.pt ha.ps hb.ps, sv_if hc.ev ha.sv hb.sv⟩
theorem ds_frz {st : Stmt} (is : List Nat) (h1 : DS X W st ts g) : DS X W st ts (frzO is g) := ⟨h1.ps, sv_frz is h1.sv⟩
theorem ds_expr (he : DE X W e te f) (hs : swapsWith e none pos.line X.env = pure false := by rfl) : DS X W (.Expr e pos) (tDrop te) (dropO f) := ⟨ps_expr he.pe hs, sv_drop he.ev⟩
end
end DL

namespace DL
open PySem L2
/-! ### lists that stand in slots, changed -/
section
variable {K : PySem.W.Frag} {W : Wi} {B G0 G G' H H' : Hp} {env : En} {σ : L2.St}
theorem Rel.slot (r : Rel K W B G0 G env σ H) {i : Nat} {s : Sl} (e : env[i]? = some s) : ∃ o, σ[i]? = some o ∧ SlOk K W B G H s o := by
  have hi : i < σ.length := by
    have h1 := (List.getElem?_eq_some_iff.mp e).1
    have h2 := r.len
    omega
  exact ⟨σ[i], List.getElem?_eq_getElem hi, r.sl i s _ e (List.getElem?_eq_getElem hi)⟩
/-- an object that no slot knows changes -/
theorem Rel.beside (r : Rel K W B G0 G env σ H) {L : Addr} {o : HO} (b : B L = none) (g : G L = none) (n : ∀ (i : Nat) s, env[i]? = some s → s.own = true → σ[i]? ≠ some (some (.ref L))) : Rel K W B G0 G env σ (upd H L o) := by
  refine ⟨r.g0, fun x u q => ?_, fun x u q => ?_, r.fr, r.len, fun i s o' q1 q2 => ?_, r.ds⟩
  · rw [upd_ne (ne_of_none q g)]; exact r.gh x u q
  · rw [upd_ne (ne_of_none q b)]; exact r.bh x u q
  · have x := r.sl i s o' q1 q2
    match s, x, q1 with
    | .no, _, _ => trivial
    | .vl true d, x, _ => exact x
    | .vl false d, x, _ => exact x
    | .xc y, x, _ => exact x
    | .ow ys, ⟨L2, ws, y1, y2, y3, y4, y5⟩, q1 =>
      have : L2 ≠ L := fun z => n i _ q1 rfl (by rw [q2, y1, z])
      exact ⟨L2, ws, y1, y2, y3, by rw [upd_ne this]; exact y4, y5⟩
    | .om t ys, ⟨L2, y1, y2, y3, y4⟩, q1 =>
      have : L2 ≠ L := fun z => n i _ q1 rfl (by rw [q2, y1, z])
      exact ⟨L2, y1, y2, y3, y4.mono (Same.refl _) (upd_ne this) rfl⟩
theorem Rel.mut {i : Nat} {xs xs' : List D} {L : Addr} {vs' : List V} (r : Rel K W B G0 G env σ H) (e : env[i]? = some (.ow xs)) (eL : σ[i]? = some (some (.ref L))) (h : RepL K G vs' xs') : Rel K W B G0 G (env.set i (.ow xs')) σ (upd H L (.lst vs')) := by
  obtain ⟨L', vs, y1, y2, y3, y4, y5⟩ := r.sl i _ _ e eL
  cases y1
  have hi : i < env.length := (List.getElem?_eq_some_iff.mp e).1
  refine ⟨r.g0, fun x u q => ?_, fun x u q => ?_, r.fr, by rw [List.length_set]; exact r.len, fun j s o' q1 q2 => ?_, fun j k s1 t1 L1 hjk q1 q2 o1 o2 q3 q4 => ?_⟩
  · rw [upd_ne (ne_of_none q y3)]; exact r.gh x u q
  · rw [upd_ne (ne_of_none q y2)]; exact r.bh x u q
  · rcases set_get q1 with ⟨rfl, rfl⟩ | ⟨ne, q1⟩
    · rw [eL] at q2
      cases q2
      exact ⟨L, vs', rfl, y2, y3, upd_same, h⟩
    · have x := r.sl j s o' q1 q2
      match s, x, q1 with
      | .no, _, _ => trivial
      | .vl true d, x, _ => exact x
      | .vl false d, x, _ => exact x
      | .xc y, x, _ => exact x
      | .ow ys, ⟨L2, ws, z1, z2, z3, z4, z5⟩, q1 =>
        have : L2 ≠ L := fun z => r.ds i j _ _ L ne e q1 rfl rfl eL (by rw [q2, z1, z])
        exact ⟨L2, ws, z1, z2, z3, by rw [upd_ne this]; exact z4, z5⟩
      | .om t ys, ⟨L2, z1, z2, z3, z4⟩, q1 =>
        have : L2 ≠ L := fun z => r.ds i j _ _ L ne e q1 rfl rfl eL (by rw [q2, z1, z])
        exact ⟨L2, z1, z2, z3, z4.mono (Same.refl _) (upd_ne this) rfl⟩
  · rcases set_get q1 with ⟨e1, z⟩ | ⟨n1, q1⟩
    · rcases set_get q2 with ⟨e2, _⟩ | ⟨n2, q2⟩
      · exact hjk (e1.symm.trans e2)
      · exact r.ds i k _ _ L1 n2 e q2 rfl o2 (by rw [e1]; exact q3) q4
    · rcases set_get q2 with ⟨e2, _⟩ | ⟨n2, q2⟩
      · exact r.ds j i _ _ L1 (Ne.symm n1) q1 e o1 rfl q3 (by rw [e2]; exact q4)
      · exact r.ds j k _ _ L1 hjk q1 q2 o1 o2 q3 q4
end
theorem if_kx {α : Type} {c : Prop} [Decidable c] {a : α} {x : Exn} : (if c then Res.ok a else Res.no) ≠ Res.ex x := if_nx
def keepD (u : Vl) : Res D := if u.keep = true then .ok u.d else .no
def owAt (env : En) (i : Nat) : Res (List D) := match env[i]? with
  | some (.ow xs) => .ok xs
  | _ => .no
theorem owAt_inv {env : En} {i : Nat} {xs : List D} (h : owAt env i = .ok xs) : env[i]? = some (.ow xs) := by
  unfold owAt at h
  split at h
  · cases h; assumption
  · cases h
/-- x.append(e) -/
def appO (i : Nat) (f : En → Res Vl) : En → Out := fun env => match (f env).bind keepD with
  | .ok d => match owAt env i with
    | .ok xs => if xs.length < sizeLine then .nx (env.set i (.ow (xs ++ [d]))) else .no
    | _ => .no
  | .ex x => match owAt env i with
    | .ok _ => .ex env x
    | _ => .no
  | .no => .no
/-- x[j] = e -/
def putO (i : Nat) (f g : En → Res Vl) : En → Out := fun env => match (f env).bind keepD with
  | .ok d => match g env with
    | .ok ⟨_, .int j⟩ => match owAt env i with
      | .ok xs => match ixN xs.length j with
        | some m => .nx (env.set i (.ow (xs.set m d)))
        | none => .no
      | _ => .no
    | _ => .no
  | .ex x => .ex env x
  | .no => .no
/-- x.clear() -/
def clearO (i : Nat) : En → Out := fun env => match owAt env i with
  | .ok _ => .nx (env.set i (.ow []))
  | _ => .no
/-- i += e of ints -/
def augO (i : Nat) (p : Int → Int → Int) (f : En → Res Vl) : En → Out := fun env => match env[i]? with
  | some (.vl _ (.int a)) => match f env with
    | .ok ⟨_, .int b⟩ => .nx (env.set i (.vl true (.int (p a b))))
    | _ => .no
  | _ => .no
section
variable {K : PySem.W.Frag} {W : Wi} {te tj : TE} {f g : En → Res Vl}
theorem keepD_inv {u : Vl} {d : D} (h : keepD u = .ok d) : u.keep = true ∧ u.d = d := if_ok h
theorem tyV_lst {K : PySem.W.Frag} {p : Addr} {xs : List V} {H : Hp} (h : H p = some (.lst xs)) : tyV K "list" (.ref p) H := Or.inl ⟨rfl, _, Or.inl (Or.inl h)⟩
theorem sv_app (i : Nat) (hf : EvD K W te f) : SvD K W (tDrop (tBM K "list" rAppend (tVar i) (tCons te tNil))) (appO i f) := fun B G0 G env σ H D r k => by
  unfold appO at k
  split at k
  · rename_i d e
    obtain ⟨u, e1, e2⟩ := Res.bind_eq e
    obtain ⟨kp, rfl⟩ := keepD_inv e2
    split at k
    · rename_i xs ex
      have ex := owAt_inv ex
      split at k
      · rename_i hz
        obtain ⟨o, eo, L, vs, y1, y2, y3, y4, y5⟩ := r.slot ex
        subst y1
        refine ⟨.ref L, eo, tyV_lst y4, hf.ok B G0 G env σ H u r e1 _ fun G1 H1 v x hv => ?_⟩
        obtain ⟨G2, x2, s2, hd⟩ := hv.freeze x kp
        have r2 := r.ext x2
        refine ⟨L, vs, v, rfl, rfl, x2.hh _ _ y4, by rw [y5.len]; exact hz, ?_⟩
        exact k G2 σ _ x2.gg (r2.mut ex eo ((y5.mono x2.gg).app (.cons hd .nil)))
      · exact k.elim
    · exact k.elim
  · rename_i y e
    split at k
    · rename_i xs ex
      have ex := owAt_inv ex
      obtain ⟨o, eo, L, vs, y1, y2, y3, y4, y5⟩ := r.slot ex
      subst y1
      rcases Res.bind_ex e with e1 | ⟨u, _, e2⟩
      · exact ⟨.ref L, eo, tyV_lst y4, hf.ex B G0 G env σ H y r e1 (k.xok r) _⟩
      · exact absurd e2 if_nx
    · exact k.elim
  · exact k.elim
theorem ixN_rep {n : Nat} {i : Int} {m : Nat} (h : ixN n i = some m) : m < n := (ixN_seq h).2.1
theorem sv_put (i : Nat) (hf : EvD K W te f) (hg : EvD K W tj g) : SvD K W (tAsg te (gSub (tVar i) tj rSetL)) (putO i f g) := fun B G0 G env σ H D r k => by
  unfold putO at k
  split at k
  · rename_i d e
    obtain ⟨u, e1, e2⟩ := Res.bind_eq e
    obtain ⟨kp, rfl⟩ := keepD_inv e2
    split at k
    · rename_i kd j ej
      split at k
      · rename_i xs ex
        have ex := owAt_inv ex
        split at k
        · rename_i m em
          obtain ⟨o, eo, L, vs, y1, y2, y3, y4, y5⟩ := r.slot ex
          subst y1
          refine hf.ok B G0 G env σ H u r e1 _ fun G1 H1 v x hv => ?_
          obtain ⟨G2, x2, s2, hd⟩ := hv.freeze x kp
          have r2 := r.ext x2
          refine ⟨.ref L, eo, hg.ok B G0 G2 env σ H1 _ r2 ej _ fun G3 H3 w x3 hw => ?_⟩
          have r3 := r2.ext x3
          have hw' := hw.look r3
          refine ⟨L, vs, j, m, rfl, hw'.int_inv, x3.hh _ _ (x2.hh _ _ y4), by rw [y5.len]; exact em, ?_⟩
          exact k G3 σ _ (x2.gg.trans x3.gg) (r3.mut ex eo ((y5.mono (x2.gg.trans x3.gg)).set (hd.mono x3.gg) m))
        · exact k.elim
      · exact k.elim
    · exact k.elim
  · rename_i y e
    rcases Res.bind_ex e with e1 | ⟨u, _, e2⟩
    · exact hf.ex B G0 G env σ H y r e1 (k.xok r) _
    · exact absurd e2 if_nx
  · exact k.elim
theorem sv_clear (i : Nat) : SvD K W (tDrop (tBM0 K "list" rClear (tVar i))) (clearO i) := fun B G0 G env σ H D r k => by
  unfold clearO at k
  split at k
  · rename_i xs ex
    have ex := owAt_inv ex
    obtain ⟨o, eo, L, vs, y1, y2, y3, y4, y5⟩ := r.slot ex
    subst y1
    exact ⟨.ref L, eo, tyV_lst y4, L, vs, rfl, rfl, y4, k G σ _ (Same.refl G) (r.mut ex eo .nil)⟩
  · exact k.elim
theorem sv_aug (i : Nat) {p : Int → Int → Int} (hf : EvD K W te f) : SvD K W (tAug i te (ipI p)) (augO i p f) := fun B G0 G env σ H D r k => by
  unfold augO at k
  split at k
  · rename_i b a ea
    split at k
    · rename_i kd c ec
      obtain ⟨o, eo, so⟩ := r.slot ea
      have : ∃ v, o = some v ∧ v = V.int a := by
        cases b with
        | true => obtain ⟨v, e, h⟩ := so; exact ⟨v, e, h.int_inv⟩
        | false => obtain ⟨v, e, h⟩ := so; exact ⟨v, e, h.int_inv⟩
      obtain ⟨_, rfl, rfl⟩ := this
      refine ⟨.int a, eo, hf.ok B G0 G env σ H _ r ec _ fun G' H' v x hv => ?_⟩
      have hv' := hv.look (r.ext x)
      exact ⟨a, c, rfl, hv'.int_inv, k G' _ H' x.gg (Rel.put (u := ⟨.g, .int (p a c)⟩) r x (.int _) rfl i)⟩
    · exact k.elim
  · exact k.elim
end
section
variable {X : Cx} {W : Wi} {pos apos cpos p1 p2 p3 : Pos} {e j : Expr} {te tj : TE} {f g : En → Res Vl} {x : Str}
theorem ds_app (i : Nat) (he : DE X W e te f) (hN : X.N[i]? = some x := by rfl) (hv : Vis X.env.scope x := by first | exact Or.inl rfl | exact Or.inr (Or.inl rfl) | exact Or.inr (Or.inr rfl)) (hd : (x == ("__debug__" : Str)) = false := by decide)
    (hcd : (x == ("__classdict__" : Str)) = false := by decide) (hbase : attributeBase (.Name x p1) "append" X.env (eval (.Name x p1) X.env) = eval (.Name x p1) X.env := by rfl)
    (hfew : ((backTo cpos (starEach (e :: []) X.env)).all (fun x => !x.1) && (backToKw cpos (keywordEach [] X.env)).all (fun x => x.1.isSome)
      && decide ((e :: []).length + ([] : List Keyword).length + (if ([] : List Keyword).isEmpty then 0 else 1) < 30)) = true := by rfl)
    (hline : (apos.endLine == cpos.line) = true := by rfl) (hs : starEach (e :: []) X.env = (false, eval e X.env) :: starEach [] X.env := by rfl) (hplain : (backTo cpos (starEach [] X.env)).any (·.1) = false := by rfl)
    (hw : swapsWith (.Call (.Attribute (.Name x p1) "append" apos) [e] [] cpos) none pos.line X.env = pure false := by rfl) :
    DS X W (.Expr (.Call (.Attribute (.Name x p1) "append" apos) [e] [] cpos) pos) (tDrop (tBM X.K "list" rAppend (tVar i) (tCons te tNil))) (appO i f) :=
  ⟨ps_expr (pe_bm PySem.F.plainAttrs_list PySem.F.slot_list_append PySem.F.type_list_append mt_append (pe_var hN hv hd hcd) (pa_cons he.pe pa_nil hs) hbase hfew hline hs hplain) hw, sv_app i he.ev⟩
theorem ds_clear (i : Nat) (hN : X.N[i]? = some x := by rfl) (hv : Vis X.env.scope x := by first | exact Or.inl rfl | exact Or.inr (Or.inl rfl) | exact Or.inr (Or.inr rfl)) (hd : (x == ("__debug__" : Str)) = false := by decide)
    (hcd : (x == ("__classdict__" : Str)) = false := by decide) (hbase : attributeBase (.Name x p1) "clear" X.env (eval (.Name x p1) X.env) = eval (.Name x p1) X.env := by rfl) (hline : (apos.endLine == cpos.line) = true := by rfl)
    (hw : swapsWith (.Call (.Attribute (.Name x p1) "clear" apos) [] [] cpos) none pos.line X.env = pure false := by rfl) :
    DS X W (.Expr (.Call (.Attribute (.Name x p1) "clear" apos) [] [] cpos) pos) (tDrop (tBM0 X.K "list" rClear (tVar i))) (clearO i) :=
  ⟨ps_expr (pe_bm0 PySem.F.plainAttrs_list PySem.F.slot_list_clear PySem.F.type_list_clear mt_clear (pe_var hN hv hd hcd) hbase hline) hw, sv_clear i⟩
theorem ds_put (i : Nat) (he : DE X W e te f) (hj : DE X W j tj g) (hN : X.N[i]? = some x := by rfl) (hv : Vis X.env.scope x := by first | exact Or.inl rfl | exact Or.inr (Or.inl rfl) | exact Or.inr (Or.inr rfl)) (hd : (x == ("__debug__" : Str)) = false := by decide)
    (hcd : (x == ("__classdict__" : Str)) = false := by decide) (hs : swapsWithSole [.Subscript (.Name x p1) j p2] e pos.line X.env = pure false := by rfl) (hw : swappedStores [.Subscript (.Name x p1) j p2] e X.env = pure none := by rfl)
    (ha : ∀ v, assign (.Subscript (.Name x p1) j p2) X.env v = (do
      let ov ← holding [v] (eval (.Name x p1) X.env)
      let iv ← holding [v, ov] (eval j X.env)
      standAt p2
      holding [v, ov, iv] (setItem ov iv v)
      release [v, ov, iv] []) := by intro _; rfl) :
    DS X W (.Assign [.Subscript (.Name x p1) j p2] e pos) (tAsg te (gSub (tVar i) tj rSetL)) (putO i f g) := ⟨ps_asg he.pe (pg_sub (pe_var hN hv hd hcd) hj.pe set_list ha) hs hw, sv_put i he.ev hj.ev⟩
theorem ds_augAdd (i : Nat) {pos' : Pos} (hN : X.N.Nodup) (he : DE X W e te f) (hi : X.N[i]? = some x := by rfl) (hx : Loc X.env.scope x := by first | exact Or.inl rfl | exact Or.inr rfl)
    (hf : X.fn x = true ∨ X.env.scope.names.lookup x = some .local := by first | exact .inl rfl | exact .inr rfl | assumption) : DS X W (.AugAssign (.Name x pos') .Add e pos) (tAug i te (ipI fun i j => i + j)) (augO i (fun i j => i + j) f) := ⟨ps_aug hN hi hx he.pe ip_add hf, sv_aug i he.ev⟩
theorem ds_augSub (i : Nat) {pos' : Pos} (hN : X.N.Nodup) (he : DE X W e te f) (hi : X.N[i]? = some x := by rfl) (hx : Loc X.env.scope x := by first | exact Or.inl rfl | exact Or.inr rfl)
    (hf : X.fn x = true ∨ X.env.scope.names.lookup x = some .local := by first | exact .inl rfl | exact .inr rfl | assumption) : DS X W (.AugAssign (.Name x pos') .Sub e pos) (tAug i te (ipI fun i j => i - j)) (augO i (fun i j => i - j) f) := ⟨ps_aug hN hi hx he.pe ip_sub hf, sv_aug i he.ev⟩
end
/-! ### targets -/
abbrev Tg := Vl → En → Res En
/-- the target's reading does what t says; ws: the slots it writes -/
def TgD (K : PySem.W.Frag) (W : Wi) (g : TG) (t : Tg) (ws : List Nat) : Prop := ∀ (B G0 G G' : Hp) (env env' : En) (σ : L2.St) (H H' : Hp) (u : Vl) (v : V), Rel K W B G0 G env σ H → Ext G H G' H' → Rp K B G' H H' u v → t u env = .ok env' → ∀ Q : L2.St → Hp → Prop,
  (∀ σ', Rel K W B G0 G' env' σ' H' → (∀ vs : List Nat, (∀ i ∈ ws, i ∈ vs) → wipe σ' vs = wipe σ vs) → Q σ' H') → g v σ H' Q
structure DG (X : Cx) (W : Wi) (e : Expr) (g : TG) (t : Tg) (ws : List Nat) : Prop where
  pg : PG X e g
  tg : TgD X.K W g t ws
def TgsD (K : PySem.W.Frag) (W : Wi) (g : TGs) (t : Kd → List D → En → Res En) (ws : List Nat) : Prop := ∀ (B G0 G : Hp) (env env' : En) (σ : L2.St) (H : Hp) (k : Kd) (ds : List D) (vs : List V), Rel K W B G0 G env σ H → k ≠ .o → vs.length = ds.length → (∀ (i : Nat) v d, vs[i]? = some v → ds[i]? = some d → Rp K B G H H ⟨k, d⟩ v) → t k ds env = .ok env' →
  ∀ Q : L2.St → Hp → Prop, (∀ σ', Rel K W B G0 G env' σ' H → (∀ ks : List Nat, (∀ i ∈ ws, i ∈ ks) → wipe σ' ks = wipe σ ks) → Q σ' H) → g vs σ H Q
structure DGs (X : Cx) (W : Wi) (es : List Expr) (g : TGs) (t : Kd → List D → En → Res En) (ws : List Nat) : Prop where
  pgs : PGs X es g
  tg : TgsD X.K W g t ws
def nmT (i : Nat) : Tg := fun u env => (slotOf u).bind fun s => .ok (env.set i s)
def nilT : Kd → List D → En → Res En := fun _ ds env => match ds with
  | [] => .ok env
  | _ => .no
def consT (t : Tg) (r : Kd → List D → En → Res En) : Kd → List D → En → Res En := fun k ds env => match ds with
  | d :: ds => (t ⟨k, d⟩ env).bind fun env' => r k ds env'
  | [] => .no
def tupT (n : Nat) (r : Kd → List D → En → Res En) : Tg := fun u env => match u.d with
  | .tup ds => if ds.length = n then r u.k.sub ds env else .no
  | _ => .no
theorem wipe_set {i : Nat} {x : Option V} : ∀ {vs : List Nat} {σ : L2.St}, i ∈ vs → wipe (σ.set i x) vs = wipe σ vs
  | [], _, h => absurd h (by simp)
  | v :: vs, σ, h => by
    unfold wipe
    by_cases hm : i ∈ vs
    · rw [wipe_set hm]
    · have hv : i = v := by
        rcases List.mem_cons.mp h with h | h
        · exact h
        · exact absurd h hm
      subst hv
      rw [wipe_comm hm, List.set_set]
where
  wipe_comm {i : Nat} {x : Option V} : ∀ {vs : List Nat} {σ : L2.St}, i ∉ vs → wipe (σ.set i x) vs = (wipe σ vs).set i x
    | [], _, _ => rfl
    | v :: vs, σ, h => by
      unfold wipe
      rw [wipe_comm (fun z => h (List.mem_cons_of_mem _ z)), List.set_comm]
      exact fun z => h (by rw [z]; exact List.mem_cons_self)
section
variable {X : Cx} {W : Wi} {pos : Pos} {e : Expr} {es : List Expr} {g : TG} {gs : TGs} {t : Tg} {r : Kd → List D → En → Res En} {ws ws' : List Nat}
theorem tg_nm {K : PySem.W.Frag} {W : Wi} (i : Nat) : TgD K W (gName i) (nmT i) [i] := fun B G0 G G' env env' σ H H' u v rl x h e Q k => by
  obtain ⟨s, e1, e2⟩ := Res.bind_eq e
  cases e2
  exact k _ (rl.put x h e1 i) fun vs hv => wipe_set (hv i List.mem_cons_self)
theorem dg_nm (i : Nat) {x : Str} (hN : X.N.Nodup) (hi : X.N[i]? = some x := by rfl) (hx : Loc X.env.scope x := by first | exact Or.inl rfl | exact Or.inr rfl) (hf : X.fn x = true ∨ X.env.scope.names.lookup x = some .local := by first | exact .inl rfl | exact .inr rfl | assumption) :
    DG X W (.Name x pos) (gName i) (nmT i) [i] := ⟨pg_name hN hi hx hf, tg_nm i⟩
theorem dgs_nil : DGs X W [] gNil nilT [] := ⟨pgs_nil, fun B G0 G env env' σ H k ds vs rl ko hl hi e Q q => by
  unfold nilT at e
  split at e
  · cases e
    exact ⟨List.length_eq_zero_iff.mp hl, q σ rl fun _ _ => rfl⟩
  · cases e⟩
theorem tgs_cons {K : PySem.W.Frag} {W : Wi} (h1 : TgD K W g t ws) (h2 : TgsD K W gs r ws') : TgsD K W (gCons g gs) (consT t r) (ws ++ ws') := fun B G0 G env env' σ H k ds vs rl ko hl hi e Q q => by
  unfold consT at e
  split at e
  · rename_i d ds'
    obtain ⟨env1, e1, e2⟩ := Res.bind_eq e
    cases vs with
    | nil => cases hl
    | cons v vs' =>
      refine ⟨v, vs', rfl, h1 B G0 G G env env1 σ H H ⟨k, d⟩ v rl (Ext.refl rl.gh) (hi 0 v d rfl rfl) e1 _ fun σ1 r1 w1 => ?_⟩
      exact h2 B G0 G env1 env' σ1 H k ds' vs' r1 ko (by simpa using hl) (fun i v' d' a b => hi (i + 1) v' d' (by simpa using a) (by simpa using b)) e2 Q fun σ2 r2 w2 => q σ2 r2 fun ks hk => (w2 ks fun i hi => hk i (List.mem_append_right _ hi)).trans (w1 ks fun i hi => hk i (List.mem_append_left _ hi))
  · cases e
theorem dgs_cons (h1 : DG X W e g t ws) (h2 : DGs X W es gs r ws') (hs : (assignEach (e :: es) X.env).map (·.2) = assign e X.env :: (assignEach es X.env).map (·.2) := by rfl) : DGs X W (e :: es) (gCons g gs) (consT t r) (ws ++ ws') := ⟨pgs_cons h1.pg h2.pgs hs, tgs_cons h1.tg h2.tg⟩
theorem tg_tup {K : PySem.W.Frag} {W : Wi} {n : Nat} (h : TgsD K W gs r ws) : TgD K W (gTup K n gs) (tupT n r) ws := fun B G0 G G' env env' σ H H' u v rl x hv e Q k => by
  unfold tupT at e
  split at e
  · rename_i ds ed
    by_cases hn : ds.length = n
    · rw [if_pos hn] at e
      have rl' := rl.ext x
      obtain ⟨kk, d⟩ := u
      dsimp only at ed e
      subst ed
      cases kk with
      | g =>
        obtain ⟨a, vs, rfl, h1, h2⟩ := Rep.tup_inv hv
        refine ⟨a, vs, rfl, Same.sqt rl'.gh h1, by rw [h2.len]; exact hn, h B G0 G' env env' σ H' .g ds vs rl' (fun z => nomatch z) h2.len (fun i y d a b => ?_) e Q k⟩
        obtain ⟨d', q1, q2⟩ := h2.get a
        rw [b] at q1
        cases q1
        exact q2
      | b =>
        obtain ⟨a, vs, rfl, h1, h2⟩ := Rep.tup_inv hv
        refine ⟨a, vs, rfl, Same.sqt rl'.bh h1, by rw [h2.len]; exact hn, h B G0 G' env env' σ H' .b ds vs rl' (fun z => nomatch z) h2.len (fun i y d a b => ?_) e Q k⟩
        obtain ⟨d', q1, q2⟩ := h2.get a
        rw [b] at q1
        cases q1
        exact q2
      | h => obtain ⟨L, vs, ds, e1, e2, _⟩ := hv; cases e2
      | o => obtain ⟨L, vs, ds, e1, e2, _⟩ := hv; cases e2
    · rw [if_neg hn] at e
      cases e
  · cases e
theorem dg_tup {K : PySem.W.Frag} {k n : Nat} (hc : X.calm = true) (h : DGs X W es gs r ws) (hn : (assignEach es X.env).length = n := by rfl) (hst : (assignEach es X.env).findIdx? (·.1) = none := by rfl) (hK : X.K = K := by rfl) : DG X W (.Tuple es k pos) (gTup K n gs) (tupT n r) ws := by
  subst hK
  exact ⟨pg_tup hc h.pgs hn hst, tg_tup h.tg⟩
def asgO (t : Tg) (f : En → Res Vl) : En → Out := fun env => match f env with
  | .ok u => match t u env with
    | .ok e => .nx e
    | _ => .no
  | .ex x => .ex env x
  | .no => .no
theorem sv_asg {K : PySem.W.Frag} {W : Wi} {te : TE} {f : En → Res Vl} (hf : EvD K W te f) (ht : TgD K W g t ws) : SvD K W (tAsg te g) (asgO t f) := fun B G0 G env σ H D rl k => by
  unfold asgO at k
  split at k
  · rename_i u e1
    split at k
    · rename_i env' e2
      exact hf.ok B G0 G env σ H u rl e1 _ fun G' H' v x hv => ht B G0 G G' env env' σ H H' u v rl x hv e2 _ fun σ' r' _ => k G' σ' H' x.gg r'
    · exact k.elim
  · rename_i y e
    exact hf.ex B G0 G env σ H y rl e (k.xok rl) _
  · exact k.elim
theorem ds_asg {te : TE} {f : En → Res Vl} {tg e : Expr} (he : DE X W e te f) (ht : DG X W tg g t ws) (hs : swapsWithSole [tg] e pos.line X.env = pure false := by rfl) (hw : swappedStores [tg] e X.env = pure none := by rfl) (h1 : (assignEach [tg] X.env).map (·.2) = [assign tg X.env] := by rfl) : DS X W (.Assign [tg] e pos) (tAsg te g) (asgO t f) := ⟨ps_asg he.pe ht.pg hs hw h1, sv_asg he.ev ht.tg⟩
end
end DL

namespace DL
open PySem L2
/-! ### loops -/
/-- the iterator J goes over xs, of kind k, as long as the kept and the lent part stand -/
def Walks0 (K : PySem.W.Frag) (B G' : Hp) (J : It) (k : Kd) (xs : List D) : Prop := (k = .g ∨ k = .b) ∧ ∃ vs : List V, vs.length = xs.length ∧ (∀ (i : Nat) v d, vs[i]? = some v → xs[i]? = some d → ∀ G2 H, Same G' G2 → Rp K B G2 H H ⟨k, d⟩ v) ∧
  (∀ (i : Nat) H, Same G' H → Same B H → i < xs.length → J.go i H) ∧ (∀ (i : Nat) H x H', Same G' H → Same B H → J.yld i H x H' → H' = H ∧ (i < xs.length → vs[i]? = some x)) ∧ (∀ H, Same G' H → Same B H → J.stop xs.length H)
/-- the iterator J goes over xs; a turn may make new objects -/
def Walks (K : PySem.W.Frag) (B G' : Hp) (J : It) (k : Kd) (xs : List D) : Prop := (k = .g ∨ k = .b) ∧ (∀ (i : Nat) H, Same G' H → Same B H → i < xs.length → J.go i H) ∧
  (∀ (i : Nat) d G2 H x H', Same G' G2 → Same G2 H → Same B H → J.yld i H x H' → xs[i]? = some d → ∃ G3, Ext G2 H G3 H' ∧ Rp K B G3 H' H' ⟨k, d⟩ x) ∧ (∀ H, Same G' H → Same B H → J.stop xs.length H)
theorem Walks0.up {K : PySem.W.Frag} {B G' : Hp} {J : It} {k : Kd} {xs : List D} (h : Walks0 K B G' J k xs) : Walks K B G' J k xs := by
  obtain ⟨hk, vs, hl, hv, hgo, hy, hst⟩ := h
  refine ⟨hk, hgo, fun i d G2 H x H' s1 s2 s3 y e => ?_, hst⟩
  obtain ⟨rfl, hx⟩ := hy i H x H' (s1.trans s2) s3 y
  exact ⟨G2, Ext.refl s2, hv i x d (hx (List.getElem?_eq_some_iff.mp e).1) e G2 H' s1⟩
structure ItD (K : PySem.W.Frag) (W : Wi) (wi : TI) (f : En → Res (Kd × List D)) : Prop where
  ok : ∀ (B G0 G : Hp) (env : En) (σ : L2.St) (H : Hp) (k : Kd) (xs : List D), Rel K W B G0 G env σ H → f env = .ok (k, xs) → ∀ R : It → Hp → Prop, (∀ G' H' J, Ext G H G' H' → Walks K B G' J k xs → R J H') → wi σ H R
  ex : ∀ (B G0 G : Hp) (env : En) (σ : L2.St) (H : Hp) (x : Exn), Rel K W B G0 G env σ H → f env = .ex x → XOk K G σ H W x → ∀ R : It → Hp → Prop, wi σ H R
structure DI (X : Cx) (W : Wi) (tg iter : Expr) (wi : TI) (f : En → Res (Kd × List D)) : Prop where
  pi : PI X tg iter wi
  it : ItD X.K W wi f
def seqI (f : En → Res Vl) : En → Res (Kd × List D) := fun env => (f env).bind fun u => match u with
  | ⟨.g, .lst xs⟩ => .ok (.g, xs)
  | ⟨.o, .lst xs⟩ => .ok (.g, xs)
  | ⟨.b, .lst xs⟩ => .ok (.b, xs)
  | ⟨.g, .tup xs⟩ => .ok (.g, xs)
  | ⟨.b, .tup xs⟩ => .ok (.b, xs)
  | ⟨.g, .fz xs⟩ => .ok (.g, xs)
  | ⟨.b, .fz xs⟩ => .ok (.b, xs)
  | _ => .no
def rngD (lo : Int) (n : Nat) : List D := (List.range n).map fun (i : Nat) => .int (lo + i)
def rng1 (f : En → Res Vl) : En → Res (Kd × List D) := fun env => (f env).bind fun u => match u.d with
  | .int j => if -(2 ^ 62) ≤ j ∧ j < 2 ^ 62 then .ok (.g, rngD 0 j.toNat) else .no
  | _ => .no
def rng2 (f g : En → Res Vl) : En → Res (Kd × List D) := fun env => (f env).bind fun u => (g env).bind fun w => match u.d, w.d with
  | .int i, .int j => if -(2 ^ 62) ≤ i ∧ i < 2 ^ 62 ∧ -(2 ^ 62) ≤ j ∧ j < 2 ^ 62 then .ok (.g, rngD i (j - i).toNat) else .no
  | _, _ => .no
section
variable {K : PySem.W.Frag} {W : Wi} {B G0 G G' H H' : Hp} {env : En} {σ : L2.St}
theorem walks_list {a : Addr} {vs : List V} {ds : List D} (hs : ∀ H, Same G' H → Same B H → SqL K H a vs) (h : RepL K G' vs ds) : Walks0 K B G' (Itl K a) .g ds :=
  ⟨.inl rfl, vs, h.len, fun i v d e1 e2 G2 H s => by
    obtain ⟨d', q1, q2⟩ := h.get e1
    rw [e2] at q1
    cases q1
    exact q2.mono s, fun i H s1 s2 hi => ⟨vs, vs[i]'(by rw [h.len]; exact hi), hs H s1 s2, List.getElem?_eq_getElem _⟩, fun i H x H' s1 s2 ⟨e, y⟩ => ⟨e, fun _ => y vs (hs H s1 s2)⟩, fun H s1 s2 => ⟨vs, hs H s1 s2, by rw [h.len]; exact Nat.le_refl _⟩⟩
theorem walks_listB {a : Addr} {vs : List V} {ds : List D} (hs : ∀ H, Same G' H → Same B H → SqL K H a vs) (h : RepL K B vs ds) : Walks0 K B G' (Itl K a) .b ds :=
  ⟨.inr rfl, vs, h.len, fun i v d e1 e2 G2 H s => by
    obtain ⟨d', q1, q2⟩ := h.get e1
    rw [e2] at q1
    cases q1
    exact q2, fun i H s1 s2 hi => ⟨vs, vs[i]'(by rw [h.len]; exact hi), hs H s1 s2, List.getElem?_eq_getElem _⟩, fun i H x H' s1 s2 ⟨e, y⟩ => ⟨e, fun _ => y vs (hs H s1 s2)⟩, fun H s1 s2 => ⟨vs, hs H s1 s2, by rw [h.len]; exact Nat.le_refl _⟩⟩
theorem walks_tup {a : Addr} {vs : List V} {ds : List D} (hs : ∀ H, Same G' H → Same B H → SqT K H a vs) (h : RepL K G' vs ds) : Walks0 K B G' (Itt K a) .g ds :=
  ⟨.inl rfl, vs, h.len, fun i v d e1 e2 G2 H s => by
    obtain ⟨d', q1, q2⟩ := h.get e1
    rw [e2] at q1
    cases q1
    exact q2.mono s, fun i H s1 s2 hi => ⟨vs, vs[i]'(by rw [h.len]; exact hi), hs H s1 s2, List.getElem?_eq_getElem _⟩, fun i H x H' s1 s2 ⟨e, y⟩ => ⟨e, fun _ => y vs (hs H s1 s2)⟩, fun H s1 s2 => ⟨vs, hs H s1 s2, by rw [h.len]; exact Nat.le_refl _⟩⟩
theorem walks_tupB {a : Addr} {vs : List V} {ds : List D} (hs : ∀ H, Same G' H → Same B H → SqT K H a vs) (h : RepL K B vs ds) : Walks0 K B G' (Itt K a) .b ds :=
  ⟨.inr rfl, vs, h.len, fun i v d e1 e2 G2 H s => by
    obtain ⟨d', q1, q2⟩ := h.get e1
    rw [e2] at q1
    cases q1
    exact q2, fun i H s1 s2 hi => ⟨vs, vs[i]'(by rw [h.len]; exact hi), hs H s1 s2, List.getElem?_eq_getElem _⟩, fun i H x H' s1 s2 ⟨e, y⟩ => ⟨e, fun _ => y vs (hs H s1 s2)⟩, fun H s1 s2 => ⟨vs, hs H s1 s2, by rw [h.len]; exact Nat.le_refl _⟩⟩
theorem walks_rng {lo : Int} {n : Nat} : Walks0 K B G' (Itr lo n) .g (rngD lo n) := by
  refine ⟨.inl rfl, (List.range n).map fun (i : Nat) => V.int (lo + i), by simp [rngD], fun i v d e1 e2 G2 H s => ?_, fun i H s1 s2 hi => (show i < n by simpa [rngD] using hi), fun i H x H' s1 s2 ⟨e, y⟩ => ⟨e, fun hi => ?_⟩, fun H s1 s2 => by simp [rngD, Itr]⟩
  · rw [rngD, List.getElem?_map] at e2
    rw [List.getElem?_map] at e1
    cases q : (List.range n)[i]? with
    | none => rw [q] at e1; cases e1
    | some j =>
      rw [q] at e1 e2
      cases e1
      cases e2
      exact .int _
  · have hn : i < n := by simpa [rngD] using hi
    rw [List.getElem?_map, List.getElem?_range hn, y]
    rfl
/-- list or tuple -/
theorem it_seq {te : TE} {f : En → Res Vl} (h : EvD K W te f) : ItD K W (fun σ H R => iList K te σ H R ∨ iTup K te σ H R) (seqI f) := ⟨fun B G0 G env σ H k xs r e R q => (by
  obtain ⟨u, e1, e2⟩ := Res.bind_eq e
  have L : ∀ ds, u.d = .lst ds → (∀ G' H' v, Ext G H G' H' → Rp K B G' H H' u v → ∃ a, v = .ref a ∧ ∃ G2, Ext G H G2 H' ∧ (∃ zs, SqL K H' a zs) ∧ Walks K B G2 (Itl K a) k xs) → iList K te σ H R ∨ iTup K te σ H R := fun ds _ hh =>
    .inl (h.ok B G0 G env σ H u r e1 _ fun G' H' v x hv => by
      obtain ⟨a, rfl, G2, x2, hz, w⟩ := hh G' H' v x hv
      exact ⟨a, rfl, hz, q G2 H' _ x2 w⟩)
  obtain ⟨kk, d⟩ := u
  cases kk with
  | g =>
    cases d with
    | lst ds =>
      cases e2
      exact .inl (h.ok B G0 G env σ H _ r e1 _ fun G' H' v x hv => by
        obtain ⟨a, vs, rfl, h1, h2⟩ := Rep.lst_inv hv
        exact ⟨a, rfl, ⟨vs, SqL.of (x.gh _ _ h1)⟩, q G' H' _ x (walks_list (fun H s1 s2 => SqL.of (s1 _ _ h1)) h2).up⟩)
    | tup ds =>
      cases e2
      exact .inr (h.ok B G0 G env σ H _ r e1 _ fun G' H' v x hv => by
        obtain ⟨a, vs, rfl, h1, h2⟩ := Rep.tup_inv hv
        exact ⟨a, rfl, ⟨vs, Same.sqt x.gh h1⟩, q G' H' _ x (walks_tup (fun H s1 s2 => Same.sqt s1 h1) h2).up⟩)
    | fz ds =>
      cases e2
      exact .inl (h.ok B G0 G env σ H _ r e1 _ fun G' H' v x hv => by
        obtain ⟨a, vs, rfl, h1, h2⟩ := Rep.fz_inv hv
        exact ⟨a, rfl, ⟨vs, x.gh.seq h1⟩, q G' H' _ x (walks_list (fun H s1 s2 => s1.seq h1) h2).up⟩)
    | _ => cases e2
  | b =>
    cases d with
    | lst ds =>
      cases e2
      exact .inl (h.ok B G0 G env σ H _ r e1 _ fun G' H' v x hv => by
        obtain ⟨a, vs, rfl, h1, h2⟩ := Rep.lst_inv hv
        exact ⟨a, rfl, ⟨vs, SqL.of (x.hh _ _ (r.bh _ _ h1))⟩, q G' H' _ x (walks_listB (fun H s1 s2 => SqL.of (s2 _ _ h1)) h2).up⟩)
    | tup ds =>
      cases e2
      exact .inr (h.ok B G0 G env σ H _ r e1 _ fun G' H' v x hv => by
        obtain ⟨a, vs, rfl, h1, h2⟩ := Rep.tup_inv hv
        exact ⟨a, rfl, ⟨vs, Same.sqt (r.bh.trans x.hh) h1⟩, q G' H' _ x (walks_tupB (fun H s1 s2 => Same.sqt s2 h1) h2).up⟩)
    | fz ds =>
      cases e2
      exact .inl (h.ok B G0 G env σ H _ r e1 _ fun G' H' v x hv => by
        obtain ⟨a, vs, rfl, h1, h2⟩ := Rep.fz_inv hv
        exact ⟨a, rfl, ⟨vs, (r.bh.trans x.hh).seq h1⟩, q G' H' _ x (walks_listB (fun H s1 s2 => s2.seq h1) h2).up⟩)
    | _ => cases e2
  | h => cases d <;> cases e2
  | o =>
    cases d with
    | lst ds =>
      cases e2
      exact .inl (h.ok B G0 G env σ H _ r e1 _ fun G' H' v x hv => by
        obtain ⟨G2, x2, s2, hv2⟩ := hv.freeze x rfl
        obtain ⟨a, vs, rfl, h1, h2⟩ := Rep.lst_inv hv2
        exact ⟨a, rfl, ⟨vs, SqL.of (x2.gh _ _ h1)⟩, q G2 H' _ x2 (walks_list (fun H s1 s2 => SqL.of (s1 _ _ h1)) h2).up⟩)
    | _ => cases e2),
  fun B G0 G env σ H x r e w R => by
  rcases Res.bind_ex e with e1 | ⟨u, e1, e⟩
  · exact .inl (h.ex B G0 G env σ H x r e1 w _)
  · exact absurd e (by
    split <;> exact fun z => nomatch z)⟩
theorem it_rng1 {te : TE} {f : En → Res Vl} (h : EvD K W te f) : ItD K W (iRng1 (tCons te tNil)) (rng1 f) := ⟨fun B G0 G env σ H k xs r e R q => (by
  obtain ⟨u, e1, e2⟩ := Res.bind_eq e
  refine h.ok B G0 G env σ H u r e1 _ fun G' H' v x hv => ?_
  have y := hv.look (r.ext x)
  split at e2
  · rename_i j ej
    obtain ⟨⟨c1, c2⟩, e3⟩ := if_ok e2
    cases e3
    rw [ej] at y
    exact ⟨j, by rw [y.int_inv], c1, c2, q G' H' _ x walks_rng.up⟩
  · cases e2),
  fun B G0 G env σ H x r e w R => by
  rcases Res.bind_ex e with e1 | ⟨u, e1, e⟩
  · exact (h.ex B G0 G env σ H x r e1 w _)
  · exact absurd e (by
    split <;> first
      | exact if_nx
      | exact fun z => nomatch z)⟩
theorem it_rng2 {ta tb : TE} {f g : En → Res Vl} (h1 : EvD K W ta f) (h2 : EvD K W tb g) : ItD K W (iRng2 (tCons ta (tCons tb tNil))) (rng2 f g) := ⟨fun B G0 G env σ H k xs r e R q => (by
  obtain ⟨u, e1, e2⟩ := Res.bind_eq e
  obtain ⟨w, e3, e4⟩ := Res.bind_eq e2
  exact ev_two h1 h2 r e1 e3 fun G' H' x y xt r' hx hy => by
    have a := hx.look r'
    have b := hy.look r'
    split at e4
    · rename_i i j ei ej
      obtain ⟨c, e5⟩ := if_ok e4
      cases e5
      rw [ei] at a
      rw [ej] at b
      exact ⟨i, j, by rw [a.int_inv, b.int_inv], c, q G' H' _ xt walks_rng.up⟩
    · cases e4),
  fun B G0 G env σ H x r e w R => by
  rcases Res.bind_ex e with e1 | ⟨u, e1, e⟩
  · exact h1.ex B G0 G env σ H x r e1 w _
  rcases Res.bind_ex e with e2 | ⟨u2, e2, e⟩
  · exact h1.ok B G0 G env σ H u r e1 _ fun G1 H1 v x1 hv => h2.ex B G0 G1 env σ H1 x (r.ext x1) e2 (w.ext x1) _
  · exact absurd e (by
    split <;> first
      | exact if_nx
      | exact fun z => nomatch z)⟩
end
section
variable {X : Cx} {W : Wi} {tg : Expr} {p pos : Pos} {a b : Expr} {ta tb : TE} {f g : En → Res Vl}
theorem pi_or {wi wj : TI} {e : Expr} (h1 : PI X tg e wi) (h2 : PI X tg e wj) : PI X tg e (fun σ H R => wi σ H R ∨ wj σ H R) := ⟨fun pins s σ H R I h => by
  rcases h with h | h
  · exact h1.run pins s σ H R I h
  · exact h2.run pins s σ H R I h⟩
theorem di_seq (h : DE X W a ta f) : DI X W tg a (fun σ H R => iList X.K ta σ H R ∨ iTup X.K ta σ H R) (seqI f) := ⟨pi_or (pi_list h.pe) (pi_tup h.pe), it_seq h.ev⟩
theorem di_rng1 (hm : X.mg "range" = none) (h : DE X W a ta f) (hg : Gl X "range" := by rfl) (hs : starEach [a] X.env = [(false, eval a X.env)] := by rfl) (hs' : starEach (a :: []) X.env = (false, eval a X.env) :: starEach [] X.env := by rfl) : DI X W tg (.Call (.Name "range" p) [a] [] pos) (iRng1 (tCons ta tNil)) (rng1 f) := ⟨pi_range1 hg hm (pa_cons h.pe pa_nil hs') hs, it_rng1 h.ev⟩
theorem di_rng2 (hm : X.mg "range" = none) (h : DE X W a ta f) (h2 : DE X W b tb g) (hg : Gl X "range" := by rfl) (hs : starEach [a, b] X.env = [(false, eval a X.env), (false, eval b X.env)] := by rfl) (hs2 : starEach [b] X.env = [(false, eval b X.env)] := by rfl)
    (hs3 : starEach (a :: [b]) X.env = (false, eval a X.env) :: starEach [b] X.env := by rfl) (hs4 : starEach (b :: []) X.env = (false, eval b X.env) :: starEach [] X.env := by rfl) : DI X W tg (.Call (.Name "range" p) [a, b] [] pos) (iRng2 (tCons ta (tCons tb tNil))) (rng2 f g) :=
  ⟨pi_range2 hg hm (pa_cons h.pe (pa_cons h2.pe pa_nil hs4) hs3) hs hs2, it_rng2 h.ev h2.ev⟩
end
def forO (t : Tg) (b : En → Out) (k : Kd) : List D → En → Out
  | [], env => .nx env
  | x :: xs, env => match t ⟨k, x⟩ env with
    | .no => .no
    | .ex _ => .no
    | .ok e => match b e with
      | .nx e' => forO t b k xs e'
      | .ct e' => forO t b k xs e'
      | .bk e' => .nx e'
      | .rt u => .rt u
      | .ex e' x => .ex e' x
      | .no => .no
def forS (it : En → Res (Kd × List D)) (t : Tg) (b : En → Out) : En → Out := fun env => match it env with
  | .ok (k, xs) => forO t b k xs env
  | .ex x => .ex env x
  | .no => .no
theorem sv_for {K : PySem.W.Frag} {W : Wi} {wi : TI} {g : TG} {tb : TS} {it : En → Res (Kd × List D)} {t : Tg} {ws : List Nat} {b : En → Out} (hi : ItD K W wi it) (hg : TgD K W g t ws) (hb : SvD K W tb b) : SvD K W (tFor wi g tb) (forS it t b) := fun B G0 G env σ H D r q => by
  unfold forS at q
  split at q
  · rename_i k xs e
    refine hi.ok B G0 G env σ H k xs r e _ fun G1 H1 J x1 ⟨hk, hgo, hy, hst⟩ => ?_
    refine ⟨fun i m σ' H' => m = xs.length - i ∧ i ≤ xs.length ∧ ∃ G2 env', Same G1 G2 ∧ Rel K W B G0 G2 env' σ' H' ∧ OutOk K W B G0 G2 D (forO t b k (xs.drop i) env'), ⟨xs.length, by simp, Nat.zero_le _, G1, env, Same.refl _, r.ext x1, by rw [List.drop_zero]; exact q.mono x1.gg⟩, ?_⟩
    rintro i m σ' H' ⟨rfl, hle, G2, env', s2, r2, o⟩
    by_cases hlt : i < xs.length
    · refine .inr ⟨hgo i H' (s2.trans r2.gh) r2.bh hlt, fun σ'' H'' => i + 1 ≤ xs.length ∧ ∃ G3 env'', Same G1 G3 ∧ Rel K W B G0 G3 env'' σ'' H'' ∧ OutOk K W B G0 G3 D (forO t b k (xs.drop (i + 1)) env''), fun σ'' H'' ⟨a, b⟩ => ⟨xs.length - (i + 1), by omega, rfl, a, b⟩, fun x H3 y => ?_⟩
      have ed : xs[i]? = some xs[i] := List.getElem?_eq_getElem hlt
      obtain ⟨G3, x3, hrp⟩ := hy i xs[i] G2 H' x H3 s2 r2.gh r2.bh y ed
      have r3 := r2.ext x3
      have edrop : xs.drop i = xs[i] :: xs.drop (i + 1) := List.drop_eq_getElem_cons hlt
      rw [edrop] at o
      unfold forO at o
      split at o
      · exact o.elim
      · exact o.elim
      · rename_i e1 et
        refine hg B G0 G3 G3 env' e1 σ' H3 H3 ⟨k, xs[i]⟩ x r3 (Ext.refl r3.gh) hrp et _ fun σ4 r4 _ => ?_
        refine hb B G0 G3 e1 σ4 H3 _ r4 ?_
        have s3 := s2.trans x3.gg
        have o := o.mono x3.gg
        revert o
        intro o
        split at o <;> rename_i eb <;> rw [eb]
        · exact fun G5 σ5 H5 s5 r5 => ⟨hlt, G5, _, s3.trans s5, r5, o.mono s5⟩
        · exact fun G5 σ5 H5 s5 r5 => ⟨hlt, G5, _, s3.trans s5, r5, o.mono s5⟩
        · exact fun G5 σ5 H5 s5 r5 => o G5 σ5 H5 s5 r5
        · exact fun G5 H5 v s5 r5 h5 => o G5 H5 v s5 r5 h5
        · exact fun G5 σ5 H5 cls d s5 r5 h5 => o G5 σ5 H5 cls d s5 r5 h5
        · exact o
    · have ei : i = xs.length := by omega
      subst ei
      rw [List.drop_length] at o
      exact .inl ⟨hst H' (s2.trans r2.gh) r2.bh, o G2 σ' H' (Same.refl _) r2⟩
  · rename_i y e
    exact hi.ex B G0 G env σ H y r e (q.xok r) _
  · exact q.elim
theorem ds_for {X : Cx} {W : Wi} {tg iter : Expr} {body : List Stmt} {wi : TI} {g : TG} {tb : TS} {it : En → Res (Kd × List D)} {t : Tg} {ws : List Nat} {b : En → Out} {pos : Pos} (hp : PassesOwn (model X.prog X.w) X.A X.env X.xe) (hc : X.calm = true) (hi : DI X W tg iter wi it) (hg : DG X W tg g t ws) (hb : DSs X W body tb b)
    (hs : ∀ x, foldedSetIterable iter X.env x = pure x := by intro _; rfl) : DS X W (.For tg iter body [] pos) (tFor wi g tb) (forS it t b) := ⟨ps_for hp hc hi.pi hg.pg hb.ps hs, sv_for hi.it hg.tg hb.sv⟩
end DL

namespace DL
open PySem L2
/-! ### comprehensions -/
def wipeE (env : En) : List Nat → En
  | [] => env
  | v :: vs => (wipeE env vs).set v .no
def lcO (t : Tg) (c : En → Res Bool) (f : En → Res Vl) (k : Kd) (env : En) : List D → Res (List D)
  | [] => .ok []
  | x :: xs => (t ⟨k, x⟩ env).bind fun e => (c e).bind fun b => match b with
    | true => ((f e).bind keepD).bind fun d => (lcO t c f k env xs).bind fun ds => .ok (d :: ds)
    | false => lcO t c f k env xs
/-- an exception is not told -/
def Res.nx {α : Type} : Res α → Res α
  | .ok a => .ok a
  | _ => .no
theorem Res.nx_ok {α : Type} {r : Res α} {a : α} (h : r.nx = .ok a) : r = .ok a := by
  cases r with
  | ok b => exact h
  | ex x => cases h
  | no => cases h
theorem Res.nx_ne {α : Type} {r : Res α} {x : Exn} : r.nx ≠ .ex x := by
  cases r <;> exact fun z => nomatch z
def lcE (it : En → Res (Kd × List D)) (t : Tg) (c : En → Res Bool) (f : En → Res Vl) (own : List Nat) : En → Res Vl := fun env => (it env).bind fun p => if p.2.length < sizeLine then (lcO t c f p.1 (wipeE env own) p.2).nx.bind fun ds => .ok ⟨.o, .lst ds⟩ else .no
theorem lcO_len {t : Tg} {c : En → Res Bool} {f : En → Res Vl} {k : Kd} {env : En} : ∀ {xs ds : List D}, lcO t c f k env xs = .ok ds → ds.length ≤ xs.length
  | [], ds, h => by cases h; exact Nat.le_refl _
  | x :: xs, ds, h => by
    unfold lcO at h
    obtain ⟨e, _, h⟩ := Res.bind_eq h
    obtain ⟨b, _, h⟩ := Res.bind_eq h
    cases b with
    | true =>
      obtain ⟨d, _, h⟩ := Res.bind_eq h
      obtain ⟨ds', h1, h⟩ := Res.bind_eq h
      cases h
      have := lcO_len h1
      simp only [List.length_cons]
      omega
    | false =>
      have := lcO_len (show lcO t c f k env xs = .ok ds from h)
      simp only [List.length_cons]
      omega
section
variable {K : PySem.W.Frag} {W : Wi} {B G0 G G' H H' : Hp} {env : En} {σ : L2.St}
theorem Rel.unset (r : Rel K W B G0 G env σ H) (i : Nat) : Rel K W B G0 G (env.set i .no) (σ.set i none) H := by
  refine ⟨r.g0, r.gh, r.bh, r.fr, by rw [List.length_set, List.length_set]; exact r.len, fun j s o q1 q2 => ?_, fun j k s1 t1 L hjk q1 q2 o1 o2 q3 q4 => ?_⟩
  · rcases set_get q1 with ⟨_, rfl⟩ | ⟨n1, q1⟩
    · trivial
    · rcases set_get q2 with ⟨z, _⟩ | ⟨_, q2⟩
      · exact absurd z n1
      · exact r.sl j s o q1 q2
  · rcases set_get q1 with ⟨_, rfl⟩ | ⟨n1, q1⟩
    · cases o1
    · rcases set_get q2 with ⟨_, rfl⟩ | ⟨n2, q2⟩
      · cases o2
      · rcases set_get q3 with ⟨z, _⟩ | ⟨_, q3⟩
        · exact n1 z
        · rcases set_get q4 with ⟨z, _⟩ | ⟨_, q4⟩
          · exact n2 z
          · exact r.ds j k _ _ L hjk q1 q2 o1 o2 q3 q4
theorem Rel.wipe (r : Rel K W B G0 G env σ H) : ∀ vs : List Nat, Rel K W B G0 G (wipeE env vs) (L2.wipe σ vs) H
  | [] => r
  | v :: vs => (Rel.wipe r vs).unset v
theorem wipe_idem : ∀ (vs ws : List Nat) (σ : L2.St), (∀ i ∈ ws, i ∈ vs) → L2.wipe (L2.wipe σ ws) vs = L2.wipe σ vs
  | vs, [], σ, _ => rfl
  | vs, w :: ws, σ, h => by
    show L2.wipe ((L2.wipe σ ws).set w none) vs = _
    rw [wipe_set (h w List.mem_cons_self)]
    exact wipe_idem vs ws σ fun i hi => h i (List.mem_cons_of_mem _ hi)
theorem ev_lc {wi : TI} {g : TG} {tt : TT} {te : TE} {it : En → Res (Kd × List D)} {t : Tg} {ws own : List Nat} {c : En → Res Bool} {f : En → Res Vl} (hi : ItD K W wi it) (hg : TgD K W g t ws) (hw : ∀ i ∈ ws, i ∈ own) (hc : EvT K W tt c) (hf : EvD K W te f) : EvD K W (tLc wi g tt te own) (lcE it t c f own) := ⟨fun B G0 G env σ H z r e Q q => (by
  obtain ⟨⟨k, xs⟩, e1, e2⟩ := Res.bind_eq e
  dsimp only at e2
  by_cases hz : xs.length < sizeLine
  · rw [if_pos hz] at e2
    obtain ⟨ds, e3, e4⟩ := Res.bind_eq e2
    have e3 := Res.nx_ok e3
    cases e4
    refine hi.ok B G0 G env σ H k xs r e1 _ fun G1 H1 J x1 ⟨hk, hgo, hy, hst⟩ D hD => ?_
    have r1 := (r.ext x1).wipe own
    have gD : G1 D = none := x1.gh.free hD
    have bD : B D = none := (r.ext x1).bh.free hD
    have nD : ∀ (i : Nat) s, (wipeE env own)[i]? = some s → s.own = true → (L2.wipe σ own)[i]? ≠ some (some (.ref D)) := fun i s a os b => by
      obtain ⟨o, ho⟩ := r1.own_at a os b
      rw [hD] at ho
      cases ho
    refine ⟨fun i m H' => m = xs.length - i ∧ i ≤ xs.length ∧ ∃ G2 acc da db, Ext G1 H1 G2 H' ∧ G2 D = none ∧ Rel K W B G0 G2 (wipeE env own) (L2.wipe σ own) H' ∧ H' D = some (.lst acc) ∧ RepL K G2 acc da ∧ acc.length ≤ i ∧ lcO t c f k (wipeE env own) (xs.drop i) = .ok db ∧ ds = da ++ db,
      ⟨xs.length, by simp, Nat.zero_le _, G1, [], [], ds, Ext.new (r.ext x1).gh hD, gD, r1.beside bD gD nD, upd_same, .nil, Nat.le_refl _, by rw [List.drop_zero]; exact e3, rfl⟩, ?_⟩
    rintro i m H' ⟨rfl, hle, G2, acc, da, db, x2, g2, r2, hD2, ra, hla, el, ed⟩
    by_cases hlt : i < xs.length
    · refine .inr ⟨hgo i H' (x2.gg.trans r2.gh) r2.bh hlt, fun H'' => i + 1 ≤ xs.length ∧ ∃ G3 acc da db, Ext G1 H1 G3 H'' ∧ G3 D = none ∧ Rel K W B G0 G3 (wipeE env own) (L2.wipe σ own) H'' ∧ H'' D = some (.lst acc) ∧ RepL K G3 acc da ∧ acc.length ≤ i + 1 ∧ lcO t c f k (wipeE env own) (xs.drop (i + 1)) = .ok db ∧ ds = da ++ db,
        fun H'' ⟨a, b⟩ => ⟨xs.length - (i + 1), by omega, rfl, a, b⟩, fun x H3 y => ?_⟩
      have exd : xs[i]? = some xs[i] := List.getElem?_eq_getElem hlt
      obtain ⟨G3, y3, hrp⟩ := hy i xs[i] G2 H' x H3 x2.gg r2.gh r2.bh y exd
      have r3 := r2.ext y3
      have g3 : G3 D = none := y3.out g2 hD2
      have hD3 : H3 D = some (.lst acc) := y3.hh _ _ hD2
      have x3 := x2.trans y3
      rw [List.drop_eq_getElem_cons hlt] at el
      unfold lcO at el
      obtain ⟨e', et, el⟩ := Res.bind_eq el
      obtain ⟨b, eb, el⟩ := Res.bind_eq el
      refine hg B G0 G3 G3 (wipeE env own) e' (L2.wipe σ own) H3 H3 ⟨k, xs[i]⟩ x r3 (Ext.refl r3.gh) hrp et _ fun σ4 r4 w4 => ⟨(w4 own hw).trans (wipe_idem own own σ fun _ h => h), ?_⟩
      refine hc.ok B G0 G3 e' σ4 H3 b r4 eb _ fun G5 H5 x5 => ?_
      have g5 : G5 D = none := x5.out g3 hD3
      cases b with
      | true =>
        rw [if_pos rfl]
        obtain ⟨d, e5, el⟩ := Res.bind_eq el
        obtain ⟨u, e6, e7⟩ := Res.bind_eq e5
        obtain ⟨kp, rfl⟩ := keepD_inv e7
        obtain ⟨db', e8, el⟩ := Res.bind_eq el
        cases el
        refine hf.ok B G0 G5 e' σ4 H5 u (r4.ext x5) e6 _ fun G6 H6 v x6 hv6 => ?_
        obtain ⟨G7, x7, s7, hd7⟩ := hv6.freeze x6 kp
        have x57 := x5.trans x7
        have hD6 : H6 D = some (.lst acc) := x57.hh _ _ hD3
        have g7 : G7 D = none := x57.out g3 hD3
        refine ⟨acc, hD6, Nat.lt_of_le_of_lt hla (Nat.lt_of_lt_of_le hlt (Nat.le_of_lt hz)), hlt, G7, acc ++ [v], da ++ [u.d], db', ?_, g7, (r3.ext x57).beside bD g7 nD, upd_same, (ra.mono (y3.gg.trans x57.gg)).app (.cons hd7 .nil), by rw [List.length_append, List.length_singleton]; omega, e8, by rw [ed, List.append_assoc]; rfl⟩
        have xx := x3.trans x57
        exact ⟨xx.gg, same_upd xx.hh hD, same_upd xx.gh g7, xx.fr⟩
      | false =>
        rw [if_neg Bool.false_ne_true]
        exact ⟨hlt, G5, acc, da, db, x3.trans x5, g5, r3.ext x5, x5.hh _ _ hD3, ra.mono (y3.gg.trans x5.gg), Nat.le_succ_of_le hla, el, ed⟩
    · have ei : i = xs.length := by omega
      subst ei
      rw [List.drop_length] at el
      cases el
      rw [List.append_nil] at ed
      subst ed
      exact .inl ⟨hst H' (x2.gg.trans r2.gh) r2.bh, q G2 H' _ (x1.trans x2) ⟨D, acc, _, rfl, rfl, x1.hh.free hD, g2, hD2, ra⟩⟩
  · rw [if_neg hz] at e2
    cases e2),
  fun B G0 G env σ H x r e w Q => by
  rcases Res.bind_ex e with e1 | ⟨⟨k, xs⟩, e1, e2⟩
  · exact hi.ex B G0 G env σ H x r e1 w _
  · exfalso
    dsimp only at e2
    by_cases hz : xs.length < sizeLine
    · rw [if_pos hz] at e2
      rcases Res.bind_ex e2 with e3 | ⟨ds, _, e4⟩
      · exact Res.nx_ne e3
      · cases e4
    · rw [if_neg hz] at e2
      cases e2⟩
def yesT : En → Res Bool := fun _ => .ok true
theorem evt_yes : EvT K W tYes yesT := ⟨fun B G0 G env σ H b r e Q k => by cases e; exact k G H (Ext.refl r.gh),
  fun B G0 G env σ H x r e => nomatch e⟩
end
structure DTs (X : Cx) (W : Wi) (es : List Expr) (tt : TT) (f : En → Res Bool) : Prop where
  pts : PTs X es tt
  ev : EvT X.K W tt f
section
variable {X : Cx} {W : Wi} {elt tg iter : Expr} {ifs : List Expr} {scope : Scope} {own : List (Str × Nat)} {pos spos py : Pos} {wi : TI} {g : TG} {tt : TT} {te : TE} {it : En → Res (Kd × List D)} {t : Tg} {ws : List Nat} {c : En → Res Bool} {f : En → Res Vl} {y : Str}
theorem dts_nil : DTs X W [] tYes yesT := ⟨pts_nil, evt_yes⟩
theorem dts_one {e : Expr} (h : DT X W e tt c) : DTs X W [e] tt c := ⟨pts_one h.pt, h.ev⟩
theorem de_lc (hc : X.calm = true) (hN : X.N.Nodup) (hi : DI X W tg iter wi it) (ok : BlkOk X.N X.env.scope scope own)
    (hg : ∀ (s : Shared) (H : Hp) (C : Addr) (cl : List (Str × Addr)) (fp : List Addr), DG (X.blk s H scope (compEnvC scope cl C X.env) fp) W tg g t ws) (ht : ∀ (s : Shared) (H : Hp) (C : Addr) (cl : List (Str × Addr)) (fp : List Addr), DTs (X.blk s H scope (compEnvC scope cl C X.env) fp) W ifs tt c)
    (he : ∀ (s : Shared) (H : Hp) (C : Addr) (cl : List (Str × Addr)) (fp : List Addr), DE (X.blk s H scope (compEnvC scope cl C X.env) fp) W elt te f) (hw : ∀ i ∈ ws, i ∈ own.map (·.2) := by decide) (hs : ∀ x, foldedSetIterable iter X.env x = pure x := by intro _; rfl) (z1 : Shared) (z2 : Hp) :
    DE X W (.ListComp elt [⟨tg, iter, ifs, 0⟩] scope pos) (tLc wi g tt te (own.map (·.2))) (lcE it t c f (own.map (·.2))) :=
  ⟨pe_lc hc hN hi.pi ok (fun s H C cl fp => (hg s H C cl fp).pg) (fun s H C cl fp => (ht s H C cl fp).pts) (fun s H C cl fp => (he s H C cl fp).pe) hs,
    ev_lc (K := X.K) hi.it (hg z1 z2 0 [] []).tg hw (ht z1 z2 0 [] []).ev (he z1 z2 0 [] []).ev⟩
theorem ds_setLc (i : Nat) (hc : X.calm = true) (hN : X.N.Nodup) (hi : DI X W tg iter wi it) (ok : BlkOk X.N X.env.scope scope own)
    (hg : ∀ (s : Shared) (H : Hp) (C : Addr) (cl : List (Str × Addr)) (fp : List Addr), DG (X.blk s H scope (compEnvC scope cl C X.env) fp) W tg g t ws) (ht : ∀ (s : Shared) (H : Hp) (C : Addr) (cl : List (Str × Addr)) (fp : List Addr), DTs (X.blk s H scope (compEnvC scope cl C X.env) fp) W ifs tt c)
    (he : ∀ (s : Shared) (H : Hp) (C : Addr) (cl : List (Str × Addr)) (fp : List Addr), DE (X.blk s H scope (compEnvC scope cl C X.env) fp) W elt te f) (z1 : Shared) (z2 : Hp)
    (hsw : swapsWith (.ListComp elt [⟨tg, iter, ifs, 0⟩] scope pos) (some (.Name y py)) spos.line X.env = pure true) (hy : X.N[i]? = some y := by rfl) (hyl : X.env.scope.names.lookup y = some .local := by rfl) (hw : ∀ i ∈ ws, i ∈ own.map (·.2) := by decide) (hs : ∀ x, foldedSetIterable iter X.env x = pure x := by intro _; rfl) :
    DS X W (.Assign [.Name y py] (.ListComp elt [⟨tg, iter, ifs, 0⟩] scope pos) spos) (tAsg (tLc wi g tt te (own.map (·.2))) (gName i)) (setO i (lcE it t c f (own.map (·.2)))) :=
  ⟨ps_setLc hc hN hy hyl hsw hi.pi ok (fun s H C cl fp => (hg s H C cl fp).pg) (fun s H C cl fp => (ht s H C cl fp).pts) (fun s H C cl fp => (he s H C cl fp).pe) hs,
    sv_set i (ev_lc (K := X.K) hi.it (hg z1 z2 0 [] []).tg hw (ht z1 z2 0 [] []).ev (he z1 z2 0 [] []).ev)⟩
end
/-! ### a def's promise -/
def ArgOk (K : PySem.W.Frag) (G H : Hp) : Bool × D → V → Prop
  | (true, d), v => Rep K G v d
  | (false, d), v => Rep K H v d
def ArgsOk (K : PySem.W.Frag) (G H : Hp) : List (Bool × D) → List V → Prop
  | [], vs => vs = []
  | a :: as, vs => ∃ v r, vs = v :: r ∧ ArgOk K G H a v ∧ ArgsOk K G H as r
abbrev Fn := List (Bool × D) → Res Vl
def spD (K : PySem.W.Frag) (n : Nat) (F : Fn) : Sp := fun vs H Q _ => ∃ (G : Hp) (as : List (Bool × D)) (z : Vl), Same G H ∧ as.length = n ∧ ArgsOk K G H as vs ∧ F as = .ok z ∧ (∀ G' H' v, Ext G H G' H' → Rp K H G' H H' z v → Q v H')
def Vl.ba (u : Vl) : Bool × D := (u.keep, u.d)
def fin (z : Vl) : Res Vl := match z.k with
  | .g => .ok z
  | .o => .ok z
  | _ => .no
/-- f(..), the defaults behind -/
def callF (F : Fn) (ds : List D) (f : En → Res (List Vl)) : En → Res Vl := fun env => (f env).bind fun us => (F (us.map Vl.ba ++ ds.map fun d => (true, d))).nx.bind fin
/-- a call that may raise -/
def callX (F : Fn) (ds : List D) (f : En → Res (List Vl)) : En → Res Vl := fun env => (f env).bind fun us => (F (us.map Vl.ba ++ ds.map fun d => (true, d))).bind fin
theorem fin_nx {z : Vl} {x : Exn} : fin z ≠ .ex x := by
  unfold fin
  split <;> exact fun z => nomatch z
section
variable {K : PySem.W.Frag} {W : Wi} {B G0 G G' H H' : Hp} {env : En} {σ : L2.St}
theorem ArgsOk.len : ∀ {as : List (Bool × D)} {vs : List V}, ArgsOk K G H as vs → vs.length = as.length
  | [], _, h => by rw [h]; rfl
  | a :: as, _, ⟨v, r, e, _, l⟩ => by rw [e, List.length_cons, List.length_cons, ArgsOk.len l]
theorem ArgsOk.app : ∀ {as bs : List (Bool × D)} {vs ws : List V}, ArgsOk K G H as vs → ArgsOk K G H bs ws → ArgsOk K G H (as ++ bs) (vs ++ ws)
  | [], _, _, _, h, k => by rw [h]; exact k
  | a :: as, _, _, ws, ⟨v, r, e, h, l⟩, k => ⟨v, r ++ ws, by rw [e]; rfl, h, ArgsOk.app l k⟩
theorem RpL.args (r : Rel K W B G0 G' env σ H') : ∀ {us : List Vl} {vs : List V}, RpL K B G' H' us vs → ArgsOk K G' H' (us.map Vl.ba) vs
  | [], _, h => h
  | u :: us, _, ⟨v, w, e, h, l⟩ => by
    refine ⟨v, w, e, ?_, RpL.args r l⟩
    show ArgOk K G' H' (u.keep, u.d) v
    cases hk : u.keep with
    | true =>
      obtain ⟨k, d⟩ := u
      cases k with
      | g => exact h
      | b => exact Rep.flat (show Rep K B v d from h) hk
      | h =>
        obtain ⟨L, vs, ds, _, e2, _⟩ := h
        dsimp only at e2
        subst e2
        cases hk
      | o =>
        obtain ⟨L, vs, ds, _, _, e1, _, e2, _⟩ := h
        rw [e1] at e2
        cases e2
    | false => exact h.look r
theorem ev_call {F : Fn} {n : Nat} {ds : List D} {dvs : List V} {E : XK} {ta : TA} {f : En → Res (List Vl)} (hd : ∀ G, ArgsOk K G G (ds.map fun d => (true, d)) dvs) (hn : ∀ as z, F as = .ok z → as.length = n) (h : EvA K W ta f) : EvD K W (tCall (spD K n F) dvs E ta) (callF F ds f) := ⟨fun B G0 G env σ H z r e Q q => (by
  obtain ⟨us, e1, e⟩ := Res.bind_eq e
  obtain ⟨w, e2, e3⟩ := Res.bind_eq e
  have e2 := Res.nx_ok e2
  have hw : z = w ∧ (w.k = .g ∨ w.k = .o) := by
    unfold fin at e3
    split at e3 <;> cases e3
    · exact ⟨rfl, .inl (by assumption)⟩
    · exact ⟨rfl, .inr (by assumption)⟩
  obtain ⟨rfl, hk⟩ := hw
  refine h.ok B G0 G env σ H us r e1 _ fun G1 H1 vs x hl => ?_
  have r1 := r.ext x
  have hd' : ArgsOk K G1 H1 (ds.map fun d => (true, d)) dvs := dflt (hd G1)
  refine ⟨G1, us.map Vl.ba ++ ds.map fun d => (true, d), z, r1.gh, hn _ _ e2, (hl.args r1).app hd', e2, fun G2 H2 v x2 hv => q G2 H2 v (x.trans x2) ?_⟩
  obtain ⟨k, d⟩ := z
  rcases hk with rfl | rfl
  · exact hv
  · exact Rp.from x.hh (show Rp K B G2 H1 H2 ⟨.o, d⟩ v from hv)), fun B G0 G env σ H x r e w Q => by
  rcases Res.bind_ex e with e1 | ⟨us, e1, e⟩
  · exact h.ex B G0 G env σ H x r e1 w _
  · rcases Res.bind_ex e with e2 | ⟨z, _, e3⟩
    · exact absurd e2 Res.nx_ne
    · exact absurd e3 fin_nx⟩
where
  dflt {G H : Hp} : ∀ {ds : List D} {vs : List V}, ArgsOk K G G (ds.map fun d => (true, d)) vs → ArgsOk K G H (ds.map fun d => (true, d)) vs
    | [], _, h => h
    | d :: ds, _, ⟨v, r, e, h, l⟩ => ⟨v, r, e, h, dflt l⟩
end
section
variable {X : Cx} {W : Wi} {k n : Nat} {fa : Addr} {fd : FuncData} {ps : List Str} {F : Fn} {dvs : List V} {dds : List D} {ds : List Value} {x : Str} {p pos : Pos} {e : Expr} {es : List Expr} {ta : TA} {f : En → Res (List Vl)}
/-- a call of a def of the text -/
theorem de_call (G : FnOk X.prog X.w X.K X.mg X.base CX0 k fa fd ps (spD X.K n F)) (hr : Room k X.A) (hm : X.mg x = some (.ref fa)) (hk : PySem.W.keepIn X.K (.ref fa) = true) (hb : Binds X.K fd ps ds) (hd : Vals dvs ds) (hd2 : ∀ G, ArgsOk X.K G G (dds.map fun d => (true, d)) dvs) (hn : ∀ as z, F as = .ok z → as.length = n)
    (ha : DA X W (e :: es) ta f) (hg : Gl X x := by rfl) (hdb : (x == ("__debug__" : Str)) = false := by decide) (he : starEach (e :: es) X.env = (false, eval e X.env) :: starEach es X.env := by rfl) (hpl : (backTo pos (starEach es X.env)).any (·.1) = false := by rfl) :
    DE X W (.Call (.Name x p) (e :: es) [] pos) (tCall (spD X.K n F) dvs E0 ta) (callF F dds f) := ⟨pe_call G hr hg hm hk hb hd pass0 ha.pa hdb he hpl, ev_call hd2 hn ha.ev⟩
end
/-- no exception leaves -/
abbrev noW (P : Program) (w : World) : Wi := ⟨fun _ _ _ _ => False, (0, .none, none), ⟨P, w, 0⟩⟩
def startE (n : Nat) (as : List (Bool × D)) : En := as.map (fun a => .vl a.1 a.2) ++ List.replicate (n - as.length) .no
/-- what a body hands back -/
def runF (m n : Nat) (b : En → Out) : Fn := fun as => if as.length = m then match b (startE n as) with
  | .rt u => .ok u
  | .nx _ => .ok ⟨.g, .non⟩
  | .ex _ x => .ex x
  | _ => .no else .no
theorem runF_len {m n : Nat} {b : En → Out} : ∀ as z, runF m n b as = .ok z → as.length = m := fun as z h => by
  unfold runF at h
  by_cases e : as.length = m
  · exact e
  · rw [if_neg e] at h; cases h
theorem args_slot {K : PySem.W.Frag} {W : Wi} {G H : Hp} : ∀ {as : List (Bool × D)} {vs : List V} {i : Nat} {s : Sl} {o : Option V}, ArgsOk K G H as vs → (as.map fun a => Sl.vl a.1 a.2)[i]? = some s → (vs.map some)[i]? = some o → SlOk K W H G H s o
  | [], _, _, _, _, h, e, _ => by simp at e
  | a :: as, _, 0, s, o, ⟨v, r, e, h, l⟩, e1, e2 => by
    subst e
    simp at e1 e2
    subst e1 e2
    obtain ⟨b, d⟩ := a
    cases b with
    | true => exact ⟨v, rfl, h⟩
    | false => exact ⟨v, rfl, h⟩
  | a :: as, _, i + 1, s, o, ⟨v, r, e, h, l⟩, e1, e2 => by
    subst e
    exact args_slot (i := i) l (by simpa using e1) (by simpa using e2)
theorem start_rel {K : PySem.W.Frag} {W : Wi} {G H : Hp} {N : List Str} {as : List (Bool × D)} {vs : List V} (gh : Same G H) (h : ArgsOk K G H as vs) : Rel K W H G G (startE N.length as) (L2.start N vs) H := by
  have hl := h.len
  refine ⟨Same.refl _, gh, Same.refl _, fun a e n => absurd e n, by unfold startE L2.start; simp [hl], fun i s o q1 q2 => ?_, fun i j s t L _ q1 _ os _ => ?_⟩
  · unfold startE at q1
    unfold L2.start at q2
    by_cases hi : i < as.length
    · rw [List.getElem?_append_left (by simpa using hi)] at q1
      rw [List.getElem?_append_left (by simpa [hl] using hi)] at q2
      exact args_slot h q1 q2
    · rw [List.getElem?_append_right (by simpa using Nat.le_of_not_lt hi)] at q1
      rw [List.getElem?_replicate] at q1
      split at q1
      · cases q1; trivial
      · cases q1
  · exfalso
    unfold startE at q1
    by_cases hi : i < as.length
    · rw [List.getElem?_append_left (by simpa using hi), List.getElem?_map] at q1
      cases e : as[i]? with
      | none => rw [e] at q1; cases q1
      | some a => rw [e] at q1; cases q1; cases os
    · rw [List.getElem?_append_right (by simpa using Nat.le_of_not_lt hi), List.getElem?_replicate] at q1
      split at q1
      · cases q1; cases os
      · cases q1
/-- THE RULE for a def -/
theorem fn_ok {P : Program} {w : World} {K : PySem.W.Frag} {mg : Str → Option Value} {base : Heap} {x qual : Str} {st : Stmt} {fa : Addr} {fd : FuncData} {N ps : List Str} {k m n : Nat} {b : En → Out} (F : Fun K x qual st fa fd) (S : FnScope N ps (defScope st)) (hm : m = ps.length) (hn : n = N.length)
    (h : ∀ (cdv : Value) (A : Around) (outer : List Env) (s : Shared) (H : Hp) (E : XK), Room k (A.deeper (PyProof.Rows.envOfC qual (defScope st) s.heap.objs.size fa cdv)) → ∃ t, DSs (cxOf CX0 P w K mg base N qual (defScope st) fa cdv A outer s H E).nox (noW P w) (defBody st) t b) :
    FnOk P w K mg base CX0 (k + 1) fa fd ps (spD K m (runF m n b)) := by
  subst hm hn
  refine F.ok S (fun vs H Q E hs => ?_) (fun cdv A outer s H vs Q E hr hs => ?_)
  · obtain ⟨G, as, z, _, hl, ha, _⟩ := hs
    rw [ha.len, hl]
  · obtain ⟨t, ht⟩ := h cdv A outer s H E hr
    obtain ⟨G, as, z, gh, hl, ha, hz, q⟩ := hs
    refine ⟨t, ht.ps, ?_⟩
    have r : Rel K (noW P w) H G G (startE N.length as) (L2.start N vs) H := start_rel gh ha
    refine ht.sv H G G _ _ H _ r ?_
    unfold runF at hz
    rw [if_pos hl] at hz
    split at hz
    · rename_i u eu
      cases hz
      rw [eu]
      exact fun G' H' v s r' hv => q G' H' v ⟨s, r'.bh, r'.gh, r'.fr⟩ hv
    · rename_i e' ee
      cases hz
      rw [ee]
      exact fun G' σ' H' s r' => q G' H' .non ⟨s, r'.bh, r'.gh, r'.fr⟩ .non
    · cases hz
    · cases hz
end DL

namespace DL
open PySem L2
def vOf : D → V
  | .bl b => .bl b
  | .int i => .int i
  | .str x => .str x
  | _ => .non
theorem args_flat {K : PySem.W.Frag} {G : Hp} : ∀ {ds : List D}, ds.all flat = true → ArgsOk K G G (ds.map fun d => (true, d)) (ds.map vOf)
  | [], _ => rfl
  | d :: ds, h => by
    rw [List.all_cons, Bool.and_eq_true] at h
    refine ⟨vOf d, ds.map vOf, rfl, ?_, args_flat h.2⟩
    cases d <;> first
      | exact .non
      | exact .bl _
      | exact .int _
      | exact .str _
      | cases h.1
/-- a def that may be called -/
structure Cl (P : Program) (w : World) (K : PySem.W.Frag) (mg : Str → Option Value) (base : Heap) (k : Nat) (x : Str) (n : Nat) (F : Fn) (dds : List D) : Prop where
  ex : ∃ (fa : Addr) (fd : FuncData) (ps : List Str) (ds : List Value), FnOk P w K mg base CX0 k fa fd ps (spD K n F) ∧ mg x = some (.ref fa) ∧ PySem.W.keepIn K (.ref fa) = true ∧ Binds K fd ps ds ∧ Vals (dds.map vOf) ds
  fl : dds.all flat = true
  len : ∀ as z, F as = .ok z → as.length = n
section
variable {X : Cx} {W : Wi} {k j n : Nat} {F : Fn} {dds : List D} {x : Str} {p pos : Pos} {e : Expr} {es : List Expr} {ta : TA} {f : En → Res (List Vl)}
theorem de_c {K : PySem.W.Frag} (c : Cl X.prog X.w X.K X.mg X.base k x n F dds) (hr : Room j X.A) (ha : DA X W (e :: es) ta f) (hkj : k ≤ j := by decide) (hg : Gl X x := by rfl) (hdb : (x == ("__debug__" : Str)) = false := by decide) (he : starEach (e :: es) X.env = (false, eval e X.env) :: starEach es X.env := by rfl) (hpl : (backTo pos (starEach es X.env)).any (·.1) = false := by rfl) (hK : X.K = K := by rfl) :
    DE X W (.Call (.Name x p) (e :: es) [] pos) (tCall (spD K n F) (dds.map vOf) E0 ta) (callF F dds f) := by
  subst hK
  obtain ⟨fa, fd, ps, ds, G, hm, hk, hb, hd⟩ := c.ex
  exact de_call G (hr.mono hkj) hm hk hb hd (fun _ => args_flat c.fl) c.len ha hg hdb he hpl
/-- a constant of the module -/
theorem de_glob {d : D} (h : ∃ u, X.mg x = some u ∧ RelV (vOf d) u) (hf : flat d = true := by rfl) (hg : Gl X x := by rfl) (hd : (x == ("__debug__" : Str)) = false := by decide) : DE X W (.Name x pos) (tC (vOf d)) (cE d) := by
  obtain ⟨u, hm, r⟩ := h
  refine ⟨pe_glob hg hm r hd, ev_c fun G => ?_⟩
  cases d <;> first
    | exact .non
    | exact .bl _
    | exact .int _
    | exact .str _
    | cases hf
end
/-- a def of the text, all whose parameters are given -/
structure Dn (K : PySem.W.Frag) (mg : Str → Option Value) (x : Str) (st : Stmt) (ps : List Str) : Prop where
  ex : ∃ (fa : Addr) (fd : FuncData), Fun K x x st fa fd ∧ mg x = some (.ref fa) ∧ Binds K fd ps []
theorem dn_mk {K : PySem.W.Frag} {h : Heap} {mg : Str → Option Value} {x : Str} {st : Stmt} {ps : List Str} {f : Addr} {oc : Value} {od an : Option Addr} {sl : Array (Option Value)} {kV dc pm cd ct : Value} (X : K.In h) (G : h.Ns mainGlobals mg) (a : PySem.W.nsIn K mainGlobals x = some (some (.ref f)))
    (l : K.lookup f = some ⟨oc, od, .func (PySem.W.fnOf x x (defArgs st) (defBody st) (defScope st) .none kV dc pm an cd ct), sl⟩) (c : PySem.W.codeIn K cd x = true) (k : PySem.W.keepIn K (.ref f) = true)
    (hb : ∀ (kV doc pm : Value) (an : Option Addr) (cdv ct : Value) (us : List Value), us.length = ps.length → bindArgs (PySem.W.fnOf x x (defArgs st) (defBody st) (defScope st) .none kV doc pm an cdv ct) ⟨us, []⟩ = pure (ps.zip us)) : Dn K mg x st ps :=
  ⟨f, _, fun_mk l c k, PySem.W.mg_of X G a, (fun_mk l c k).binds hb⟩
/-- THE RULE for a def of the text -/
theorem cl_mk {P : Program} {w : World} {K : PySem.W.Frag} {mg : Str → Option Value} {base : Heap} {x : Str} {st : Stmt} {N ps : List Str} {k m n : Nat} {b : En → Out} (d : Dn K mg x st ps) (S : FnScope N ps (defScope st)) (hm : m = ps.length) (hn : n = N.length)
    (h : ∀ (fa : Addr) (cdv : Value) (A : Around) (outer : List Env) (s : Shared) (H : Hp) (E : XK), Room k (A.deeper (PyProof.Rows.envOfC x (defScope st) s.heap.objs.size fa cdv)) → ∃ t, DSs (cxOf CX0 P w K mg base N x (defScope st) fa cdv A outer s H E).nox (noW P w) (defBody st) t b) :
    Cl P w K mg base (k + 1) x m (runF m n b) [] := by
  obtain ⟨fa, fd, F, hm', hb⟩ := d.ex
  exact ⟨⟨fa, fd, ps, [], fn_ok F S hm hn (fun cdv A outer s H E hr => h fa cdv A outer s H E hr), hm', F.kp, hb, .nil⟩, rfl, runF_len⟩
theorem cl_no {P : Program} {w : World} {K : PySem.W.Frag} {mg : Str → Option Value} {base : Heap} {x : Str} {st : Stmt} {ps : List Str} {m k : Nat} (d : Dn K mg x st ps) : Cl P w K mg base k x m (fun _ => .no) [] := by
  obtain ⟨fa, fd, F, hm', hb⟩ := d.ex
  exact ⟨⟨fa, fd, ps, [], ⟨fun vs H Q E ⟨_, _, _, _, _, _, h, _⟩ => (nomatch h), fun A outer s H args us vs Q E _ _ _ _ ⟨_, _, _, _, _, _, h, _⟩ => (nomatch h)⟩, hm', F.kp, hb, .nil⟩, rfl, fun as z h => nomatch h⟩
end DL

namespace DL
open PySem L2
/-! ### defs with defaults; keywords -/
structure DK (X : Cx) (W : Wi) (kws : List Keyword) (tk : TA) (f : En → Res (List Vl)) : Prop where
  pk : PK X kws tk
  ev : EvA X.K W tk f
theorem dk_nil {X : Cx} {W : Wi} : DK X W [] tNil nilA := ⟨pk_nil, eva_nil⟩
theorem dk_cons {X : Cx} {W : Wi} {e : Expr} {te : TE} {f : En → Res Vl} {kws : List Keyword} {tk : TA} {g : En → Res (List Vl)} {nm : Option Str} {kpos : Pos} (h : DE X W e te f) (ht : DK X W kws tk g) : DK X W (⟨nm, e, kpos⟩ :: kws) (tCons te tk) (consA f g) := ⟨pk_cons h.pe ht.pk, eva_cons h.ev ht.ev⟩
/-- f(e, .., k = v, ..), the keywords behind in the parameters' order -/
def callK (F : Fn) (n m : Nat) (f g : En → Res (List Vl)) : En → Res Vl := fun env => (f env).bind fun us => (g env).bind fun ws => if us.length = n ∧ ws.length = m then (F ((us ++ ws).map Vl.ba)).nx.bind fin else .no
structure ClK (P : Program) (w : World) (K : PySem.W.Frag) (mg : Str → Option Value) (base : Heap) (k : Nat) (x : Str) (n : Nat) (ks : List Str) (F : Fn) : Prop where
  ex : ∃ (fa : Addr) (fd : FuncData) (ps : List Str), FnOk P w K mg base CX0 k fa fd ps (spD K (n + ks.length) F) ∧ mg x = some (.ref fa) ∧ PySem.W.keepIn K (.ref fa) = true ∧ KBn K fd ps n ks (fun us ws => us ++ ws) (fun vs zs => vs ++ zs)
theorem RpL.app {K : PySem.W.Frag} {B G' H' : Hp} : ∀ {us ws : List Vl} {vs zs : List V}, RpL K B G' H' us vs → RpL K B G' H' ws zs → RpL K B G' H' (us ++ ws) (vs ++ zs)
  | [], _, _, _, h, k => by rw [h]; exact k
  | u :: us, _, _, zs, ⟨v, r, e, h, l⟩, k => ⟨v, r ++ zs, by rw [e]; rfl, h, RpL.app l k⟩
theorem ev_callK {K : PySem.W.Frag} {W : Wi} {F : Fn} {n m : Nat} {E : XK} {ta tk : TA} {f g : En → Res (List Vl)} (h : EvA K W ta f) (h2 : EvA K W tk g) : EvD K W (tCallN n m (spD K (n + m) F) (fun vs zs => vs ++ zs) E ta tk) (callK F n m f g) := ⟨fun B G0 G env σ H z r e Q q => (by
  obtain ⟨us, e1, e⟩ := Res.bind_eq e
  obtain ⟨ws, e2, e⟩ := Res.bind_eq e
  by_cases hl : us.length = n ∧ ws.length = m
  · rw [if_pos hl] at e
    obtain ⟨w, e3, e4⟩ := Res.bind_eq e
    have e3 := Res.nx_ok e3
    have hw : z = w ∧ (w.k = .g ∨ w.k = .o) := by
      unfold fin at e4
      split at e4 <;> cases e4
      · exact ⟨rfl, .inl (by assumption)⟩
      · exact ⟨rfl, .inr (by assumption)⟩
    obtain ⟨rfl, hk⟩ := hw
    refine h.ok B G0 G env σ H us r e1 _ fun G1 H1 vs x1 l1 => h2.ok B G0 G1 env σ H1 ws (r.ext x1) e2 _ fun G2 H2 zs x2 l2 => ?_
    have r2 := (r.ext x1).ext x2
    have l1' := l1.mono x2
    refine ⟨by rw [l1.len, hl.1], by rw [l2.len, hl.2], G2, (us ++ ws).map Vl.ba, z, r2.gh, by simp [hl.1, hl.2], (l1'.app l2).args r2, e3, fun G3 H3 v x3 hv => q G3 H3 v ((x1.trans x2).trans x3) ?_⟩
    obtain ⟨k, d⟩ := z
    rcases hk with rfl | rfl
    · exact hv
    · exact Rp.from (x1.hh.trans x2.hh) (show Rp K B G3 H2 H3 ⟨.o, d⟩ v from hv)
  · rw [if_neg hl] at e
    cases e),
  fun B G0 G env σ H x r e w Q => by
  rcases Res.bind_ex e with e1 | ⟨us, e1, e⟩
  · exact h.ex B G0 G env σ H x r e1 w _
  rcases Res.bind_ex e with e2 | ⟨ws, e2, e⟩
  · exact h.ok B G0 G env σ H us r e1 _ fun G1 H1 vs x1 l1 => h2.ex B G0 G1 env σ H1 x (r.ext x1) e2 (w.ext x1) _
  exfalso
  by_cases hl : us.length = n ∧ ws.length = m
  · rw [if_pos hl] at e
    rcases Res.bind_ex e with e3 | ⟨z, _, e4⟩
    · exact Res.nx_ne e3
    · exact fin_nx e4
  · rw [if_neg hl] at e
    cases e⟩
theorem de_ck {K : PySem.W.Frag} {X : Cx} {W : Wi} {k j n : Nat} {ks : List Str} {F : Fn} {x : Str} {p pos : Pos} {e : Expr} {es : List Expr} {kws : List Keyword} {ta tk : TA} {f g : En → Res (List Vl)} (c : ClK X.prog X.w X.K X.mg X.base k x n ks F) (hr : Room j X.A) (ha : DA X W (e :: es) ta f) (hkw : DK X W kws tk g)
    (hkj : k ≤ j := by decide) (hg : Gl X x := by rfl) (hall : (backToKw pos (keywordEach kws X.env)).all (·.1.isSome) = true := by rfl) (hks : (backToKw pos (keywordEach kws X.env)).filterMap (·.1) = ks := by rfl)
    (hdb : (x == ("__debug__" : Str)) = false := by decide) (he : starEach (e :: es) X.env = (false, eval e X.env) :: starEach es X.env := by rfl)
    (hpl : ((backTo pos (starEach (e :: es) X.env)).any (·.1) || (backToKw pos (keywordEach kws X.env)).any (·.1.isNone)) = false := by rfl) (hK : X.K = K := by rfl) :
    DE X W (.Call (.Name x p) (e :: es) kws pos) (tCallN n ks.length (spD K (n + ks.length) F) (fun vs zs => vs ++ zs) E0 ta tk) (callK F n ks.length f g) := by
  subst hK
  obtain ⟨fa, fd, ps, G, hm, hk, hb⟩ := c.ex
  exact ⟨pe_callN G (hr.mono hkj) hg hm hk hb pass0 ha.pa hkw.pk hall hks hdb he hpl, ev_callK ha.ev hkw.ev⟩
/-- a def with defaults -/
structure DnD (K : PySem.W.Frag) (mg : Str → Option Value) (x : Str) (st : Stmt) (dds : List D) : Prop where
  ex : ∃ (fa : Addr) (fd : FuncData), FunD K x x (defArgs st) (defBody st) (defScope st) (dds.map vOf) [] fa fd ∧ mg x = some (.ref fa)
theorem fnD_ok {P : Program} {w : World} {K : PySem.W.Frag} {mg : Str → Option Value} {base : Heap} {x : Str} {st : Stmt} {dvs : List V} {fa : Addr} {fd : FuncData} {N ps : List Str} {k m n : Nat} {b : En → Out} (F : FunD K x x (defArgs st) (defBody st) (defScope st) dvs [] fa fd) (S : FnScope N ps (defScope st)) (hm : m = ps.length) (hn : n = N.length)
    (h : ∀ (fa : Addr) (cdv : Value) (A : Around) (outer : List Env) (s : Shared) (H : Hp) (E : XK), Room k (A.deeper (PyProof.Rows.envOfC x (defScope st) s.heap.objs.size fa cdv)) → ∃ t, DSs (cxOf CX0 P w K mg base N x (defScope st) fa cdv A outer s H E).nox (noW P w) (defBody st) t b) :
    FnOk P w K mg base CX0 (k + 1) fa fd ps (spD K m (runF m n b)) := by
  subst hm hn
  refine F.ok S (fun vs H Q E hs => ?_) (fun cdv A outer s H vs Q E hr hs => ?_)
  · obtain ⟨G, as, z, _, hl, ha, _⟩ := hs
    rw [ha.len, hl]
  · obtain ⟨t, ht⟩ := h fa cdv A outer s H E hr
    obtain ⟨G, as, z, gh, hl, ha, hz, q⟩ := hs
    refine ⟨t, ht.ps.nox, ?_⟩
    have r : Rel K (noW P w) H G G (startE N.length as) (L2.start N vs) H := start_rel gh ha
    refine ht.sv H G G _ _ H _ r ?_
    unfold runF at hz
    rw [if_pos hl] at hz
    split at hz
    · rename_i u eu
      cases hz
      rw [eu]
      exact fun G' H' v s r' hv => q G' H' v ⟨s, r'.bh, r'.gh, r'.fr⟩ hv
    · rename_i e' ee
      cases hz
      rw [ee]
      exact fun G' σ' H' s r' => q G' H' .non ⟨s, r'.bh, r'.gh, r'.fr⟩ .non
    · cases hz
    · cases hz
/-- its promise, and how it may be called -/
structure Fd (P : Program) (w : World) (K : PySem.W.Frag) (mg : Str → Option Value) (base : Heap) (k : Nat) (x : Str) (st : Stmt) (ps : List Str) (dds : List D) (F : Fn) : Prop where
  ex : ∃ (fa : Addr) (fd : FuncData), FunD K x x (defArgs st) (defBody st) (defScope st) (dds.map vOf) [] fa fd ∧ mg x = some (.ref fa) ∧ FnOk P w K mg base CX0 k fa fd ps (spD K ps.length F)
  len : ∀ as z, F as = .ok z → as.length = ps.length
theorem fd_mk {P : Program} {w : World} {K : PySem.W.Frag} {mg : Str → Option Value} {base : Heap} {x : Str} {st : Stmt} {dds : List D} {N ps : List Str} {k m n : Nat} {b : En → Out} (d : DnD K mg x st dds) (S : FnScope N ps (defScope st)) (hm : m = ps.length) (hn : n = N.length)
    (h : ∀ (fa : Addr) (cdv : Value) (A : Around) (outer : List Env) (s : Shared) (H : Hp) (E : XK), Room k (A.deeper (PyProof.Rows.envOfC x (defScope st) s.heap.objs.size fa cdv)) → ∃ t, DSs (cxOf CX0 P w K mg base N x (defScope st) fa cdv A outer s H E).nox (noW P w) (defBody st) t b) :
    Fd P w K mg base (k + 1) x st ps dds (runF m n b) := by
  obtain ⟨fa, fd, F, hm'⟩ := d.ex
  subst hm
  exact ⟨⟨fa, fd, F, hm', fnD_ok F S rfl hn h⟩, runF_len⟩
section
variable {P : Program} {w : World} {K : PySem.W.Frag} {mg : Str → Option Value} {base : Heap} {k : Nat} {x : Str} {st : Stmt} {ps : List Str} {dds : List D} {F : Fn}
/-- n values are written, the defaults behind the first j fill up -/
theorem Fd.cl (c : Fd P w K mg base k x st ps dds F) (n j : Nat) (hd : dds ≠ []) (hf : (dds.drop j).all flat = true) (hn : n + (dds.length - j) = ps.length)
    (h : ∀ (T : Addr) (kV doc pm : Value) (an : Option Addr) (cdv ct : Value) (us its : List Value), us.length = n → its.length = dds.length →
      ∃ k, bindArgs (PySem.W.fnOf x x (defArgs st) (defBody st) (defScope st) (.ref T) kV doc pm an cdv ct) ⟨us, []⟩ = seqItems? (.ref T) >>= k ∧ k (some its.toArray) = pure (ps.zip (us ++ its.drop j))) : Cl P w K mg base k x ps.length F (dds.drop j) := by
  obtain ⟨fa, fd, G, hm, ho⟩ := c.ex
  obtain ⟨ds, r, b⟩ := G.binds1 n j (by simpa using hd) (by simpa using hn) (by simpa using h)
  exact ⟨⟨fa, fd, ps, ds, ho, hm, G.kp, b, by rw [List.map_drop]; exact r⟩, hf, c.len⟩
theorem Fd.clK (c : Fd P w K mg base k x st ps dds F) (n : Nat) (ks : List Str) (hd : dds ≠ []) (hn : n + ks.length = ps.length)
    (h : ∀ (T : Addr) (kV doc pm : Value) (an : Option Addr) (cdv ct : Value) (us ws its : List Value), us.length = n → ws.length = ks.length → its.length = dds.length →
      ∃ k, bindArgs (PySem.W.fnOf x x (defArgs st) (defBody st) (defScope st) (.ref T) kV doc pm an cdv ct) ⟨us, ks.zip ws⟩ = seqItems? (.ref T) >>= k ∧ k (some its.toArray) = pure (ps.zip (us ++ ws))) : ClK P w K mg base k x n ks F := by
  obtain ⟨fa, fd, G, hm, ho⟩ := c.ex
  refine ⟨fa, fd, ps, by rw [hn]; exact ho, hm, G.kp, ⟨fun s us ws X l1 l2 => ?_, fun r1 r2 => r1.append r2⟩⟩
  obtain ⟨oc, od, dV, kV, doc, pm, an, cdv, ct, osl, rfl, lk, hcd, hD, hK⟩ := G.ex
  rcases hD with ⟨e, _⟩ | ⟨_, T, o, its, m, rfl, lT, oT, rT⟩
  · exact absurd e (by simpa using hd)
  · obtain ⟨k', e1, e2⟩ := h T kV doc pm an cdv ct us ws its l1 l2 (by rw [← rT.length, List.length_map])
    refine BindsTo.of_looks fun M => ?_
    rw [e1]
    exact looks_items X lT oT (.of_pure e2)
end
theorem dnd_mk {K : PySem.W.Frag} {h : Heap} {mg : Str → Option Value} {x : Str} {st : Stmt} {dds : List D} {f T : Addr} {oc : Value} {od an : Option Addr} {sl : Array (Option Value)} {kV dc pm cd ct : Value} {o : Obj} {its : List Value} {n : Nat} (X : K.In h) (G : h.Ns mainGlobals mg) (a : PySem.W.nsIn K mainGlobals x = some (some (.ref f)))
    (l : K.lookup f = some ⟨oc, od, .func (PySem.W.fnOf x x (defArgs st) (defBody st) (defScope st) (.ref T) kV dc pm an cd ct), sl⟩) (c : PySem.W.codeIn K cd x = true) (k : PySem.W.keepIn K (.ref f) = true) (t : K.lookup T = some o) (td : o.data = .seq its.toArray n) (r : Vals (dds.map vOf) its) (hd : dds ≠ []) : DnD K mg x st dds :=
  ⟨f, _, ⟨⟨oc, od, _, kV, dc, pm, an, cd, ct, sl, rfl, l, c, .inr ⟨by simpa using hd, T, o, its, n, rfl, t, td, r⟩, .inl rfl⟩, k⟩, PySem.W.mg_of X G a⟩
end DL

namespace DLong
open PySem
open Sem (wp)
open AutoSeq1 (wpAny_loadPart')
section
variable {prog : Program} {w : World} {A : Around} {E : Value → Shared → Prop} {s : Shared}
theorem ext_long {R : Result → Shared → Prop} {r : Addr} {a b c : Int} {t u v : Tok} {n : Nat} (hh : A.handled = none) (hr : IsRange s.heap r a b c t u v) (big : Builtin.Range.small a b c = false)
    (hn : Builtin.Range.rangeSize a b c = n) (nl : n ≤ 2 ^ 24) (S : Addr) (res : Value) (c₀ : Nat) (hS : s.heap.get? S = some { cls := .type "list", data := .seq #[] c₀ })
    (kR : ∀ h' tk ac c', (∀ b o, b ≠ S → s.heap.get? b = some o → h'.get? b = some o) → h'.get? S = some { cls := .type "list", dict := none, data := .seq ac c', slots := #[] } →
      ItemsOf (fun i v => ∃ t, v = .int (a + i * c) t) ac n → R (.ok (.ret res)) { s with heap := h', toks := tk }) :
    wpAny (model prog w) A.in1 (Builtin.List.listExtendWith (.ref S) (.ref r) res)
      (fun fin s' => match fin with | .done f => R (.ok f) s' | .again c' => c'.quiet = true ∧ codeAny (model prog w) A c' R s') (fun e s' => R (.error e) s') s := by
  have nSr : S ≠ r := fun e => by rw [e, hr] at hS; simp at hS
  have lS : S < s.heap.objs.size := Heap.lt_size hS
  have nSI : S ≠ s.heap.objs.size := Nat.ne_of_lt lS
  have fS : S ∉ [s.heap.objs.size] := fun hm => nSI (List.mem_singleton.mp hm)
  have W := (Walks.longrange (prog := prog) (w := w) (A := A.in1) hh s.heap.objs.size a c n).toS

  have key : ∀ (h : Heap) (c₁ tk : Nat), IsLongIter h s.heap.objs.size (a + ((0 : Nat) : Int) * c) ((n : Int) - ((0 : Nat) : Int)) c → (∀ b o, b ≠ S → s.heap.get? b = some o → h.get? b = some o) →
      h.get? S = some { cls := .type "list", data := .seq #[] c₁ } → codeAny (model prog w) A (.builtin "list.extend.loop" ⟨[.ref S, .ref s.heap.objs.size, res], []⟩) R { s with heap := h, toks := tk } := by
    intro h c₁ tk i0 kp s1
    refine codeAny_extend_loopS W (by rw [sizeLine_eq]; omega) S fS res n 0 _ #[] c₁ rfl (Nat.zero_le _) i0 s1 (ItemsOf.nil _) fun s' ac c' hm sS ha => ?_
    rw [Moved.eq_with hm]
    refine kR s'.heap s'.toks ac c' (fun b o hb e => hm.heap b o (fun hmem => ?_) (kp b o hb e)) sS ha
    rcases List.mem_cons.mp hmem with e' | hmem
    · exact hb e'
    · exact absurd (Heap.lt_size e) (by rw [List.mem_singleton.mp hmem]; exact Nat.lt_irrefl _)
  unfold Builtin.List.listExtendWith
  refine wpAny_bind (wpAny_typeOf (T := "range") ⟨_, hr, rfl⟩ ?_)
  have h1 : Builtin.List.listSameRef (.ref S) (.ref r) = false := by simp [Builtin.List.listSameRef, nSr]
  have h2 : (Value.type "range" == Value.type "list") = false := by decide
  have h3 : (Value.type "range" == Value.type "tuple") = false := by decide
  simp only [h1, h2, h3, Bool.or_false, Bool.false_eq_true, if_false]
  refine wpAny_bind (wpAny_pyIter_longrange hr big ?_)
  refine wpAny_bind (wpAny_holding (wpAny_hint_range (n := n) (Heap.get?_push_of_some _ hr) hn nl ?_))
  have i1 : IsLongIter (s.heap.push { cls := .type "longrange_iterator", data := .fields #[rawInt a, rawInt (Builtin.Range.rangeSize a b c), rawInt c] }) s.heap.objs.size (a + ((0 : Nat) : Int) * c) ((n : Int) - ((0 : Nat) : Int)) c := by
    show IsLongIter _ _ _ _ _; rw [hn]; simpa using Heap.get?_push_size _ rfl
  have s1 := Heap.get?_push_of_some { cls := .type "longrange_iterator", data := .fields #[rawInt a, rawInt (Builtin.Range.rangeSize a b c), rawInt c] } hS
  refine wpAny_ite_split (fun _ => ?_) (fun _ => wpAny_pure ⟨plainId_quiet F.plain_extend_loop _, key _ c₀ _ i1 (fun b o _ e => Heap.get?_push_of_some _ e) s1⟩)
  refine wpAny_bind (wpAny_rule ?_)
  refine wpAny_bind ?_
  show wpAny _ _ (updateSeq S (·.push .none) >>= fun _ => updateSeq S (·.pop)) _ _ _
  refine wpAny_bind (wpAny_updateSeq s1 rfl ?_)
  have s2 := Heap.get?_update_self (Obj.mapSeq (·.push Value.none)) s1 rfl
  refine wpAny_updateSeq (hz := by seq_fits) s2 rfl ?_
  have s3 := Heap.get?_update_self (Obj.mapSeq (·.pop)) s2 rfl
  refine wpAny_pure ⟨plainId_quiet F.plain_extend_loop _, key _ _ _ ?_ (fun b o hb e => ?_) s3⟩
  · exact (Heap.get?_update_other _ _ nSI).trans ((Heap.get?_update_other _ _ nSI).trans i1)
  · exact (Heap.get?_update_other _ _ (Ne.symm hb)).trans ((Heap.get?_update_other _ _ (Ne.symm hb)).trans (Heap.get?_push_of_some _ e))

theorem init_long {R : Result → Shared → Prop} {r : Addr} {a b c : Int} {t u v : Tok} {n : Nat} (hh : A.handled = none) (hr : IsRange s.heap r a b c t u v) (big : Builtin.Range.small a b c = false)
    (hn : Builtin.Range.rangeSize a b c = n) (nl : n ≤ 2 ^ 24) (S : Addr) (hS : s.heap.get? S = some { cls := .type "list", data := .seq #[] })
    (kR : ∀ h' tk ac c', (∀ b o, b ≠ S → s.heap.get? b = some o → h'.get? b = some o) → h'.get? S = some { cls := .type "list", dict := none, data := .seq ac c', slots := #[] } →
      ItemsOf (fun i v => ∃ t, v = .int (a + i * c) t) ac n → R (.ok (.ret .none)) { s with heap := h', toks := tk }) :
    wpAny (model prog w) A.in1 (Builtin.«list.__init__» ⟨[.ref S, .ref r], []⟩)
      (fun fin s' => match fin with | .done f => R (.ok f) s' | .again c' => c'.quiet = true ∧ codeAny (model prog w) A c' R s') (fun e s' => R (.error e) s') s := by
  have nSr : S ≠ r := fun e => by rw [e, hr] at hS; simp at hS
  show wpAny _ _ (do let old ← Builtin.List.listItems (.ref S); Builtin.List.listUpdate (.ref S) (fun _ => #[]); letGo old.toList.reverse; Builtin.List.listExtendWith (.ref S) (.ref r) .none) _ _ s
  refine wpAny_bind ?_
  unfold Builtin.List.listItems
  refine wpAny_bind (wpAny_seqItems hS rfl (wpAny_pure ?_))
  show wpAny _ _ (updateSeq S (fun _ => #[]) >>= fun _ => letGo (#[] : Array Value).toList.reverse >>= fun _ => Builtin.List.listExtendWith (.ref S) (.ref r) .none) _ _ s
  refine wpAny_bind (wpAny_updateSeq hS rfl ?_)
  have s2 := Heap.get?_update_self (Obj.mapSeq (fun _ => (#[] : Array Value))) hS rfl
  have oth : ∀ b o, b ≠ S → s.heap.get? b = some o → (s.heap.update S (Obj.mapSeq (fun _ => (#[] : Array Value)))).get? b = some o :=
    fun b o hb e => (Heap.get?_update_other _ _ (Ne.symm hb)).trans e
  refine wpAny_bind (wpAny_letGo ?_)
  refine ext_long hh (oth r _ (Ne.symm nSr) hr) big hn nl S .none _ s2 fun h' tk ac c' kp sS ha => ?_
  exact kR h' tk ac c' (fun b o hb e => kp b o hb (oth b o hb e)) sS ha
theorem list_long {Q : Value → Shared → Prop} {r : Addr} {a b c : Int} {t u v : Tok} {n : Nat} (hh : A.handled = none) (hr : IsRange s.heap r a b c t u v) (big : Builtin.Range.small a b c = false)
    (hn : Builtin.Range.rangeSize a b c = n) (nl : n ≤ 2 ^ 24)
    (kQ : ∀ h' tk ac c', (∀ b o, s.heap.get? b = some o → h'.get? b = some o) →
      h'.get? s.heap.objs.size = some { cls := .type "list", dict := none, data := .seq ac c', slots := #[] } → ItemsOf (fun i v => ∃ t, v = .int (a + i * c) t) ac n → Q (.ref s.heap.objs.size) { s with heap := h', toks := tk }) :
    wpAny (model prog w) A (call (.type "list") [.ref r]) Q E s := by
  refine callType_codes (Q₁ := fun obj s₁ => obj = .ref s.heap.objs.size ∧ s₁ = { s with heap := s.heap.push { cls := .type "list", data := .seq #[] } }) F.called_list (F.typeCall_list_1 _) F.entry_list_init
    (code_list_new _ ⟨rfl, rfl⟩) fun obj s₁ h₁ => ?_
  obtain ⟨rfl, rfl⟩ := h₁
  have hS : (s.heap.push { cls := .type "list", data := .seq #[] }).get? s.heap.objs.size = some { cls := .type "list", data := .seq #[] } := Heap.get?_push_size _ rfl
  refine ⟨⟨_, hS, rfl⟩, F.args_list_init_2 _ _, init_long (A := A.in1) hh (Heap.get?_push_of_some _ hr) big hn nl _ hS fun h' tk ac c' kp sS ha => ?_⟩
  exact ⟨rfl, kQ h' tk ac c' (fun b o e => kp b o (Nat.ne_of_lt (Heap.lt_size e)) (Heap.get?_push_of_some _ e)) sS ha⟩
end
end DLong
namespace DL
open PySem L2 PySem.Spec PyProof.Rows
section
variable {X : Cx} {W : Wi} {e a b : Expr} {ta tb : TE} {f g : En → Res Vl} {te : L2.St → Hp → (Int → Int → Hp → Prop) → Prop}
/-- list(range(..)), whatever its bounds; its length is bounded -/
def tLsR (te : L2.St → Hp → (Int → Int → Hp → Prop) → Prop) : TE := fun σ H Q => te σ H fun a b H1 => (b - a).toNat ≤ 2 ^ 24 ∧ ∀ q, H1 q = none → Q (.ref q) (upd H1 q (.lst (rgV a b)))
theorem pe_lsR {p pos : Pos} (hc : X.calm = true) (hg : Gl X "list") (hm : X.mg "list" = none) (he : PRg X e te) (na : starEach [e] X.env = (false, eval e X.env) :: starEach [] X.env) : PE X (.Call (.Name "list" p) [e] [] pos) (tLsR te) := by
  refine ⟨fun pins s σ H Q I h => Call_ (ld_blt I hg hm PyProof.Rows.boot_list (PyProof.Rows.callWith_type1 (PyProof.Rows.args_cons (thn (he pins s σ H _ I h) fun x s1 ⟨r, i, j, t, u, v, H1, ex, hr, I1, nl, q⟩ => PyProof.Rows.args_nil ?_) na) na))⟩
  subst ex
  have fin : ∀ (h' : Heap) (tk : Nat) (acc : Array Value) (c' : Nat), (∀ b o, s1.heap.get? b = some o → h'.get? b = some o) → h'.get? s1.heap.objs.size = some { cls := .type "list", dict := none, data := .seq acc c', slots := #[] } →
      ItemsOf (fun n v => ∃ t, v = .int (i + n * 1) t) acc (j - i).toNat → EP X pins σ Q (.ref s1.heap.objs.size) { s1 with heap := h', toks := tk } := fun h' tk acc c' hk e' hi => by
    refine ⟨.ref s1.heap.objs.size, upd H1 s1.heap.objs.size (.lst (rgV i j)), I1.laid hk (Nat.le_refl _) (show ObjOk X.prog X.w _ _ _ (.lst (rgV i j)) from ⟨?_, acc.toList, c', vals_rg hi, ?_⟩), rfl, q _ (I1.hok.fresh (Nat.le_refl _))⟩
    · rw [rgV_length, sizeLine_eq]
      exact nl
    · rw [Array.toArray_toList]
      exact e'
  cases hs : Builtin.Range.small i j 1 with
  | true => exact call_list_range (n := (j - i).toNat) (I1.ok.hd hc) hr hs (PyProof.Rows.rangeSize_nat i j) nl fin
  | false => exact DLong.list_long (n := (j - i).toNat) (I1.ok.hd hc) hr hs (PyProof.Rows.rangeSize_nat i j) nl fin
def lsR1 (f : En → Res Vl) : En → Res Vl := fun env => (f env).bind fun u => match u.d with
  | .int j => if j.toNat ≤ 2 ^ 24 then .ok ⟨.o, .lst (rngD 0 j.toNat)⟩ else .no
  | _ => .no
def lsR2 (f g : En → Res Vl) : En → Res Vl := fun env => (f env).bind fun u => (g env).bind fun w => match u.d, w.d with
  | .int i, .int j => if (j - i).toNat ≤ 2 ^ 24 then .ok ⟨.o, .lst (rngD i (j - i).toNat)⟩ else .no
  | _, _ => .no
theorem rep_rgV {K : PySem.W.Frag} {G : Hp} (a b : Int) : RepL K G (rgV a b) (rngD a (b - a).toNat) := by
  unfold rgV rngD
  generalize (b - a).toNat = n
  have : ∀ l : List Nat, RepL K G (l.map fun i => V.int (a + (i : Nat))) (l.map fun (i : Nat) => D.int (a + i)) := fun l => by
    induction l with
    | nil => exact .nil
    | cons x l ih => exact .cons (.int _) ih
  exact this _
theorem de_lsR1 {p p2 pos pos2 : Pos} (hm : X.mg "list" = none) (hmr : X.mg "range" = none) (ha : DE X W a ta f) (hc : X.calm = true := by rfl) (hg : Gl X "list" := by rfl) (hgr : Gl X "range" := by rfl) (na : starEach [a] X.env = (false, eval a X.env) :: starEach [] X.env := by rfl)
    (nb : starEach [.Call (.Name "range" p2) [a] [] pos2] X.env = (false, eval (.Call (.Name "range" p2) [a] [] pos2) X.env) :: starEach [] X.env := by rfl) : DE X W (.Call (.Name "list" p) [.Call (.Name "range" p2) [a] [] pos2] [] pos) (tLsR (tRg1 ta)) (lsR1 f) :=
  ⟨pe_lsR hc hg hm (prg_1 hgr hmr ha.pe na) nb, ⟨fun B G0 G env σ H z r e Q k => (by
    obtain ⟨u, e1, e2⟩ := Res.bind_eq e
    refine ha.ev.ok B G0 G env σ H u r e1 _ fun G' H' v x hv => ?_
    have y := hv.look (r.ext x)
    split at e2
    · rename_i j ej
      obtain ⟨c, rfl⟩ := if_ok e2
      rw [ej] at y
      refine ⟨j, y.int_inv, by simpa using c, new_list (r.ext x) (by have := rep_rgV (K := X.K) (G := G') 0 j; simpa using this) fun G2 H2 w x2 hw => k G2 H2 w (x.trans x2) (hw.from x.hh)⟩
    · cases e2), fun B G0 G env σ H x r e w Q => by
    rcases Res.bind_ex e with e1 | ⟨u, e1, e⟩
    · exact ha.ev.ex B G0 G env σ H x r e1 w _
    · exact absurd e (by
        split <;> first
          | exact if_nx
          | exact fun z => nomatch z)⟩⟩
theorem de_lsR2 {p p2 pos pos2 : Pos} (hm : X.mg "list" = none) (hmr : X.mg "range" = none) (ha : DE X W a ta f) (hb : DE X W b tb g) (hc : X.calm = true := by rfl) (hg : Gl X "list" := by rfl) (hgr : Gl X "range" := by rfl) (na : starEach [a, b] X.env = (false, eval a X.env) :: starEach [b] X.env := by rfl)
    (nb : starEach [b] X.env = (false, eval b X.env) :: starEach [] X.env := by rfl) (np : (backTo pos2 (starEach [b] X.env)).any (·.1) = false := by rfl)
    (nc : starEach [.Call (.Name "range" p2) [a, b] [] pos2] X.env = (false, eval (.Call (.Name "range" p2) [a, b] [] pos2) X.env) :: starEach [] X.env := by rfl) : DE X W (.Call (.Name "list" p) [.Call (.Name "range" p2) [a, b] [] pos2] [] pos) (tLsR (tRg2 ta tb)) (lsR2 f g) :=
  ⟨pe_lsR hc hg hm (prg_2 hgr hmr ha.pe hb.pe na nb np) nc, ⟨fun B G0 G env σ H z r e Q k => (by
    obtain ⟨u, e1, e2⟩ := Res.bind_eq e
    obtain ⟨w, e3, e4⟩ := Res.bind_eq e2
    exact ev_two ha.ev hb.ev r e1 e3 fun G' H' x y xt r' hx hy => by
      have a1 := hx.look r'
      have b1 := hy.look r'
      split at e4
      · rename_i i j ei ej
        obtain ⟨c, rfl⟩ := if_ok e4
        rw [ei] at a1
        rw [ej] at b1
        exact ⟨i, j, a1.int_inv, b1.int_inv, c, new_list r' (rep_rgV i j) fun G2 H2 w x2 hw => k G2 H2 w (xt.trans x2) (hw.from xt.hh)⟩
      · cases e4), fun B G0 G env σ H x r e w Q => by
    rcases Res.bind_ex e with e1 | ⟨u, e1, e⟩
    · exact ha.ev.ex B G0 G env σ H x r e1 w _
    rcases Res.bind_ex e with e2 | ⟨u2, e2, e⟩
    · exact ha.ev.ok B G0 G env σ H u r e1 _ fun G1 H1 v x1 hv => hb.ev.ex B G0 G1 env σ H1 x (r.ext x1) e2 (w.ext x1) _
    · exact absurd e (by
        split <;> first
          | exact if_nx
          | exact fun z => nomatch z)⟩⟩
end
end DL

namespace DL
open PySem L2
/-! the law itself -/
structure DnL (K : PySem.W.Frag) (mg : Str → Option Value) (x : Str) (st : Stmt) (p : Str) : Prop where
  ex : ∃ (fa : Addr) (fd : FuncData), Fun K x x st fa fd ∧ mg x = some (.ref fa) ∧ ∀ (s : Shared) (v : Value), BindsTo s fd ⟨[v], []⟩ [(p, v)]
theorem dnl_mk {K : PySem.W.Frag} {h : Heap} {mg : Str → Option Value} {x : Str} {st : Stmt} {p : Str} {f : Addr} {oc : Value} {od an : Option Addr} {sl : Array (Option Value)} {kV dc pm cd ct : Value} (X : K.In h) (G : h.Ns mainGlobals mg) (a : PySem.W.nsIn K mainGlobals x = some (some (.ref f)))
    (l : K.lookup f = some ⟨oc, od, .func (PySem.W.fnOf x x (defArgs st) (defBody st) (defScope st) .none kV dc pm an cd ct), sl⟩) (c : PySem.W.codeIn K cd x = true) (k : PySem.W.keepIn K (.ref f) = true)
    (hb : ∀ (kV doc pm : Value) (an : Option Addr) (cdv ct v : Value), bindArgs (PySem.W.fnOf x x (defArgs st) (defBody st) (defScope st) .none kV doc pm an cdv ct) ⟨[v], []⟩ = pure [(p, v)]) : DnL K mg x st p :=
  ⟨f, _, fun_mk l c k, PySem.W.mg_of X G a, fun s v => .of_eq (hb _ _ _ _ _ _ v)⟩
def LawOk (P : Program) (w : World) (K : PySem.W.Frag) (mg : Str → Option Value) (k : Nat) (x p : Str) (F : Fn) : Prop := ∃ (fa : Addr) (fd : FuncData), mg x = some (.ref fa) ∧ (∀ (s : Shared) (v : Value), BindsTo s fd ⟨[v], []⟩ [(p, v)]) ∧ ∀ base : Heap, FnOk P w K mg base CX0 k fa fd [p] (spD K 1 F)
theorem law_mk {P : Program} {w : World} {K : PySem.W.Frag} {mg : Str → Option Value} {x : Str} {st : Stmt} {N : List Str} {p : Str} {k n : Nat} {b : En → Out} (d : DnL K mg x st p) (S : FnScope N [p] (defScope st)) (hn : n = N.length)
    (h : ∀ (base : Heap) (fa : Addr) (cdv : Value) (A : Around) (outer : List Env) (s : Shared) (H : Hp) (E : XK), Room k (A.deeper (PyProof.Rows.envOfC x (defScope st) s.heap.objs.size fa cdv)) → ∃ t, DSs (cxOf CX0 P w K mg base N x (defScope st) fa cdv A outer s H E).nox (noW P w) (defBody st) t b) :
    LawOk P w K mg (k + 1) x p (runF 1 n b) := by
  obtain ⟨fa, fd, F, hm', hb⟩ := d.ex
  exact ⟨fa, fd, hm', hb, fun base => fn_ok F S rfl hn (fun cdv A outer s H E hr => h base fa cdv A outer s H E hr)⟩
theorem law_walk {l : PySem.W.OpenLaw} {k : Nat} {q : Program} {loose : List Str} {XP : (Str → Option Value) → Heap → Prop} {YP : World → Heap → Prop} {d : DefRec} {K : Params → PySem.W.Frag} {x p : Str} {Fl : Fn} (hF : ∀ ns : List Int, Fl [(true, .fz (ns.map D.int))] = .ok ⟨.g, .bl true⟩)
    (hn : l.most = some 63) (hdf : d.params.defaults = []) (hr : Room k callerA) (hx : d.name = x)
    (hY : ∀ (w : World) (h : Heap), YP w h → (K w.params).In h)
    (F : ∀ (w : World) (mg : Str → Option Value) (h : Heap), (K w.params).In h → h.Ns mainGlobals mg → LawOk l.prog w (K w.params) mg k x p Fl) :
    PySem.W.WalkO q loose XP YP l.row.toRowW d [] (fun f vs => PySem.call f vs) := by
  refine L2.walk_of (n := 63) (k := k) (x := p) (CX := fun _ => CX0) (sp := fun w => spD (K w.params) 1 Fl) hn (by decide) hdf hr hY ?_ ?_ fun _ _ _ _ _ z => z
  · intro w mg fa h KX G hmg
    obtain ⟨fa', fd, hm, hb, hf⟩ := F w mg h KX G
    rw [hx, hm] at hmg
    cases hmg
    exact ⟨fd, hb, fun base _ _ => hf base⟩
  · intro w H a ns hl hO hS
    refine ⟨H, [(true, .fz (ns.map D.int))], ⟨.g, .bl true⟩, Same.refl H, rfl, ?_, hF ns, ?_⟩
    · exact ⟨.ref a, [], rfl, .fz hS (RepL.ofInts _), rfl⟩
    · intro G' H' v x hv
      cases hv
      rfl
end DL

namespace DL
open PySem L2
/-! ### defs that may raise -/
def spX (K : PySem.W.Frag) (n : Nat) (F : Fn) : Sp := fun vs H Q E => ∃ (G : Hp) (as : List (Bool × D)), Same G H ∧ as.length = n ∧ ArgsOk K G H as vs ∧
  ((∃ z, F as = .ok z ∧ ∀ G' H' v, Ext G H G' H' → Rp K H G' H H' z v → Q v H') ∨ ∃ x, F as = .ex x ∧ ∀ G' H' cls d, Ext G H G' H' → RepX K G' H' x cls d → E cls d H')
/-- what leaves a def -/
abbrev outW (P : Program) (w : World) (E : XK) : Wi := ⟨fun cls d _ H => E cls d H, (0, .none, none), ⟨P, w, 0⟩⟩
theorem fnX_ok {P : Program} {w : World} {K : PySem.W.Frag} {mg : Str → Option Value} {base : Heap} {x qual : Str} {st : Stmt} {fa : Addr} {fd : FuncData} {N ps : List Str} {k m n : Nat} {b : En → Out} (F : Fun K x qual st fa fd) (S : FnScope N ps (defScope st)) (hm : m = ps.length) (hn : n = N.length)
    (h : ∀ (cdv : Value) (A : Around) (outer : List Env) (s : Shared) (H : Hp) (E : XK), Room k (A.deeper (PyProof.Rows.envOfC qual (defScope st) s.heap.objs.size fa cdv)) → Takes (cxOf (L2.CX P w) P w K mg base N qual (defScope st) fa cdv A outer s H E) (outW P w E).w → ∃ t, DSs (cxOf (L2.CX P w) P w K mg base N qual (defScope st) fa cdv A outer s H E) (outW P w E) (defBody st) t b) :
    FnOk P w K mg base (L2.CX P w) (k + 1) fa fd ps (spX K m (runF m n b)) := by
  subst hm hn
  obtain ⟨oc, od, kV, doc, pm, an, cdv, ct, osl, rfl, lk, hcd⟩ := F.ex
  refine fn_of lk hcd S (fun vs H Q E hs => ?_) fun A outer s H vs Q E hr hs => ?_
  · obtain ⟨G, as, _, hl, ha, _⟩ := hs
    rw [ha.len, hl]
  · obtain ⟨t, ht⟩ := h cdv A outer s H E hr (takes_of rfl rfl rfl rfl)
    obtain ⟨G, as, gh, hl, ha, hz⟩ := hs
    refine ⟨t, ht.ps, ?_⟩
    have r : Rel K (outW P w E) H G G (startE N.length as) (L2.start N vs) H := start_rel gh ha
    refine ht.sv H G G _ _ H _ r ?_
    rcases hz with ⟨z, hz, q⟩ | ⟨y, hz, q⟩
    · unfold runF at hz
      rw [if_pos hl] at hz
      split at hz
      · rename_i u eu
        cases hz
        rw [eu]
        exact fun G' H' v s r' hv => q G' H' v ⟨s, r'.bh, r'.gh, r'.fr⟩ hv
      · rename_i e' ee
        cases hz
        rw [ee]
        exact fun G' σ' H' s r' => q G' H' .non ⟨s, r'.bh, r'.gh, r'.fr⟩ .non
      · cases hz
      · cases hz
    · unfold runF at hz
      rw [if_pos hl] at hz
      split at hz
      · cases hz
      · cases hz
      · rename_i e' y' ee
        cases hz
        rw [ee]
        exact fun G' σ' H' cls d s r' hx => q G' H' cls d ⟨s, r'.bh, r'.gh, r'.fr⟩ hx
      · cases hz
/-- a def that may be called and may raise -/
structure ClX (P : Program) (w : World) (K : PySem.W.Frag) (mg : Str → Option Value) (base : Heap) (k : Nat) (x : Str) (n : Nat) (F : Fn) : Prop where
  ex : ∃ (fa : Addr) (fd : FuncData) (ps : List Str), FnOk P w K mg base (L2.CX P w) k fa fd ps (spX K n F) ∧ mg x = some (.ref fa) ∧ PySem.W.keepIn K (.ref fa) = true ∧ Binds K fd ps []
  len : ∀ as z, F as = .ok z → as.length = n
  lex : ∀ as z, F as = .ex z → as.length = n
theorem runF_lex {m n : Nat} {b : En → Out} : ∀ as x, runF m n b as = .ex x → as.length = m := fun as x h => by
  unfold runF at h
  by_cases e : as.length = m
  · exact e
  · rw [if_neg e] at h; cases h
theorem clX_mk {P : Program} {w : World} {K : PySem.W.Frag} {mg : Str → Option Value} {base : Heap} {x : Str} {st : Stmt} {N ps : List Str} {k m n : Nat} {b : En → Out} (d : Dn K mg x st ps) (S : FnScope N ps (defScope st)) (hm : m = ps.length) (hn : n = N.length)
    (h : ∀ (fa : Addr) (cdv : Value) (A : Around) (outer : List Env) (s : Shared) (H : Hp) (E : XK), Room k (A.deeper (PyProof.Rows.envOfC x (defScope st) s.heap.objs.size fa cdv)) → Takes (cxOf (L2.CX P w) P w K mg base N x (defScope st) fa cdv A outer s H E) (outW P w E).w → ∃ t, DSs (cxOf (L2.CX P w) P w K mg base N x (defScope st) fa cdv A outer s H E) (outW P w E) (defBody st) t b) :
    ClX P w K mg base (k + 1) x m (runF m n b) := by
  obtain ⟨fa, fd, F, hm', hb⟩ := d.ex
  exact ⟨⟨fa, fd, ps, fnX_ok F S hm hn (fun cdv A outer s H E hr tk => h fa cdv A outer s H E hr tk), hm', F.kp, hb⟩, runF_len, runF_lex⟩
section
variable {K : PySem.W.Frag} {W : Wi}
theorem ev_callX {F : Fn} {n : Nat} {ta : TA} {f : En → Res (List Vl)} (hn : ∀ as z, F as = .ok z → as.length = n) (hx : ∀ as z, F as = .ex z → as.length = n) (h : EvA K W ta f) : EvD K W (tCallS (spX K n F) (WE W.w) ta) (callX F [] f) := ⟨fun B G0 G env σ H z r e Q q => (by
  obtain ⟨us, e1, e⟩ := Res.bind_eq e
  obtain ⟨w, e2, e3⟩ := Res.bind_eq e
  have hw : z = w ∧ (w.k = .g ∨ w.k = .o) := by
    unfold fin at e3
    split at e3 <;> cases e3
    · exact ⟨rfl, .inl (by assumption)⟩
    · exact ⟨rfl, .inr (by assumption)⟩
  obtain ⟨rfl, hk⟩ := hw
  refine h.ok B G0 G env σ H us r e1 _ fun G1 H1 vs x hl => ?_
  have r1 := r.ext x
  rw [List.map_nil, List.append_nil] at e2
  refine ⟨G1, us.map Vl.ba, r1.gh, hn _ _ e2, hl.args r1, .inl ⟨z, e2, fun G2 H2 v x2 hv => q G2 H2 v (x.trans x2) ?_⟩⟩
  obtain ⟨k, d⟩ := z
  rcases hk with rfl | rfl
  · exact hv
  · exact Rp.from x.hh (show Rp K B G2 H1 H2 ⟨.o, d⟩ v from hv)), fun B G0 G env σ H y r e w Q => by
  rcases Res.bind_ex e with e1 | ⟨us, e1, e⟩
  · exact h.ex B G0 G env σ H y r e1 w _
  rcases Res.bind_ex e with e2 | ⟨z, _, e3⟩
  · refine h.ok B G0 G env σ H us r e1 _ fun G1 H1 vs x hl => ?_
    have r1 := r.ext x
    rw [List.map_nil, List.append_nil] at e2
    exact ⟨G1, us.map Vl.ba, r1.gh, hx _ _ e2, hl.args r1, .inr ⟨y, e2, fun G2 H2 cls d x2 hv => w G2 H2 cls d (x.trans x2) hv⟩⟩
  · exact absurd e3 fin_nx⟩
end
section
variable {X : Cx} {W : Wi} {k j n : Nat} {F : Fn} {x : Str} {p pos : Pos} {e : Expr} {es : List Expr} {ta : TA} {f : En → Res (List Vl)}
theorem de_cx {K : PySem.W.Frag} (c : ClX X.prog X.w X.K X.mg X.base k x n F) (tk : Takes X W.w) (hr : Room j X.A) (ha : DA X W (e :: es) ta f) (hkj : k ≤ j := by decide) (hg : Gl X x := by rfl) (hdb : (x == ("__debug__" : Str)) = false := by decide) (he : starEach (e :: es) X.env = (false, eval e X.env) :: starEach es X.env := by rfl) (hpl : (backTo pos (starEach es X.env)).any (·.1) = false := by rfl) (hK : X.K = K := by rfl) :
    DE X W (.Call (.Name x p) (e :: es) [] pos) (tCallS (spX K n F) (WE W.w) ta) (callX F [] f) := by
  subst hK
  obtain ⟨fa, fd, ps, G, hm, hk, hb⟩ := c.ex
  exact ⟨pe_callS G (hr.mono hkj) hg hm hk hb (fun σ => passAt tk σ) ha.pa hdb he hpl, ev_callX c.len c.lex ha.ev⟩
end
/-! ### raise -/
structure DM (X : Cx) (W : Wi) (e : Expr) (t : St → Hp → XK → Prop) (f : En → Res Exn) : Prop where
  pm : PMk X e t
  ok : ∀ (B G0 G : Hp) (env : En) (σ : L2.St) (H : Hp) (x : Exn), Rel X.K W B G0 G env σ H → f env = .ok x → ∀ Q : XK, (∀ G' H' cls d, Ext G H G' H' → RepX X.K G' H' x cls d → Q cls d H') → t σ H Q
  ne : ∀ env x, f env ≠ .ex x
def raiseO (f : En → Res Exn) : En → Out := fun env => match f env with
  | .ok x => .ex env x
  | _ => .no
theorem ds_raise {X : Cx} {W : Wi} {e : Expr} {t : St → Hp → XK → Prop} {f : En → Res Exn} {pos : Pos} (hc : X.calm = true) (tk : Takes X W.w) (h : DM X W e t f) : DS X W (.Raise (some e) none pos) (fun _ σ H => t σ H fun cls d H' => W.w cls d σ H') (raiseO f) := ⟨ps_raise hc tk h.pm, fun B G0 G env σ H D r k => by
  unfold raiseO at k
  split at k
  · rename_i x e
    exact h.ok B G0 G env σ H x r e _ (k.xok r)
  · exact k.elim⟩
end DL

namespace DL
open PySem L2
/-! ### own exceptions, made to be raised -/
/-- what __init__(self, f, g) that stores both promises -/
def spI (K : PySem.W.Frag) (C : Addr) : List Str → Sp
  | [f] => fun vs H Q _ => ∃ (a : Addr) (u : V), vs = [.ref a, u] ∧ H a = some (exo a C none) ∧ ∀ dx, H dx = none → dx ≠ a → Q .non (upd (upd H dx (exd dx [(f, u)])) a (exo a C (some dx)))
  | [f, g] => fun vs H Q _ => ∃ (a : Addr) (u v : V), vs = [.ref a, u, v] ∧ H a = some (exo a C none) ∧ ∀ dx, H dx = none → dx ≠ a → Q .non (upd (upd (upd H dx (exd dx [(f, u)])) a (exo a C (some dx))) dx (exd dx [(g, v), (f, u)]))
  | _ => fun _ _ _ _ => False
theorem init1 {P : Program} {w : World} {K : PySem.W.Frag} {mg : Str → Option Value} {base : Heap} {qual : Str} {st : Stmt} {fI C : Addr} {fd : FuncData} {k : Nat} {f : Str} (T : OexC K C) (hf : PySem.W.findIn K (.ref C) f = some none) (F : Fun K "__init__" qual st fI fd) (S : FnScope ["self", f] ["self", f] (defScope st))
    (h : ∀ (cdv : Value) (A : Around) (outer : List Env) (s : Shared) (H : Hp) (E : XK), PSs (cxOf CX0 P w K mg base ["self", f] qual (defScope st) fI cdv A outer s H E).nox (defBody st) (tOst K f (tVar 0) (tVar 1))) :
    FnOk P w K mg base CX0 (k + 1) fI fd ["self", f] (spI K C [f]) := by
  refine F.ok S (fun vs H Q E hs => ?_) (fun cdv A outer s H vs Q E hr hs => ?_)
  · obtain ⟨a, u, rfl, _⟩ := hs; rfl
  · obtain ⟨a, u, rfl, ha, q⟩ := hs
    exact ⟨_, h cdv A outer s H E, u, rfl, .ref a, rfl, a, C, rfl, T, hf, .inl ⟨ha, fun dx n ne => q dx n ne⟩⟩
theorem init2 {P : Program} {w : World} {K : PySem.W.Frag} {mg : Str → Option Value} {base : Heap} {qual : Str} {st : Stmt} {fI C : Addr} {fd : FuncData} {k : Nat} {f g : Str} (T : OexC K C) (hf : PySem.W.findIn K (.ref C) f = some none) (hg : PySem.W.findIn K (.ref C) g = some none) (F : Fun K "__init__" qual st fI fd) (S : FnScope ["self", f, g] ["self", f, g] (defScope st))
    (h : ∀ (cdv : Value) (A : Around) (outer : List Env) (s : Shared) (H : Hp) (E : XK), PSs (cxOf CX0 P w K mg base ["self", f, g] qual (defScope st) fI cdv A outer s H E).nox (defBody st) (tSeq (tOst K f (tVar 0) (tVar 1)) (tOst K g (tVar 0) (tVar 2)))) :
    FnOk P w K mg base CX0 (k + 1) fI fd ["self", f, g] (spI K C [f, g]) := by
  refine F.ok S (fun vs H Q E hs => ?_) (fun cdv A outer s H vs Q E hr hs => ?_)
  · obtain ⟨a, u, v, rfl, _⟩ := hs; rfl
  · obtain ⟨a, u, v, rfl, ha, q⟩ := hs
    refine ⟨_, h cdv A outer s H E, u, rfl, .ref a, rfl, a, C, rfl, T, hf, .inl ⟨ha, fun dx n ne => ?_⟩⟩
    exact ⟨v, rfl, .ref a, rfl, a, C, rfl, T, hg, .inr ⟨dx, [(f, u)], upd_same, by rw [upd_ne ne, upd_same], (by show 1 ≤ 900; decide), q dx n ne⟩⟩
/-- an own exception class whose __init__ stores ns -/
structure DX (P : Program) (w : World) (K : PySem.W.Frag) (mg : Str → Option Value) (base : Heap) (x : Str) (ns : List Str) : Prop where
  ex : ∃ (C fI : Addr) (fd : FuncData) (ps : List Str), mg x = some (.ref C) ∧ PySem.W.nsIn K mainGlobals x = some (some (.ref C)) ∧ OexC K C ∧ PySem.W.findIn K (.ref C) "__init__" = some (some (.ref fI)) ∧ PySem.W.typeIn K (.ref fI) = some (.type "function") ∧ Binds K fd ps [] ∧ FnOk P w K mg base CX0 1 fI fd ps (spI K C ns)
  few : ns.length = 1 ∨ ∃ f g, ns = [f, g] ∧ f ≠ g
/-- where the class x stands -/
def adr (K : PySem.W.Frag) (x : Str) : Addr := match PySem.W.nsIn K mainGlobals x with
  | some (some (.ref C)) => C
  | _ => 0
theorem adr_eq {K : PySem.W.Frag} {x : Str} {C : Addr} (h : PySem.W.nsIn K mainGlobals x = some (some (.ref C))) : adr K x = C := by
  unfold adr
  rw [h]
def mkE (x : Str) (ns : List Str) (f : En → Res (List Vl)) : En → Res Exn := fun env => match f env with
  | .ok us => if us.all Vl.keep = true ∧ us.length = ns.length then .ok ⟨x, ns.zip (us.map Vl.d)⟩ else .no
  | _ => .no
theorem spI_mono {K : PySem.W.Frag} {C : Addr} {ns : List Str} {vs : List V} {H : Hp} {Q Q' : VK} {E E' : XK} (h : spI K C ns vs H Q E) (k : ∀ v H', Q v H' → Q' v H') : spI K C ns vs H Q' E' := by
  match ns, h with
  | [f], ⟨a, u, e, ha, q⟩ => exact ⟨a, u, e, ha, fun dx n ne => k _ _ (q dx n ne)⟩
  | [f, g], ⟨a, u, v, e, ha, q⟩ => exact ⟨a, u, v, e, ha, fun dx n ne => k _ _ (q dx n ne)⟩
section
variable {X : Cx} {W : Wi} {j : Nat} {x : Str} {ns : List Str} {p pos : Pos} {e : Expr} {es : List Expr} {ta : TA} {f : En → Res (List Vl)}
theorem dm_mk {K : PySem.W.Frag} (c : DX X.prog X.w X.K X.mg X.base x ns) (hr : Room j X.A) (ha : DA X W (e :: es) ta f) (hkj : 2 ≤ j := by decide) (hg : Gl X x := by rfl) (hdb : (x == ("__debug__" : Str)) = false := by decide) (he : starEach (e :: es) X.env = (false, eval e X.env) :: starEach es X.env := by rfl) (hpl : (backTo pos (starEach es X.env)).any (·.1) = false := by rfl) (hK : X.K = K := by rfl) :
    DM X W (.Call (.Name x p) (e :: es) [] pos) (tMkO (adr K x) (spI K (adr K x) ns) [] ta) (mkE x ns f) := by
  subst hK
  obtain ⟨⟨C, fI, fd, ps, hm, hn, T, iC, tI, hb, F⟩, few⟩ := c
  rw [adr_eq hn]
  refine ⟨pmk_oex T iC tI F (hr.mono hkj) hb .nil pass0 hg hm ha.pa hdb he hpl, fun B G0 G env σ H y r e Q q => ?_, fun env y h => ?_⟩
  · unfold mkE at e
    split at e
    · rename_i us e1
      obtain ⟨⟨hk, hl⟩, rfl⟩ := if_ok e
      refine ha.ev.ok B G0 G env σ H us r e1 _ fun G1 H1 vs x1 l1 => ⟨?_, fun a hna => ?_⟩
      · rw [l1.len, hl]
        rcases few with h | ⟨f, g, rfl, _⟩
        · rw [h]; decide
        · show 2 ≤ 1000; decide
      · have rl := r.ext x1
        have rep := l1.keep hk
        have hlen : vs.length = ns.length := by rw [l1.len, hl]
        have hnz : ns.zip (us.map Vl.d) ≠ [] := by
          intro z
          have hz := congrArg List.length z
          rw [List.length_zip, List.length_map, hl, Nat.min_self] at hz
          rcases few with h | ⟨f, g, rfl, _⟩
          · rw [h] at hz; cases hz
          · cases hz
        have fin : ∀ (d : Addr) (fs : List (Str × V)) (H2 : Hp), H1 d = none → d ≠ a → (∀ b o, H1 b = some o → b ≠ a → b ≠ d → H2 b = some o) → (∀ fn y, (fn, y) ∈ ns.zip (us.map Vl.d) → ∃ v, fs.lookup fn = some v ∧ Rep X.K G1 v y) → Q (.ref C) (some d) (upd (del H2 a) d (.xd fs)) := by
          intro d fs H2 hd hda hb2 hfs
          have sm : Same H1 (upd (del H2 a) d (.xd fs)) := fun b o hbo => by
            have nb : b ≠ a := fun z => by rw [z, hna] at hbo; cases hbo
            have nd : b ≠ d := fun z => by rw [z, hd] at hbo; cases hbo
            rw [upd_ne nd, del_ne nb]
            exact hb2 b o hbo nb nd
          have gd : G1 d = none := x1.gh.free hd
          have sg : Same G1 (upd G1 d (.xd fs)) := same_upd (Same.refl _) gd
          refine q (upd G1 d (.xd fs)) _ _ _ ⟨x1.gg.trans sg, x1.hh.trans sm, fun b o hb => ?_, fun b g1 g2 => ?_⟩ ⟨C, rfl, hn, fun z => absurd z hnz, fun _ => ⟨d, fs, rfl, upd_same, fun fn y m => ?_⟩⟩
          · by_cases z : b = d
            · rw [z, upd_same] at hb ⊢; exact hb
            · rw [upd_ne z] at hb
              exact sm b o (x1.gh b o hb)
          · by_cases z : b = d
            · rw [z]; exact x1.hh.free hd
            · rw [upd_ne z] at g2
              exact x1.fr b g1 g2
          · obtain ⟨v, e1, e2⟩ := hfs fn y m
            exact ⟨v, e1, e2.mono sg⟩
        rcases few with h1 | ⟨f1, f2, rfl, hne⟩
        · match ns, vs, us, h1, hlen, hl, rep with
          | [f1], [u1], [w1], _, _, _, rep =>
            refine ⟨a, u1, rfl, upd_same, fun d hd hda => ⟨rfl, d, [(f1, u1)], upd_same, by rw [upd_ne hda, upd_same], by rw [upd_ne hda] at hd; exact hd, ?_⟩⟩
            rw [upd_ne hda] at hd
            refine fin d _ _ hd hda (fun b o hbo nb nd => by rw [upd_ne nb, upd_ne nd, upd_ne nb]; exact hbo) fun fn y hy => ?_
            cases rep with
            | cons r1 _ =>
              rcases List.mem_cons.1 hy with z | z
              · cases z
                exact ⟨u1, by simp [List.lookup], r1⟩
              · cases z
        · match vs, us, hlen, hl, rep with
          | [u1, u2], [w1, w2], _, _, rep =>
            refine ⟨a, u1, u2, rfl, upd_same, fun d hd hda => ⟨rfl, d, [(f2, u2), (f1, u1)], by rw [upd_ne (Ne.symm hda), upd_same], upd_same, by rw [upd_ne hda] at hd; exact hd, ?_⟩⟩
            rw [upd_ne hda] at hd
            refine fin d _ _ hd hda (fun b o hbo nb nd => by rw [upd_ne nd, upd_ne nb, upd_ne nd, upd_ne nb]; exact hbo) fun fn y hy => ?_
            cases rep with
            | cons r1 rr =>
              cases rr with
              | cons r2 _ =>
                rcases List.mem_cons.1 hy with z | z
                · cases z
                  have : (f1 == f2) = false := by simpa using hne
                  exact ⟨u1, by simp [List.lookup, this], r1⟩
                · rcases List.mem_cons.1 z with z | z
                  · cases z
                    exact ⟨u2, by simp [List.lookup], r2⟩
                  · cases z
    · cases e
  · unfold mkE at h
    split at h
    · exact if_nx h
    · cases h
/-- an own exception class without fields -/
structure DX0 (K : PySem.W.Frag) (mg : Str → Option Value) (x : Str) : Prop where
  ex : ∃ (C : Addr) (bmB : List Value) (B newId initId : String), mg x = some (.ref C) ∧ PySem.W.nsIn K mainGlobals x = some (some (.ref C)) ∧ ExcBaseFacts B newId initId bmB ∧ PySem.W.excIn K C bmB newId = true ∧ PySem.W.keepIn K (.ref C) = true ∧ PySem.W.subIn K (.ref C) (.type "BaseException") = some true ∧ PySem.W.typeIn K (.ref C) = some (.type "type")
theorem pmk_own0 {C : Addr} {bmB : List Value} {B newId initId : String} (F : ExcBaseFacts B newId initId bmB) (q : PySem.W.excIn X.K C bmB newId = true) (gC : X.mg x = some (.ref C)) (kC : PySem.W.keepIn X.K (.ref C) = true) (r : Raises X (.ref C)) (hg : Gl X x)
    (hdb : (x == ("__debug__" : Str)) = false := by decide) : PMk X (.Call (.Name x p) [] [] pos) (fun _ H Q => Q (.ref C) none H) := by
  intro pn sh st H0 Q inv hq
  refine wpAny_Call_Name_kw (ld_glob inv hg gC (PySem.W.callWith_K0 inv.kIn kC ?_) hdb)
  obtain ⟨z1, z2, z3, z4, z5, z6, z7, z8, z9, y0, y1, y2, y3, y4, y5, y6, y7, atC, atN, noI, tab⟩ := exc_obj inv.kIn q
  exact wpAny_call_exc_subT F tab atC atN noI (fun new b made => mk_of inv made r hq (inv.hok.gone made.new)) (Nat.zero_le _)
theorem dm_mk0 {K : PySem.W.Frag} (c : DX0 X.K X.mg x) (hg : Gl X x := by rfl) (hdb : (x == ("__debug__" : Str)) = false := by decide) (hK : X.K = K := by rfl) :
    DM X W (.Call (.Name x p) [] [] pos) (fun _ H Q => Q (.ref (adr K x)) none H) (fun _ => .ok ⟨x, []⟩) := by
  subst hK
  obtain ⟨C, bmB, B, newId, initId, hm, hn, F, q, kC, sC, tC⟩ := c
  rw [adr_eq hn]
  exact ⟨pmk_own0 F q hm kC (raises_own sC tC) hg hdb, fun B G0 G env σ H y r e Q k => by
    cases e
    exact k G H _ _ (Ext.refl r.gh) ⟨C, rfl, hn, fun _ => rfl, fun z => absurd rfl z⟩, fun env y h => nomatch h⟩
end
end DL

namespace DL
open PySem L2 PySem.W
/-! ### try: .. except T as n: .. -/
def isXc : Sl → Bool
  | .xc _ => true
  | _ => false
def noXc (e : En) : Bool := e.all fun s => !isXc s
/-- behind the suite: n is gone -/
def gone (i : Nat) : Out → Out
  | .nx e => if noXc (e.set i .no) = true then .nx (e.set i .no) else .no
  | .bk e => if noXc (e.set i .no) = true then .bk (e.set i .no) else .no
  | .ct e => if noXc (e.set i .no) = true then .ct (e.set i .no) else .no
  | .rt u => .rt u
  | _ => .no
def tryO (i : Nat) (cm : Str → Option Bool) (f su : En → Out) : En → Out := fun env => match f env with
  | .ex e x => match cm x.c with
    | some true => if noXc e = true then gone i (su (e.set i (.xc x))) else .no
    | some false => .ex e x
    | none => .no
  | o => o
section
variable {K : PySem.W.Frag} {W W' : Wi} {B G0 G : Hp} {env : En} {σ : L2.St} {H : Hp}
theorem Rel.rho (r : Rel K W B G0 G env σ H) (h : W.ρ = W'.ρ) (hT : W.T = W'.T) : Rel K W' B G0 G env σ H := by
  refine ⟨r.g0, r.gh, r.bh, r.fr, r.len, fun i s o e1 e2 => ?_, r.ds⟩
  have x := r.sl i s o e1 e2
  match s, x with
  | .no, _ => trivial
  | .vl true d, x => exact x
  | .vl false d, x => exact x
  | .xc y, ⟨y1, y2⟩ => exact ⟨h ▸ y1, h ▸ y2⟩
  | .ow xs, x => exact x
  | .om t xs, ⟨L, y1, y2, y3, y4⟩ => exact ⟨L, y1, y2, y3, y4.mono (Same.refl _) rfl hT⟩
theorem Rel.noXc (r : Rel K W B G0 G env σ H) (h : DL.noXc env = true) (hT : W.T = W'.T := by rfl) : Rel K W' B G0 G env σ H := by
  refine ⟨r.g0, r.gh, r.bh, r.fr, r.len, fun i s o e1 e2 => ?_, r.ds⟩
  have x := r.sl i s o e1 e2
  match s, x with
  | .no, _ => trivial
  | .vl true d, x => exact x
  | .vl false d, x => exact x
  | .xc y, _ =>
    have := List.all_eq_true.1 h _ (List.mem_of_getElem? e1)
    cases this
  | .ow xs, x => exact x
  | .om t xs, ⟨L, y1, y2, y3, y4⟩ => exact ⟨L, y1, y2, y3, y4.mono (Same.refl _) rfl hT⟩
theorem Rel.setXc (r : Rel K W B G0 G env σ H) (h : DL.noXc env = true) {a : Addr} {cls : Value} {d : Option Addr} {x : Exn} {w : WX} (hx : RepX K G H x cls d) (i : Nat) : Rel K ⟨w, (a, cls, d), W.T⟩ B G0 G (env.set i (.xc x)) (σ.set i (some (.ref a))) H := by
  have r' : Rel K ⟨w, (a, cls, d), W.T⟩ B G0 G env σ H := r.noXc h
  refine ⟨r'.g0, r'.gh, r'.bh, r'.fr, by rw [List.length_set, List.length_set]; exact r'.len, fun j s o q1 q2 => ?_, fun j k s1 t1 L hjk q1 q2 o1 o2 q3 q4 => ?_⟩
  · rcases set_get q1 with ⟨rfl, rfl⟩ | ⟨n1, q1⟩
    · rcases set_get q2 with ⟨_, rfl⟩ | ⟨n2, _⟩
      · exact ⟨rfl, hx⟩
      · exact absurd rfl n2
    · rcases set_get q2 with ⟨z, _⟩ | ⟨_, q2⟩
      · exact absurd z n1
      · exact r'.sl j s o q1 q2
  · rcases set_get q1 with ⟨_, rfl⟩ | ⟨n1, q1⟩
    · cases o1
    · rcases set_get q2 with ⟨_, rfl⟩ | ⟨n2, q2⟩
      · cases o2
      · rcases set_get q3 with ⟨z, _⟩ | ⟨_, q3⟩
        · exact absurd z n1
        · rcases set_get q4 with ⟨z, _⟩ | ⟨_, q4⟩
          · exact absurd z n2
          · exact r'.ds j k _ _ L hjk q1 q2 o1 o2 q3 q4
end
/-- inside the suite -/
abbrev suW (T : Tl) (a : Addr) (cls : Value) (d : Option Addr) : Wi := ⟨fun _ _ _ _ => False, (a, cls, d), T⟩
theorem sv_try {K : PySem.W.Frag} {W : Wi} {c : Value} {i : Nat} {cm : Str → Option Bool} {tb : WX → TS} {ts : Addr → Value → Option Addr → TS} {f su : En → Out}
    (hcm : ∀ x b C, cm x = some b → PySem.W.nsIn K mainGlobals x = some (some (.ref C)) → PySem.W.exmOne K (.ref C) c = some b)
    (hb : ∀ w : WX, SvD K ⟨w, W.ρ, W.T⟩ (tb w) f) (hs : ∀ a cls d, SvD K (suW W.T a cls d) (ts a cls d) su) :
    SvD K W (fun D σ H => tb (wAs K c i ts W.w D) D σ H) (tryO i cm f su) := fun B G0 G env σ H D r k => by
  refine hb _ B G0 G env σ H D (r.rho rfl rfl) ?_
  unfold tryO at k
  cases e : f env with
  | nx e' => rw [e] at k; exact fun G' σ' H' s r' => k G' σ' H' s (r'.rho rfl rfl)
  | bk e' => rw [e] at k; exact fun G' σ' H' s r' => k G' σ' H' s (r'.rho rfl rfl)
  | ct e' => rw [e] at k; exact fun G' σ' H' s r' => k G' σ' H' s (r'.rho rfl rfl)
  | rt u => rw [e] at k; exact fun G' H' v s r' hv => k G' H' v s (r'.rho rfl rfl) hv
  | no => rw [e] at k; exact k
  | ex e' x =>
    rw [e] at k
    intro G' σ' H' cls d s r' hx
    have r1 : Rel K W B G0 G' e' σ' H' := r'.rho rfl rfl
    obtain ⟨C, rfl, hC, hfs⟩ := id hx
    dsimp only at k
    cases ec : cm x.c with
    | none => rw [ec] at k; exact k.elim
    | some b =>
      rw [ec] at k
      refine ⟨b, hcm _ _ _ ec hC, fun hb' a hna => ?_, fun hb' => ?_⟩
      · subst hb'
        dsimp only at k
        split at k
        · rename_i hno
          refine hs a (.ref C) d B G0 G' _ _ H' _ (r1.setXc hno hx i) ?_
          cases eo : su (e'.set i (.xc x)) with
          | nx e2 =>
            rw [eo] at k
            unfold gone at k
            intro G2 σ2 H2 s2 r2
            dsimp only at k
            split at k
            · rename_i hn2
              exact k G2 _ H2 (s.trans s2) ((r2.unset i).noXc hn2)
            · exact k.elim
          | bk e2 =>
            rw [eo] at k
            unfold gone at k
            intro G2 σ2 H2 s2 r2
            dsimp only at k
            split at k
            · rename_i hn2
              exact k G2 _ H2 (s.trans s2) ((r2.unset i).noXc hn2)
            · exact k.elim
          | ct e2 =>
            rw [eo] at k
            unfold gone at k
            intro G2 σ2 H2 s2 r2
            dsimp only at k
            split at k
            · rename_i hn2
              exact k G2 _ H2 (s.trans s2) ((r2.unset i).noXc hn2)
            · exact k.elim
          | rt u =>
            rw [eo] at k
            exact fun G2 H2 v s2 r2 hv => k G2 H2 v (s.trans s2) (r2.noXc rfl) hv
          | ex e2 y => rw [eo] at k; exact k.elim
          | no => rw [eo] at k; exact k.elim
        · exact k.elim
      · subst hb'
        exact k G' σ' H' (.ref C) d s r1 hx
theorem takes_self {X : Cx} {w : WX} {pn : List (Addr × Obj)} {xe : Value → Shared → Prop} : Takes (X.tr pn (XE (X.tr pn xe) w)) w := fun u s' ⟨a, B, sI, pins, σ, H, cls, d, e, I, h1, h2, h3, h4, h5, h6, h7⟩ => ⟨a, B, sI, pins, σ, H, cls, d, e, I.wish xe, h1, h2, h3, h4, h5, h6, h7⟩
theorem ds_try {X : Cx} {W : Wi} {x n : Str} {c : Value} {i : Nat} {cm : Str → Option Bool} {body suite : List Stmt} {b₀ : Stmt} {np pos pos' : Pos} {tb : WX → TS} {ts : Addr → Value → Option Addr → TS} {f su : En → Out}
    (hcm : ∀ x b C, cm x = some b → PySem.W.nsIn X.K mainGlobals x = some (some (.ref C)) → PySem.W.exmOne X.K (.ref C) c = some b)
    (hs : X.stack = X.env :: X.outer) (hf : X.env.frame = some X.env.locals) (hN : X.N.Nodup) (hc : Names X x c) (tk : Takes X W.w)
    (hb : ∀ (w : WX) (pn : List (Addr × Obj)) (xe : Value → Shared → Prop), Takes (X.tr pn xe) w → DSs (X.tr pn xe) ⟨w, W.ρ, W.T⟩ body (tb w) f)
    (hsu : ∀ (a : Addr) (oe : Obj) (cls : Value) (d : Option Addr) (pn : List (Addr × Obj)), Zc cls d oe → (∃ vs, oe.data = .fields vs) → DSs (X.suite a ((a, oe) :: pn)) (suW W.T a cls d) (b₀ :: suite) (ts a cls d) su)
    (hi : X.N[i]? = some n := by rfl) (hln : X.env.kindOf n = some .local := by rfl) :
    DS X W (.Try body [.ExceptHandler (some (.Name x np)) (some n) (b₀ :: suite) pos'] [] [] pos) (fun D σ H => tb (wAs X.K c i ts W.w D) D σ H) (tryO i cm f su) :=
  ⟨ps_try_as hs hf hN hi hln hc tk (fun w pn xe h1 _ => (hb w pn xe h1).ps) (fun a oe cls d pn z1 z2 => (hsu a oe cls d pn z1 z2).ps), sv_try hcm (fun w => (hb w [] (XE (X.tr [] fun _ _ => True) w) takes_self).sv) fun a cls d => (hsu a { cls := cls, dict := d, data := .fields #[] } cls d [] ⟨rfl, rfl⟩ ⟨_, rfl⟩).sv⟩
/-- what the suite reads of the caught one, of class cn -/
def xfE (i : Nat) (cn fn : Str) : En → Res Vl := fun env => match env[i]? with
  | some (.xc x) => if x.c = cn then match x.fs.lookup fn with
    | some d => .ok ⟨.g, d⟩
    | none => .no else .no
  | _ => .no
theorem lookup_mem {fn : Str} {d : D} : ∀ {l : List (Str × D)}, l.lookup fn = some d → (fn, d) ∈ l
  | [], h => by cases h
  | (g, e) :: l, h => by
    by_cases hg : fn = g
    · subst hg
      simp [List.lookup] at h
      subst h
      exact List.mem_cons_self
    · have : (fn == g) = false := by simpa using hg
      simp [List.lookup, this] at h
      exact List.mem_cons_of_mem _ (lookup_mem h)
theorem xfE_ne {i : Nat} {cn fn : Str} {env : En} {x : Exn} : xfE i cn fn env ≠ .ex x := by
  unfold xfE
  repeat' split
  all_goals exact fun z => by cases z
/-- the caught one, as the slot says -/
theorem Rel.caught {K : PySem.W.Frag} {W : Wi} {B G0 G H : Hp} {env : En} {σ : L2.St} {i : Nat} {x : Exn} (r : Rel K W B G0 G env σ H) (ex : env[i]? = some (.xc x)) : σ[i]? = some (some (.ref W.ρ.1)) ∧ RepX K G H x W.ρ.2.1 W.ρ.2.2 := by
  have hl := r.len
  have hi : i < σ.length := by
    have := (List.getElem?_eq_some_iff.mp ex).1
    omega
  have eo : σ[i]? = some σ[i] := List.getElem?_eq_getElem hi
  obtain ⟨e1, e2⟩ := r.sl i _ _ ex eo
  exact ⟨by rw [eo, e1], e2⟩
theorem ev_xf {tl : Tl} {K : PySem.W.Frag} {a : Addr} {cls : Value} {d : Option Addr} {i : Nat} {cn fn : Str} : EvD K (suW tl a cls d) (tXf a cls d (adr K cn) fn (tVar i)) (xfE i cn fn) := ⟨fun B G0 G env σ H u r e Q q => (by
  unfold xfE at e
  split at e
  · rename_i x ex
    split at e
    · rename_i hc
      split at e
      · rename_i y hy
        cases e
        obtain ⟨eo, C', h1, h2, h0, h3⟩ := r.caught ex
        obtain ⟨dd, l, g1, g2, g3⟩ := h3 (fun z => by rw [z] at hy; cases hy)
        obtain ⟨v, k1, k2⟩ := g3 _ _ (lookup_mem hy)
        rw [hc] at h2
        refine ⟨.ref a, eo, rfl, by rw [adr_eq h2]; exact h1, dd, l, v, g1, r.gh _ _ g2, k1, q G H v (Ext.refl r.gh) k2⟩
      · cases e
    · cases e
  · cases e), fun B G0 G env σ H x r e => absurd e xfE_ne⟩
theorem de_xf {tl : Tl} {X : Cx} {a : Addr} {oe : Obj} {cls : Value} {d : Option Addr} {pn : List (Addr × Obj)} {n fn : Str} {p pos : Pos} (cn : Str) (T : XfC X.K (adr X.K cn)) (hno : PySem.W.findIn X.K (.ref (adr X.K cn)) fn = some none) (hz : Zc cls d oe) (hf : ∃ vs, oe.data = .fields vs) (i : Nat)
    (hN : X.N[i]? = some n := by rfl) (hv : Vis X.env.scope n := by first | exact Or.inl rfl | exact Or.inr (Or.inl rfl) | exact Or.inr (Or.inr rfl)) (hd : (n == ("__debug__" : Str)) = false := by decide) (hcd : (n == ("__classdict__" : Str)) = false := by decide)
    (hb : attributeBase (.Name n p) fn X.env (eval (.Name n p) X.env) = eval (.Name n p) X.env := by rfl) : DE (X.suite a ((a, oe) :: pn)) (suW tl a cls d) (.Attribute (.Name n p) fn pos) (tXf a cls d (adr X.K cn) fn (tVar i)) (xfE i cn fn) :=
  ⟨pe_xf T hno hz hf (pe_var (X := X.suite a ((a, oe) :: pn)) hN hv hd hcd) hb, ev_xf⟩
/-! ### isinstance of the caught one -/
def rIsX (K : PySem.W.Frag) (D a : Addr) (cls : Value) (d : Option Addr) : List V → Hp → VK → Prop := fun xs H Q => ∃ (c : V) (cv : Value) (b : Bool), xs = [.ref a, c] ∧ cls = .ref D ∧ (∀ dd, d = some dd → ∃ l, H dd = some (.xd l)) ∧ (∀ u, RelV c u → u = cv) ∧ PySem.W.kitOne K (.ref D) cv = some b ∧ Q (.bl b) H
theorem call_isX {X : Cx} {a D : Addr} {oe : Obj} {cls : Value} {d : Option Addr} {pn : List (Addr × Obj)} (C : ExcC X.K D) (hz : Zc cls d oe) (hf : ∃ vs, oe.data = .fields vs) : CallR (X.suite a ((a, oe) :: pn)) (.builtin "isinstance") (rIsX X.K D a cls d) := by
  intro pins s σ H xs us Q I r h
  obtain ⟨c, cv, b, rfl, hcls, hdd, hcv, e, q⟩ := h
  cases r with
  | cons rx rr =>
    cases rr with
    | cons rt rr =>
      cases rr
      cases rx
      have ec := hcv _ rt
      subst ec
      subst hcls
      obtain ⟨hget, _⟩ := I.pin (a, oe) (List.mem_append.mpr (.inl List.mem_cons_self))
      obtain ⟨vs, hv⟩ := hf
      have J : ∃ od, PySem.W.InstAt s.heap a oe D od := by
        cases d with
        | none => exact ⟨none, hget, hz.1, by unfold PySem.W.notCls; rw [hv] <;> rfl, by rw [hz.2]; trivial⟩
        | some dd =>
          obtain ⟨l, hl⟩ := hdd dd rfl
          have hx : ObjOk X.prog X.w H s.heap dd (.xd l) := I.hok dd _ hl
          obtain ⟨mA, hns, hr⟩ := hx
          obtain ⟨od, ho, _⟩ := lookIn_ns hns
          exact ⟨some od, hget, hz.1, by unfold PySem.W.notCls; rw [hv] <;> rfl, by rw [hz.2]; exact ho⟩
      obtain ⟨od, J⟩ := J
      exact PySem.W.kia_one (kitx_exc (by obtain ⟨cd, hc, _⟩ := PySem.W.any_some C.hd; rw [hc]; rfl) C.hg C.hk C.hs C.ha C.hn C.ht C.hm) I.kIn J e (fun z => nomatch z) fun tk => ⟨.bl b, H, I.kept (t' := tk) fun _ _ z => z, rfl, q⟩
def isXE (i : Nat) (cn : Str) (b : Bool) : En → Res Vl := fun env => match env[i]? with
  | some (.xc x) => if x.c = cn then .ok ⟨.g, .bl b⟩ else .no
  | _ => .no
theorem isXE_ne {i : Nat} {cn : Str} {b : Bool} {env : En} {x : Exn} : isXE i cn b env ≠ .ex x := by
  unfold isXE
  repeat' split
  all_goals exact fun z => by cases z
/-- whether a caught one of class cn has its dict is told by what was raised -/
theorem ev_isX {tl : Tl} {K : PySem.W.Frag} {a : Addr} {cls : Value} {d : Option Addr} {i : Nat} {cn : Str} {b : Bool} {v : V} {cv : Value} (hv : ∀ u, RelV v u → u = cv) (hk : PySem.W.kitOne K (.ref (adr K cn)) cv = some b) :
    EvD K (suW tl a cls d) (tCB (rIsX K (adr K cn) a cls d) (tCons (tVar i) (tCons (tC v) tNil))) (isXE i cn b) := ⟨fun B G0 G env σ H u r e Q q => (by
  unfold isXE at e
  split at e
  · rename_i x ex
    split at e
    · rename_i hc
      cases e
      obtain ⟨eo, C', h1, h2, h0, h3⟩ := r.caught ex
      have h2' := h2
      rw [hc] at h2
      refine ⟨.ref a, eo, v, cv, b, rfl, by rw [adr_eq h2]; exact h1, fun dd hdd => ?_, hv, hk, q G H _ (Ext.refl r.gh) (.bl _)⟩
      by_cases hn : x.fs = []
      · have := h0 hn
        rw [show d = none from this] at hdd; cases hdd
      · obtain ⟨dd', l, g1, g2, _⟩ := h3 hn
        have g1 : d = some dd' := g1
        rw [hdd] at g1
        cases g1
        exact ⟨l, r.gh _ _ g2⟩
    · cases e
  · cases e), fun B G0 G env σ H x r e => absurd e isXE_ne⟩
end DL

namespace DL
open PySem L2
/-! ### in, not in -/
def memD (x : D) (ys : List D) : Bool := ys.any fun y => PyData.eqv (toPy y) (toPy x)
def inB (x : D) (y : D) : Res Bool := match y with
  | .lst ys => if (flat x && ys.all flat) = true then .ok (memD x ys) else if SeqAt.shaped (toPy x) = true ∧ SeqAt.shaped (.list (toPyL ys)) = true then .ok (memD x ys) else .no
  | .fz ys => if (flat x && ys.all flat) = true then .ok (memD x ys) else if SeqAt.shaped (toPy x) = true ∧ SeqAt.shaped (.list (toPyL ys)) = true then .ok (memD x ys) else .no
  | .tup ys => if (flat x && ys.all flat) = true then .ok (memD x ys) else .no
  | _ => .no
def inP (neg : Bool) : Vl → Vl → Res Vl := fun u w => (inB u.d w.d).bind fun b => .ok ⟨.g, .bl (if neg then !b else b)⟩
section
variable {K : PySem.W.Frag} {G : Hp}
theorem flat_V {v : V} {d : D} (h : Rep K G v d) (f : flat d = true) : flatV v = true := by
  cases h <;> first
    | rfl
    | cases f
theorem flat_Vs : ∀ {vs : List V} {ds : List D}, RepL K G vs ds → ds.all flat = true → vs.all flatV = true
  | _, _, .nil, _ => rfl
  | _, _, .cons h l, f => by
    rw [List.all_cons, Bool.and_eq_true] at f
    rw [List.all_cons, flat_V h f.1, flat_Vs l f.2]
    rfl
theorem eqV_py {v w : V} {d e : D} (h : Rep K G v d) (k : Rep K G w e) (f : flat d = true) (g : flat e = true) : eqV v w = PyData.eqv (toPy d) (toPy e) := by
  cases h <;> first
    | (cases f; done)
    | (cases k <;> first
        | (cases g; done)
        | rfl
        | (simp [eqV, toPy, PyData.eqv]))
theorem inV_py {v : V} {d : D} (h : Rep K G v d) (f : flat d = true) : ∀ {vs : List V} {ds : List D}, RepL K G vs ds → ds.all flat = true → inV v vs = memD d ds
  | _, _, .nil, _ => rfl
  | _, _, .cons k l, g => by
    rw [List.all_cons, Bool.and_eq_true] at g
    have ih := inV_py h f l g.2
    unfold inV memD at ih ⊢
    rw [List.any_cons, List.any_cons, ih, eqV_py k h g.1 f]
theorem any_py {d : D} : ∀ {ds : List D}, (toPyL ds).any (fun z => PyData.eqv z (toPy d)) = memD d ds
  | [] => rfl
  | y :: ds => by
    have ih := any_py (d := d) (ds := ds)
    unfold memD at ih ⊢
    rw [List.any_cons, ← ih]
    rfl
def rInB (K : PySem.W.Frag) : R2 := fun x y H Q => rIn K false x y H Q ∨ rInD K x y H Q
def rNotInB (K : PySem.W.Frag) : R2 := fun x y H Q => rIn K true x y H Q ∨ rNotInD K x y H Q
theorem inP_nx {neg : Bool} (u w : Vl) (x : Exn) : inP neg u w ≠ .ex x := by
  unfold inP
  refine bind_nx (fun x => ?_) fun _ _ z => nomatch z
  unfold inB
  repeat' split
  all_goals exact fun z => by cases z
theorem in_core {W : Wi} {B G0 G' H' H : Hp} {env : En} {σ : L2.St} {u w : Vl} {x y : V} {b : Bool} (rl : Rel K W B G0 G' env σ H') (hu : Rp K B G' H H' u x) (hw : Rp K B G' H H' w y) (e : inB u.d w.d = .ok b) :
    (∃ p xs, y = .ref p ∧ (SqL K H' p xs ∨ SqT K H' p xs) ∧ flatV x = true ∧ xs.all flatV = true ∧ inV x xs = b) ∨ (∃ d ds, Dp K H' x d ∧ Dp K H' y (.list ds) ∧ SeqAt.shaped d = true ∧ SeqAt.shaped (.list ds) = true ∧ (ds.any fun z => PyData.eqv z d) = b) := by
  have a := hu.look rl
  have c := hw.look rl
  unfold inB at e
  split at e
  · rename_i ys ey
    rw [ey] at c
    obtain ⟨p, vs, rfl, h1, h2⟩ := c.lst_inv
    split at e
    · rename_i hf
      cases e
      rw [Bool.and_eq_true] at hf
      exact .inl ⟨p, vs, rfl, .inl (SqL.of h1), flat_V a hf.1, flat_Vs h2 hf.2, inV_py a hf.1 h2 hf.2⟩
    · obtain ⟨⟨c1, c2⟩, rfl⟩ := if_ok e
      exact .inr ⟨_, _, a.dp c1, c.dp c2, c1, c2, any_py⟩
  · rename_i ys ey
    rw [ey] at c
    obtain ⟨p, vs, rfl, h1, h2⟩ := c.fz_inv
    split at e
    · rename_i hf
      cases e
      rw [Bool.and_eq_true] at hf
      exact .inl ⟨p, vs, rfl, .inl h1, flat_V a hf.1, flat_Vs h2 hf.2, inV_py a hf.1 h2 hf.2⟩
    · obtain ⟨⟨c1, c2⟩, rfl⟩ := if_ok e
      exact .inr ⟨_, _, a.dp c1, c.dp c2, c1, c2, any_py⟩
  · rename_i ys ey
    rw [ey] at c
    obtain ⟨p, vs, rfl, h1, h2⟩ := c.tup_inv
    obtain ⟨hf, rfl⟩ := if_ok e
    rw [Bool.and_eq_true] at hf
    exact .inl ⟨p, vs, rfl, .inr h1, flat_V a hf.1, flat_Vs h2 hf.2, inV_py a hf.1 h2 hf.2⟩
  · cases e
theorem snd_in : Snd2 K (rInB K) (inP false) := ⟨fun B G0 G G' env σ H H' u w z x y Q rl hu hw e q => (by
  obtain ⟨b, e1, e2⟩ := Res.bind_eq e
  cases e2
  rcases in_core rl hu hw e1 with ⟨p, xs, h1, h2, h3, h4, h5⟩ | ⟨d, ds, h1, h2, h3, h4, h5⟩
  · exact .inl ⟨p, xs, h1, h2, h3, h4, by rw [h5]; exact q G' H' _ (Ext.refl rl.gh) (.bl _)⟩
  · exact .inr ⟨d, ds, h1, h2, h3, h4, by rw [h5]; exact q G' H' _ (Ext.refl rl.gh) (.bl _)⟩), inP_nx⟩
theorem snd_notIn : Snd2 K (rNotInB K) (inP true) := ⟨fun B G0 G G' env σ H H' u w z x y Q rl hu hw e q => (by
  obtain ⟨b, e1, e2⟩ := Res.bind_eq e
  cases e2
  rcases in_core rl hu hw e1 with ⟨p, xs, h1, h2, h3, h4, h5⟩ | ⟨d, ds, h1, h2, h3, h4, h5⟩
  · exact .inl ⟨p, xs, h1, h2, h3, h4, by rw [h5]; exact q G' H' _ (Ext.refl rl.gh) (.bl _)⟩
  · exact .inr ⟨d, ds, h1, h2, h3, h4, by rw [h5]; exact q G' H' _ (Ext.refl rl.gh) (.bl _)⟩), inP_nx⟩
theorem cm_in {X : Cx} (hu : X.A.units + 65 < cLine) (hK : X.K = K := by rfl) : CmpR X .In (rInB K) (inP false) := by
  subst hK
  exact ⟨op_in_seq.or (op_inD hu), snd_in⟩
theorem cm_notIn {X : Cx} (hu : X.A.units + 65 < cLine) (hK : X.K = K := by rfl) : CmpR X .NotIn (rNotInB K) (inP true) := by
  subst hK
  exact ⟨op_notIn_seq.or (op_notInD hu), snd_notIn⟩
end
end DL

namespace DL
open PySem L2
/-! ### while, by a bound on its turns -/
def whileO (p : En → Res Bool) (b : En → Out) : Nat → En → Out
  | 0, _ => .no
  | n + 1, env => match p env with
    | .ok true => match b env with
      | .nx e => whileO p b n e
      | .ct e => whileO p b n e
      | .bk e => .nx e
      | .rt u => .rt u
      | .ex e x => .ex e x
      | .no => .no
    | .ok false => .nx env
    | .ex x => .ex env x
    | .no => .no
theorem sv_while {K : PySem.W.Frag} {W : Wi} {tc : TT} {tb : TS} {p : En → Res Bool} {b : En → Out} (n : Nat) (hp : EvT K W tc p) (hb : SvD K W tb b) : SvD K W (tWhile tc tb) (whileO p b n) := fun B G0 G env σ H D r k => by
  refine ⟨fun m σ' H' => ∃ G2 env', Same G G2 ∧ Rel K W B G0 G2 env' σ' H' ∧ OutOk K W B G0 G2 D (whileO p b m env'), ⟨n, G, env, Same.refl _, r, k⟩, ?_⟩
  rintro m σ' H' ⟨G2, env', s2, r2, o⟩
  cases m with
  | zero => exact o.elim
  | succ m =>
    unfold whileO at o
    cases ep : p env' with
    | ok c =>
      rw [ep] at o
      cases c with
      | true =>
        refine hp.ok B G0 G2 env' σ' H' true r2 ep _ fun G3 H3 x3 => ?_
        rw [if_pos rfl]
        refine ⟨fun σ'' H'' => ∃ G4 env'', Same G G4 ∧ Rel K W B G0 G4 env'' σ'' H'' ∧ OutOk K W B G0 G4 D (whileO p b m env''), fun σ'' H'' h => ⟨m, Nat.lt_succ_self m, h⟩, ?_⟩
        refine hb B G0 G3 env' σ' H3 _ (r2.ext x3) ?_
        dsimp only at o
        have s3 := s2.trans x3.gg
        cases eb : b env' with
        | nx e => rw [eb] at o; exact fun G4 σ4 H4 s4 r4 => ⟨G4, e, s3.trans s4, r4, o.mono (x3.gg.trans s4)⟩
        | ct e => rw [eb] at o; exact fun G4 σ4 H4 s4 r4 => ⟨G4, e, s3.trans s4, r4, o.mono (x3.gg.trans s4)⟩
        | bk e => rw [eb] at o; exact fun G4 σ4 H4 s4 r4 => o G4 σ4 H4 (x3.gg.trans s4) r4
        | rt u => rw [eb] at o; exact fun G4 H4 v s4 r4 h4 => o G4 H4 v (x3.gg.trans s4) r4 h4
        | ex e x => rw [eb] at o; exact fun G4 σ4 H4 cls d s4 r4 h4 => o G4 σ4 H4 cls d (x3.gg.trans s4) r4 h4
        | no => rw [eb] at o; exact o
      | false =>
        refine hp.ok B G0 G2 env' σ' H' false r2 ep _ fun G3 H3 x3 => ?_
        rw [if_neg Bool.false_ne_true]
        exact o G3 σ' H3 x3.gg (r2.ext x3)
    | ex x =>
      rw [ep] at o
      exact hp.ex B G0 G2 env' σ' H' x r2 ep (o.xok r2) _
    | no => rw [ep] at o; exact o.elim
theorem ds_while {X : Cx} {W : Wi} {c : Expr} {body : List Stmt} {tc : TT} {tb : TS} {p : En → Res Bool} {b : En → Out} {pos : Pos} (n : Nat) (hp : PassesOwn (model X.prog X.w) X.A X.env X.xe) (hc : DT X W c tc p) (hb : DSs X W body tb b) : DS X W (.While c body [] pos) (tWhile tc tb) (whileO p b n) :=
  ⟨ps_while hp hc.pt hb.ps, sv_while n hc.ev hb.sv⟩
end DL

namespace DL
open PySem L2
/-! ### sorted: ints -/
def insI (x : Int) : List Int → List Int
  | [] => [x]
  | y :: ys => if x ≤ y then x :: y :: ys else y :: insI x ys
def sortI : List Int → List Int
  | [] => []
  | x :: xs => insI x (sortI xs)
theorem insI_perm (x : Int) : ∀ ys : List Int, (insI x ys).Perm (x :: ys)
  | [] => .refl _
  | y :: ys => by
    unfold insI
    split
    · exact .refl _
    · exact ((insI_perm x ys).cons y).trans (.swap x y ys)
theorem sortI_perm : ∀ xs : List Int, (sortI xs).Perm xs
  | [] => .refl _
  | x :: xs => (insI_perm x (sortI xs)).trans ((sortI_perm xs).cons x)
theorem insI_sorted (x : Int) : ∀ {ys : List Int}, ys.Pairwise (· ≤ ·) → (insI x ys).Pairwise (· ≤ ·)
  | [], _ => List.pairwise_singleton _ _
  | y :: ys, h => by
    unfold insI
    obtain ⟨h1, h2⟩ := List.pairwise_cons.1 h
    split
    · rename_i hc
      refine List.pairwise_cons.2 ⟨fun z hz => ?_, h⟩
      rcases List.mem_cons.1 hz with rfl | hz
      · exact hc
      · exact Int.le_trans hc (h1 z hz)
    · rename_i hc
      refine List.pairwise_cons.2 ⟨fun z hz => ?_, insI_sorted x h2⟩
      rcases List.mem_cons.1 ((insI_perm x ys).mem_iff.1 hz) with rfl | hz
      · omega
      · exact h1 z hz
theorem sortI_sorted : ∀ xs : List Int, (sortI xs).Pairwise (· ≤ ·)
  | [] => .nil
  | x :: xs => insI_sorted x (sortI_sorted xs)
theorem sorted_one : ∀ {xs ys : List Int}, xs.Perm ys → xs.Pairwise (· ≤ ·) → ys.Pairwise (· ≤ ·) → xs = ys
  | [], ys, p, _, _ => p.nil_eq
  | x :: xs, [], p, _, _ => absurd p.symm.nil_eq (by simp)
  | x :: xs, y :: ys, p, h, k => by
    obtain ⟨h1, h2⟩ := List.pairwise_cons.1 h
    obtain ⟨k1, k2⟩ := List.pairwise_cons.1 k
    have e : x = y := by
      have a : y ∈ x :: xs := p.mem_iff.2 List.mem_cons_self
      have b : x ∈ y :: ys := p.mem_iff.1 List.mem_cons_self
      rcases List.mem_cons.1 a with a | a
      · exact a.symm
      · rcases List.mem_cons.1 b with b | b
        · exact b
        · have := h1 y a
          have := k1 x b
          omega
    subst e
    rw [sorted_one (List.Perm.cons_inv p) h2 k2]
def sortedC : List Vl → Res Vl := fun us => match us with
  | [⟨_, .lst xs⟩] => match intsOf xs with
    | some ns => if ns.length < 64 then .ok ⟨.o, .lst ((sortI ns).map D.int)⟩ else .no
    | none => .no
  | _ => .no
theorem snc_sorted {K : PySem.W.Frag} : SndC K (rSorted K) sortedC := ⟨fun B G0 G' env σ H' us z vs Q r h e q => (by
  unfold sortedC at e
  split at e
  · split at e
    · rename_i ns en
      obtain ⟨c, rfl⟩ := if_ok e
      obtain ⟨v, w, e, h, l⟩ := h
      subst e
      obtain ⟨a, ws, rfl, h1, h2⟩ := (h.look r).lst_inv
      rw [intsOf_inv en] at h2
      rw [show w = [] from l]
      refine ⟨a, ns, rfl, SqL.of (by rw [h1, h2.ints]), c, fun ns' p hp hs hfree => ?_⟩
      have e1 : ns' = sortI ns := sorted_one (hp.trans (sortI_perm ns).symm) hs (sortI_sorted ns)
      subst e1
      exact new_list r (RepL.ofInts _) q p hfree
    · cases e
  · cases e), fun us x => by
  unfold sortedC
  repeat' split
  all_goals exact fun z => by cases z⟩
theorem ck_sorted {X : Cx} {K : PySem.W.Frag} (hK : X.K = K := by rfl) : CallR X (.builtin "sorted") (rSorted K) := by subst hK; exact cr_sorted
end DL

namespace DL
open PySem L2
/-! ### enumerate -/
def enF : Nat → List D → List D
  | _, [] => []
  | i, d :: ds => .tup [.int (i : Nat), d] :: enF (i + 1) ds
def enD (ds : List D) : List D := enF 0 ds
theorem enF_len : ∀ (i : Nat) (ds : List D), (enF i ds).length = ds.length
  | _, [] => rfl
  | i, d :: ds => by
    show (enF (i + 1) ds).length + 1 = ds.length + 1
    rw [enF_len (i + 1) ds]
theorem enF_get : ∀ (i j : Nat) (ds : List D) {d : D}, (enF i ds)[j]? = some d → ∃ e, ds[j]? = some e ∧ d = .tup [.int ((i + j : Nat) : Int), e]
  | i, j, [], d, h => by simp [enF] at h
  | i, 0, e :: ds, d, h => by
    have h : some (D.tup [.int (i : Nat), e]) = some d := h
    cases h
    exact ⟨e, rfl, rfl⟩
  | i, j + 1, e :: ds, d, h => by
    have h : (enF (i + 1) ds)[j]? = some d := by simpa [enF] using h
    obtain ⟨e', h1, h2⟩ := enF_get (i + 1) j ds h
    refine ⟨e', by simpa using h1, ?_⟩
    rw [h2, show i + 1 + j = i + (j + 1) by omega]
def enI (f : En → Res Vl) : En → Res (Kd × List D) := fun env => (f env).bind fun u => match u with
  | ⟨.g, .lst xs⟩ => .ok (.g, enD xs)
  | ⟨.o, .lst xs⟩ => .ok (.g, enD xs)
  | ⟨.g, .fz xs⟩ => .ok (.g, enD xs)
  | ⟨.b, .lst xs⟩ => if xs.all flat = true then .ok (.g, enD xs) else .no
  | _ => .no
end DL

namespace DL
open PySem L2
/-! ### xs[::-1] -/
theorem RepL.rev {K : PySem.W.Frag} {G : Hp} : ∀ {vs : List V} {ds : List D}, RepL K G vs ds → RepL K G vs.reverse ds.reverse
  | _, _, .nil => .nil
  | _, _, .cons h l => by
    rw [List.reverse_cons, List.reverse_cons]
    exact (RepL.rev l).app (.cons h .nil)
def revE (f : En → Res Vl) : En → Res Vl := fun env => (f env).bind fun u => match u.d with
  | .lst xs => if u.k.it xs = true then .ok ⟨.o, .lst xs.reverse⟩ else .no
  | _ => .no
theorem ev_rev {K : PySem.W.Frag} {W : Wi} {te : TE} {f : En → Res Vl} (h : EvD K W te f) : EvD K W (tRevL K te) (revE f) := ⟨fun B G0 G env σ H z r e Q q => (by
  obtain ⟨u, e1, e⟩ := Res.bind_eq e
  refine h.ok B G0 G env σ H u r e1 _ fun G1 H1 v x hv => ?_
  have r1 := r.ext x
  split at e
  · rename_i xs ex
    obtain ⟨c, rfl⟩ := if_ok e
    obtain ⟨a, vs, rfl, h1, h2⟩ := Rp.items r1 hv ex c
    exact ⟨a, vs, rfl, SqL.of h1, new_list r1 h2.rev fun G2 H2 w x2 hw => q G2 H2 w (x.trans x2) (hw.from x.hh)⟩
  · cases e), fun B G0 G env σ H x r e w Q => by
  rcases Res.bind_ex e with e1 | ⟨u, e1, e⟩
  · exact h.ex B G0 G env σ H x r e1 w _
  · exact absurd e (by
      split <;> first
        | exact if_nx
        | exact fun z => nomatch z)⟩
theorem de_rev {X : Cx} {W : Wi} {K : PySem.W.Frag} {e : Expr} {te : TE} {f : En → Res Vl} {k : Nat} {p1 p2 p3 pos : Pos} (h : DE X W e te f) (hK : X.K = K := by rfl) : DE X W (.Subscript e (.Slice none none (some (.UnaryOp .USub (.Constant (.int 1) k p1) p2)) p3) pos) (tRevL K te) (revE f) := by
  subst hK
  exact ⟨pe_revL h.pe, ev_rev h.ev⟩
end DL

namespace DL
open PySem L2
/-! ### xs * n -/
theorem RepL.times {K : PySem.W.Frag} {G : Hp} {vs : List V} {ds : List D} (h : RepL K G vs ds) : ∀ n : Nat, RepL K G (List.replicate n vs).flatten (List.replicate n ds).flatten
  | 0 => .nil
  | n + 1 => by
    rw [List.replicate_succ, List.replicate_succ, List.flatten_cons, List.flatten_cons]
    exact h.app (RepL.times h n)
def repP : Vl → Vl → Res Vl := fun u w => match u.d, w.d with
  | .lst xs, .int j => if u.k.it xs = true ∧ -(2 ^ 63) ≤ j ∧ j < 2 ^ 63 ∧ xs.length * j.toNat ≤ sizeLine then .ok ⟨.o, .lst (List.replicate j.toNat xs).flatten⟩ else .no
  | _, _ => .no
theorem snd_rep {K : PySem.W.Frag} : Snd2 K rRep repP := ⟨fun B G0 G G' env σ H H' u w z x y Q rl hu hw e q => (by
  unfold repP at e
  split at e
  · rename_i xs j e1 e2
    obtain ⟨⟨c1, c2, c3, c4⟩, rfl⟩ := if_ok e
    obtain ⟨a, vs, rfl, h1, h2⟩ := Rp.items rl hu e1 c1
    have b := hw.look rl
    rw [e2] at b
    exact ⟨a, j, vs, rfl, b.int_inv, h1, c2, c3, by rw [h2.len]; exact c4, new_list rl (h2.times _) q⟩
  · cases e), fun u w x => by
  unfold repP
  split <;> first
    | exact if_nx
    | exact fun z => nomatch z⟩
theorem de_rep {X : Cx} {W : Wi} {pos : Pos} {a b : Expr} {ta tb : TE} {f g : En → Res Vl} (ha : DE X W a ta f) (hb : DE X W b tb g) : DE X W (.BinOp a .Mult b pos) (tOp rRep ta tb) (binE repP f g) := de_bin op_rep snd_rep ha hb
end DL

namespace DL
open PySem L2
/-! ### xs.extend(ys) -/
def itsD (u : Vl) : Res (List D) := match u.d with
  | .lst ys => if u.k.it ys = true then .ok ys else .no
  | _ => .no
def extO (i : Nat) (f : En → Res Vl) : En → Out := fun env => match (f env).bind itsD with
  | .ok ys => match owAt env i with
    | .ok xs => if xs.length + ys.length ≤ sizeLine then .nx (env.set i (.ow (xs ++ ys))) else .no
    | _ => .no
  | _ => .no
theorem sv_ext (i : Nat) {K : PySem.W.Frag} {W : Wi} {te : TE} {f : En → Res Vl} (hf : EvD K W te f) : SvD K W (tDrop (tBM K "list" rExtend (tVar i) (tCons te tNil))) (extO i f) := fun B G0 G env σ H D r k => by
  unfold extO at k
  split at k
  · rename_i ys e
    obtain ⟨u, e1, e2⟩ := Res.bind_eq e
    unfold itsD at e2
    split at e2
    · rename_i ys' ed
      obtain ⟨c, rfl⟩ := if_ok e2
      split at k
      · rename_i xs ex
        have ex := owAt_inv ex
        split at k
        · rename_i hz
          obtain ⟨o, eo, L, vs, y1, y2, y3, y4, y5⟩ := r.slot ex
          subst y1
          refine ⟨.ref L, eo, tyV_lst y4, hf.ok B G0 G env σ H u r e1 _ fun G1 H1 v x hv => ?_⟩
          have r1 := r.ext x
          obtain ⟨a, ws, rfl, h1, h2⟩ := Rp.items r1 hv ed c
          refine ⟨L, a, vs, ws, rfl, rfl, x.hh _ _ y4, h1, by rw [y5.len, h2.len]; exact hz, ?_⟩
          exact k G1 σ _ x.gg (r1.mut ex eo ((y5.mono x.gg).app h2))
        · exact k.elim
      · exact k.elim
    · cases e2
  · exact k.elim
section
variable {X : Cx} {W : Wi} {e : Expr} {te : TE} {f : En → Res Vl} {x : Str} {p1 apos cpos pos : Pos}
theorem ds_ext (i : Nat) (he : DE X W e te f) (hN : X.N[i]? = some x := by rfl) (hv : Vis X.env.scope x := by first | exact Or.inl rfl | exact Or.inr (Or.inl rfl) | exact Or.inr (Or.inr rfl)) (hd : (x == ("__debug__" : Str)) = false := by decide)
    (hcd : (x == ("__classdict__" : Str)) = false := by decide) (hbase : attributeBase (.Name x p1) "extend" X.env (eval (.Name x p1) X.env) = eval (.Name x p1) X.env := by rfl)
    (hfew : ((backTo cpos (starEach (e :: []) X.env)).all (fun x => !x.1) && (backToKw cpos (keywordEach [] X.env)).all (fun x => x.1.isSome)
      && decide ((e :: []).length + ([] : List Keyword).length + (if ([] : List Keyword).isEmpty then 0 else 1) < 30)) = true := by rfl)
    (hline : (apos.endLine == cpos.line) = true := by rfl) (hs : starEach (e :: []) X.env = (false, eval e X.env) :: starEach [] X.env := by rfl) (hplain : (backTo cpos (starEach [] X.env)).any (·.1) = false := by rfl)
    (hw : swapsWith (.Call (.Attribute (.Name x p1) "extend" apos) [e] [] cpos) none pos.line X.env = pure false := by rfl) :
    DS X W (.Expr (.Call (.Attribute (.Name x p1) "extend" apos) [e] [] cpos) pos) (tDrop (tBM X.K "list" rExtend (tVar i) (tCons te tNil))) (extO i f) :=
  ⟨ps_expr (pe_bm PySem.F.plainAttrs_list PySem.F.slot_list_extend PySem.F.type_list_extend mt_extend (pe_var hN hv hd hcd) (pa_cons he.pe pa_nil hs) hbase hfew hline hs hplain) hw, sv_ext i he.ev⟩
end
end DL

namespace DL
open PySem L2
/-! ### x in t, t a tuple of any data -/
def rInT (K : PySem.W.Frag) (neg : Bool) : R2 := fun x y H Q => ∃ d ds, Dp K H x d ∧ Dp K H y (.tuple ds) ∧ SeqAt.shaped d = true ∧ SeqAt.shaped (.tuple ds) = true ∧ Q (.bl (if neg then !ds.any fun z => PyData.eqv z d else ds.any fun z => PyData.eqv z d)) H
section
variable {X : Cx}
theorem op_inT (hu : X.A.units + 65 < cLine) : OpR X (compareOp .In) (rInT X.K false) := by
  intro pins s σ H x y v u Q I rx ry h
  obtain ⟨d, ds, hd, he, sd, se, q⟩ := h
  obtain ⟨as, r1⟩ := Dp.reads I d x v hd rx
  obtain ⟨bs, r2⟩ := Dp.reads I (.tuple ds) y u he ry
  exact SeqAt.in_tuple_reads r2 r1 (SeqAt.canLay_of_shaped se) (SeqAt.canLay_of_shaped sd) (by have := SeqAt.depth_of_shaped sd; have := Nat.min_le_right (PyData.depthAll ds) d.depth; omega) ⟨.bl _, H, I, rfl, q⟩
theorem op_notInT (hu : X.A.units + 65 < cLine) : OpR X (compareOp .NotIn) (rInT X.K true) := by
  intro pins s σ H x y v u Q I rx ry h
  obtain ⟨d, ds, hd, he, sd, se, q⟩ := h
  obtain ⟨as, r1⟩ := Dp.reads I d x v hd rx
  obtain ⟨bs, r2⟩ := Dp.reads I (.tuple ds) y u he ry
  exact SeqAt.notIn_tuple_reads r2 r1 (SeqAt.canLay_of_shaped se) (SeqAt.canLay_of_shaped sd) (by have := SeqAt.depth_of_shaped sd; have := Nat.min_le_right (PyData.depthAll ds) d.depth; omega) ⟨.bl _, H, I, rfl, q⟩
end
/-- x in a tuple of any data -/
def inTP (neg : Bool) : Vl → Vl → Res Vl := fun u w => match w.d with
  | .tup ys => if SeqAt.shaped (toPy u.d) = true ∧ SeqAt.shaped (.tuple (toPyL ys)) = true then .ok ⟨.g, .bl (if neg then !memD u.d ys else memD u.d ys)⟩ else .no
  | _ => .no
theorem snd_inT {K : PySem.W.Frag} (neg : Bool) : Snd2 K (rInT K neg) (inTP neg) := ⟨fun B G0 G G' env σ H H' u w z x y Q rl hu hw e q => (by
  have a := hu.look rl
  have c := hw.look rl
  unfold inTP at e
  split at e
  · rename_i ys ey
    rw [ey] at c
    obtain ⟨⟨c1, c2⟩, rfl⟩ := if_ok e
    exact ⟨_, _, a.dp c1, c.dp c2, c1, c2, by rw [any_py]; exact q G' H' _ (Ext.refl rl.gh) (.bl _)⟩
  · cases e), fun u w x => by
  unfold inTP
  split <;> first
    | exact if_nx
    | exact fun z => nomatch z⟩
theorem cm_inT {X : Cx} {K : PySem.W.Frag} (hu : X.A.units + 65 < cLine) (hK : X.K = K := by rfl) : CmpR X .In (rInT K false) (inTP false) := by
  subst hK
  exact ⟨op_inT hu, snd_inT false⟩
theorem cm_notInT {X : Cx} {K : PySem.W.Frag} (hu : X.A.units + 65 < cLine) (hK : X.K = K := by rfl) : CmpR X .NotIn (rInT K true) (inTP true) := by
  subst hK
  exact ⟨op_notInT hu, snd_inT true⟩
end DL

namespace DL
open PySem L2
/-! ### try: .. except T: .. -/
def keepX : Out → Out
  | .nx e => if noXc e = true then .nx e else .no
  | .bk e => if noXc e = true then .bk e else .no
  | .ct e => if noXc e = true then .ct e else .no
  | .rt u => .rt u
  | _ => .no
def tryN (cm : Str → Option Bool) (f su : En → Out) : En → Out := fun env => match f env with
  | .ex e x => match cm x.c with
    | some true => if noXc e = true then keepX (su e) else .no
    | some false => .ex e x
    | none => .no
  | o => o
theorem sv_tryN {K : PySem.W.Frag} {W : Wi} {c : Value} {cm : Str → Option Bool} {tb : WX → TS} {ts : Addr → Value → Option Addr → TS} {f su : En → Out}
    (hcm : ∀ x b C, cm x = some b → PySem.W.nsIn K mainGlobals x = some (some (.ref C)) → PySem.W.exmOne K (.ref C) c = some b)
    (hb : ∀ w : WX, SvD K ⟨w, W.ρ, W.T⟩ (tb w) f) (hs : ∀ a cls d, SvD K (suW W.T a cls d) (ts a cls d) su) :
    SvD K W (fun D σ H => tb (wOnly K c ts W.w D) D σ H) (tryN cm f su) := fun B G0 G env σ H D r k => by
  refine hb _ B G0 G env σ H D (r.rho rfl rfl) ?_
  unfold tryN at k
  cases e : f env with
  | nx e' => rw [e] at k; exact fun G' σ' H' s r' => k G' σ' H' s (r'.rho rfl rfl)
  | bk e' => rw [e] at k; exact fun G' σ' H' s r' => k G' σ' H' s (r'.rho rfl rfl)
  | ct e' => rw [e] at k; exact fun G' σ' H' s r' => k G' σ' H' s (r'.rho rfl rfl)
  | rt u => rw [e] at k; exact fun G' H' v s r' hv => k G' H' v s (r'.rho rfl rfl) hv
  | no => rw [e] at k; exact k
  | ex e' x =>
    rw [e] at k
    intro G' σ' H' cls d s r' hx
    have r1 : Rel K W B G0 G' e' σ' H' := r'.rho rfl rfl
    obtain ⟨C, rfl, hC, hfs⟩ := id hx
    dsimp only at k
    cases ec : cm x.c with
    | none => rw [ec] at k; exact k.elim
    | some b =>
      rw [ec] at k
      refine ⟨b, hcm _ _ _ ec hC, fun hb' a hna => ?_, fun hb' => ?_⟩
      · subst hb'
        dsimp only at k
        split at k
        · rename_i hno
          refine hs a (.ref C) d B G0 G' _ _ H' _ (r1.noXc hno) ?_
          cases eo : su e' with
          | nx e2 =>
            rw [eo] at k
            unfold keepX at k
            intro G2 σ2 H2 s2 r2
            dsimp only at k
            split at k
            · rename_i hn2
              exact k G2 _ H2 (s.trans s2) (r2.noXc hn2)
            · exact k.elim
          | bk e2 =>
            rw [eo] at k
            unfold keepX at k
            intro G2 σ2 H2 s2 r2
            dsimp only at k
            split at k
            · rename_i hn2
              exact k G2 _ H2 (s.trans s2) (r2.noXc hn2)
            · exact k.elim
          | ct e2 =>
            rw [eo] at k
            unfold keepX at k
            intro G2 σ2 H2 s2 r2
            dsimp only at k
            split at k
            · rename_i hn2
              exact k G2 _ H2 (s.trans s2) (r2.noXc hn2)
            · exact k.elim
          | rt u =>
            rw [eo] at k
            exact fun G2 H2 v s2 r2 hv => k G2 H2 v (s.trans s2) (r2.noXc rfl) hv
          | ex e2 y => rw [eo] at k; exact k.elim
          | no => rw [eo] at k; exact k.elim
        · exact k.elim
      · subst hb'
        exact k G' σ' H' (.ref C) d s r1 hx
theorem ds_tryN {X : Cx} {W : Wi} {x : Str} {c : Value} {cm : Str → Option Bool} {body suite : List Stmt} {b₀ : Stmt} {np pos pos' : Pos} {tb : WX → TS} {ts : Addr → Value → Option Addr → TS} {f su : En → Out}
    (hcm : ∀ x b C, cm x = some b → PySem.W.nsIn X.K mainGlobals x = some (some (.ref C)) → PySem.W.exmOne X.K (.ref C) c = some b)
    (hs : X.stack = X.env :: X.outer) (hf : X.env.frame = some X.env.locals) (hc : Names X x c) (tk : Takes X W.w)
    (hb : ∀ (w : WX) (pn : List (Addr × Obj)) (xe : Value → Shared → Prop), Takes (X.tr pn xe) w → DSs (X.tr pn xe) ⟨w, W.ρ, W.T⟩ body (tb w) f)
    (hsu : ∀ (a : Addr) (oe : Obj) (cls : Value) (d : Option Addr) (pn : List (Addr × Obj)), Zc cls d oe → (∃ vs, oe.data = .fields vs) → DSs (X.suite a ((a, oe) :: pn)) (suW W.T a cls d) (b₀ :: suite) (ts a cls d) su) :
    DS X W (.Try body [.ExceptHandler (some (.Name x np)) none (b₀ :: suite) pos'] [] [] pos) (fun D σ H => tb (wOnly X.K c ts W.w D) D σ H) (tryN cm f su) :=
  ⟨ps_try_only hs hf hc tk (fun w pn xe h1 _ => (hb w pn xe h1).ps) (fun a oe cls d pn z1 z2 => (hsu a oe cls d pn z1 z2).ps), sv_tryN hcm (fun w => (hb w [] (XE (X.tr [] fun _ _ => True) w) takes_self).sv) fun a cls d => (hsu a { cls := cls, dict := d, data := .fields #[] } cls d [] ⟨rfl, rfl⟩ ⟨_, rfl⟩).sv⟩
end DL

namespace DL
open PySem L2 PySem.Spec PyProof.Rows
/-! ### own exceptions as values -/
/-- C(e, ..) as a value -/
def tMkV (C : Addr) (sp : Sp) (ta : TA) : TE := fun σ H Q => ta σ H fun vs H1 => vs.length ≤ 1000 ∧ ∀ a, H1 a = none → sp (.ref a :: vs) (upd H1 a (exo a C none)) (fun v H2 => v = .non ∧ Q (.ref a) H2) (fun _ _ _ => False)
section
variable {X : Cx} {W : Wi} {x : Str} {C : Addr} {e : Expr} {es : List Expr} {ta : TA} {p pos : Pos}
theorem pe_oexV {fI : Addr} {k : Nat} {fd : FuncData} {ps : List Str} {sp : Sp} (T : OexC X.K C) (iC : PySem.W.findIn X.K (.ref C) "__init__" = some (some (.ref fI))) (tI : PySem.W.typeIn X.K (.ref fI) = some (.type "function"))
    (F1 : FnOk X.prog X.w X.K X.mg X.base CX0 k fI fd ps sp) (hr : Room (k + 1) X.A) (hb : Binds X.K fd ps []) (hg : Gl X x) (hm : X.mg x = some (.ref C)) (ha : PA X (e :: es) ta)
    (hdb : (x == ("__debug__" : Str)) = false := by decide) (he : starEach (e :: es) X.env = (false, eval e X.env) :: starEach es X.env := by rfl) (hpl : (backTo pos (starEach es X.env)).any (·.1) = false := by rfl) :
    PE X (.Call (.Name x p) (e :: es) [] pos) (tMkV C sp ta) := by
  refine ⟨fun pn sh st H0 Q inv hq => ?_⟩
  obtain ⟨z1, z2, z3, z4, mr, z5, z6, z7, z8, z9, y0, y1, y2, y3, y4, atC, allV⟩ := T.cls
  refine wpAny_Call_Name_kw (ld_glob inv hg hm ?_ hdb)
  refine PySem.W.callWith_K (h₀ := X.base) inv.ok.mod.kin T.kC (thn (ha.run pos pn sh st H0 _ inv hq) ?_) he hpl
  rintro ws ⟨old, gens, drawn, toks, os⟩ ⟨vs, H1, J, rel, few, made⟩
  refine ⟨J.kIn, ?_⟩
  show wpAny _ _ (call (.ref C) ws) _ _ _
  -- the new object stands one behind its tuple of arguments
  obtain ⟨here, eh⟩ : ∃ b : Addr, b = old.objs.size + 1 := ⟨_, rfl⟩
  obtain ⟨new, en⟩ : ∃ m : Heap, m = (old.push (PySem.W.kdv_tup ws)).push (PySem.HandSPX.excO C old.objs.size) := ⟨_, rfl⟩
  have free : old.objs.size ≤ here := by rw [eh]; exact Nat.le_succ _
  have empty : H1 here = none := J.hok.fresh free
  have stay : ∀ b o, old.get? b = some o → new.get? b = some o := fun b o z => by
    rw [en]
    exact Heap.get?_push_of_some _ (Heap.get?_push_of_some _ z)
  have there : new.get? here = some (PySem.HandSPX.excO C old.objs.size) := by
    rw [en, eh]
    heap_get
  have J2 := J.laid (t' := toks) (o := exo here C none) stay free (exo_ok there)
  have pr := made here empty
  have rel2 : Vals (V.ref here :: vs) (Value.ref here :: ws) := Paired.cons rfl rel
  have many : (Value.ref here :: ws).length = ps.length := by
    rw [← rel2.length]
    exact F1.len _ _ _ _ pr
  have bound : BindsTo ⟨new, gens, drawn, toks, os⟩ fd ⟨Value.ref here :: ws, []⟩ (ps.zip (Value.ref here :: ws)) := by
    have := hb _ (Value.ref here :: ws) J2.kIn (by simpa using many)
    simpa using this
  have small : ws.length ≤ sizeLine := Nat.le_trans (Nat.le_of_eq (Paired.length rel).symm) (Nat.le_trans few (by rw [sizeLine_eq]; decide))
  have body := F1.run _ X.stack _ _ ⟨Value.ref here :: ws, []⟩ (Value.ref here :: ws) _ _ (fun _ _ _ => False) (hr.make C ws []) (J2.env0.make C ws []) bound rel2 pr
  rw [en, eh] at body
  refine wpAny_call (PySem.HandSPX.call_own F.excBase_ValueError (fun Y => PySem.HandSPX.refsVE_contains Y mr allV) (J.kIn _ _ atC) (PySem.W.looks_findIn J.kIn iC) (fun self => PySem.W.bind_fn J.kIn self tI) small (codeAny_mono body ?_))
  rw [en, eh] at J2
  intro out sh2 hout
  match out, hout with
  | .error er, hout => exact pass0 pn st _ _ er sh2 J2 hout
  | .ok (.ret u), hout =>
    obtain ⟨v, H2, J3, rv, rfl, done⟩ := J2.after hout
    refine ⟨rv, ⟨V.ref (old.objs.size + 1), H2, J3, rfl, ?_⟩⟩
    exact done
  | .ok .next, hout => exact hout.elim
  | .ok .brk, hout => exact hout.elim
  | .ok .cont, hout => exact hout.elim
/-- C() of a class without fields, as a value -/
theorem pe_oex0 {bmB : List Value} {B newId initId : String} (F : ExcBaseFacts B newId initId bmB) (q : PySem.W.excIn X.K C bmB newId = true) (gC : X.mg x = some (.ref C)) (kC : PySem.W.keepIn X.K (.ref C) = true) (hg : Gl X x)
    (hdb : (x == ("__debug__" : Str)) = false := by decide) : PE X (.Call (.Name x p) [] [] pos) (fun _ H Q => ∀ a, H a = none → Q (.ref a) (upd H a (exo a C none))) := by
  refine ⟨fun pn sh st H0 Q inv hq => wpAny_Call_Name_kw (ld_glob inv hg gC (PySem.W.callWith_K0 inv.kIn kC ?_) hdb)⟩
  obtain ⟨z1, z2, z3, z4, z5, z6, z7, z8, z9, y0, y1, y2, y3, y4, y5, y6, y7, atC, atN, noI, tab⟩ := exc_obj inv.kIn q
  refine wpAny_call_exc_subT F tab atC atN noI (fun new b made => ?_) (Nat.zero_le _)
  have empty : H0 b = none := inv.hok.gone made.new
  obtain ⟨_, there, _⟩ := made.there
  exact ⟨V.ref b, _, inv.laidN made.keeps made.new empty (exo_ok there), rfl, hq b empty⟩
end

theorem Ext.exn {G H : Hp} (h : Same G H) {a dx : Addr} {o1 o2 : HO} (ha : H a = none) (hd : H dx = none) (ne : dx ≠ a) {H2 : Hp} (e1 : H2 a = some o1) (e2 : H2 dx = some o2) (e3 : ∀ b, b ≠ a → b ≠ dx → H2 b = H b) : Ext G H (upd (upd G dx o2) a o1) H2 := by
  have ga := h.free ha
  have gd := h.free hd
  refine ⟨fun b u e => ?_, fun b u e => ?_, fun b u e => ?_, fun b g n => ?_⟩
  · rw [upd_ne (ne_of_none e ga), upd_ne (ne_of_none e gd)]; exact e
  · rw [e3 b (ne_of_none e ha) (ne_of_none e hd)]; exact e
  · by_cases z : b = a
    · subst z; rw [upd_same] at e; cases e; exact e1
    · rw [upd_ne z] at e
      by_cases z2 : b = dx
      · subst z2; rw [upd_same] at e; cases e; exact e2
      · rw [upd_ne z2] at e
        rw [e3 b z z2]; exact h b u e
  · by_cases z : b = a
    · rw [z]; exact ha
    · rw [upd_ne z] at n
      by_cases z2 : b = dx
      · rw [z2]; exact hd
      · rw [upd_ne z2] at n; exact absurd g n
def mkV (x : Str) (ns : List Str) (f : En → Res (List Vl)) : En → Res Vl := fun env => (f env).bind fun us => if us.all Vl.keep = true ∧ us.length = ns.length then .ok ⟨.g, .exn x ns (us.map Vl.d)⟩ else .no
def mkV0 (x : Str) : En → Res Vl := fun _ => .ok ⟨.g, .exn x [] []⟩
section
variable {X : Cx} {W : Wi} {j : Nat} {x : Str} {ns : List Str} {p pos : Pos} {e : Expr} {es : List Expr} {ta : TA} {f : En → Res (List Vl)}
theorem de_mkV {K : PySem.W.Frag} (c : DX X.prog X.w X.K X.mg X.base x ns) (hr : Room j X.A) (ha : DA X W (e :: es) ta f) (hkj : 2 ≤ j := by decide) (hg : Gl X x := by rfl) (hdb : (x == ("__debug__" : Str)) = false := by decide) (he : starEach (e :: es) X.env = (false, eval e X.env) :: starEach es X.env := by rfl) (hpl : (backTo pos (starEach es X.env)).any (·.1) = false := by rfl) (hK : X.K = K := by rfl) :
    DE X W (.Call (.Name x p) (e :: es) [] pos) (tMkV (adr K x) (spI K (adr K x) ns) ta) (mkV x ns f) := by
  subst hK
  obtain ⟨⟨C, fI, fd, ps, hm, hn, T, iC, tI, hb, F⟩, few⟩ := c
  rw [adr_eq hn]
  refine ⟨pe_oexV T iC tI F (hr.mono hkj) hb hg hm ha.pa hdb he hpl, ⟨fun B G0 G env σ H z r e Q q => ?_, fun B G0 G env σ H y r e w Q => ?_⟩⟩
  · obtain ⟨us, e1, e⟩ := Res.bind_eq e
    obtain ⟨⟨hk, hl⟩, rfl⟩ := if_ok e
    refine ha.ev.ok B G0 G env σ H us r e1 _ fun G1 H1 vs x1 l1 => ⟨?_, fun a hna => ?_⟩
    · rw [l1.len, hl]
      rcases few with h | ⟨f, g, rfl, _⟩
      · rw [h]; decide
      · show 2 ≤ 1000; decide
    · have rep := l1.keep hk
      have hlen : vs.length = ns.length := by rw [l1.len, hl]
      have fin : ∀ (d : Addr) (fs : List (Str × V)) (H2 : Hp), H1 d = none → d ≠ a → H2 a = some (exo a C (some d)) → H2 d = some (exd d fs) → (∀ b, b ≠ a → b ≠ d → H2 b = H1 b) → (∀ (i : Nat) (n : Str) (v : V), ns[i]? = some n → vs[i]? = some v → fs.lookup n = some v) → Q (.ref a) H2 := by
        intro d fs H2 hd hda h1 h2 h3 hfs
        have xt := Ext.exn x1.gh hna hd hda h1 h2 h3
        refine q _ H2 _ (x1.trans xt) ?_
        exact Rep.exn hn upd_same (by rw [upd_ne hda, upd_same]) hfs (rep.mono xt.gg)
      rcases few with h1 | ⟨f1, f2, rfl, hne⟩
      · match ns, vs, us, h1, hlen, hl, rep with
        | [f1], [u1], [w1], _, _, _, rep =>
          refine ⟨a, u1, rfl, upd_same, fun d hd hda => ⟨rfl, ?_⟩⟩
          rw [upd_ne hda] at hd
          refine fin d [(f1, u1)] _ hd hda upd_same (by rw [upd_ne hda, upd_same]) (fun b h1 h2 => by rw [upd_ne h1, upd_ne h2, upd_ne h1]) fun i n v h1 h2 => ?_
          match i, h1, h2 with
          | 0, h1, h2 => cases h1; cases h2; simp [List.lookup]
          | i + 1, h1, h2 => cases h1
      · match vs, us, hlen, hl, rep with
        | [u1, u2], [w1, w2], _, _, rep =>
          refine ⟨a, u1, u2, rfl, upd_same, fun d hd hda => ⟨rfl, ?_⟩⟩
          rw [upd_ne hda] at hd
          refine fin d [(f2, u2), (f1, u1)] _ hd hda (by rw [upd_ne (Ne.symm hda), upd_same]) upd_same (fun b h1 h2 => by rw [upd_ne h2, upd_ne h1, upd_ne h2, upd_ne h1]) fun i n v h1 h2 => ?_
          match i, h1, h2 with
          | 0, h1, h2 =>
            cases h1; cases h2
            have : (f1 == f2) = false := by simpa using hne
            simp [List.lookup, this]
          | 1, h1, h2 => cases h1; cases h2; simp [List.lookup]
          | i + 2, h1, h2 => cases h1
  · rcases Res.bind_ex e with e1 | ⟨u, e1, e⟩
    · exact ha.ev.ex B G0 G env σ H y r e1 w _
    · exact absurd e if_nx
theorem de_mkV0 {K : PySem.W.Frag} (c : DX0 X.K X.mg x) (hg : Gl X x := by rfl) (hdb : (x == ("__debug__" : Str)) = false := by decide) (hK : X.K = K := by rfl) :
    DE X W (.Call (.Name x p) [] [] pos) (fun _ H Q => ∀ a, H a = none → Q (.ref a) (upd H a (exo a (adr K x) none))) (mkV0 x) := by
  subst hK
  obtain ⟨C, bmB, B, newId, initId, hm, hn, F, q, kC, sC, tC⟩ := c
  rw [adr_eq hn]
  exact ⟨pe_oex0 F q hm kC hg hdb, ⟨fun B G0 G env σ H z r e Q k => by
    cases e
    exact fun a ha => k _ _ _ (Ext.newG r.gh ha) (Rep.exn0 hn upd_same), fun B G0 G env σ H y r e => nomatch e⟩⟩
end
/-! e.f -/
def tXv (K : PySem.W.Frag) (f : Str) (te : TE) : TE := fun σ H Q => te σ H fun x H1 => ∃ (a C dd : Addr) (fs : List (Str × V)) (v : V), x = .ref a ∧ H1 a = some (exo a C (some dd)) ∧ H1 dd = some (exd dd fs) ∧ XfC K C ∧ PySem.W.findIn K (.ref C) f = some none ∧ fs.lookup f = some v ∧ Q v H1
theorem pe_xv {X : Cx} {e : Expr} {te : TE} {pos : Pos} {n : Str} (he : PE X e te) (hb : attributeBase e n X.env (eval e X.env) = eval e X.env := by rfl) : PE X (.Attribute e n pos) (tXv X.K n te) := by
  refine ⟨fun pins s σ H Q I h => ?_⟩
  refine attr_of hb (thn (he.run pins s σ H _ I h) fun u s1 hh => ?_)
  obtain ⟨x, H1, I1, rx, a, C, dd, fs, v, ex, ea, ed, T, hno, l, q⟩ := hh
  subst ex
  obtain rfl : u = Value.ref a := rx
  obtain ⟨t1, ha⟩ := exo_at I1.hok ea
  obtain ⟨mA, hns, hr⟩ := exd_at I1.hok ed
  obtain ⟨od, ho, hl⟩ := lookIn_ns hns
  obtain ⟨u, hu, ru⟩ := RelO.some_of (v := v) (o := mA n) (by rw [← l]; exact hr n)
  have J : PySem.W.InstAt s1.heap a { cls := .ref C, dict := some dd, data := .fields #[.ref t1, .none, .none, .none, .bool false, .none] } C (some od) := ⟨ha, rfl, rfl, ho⟩
  exact HandSPX.exc_get I1.kIn J T.ga T.gg T.exC (PySem.W.findObj_own T.hdC hno rfl (by rw [hl, hu])) (handed_of ru) ⟨v, H1, I1.tok _, ru, q⟩
def xvP (fn : Str) (cs : List Str) (u : Vl) : Res Vl := match u.d with
  | .exn c ns xs => if cs.contains c = true then match (ns.zip xs).lookup fn with
    | some d => .ok ⟨u.k.sub, d⟩
    | none => .no else .no
  | _ => .no
theorem xvP_nx {fn : Str} {cs : List Str} {u : Vl} {x : Exn} : xvP fn cs u ≠ .ex x := by
  unfold xvP
  repeat' split
  all_goals exact fun z => by cases z
theorem zip_at {α : Type} {fn : Str} {d : α} : ∀ {ns : List Str} {xs : List α}, (ns.zip xs).lookup fn = some d → ∃ i : Nat, ns[i]? = some fn ∧ xs[i]? = some d
  | [], _, h => by cases h
  | _ :: _, [], h => by cases h
  | n :: ns, x :: xs, h => by
    by_cases hg : fn = n
    · subst hg
      simp [List.lookup] at h
      subst h
      exact ⟨0, rfl, rfl⟩
    · have : (fn == n) = false := by simpa using hg
      simp [List.lookup, this] at h
      obtain ⟨i, h1, h2⟩ := zip_at h
      exact ⟨i + 1, by simpa using h1, by simpa using h2⟩
theorem Rep.exn_inv {K : PySem.W.Frag} {G : Hp} {v : V} {c : Str} {ns : List Str} {xs : List D} (h : Rep K G v (.exn c ns xs)) : ∃ a C d, v = .ref a ∧ PySem.W.nsIn K mainGlobals c = some (some (.ref C)) ∧ G a = some (exo a C d) ∧
    ((d = none ∧ ns = []) ∨ ∃ (dx : Addr) (fs : List (Str × V)) (vs : List V), d = some dx ∧ G dx = some (exd dx fs) ∧ (∀ (i : Nat) (n : Str) (v : V), ns[i]? = some n → vs[i]? = some v → fs.lookup n = some v) ∧ RepL K G vs xs) := by
  cases h with
  | exn0 h1 h2 => exact ⟨_, _, none, rfl, h1, h2, .inl ⟨rfl, rfl⟩⟩
  | exn h1 h2 h3 h4 h5 => exact ⟨_, _, _, rfl, h1, h2, .inr ⟨_, _, _, rfl, h3, h4, h5⟩⟩
/-- how an exception lies -/
theorem Rp.exnv {K : PySem.W.Frag} {W : Wi} {B G0 G' H H' : Hp} {env : En} {σ : L2.St} {u : Vl} {v : V} {c : Str} {ns : List Str} {xs : List D} (r : Rel K W B G0 G' env σ H') (h : Rp K B G' H H' u v) (e : u.d = .exn c ns xs) :
    ∃ a C d, v = .ref a ∧ PySem.W.nsIn K mainGlobals c = some (some (.ref C)) ∧ H' a = some (exo a C d) ∧
    ((d = none ∧ ns = []) ∨ ∃ (dx : Addr) (fs : List (Str × V)) (vs : List V), d = some dx ∧ H' dx = some (exd dx fs) ∧ (∀ (i : Nat) (n : Str) (v : V), ns[i]? = some n → vs[i]? = some v → fs.lookup n = some v) ∧ ∀ (i : Nat) y, xs[i]? = some y → ∃ w : V, vs[i]? = some w ∧ Rp K B G' H H' ⟨u.k.sub, y⟩ w) ∧ ((∀ dx, d = some dx → ∃ fs, H' dx = some (exd dx fs))) := by
  obtain ⟨k, d⟩ := u
  dsimp only at e
  subst e
  cases k with
  | g =>
    obtain ⟨a, C, d, e1, e2, e3, e4⟩ := Rep.exn_inv h
    refine ⟨a, C, d, e1, e2, r.gh _ _ e3, ?_, ?_⟩
    · rcases e4 with e4 | ⟨dx, fs, vs, e5, e6, e7, e8⟩
      · exact .inl e4
      · exact .inr ⟨dx, fs, vs, e5, r.gh _ _ e6, e7, fun i y h1 => e8.get' h1⟩
    · rintro dx rfl
      rcases e4 with ⟨e4, _⟩ | ⟨dx, fs, vs, e5, e6, e7, e8⟩
      · cases e4
      · cases e5; exact ⟨fs, r.gh _ _ e6⟩
  | b =>
    obtain ⟨a, C, d, e1, e2, e3, e4⟩ := Rep.exn_inv h
    refine ⟨a, C, d, e1, e2, r.bh _ _ e3, ?_, ?_⟩
    · rcases e4 with e4 | ⟨dx, fs, vs, e5, e6, e7, e8⟩
      · exact .inl e4
      · exact .inr ⟨dx, fs, vs, e5, r.bh _ _ e6, e7, fun i y h1 => e8.get' h1⟩
    · rintro dx rfl
      rcases e4 with ⟨e4, _⟩ | ⟨dx, fs, vs, e5, e6, e7, e8⟩
      · cases e4
      · cases e5; exact ⟨fs, r.bh _ _ e6⟩
  | h =>
    obtain ⟨L, vs, ds, e1, e2, _⟩ := h
    cases e2
  | o =>
    obtain ⟨L, vs, ds, e1, e2, _⟩ := h
    cases e2
theorem de_xv {X : Cx} {W : Wi} {K : PySem.W.Frag} {e : Expr} {te : TE} {f : En → Res Vl} {pos : Pos} {n : Str} (cs : List Str) (T : ∀ c, cs.contains c = true → XfC K (adr K c) ∧ PySem.W.findIn K (.ref (adr K c)) n = some none) (he : DE X W e te f) (hb : attributeBase e n X.env (eval e X.env) = eval e X.env := by rfl) (hK : X.K = K := by rfl) :
    DE X W (.Attribute e n pos) (tXv K n te) (unE (xvP n cs) f) := by
  subst hK
  refine ⟨pe_xv he.pe hb, ⟨fun B G0 G env σ H z r e Q q => ?_, fun B G0 G env σ H y r e w Q => ?_⟩⟩
  · obtain ⟨u, e1, e2⟩ := Res.bind_eq e
    refine he.ev.ok B G0 G env σ H u r e1 _ fun G' H' v x hv => ?_
    unfold xvP at e2
    split at e2
    · rename_i c ns xs ed
      split at e2
      · rename_i hc
        split at e2
        · rename_i d hl
          cases e2
          obtain ⟨i, l1, l2⟩ := zip_at hl
          obtain ⟨a, C, d', e1, e2, e3, e4, _⟩ := Rp.exnv (r.ext x) hv ed
          obtain ⟨T1, T2⟩ := T c hc
          rw [adr_eq e2] at T1 T2
          rcases e4 with ⟨_, e4⟩ | ⟨dx, fs, vs, rfl, e6, e7, e8⟩
          · subst e4; cases l1
          · obtain ⟨w, l3, l4⟩ := e8 i _ l2
            exact ⟨a, C, dx, fs, w, e1, e3, e6, T1, T2, e7 i n _ l1 l3, q G' H' _ x l4⟩
        · cases e2
      · cases e2
    · cases e2
  · rcases Res.bind_ex e with e1 | ⟨u, e1, e⟩
    · exact he.ev.ex B G0 G env σ H y r e1 w _
    · exact absurd e xvP_nx

/-! isinstance(e, T), e an exception as a value -/
def rIsV (K : PySem.W.Frag) : List V → Hp → VK → Prop := fun xs H Q => ∃ (a C : Addr) (d : Option Addr) (c : V) (cv : Value) (b : Bool), xs = [.ref a, c] ∧ H a = some (exo a C d) ∧ (∀ dd, d = some dd → ∃ l, H dd = some (exd dd l)) ∧ ExcC K C ∧ (∀ u, RelV c u → u = cv) ∧ PySem.W.kitOne K (.ref C) cv = some b ∧ Q (.bl b) H
theorem call_isV {X : Cx} : CallR X (.builtin "isinstance") (rIsV X.K) := by
  intro pins s σ H xs us Q I r h
  obtain ⟨a, D, d, c, cv, b, rfl, ha, hdd, C, hcv, e, q⟩ := h
  cases r with
  | cons rx rr =>
    cases rr with
    | cons rt rr =>
      cases rr
      cases rx
      have ec := hcv _ rt
      subst ec
      obtain ⟨t1, hget⟩ := exo_at I.hok ha
      have J : ∃ od, PySem.W.InstAt s.heap a { cls := .ref D, dict := d, data := .fields #[.ref t1, .none, .none, .none, .bool false, .none] } D od := by
        cases d with
        | none => exact ⟨none, hget, rfl, rfl, trivial⟩
        | some dd =>
          obtain ⟨l, hl⟩ := hdd dd rfl
          obtain ⟨mA, hns, hr⟩ := exd_at I.hok hl
          obtain ⟨od, ho, _⟩ := lookIn_ns hns
          exact ⟨some od, hget, rfl, rfl, ho⟩
      obtain ⟨od, J⟩ := J
      exact PySem.W.kia_one (PySem.W.kitx_exc (by obtain ⟨cd, hc, _⟩ := PySem.W.any_some C.hd; rw [hc]; rfl) C.hg C.hk C.hs C.ha C.hn C.ht C.hm) I.kIn J e (fun z => nomatch z) fun tk => ⟨.bl b, H, I.kept (t' := tk) fun _ _ z => z, rfl, q⟩
def isV (cs yes : List Str) (u : Vl) : Res Vl := match u.d with
  | .exn c _ _ => if cs.contains c = true then .ok ⟨.g, .bl (yes.contains c)⟩ else .no
  | _ => .no
theorem isV_nx {cs yes : List Str} {u : Vl} {x : Exn} : isV cs yes u ≠ .ex x := by
  unfold isV
  split
  · exact if_nx
  · exact fun z => nomatch z
theorem ev_isV {K : PySem.W.Frag} {W : Wi} {v : V} {cv : Value} {te : TE} {f : En → Res Vl} (cs yes : List Str) (T : ∀ c, cs.contains c = true → ExcC K (adr K c)) (hv : ∀ u, RelV v u → u = cv) (hk : ∀ c, cs.contains c = true → PySem.W.kitOne K (.ref (adr K c)) cv = some (yes.contains c)) (he : EvD K W te f) :
    EvD K W (tCB (rIsV K) (tCons te (tCons (tC v) tNil))) (unE (isV cs yes) f) := ⟨fun B G0 G env σ H z r e Q q => (by
  obtain ⟨u, e1, e2⟩ := Res.bind_eq e
  refine he.ok B G0 G env σ H u r e1 _ fun G' H' w x hw => ?_
  unfold isV at e2
  split at e2
  · rename_i c ns xs ed
    obtain ⟨hc, rfl⟩ := if_ok e2
    obtain ⟨a, C, d', f1, f2, f3, _, f4⟩ := Rp.exnv (r.ext x) hw ed
    have T1 := T c hc
    have T2 := hk c hc
    rw [adr_eq f2] at T1 T2
    exact ⟨a, C, d', v, cv, _, by rw [f1], f3, f4, T1, hv, T2, q G' H' _ x (.bl _)⟩
  · cases e2), fun B G0 G env σ H y r e w Q => by
  rcases Res.bind_ex e with e1 | ⟨u, e1, e⟩
  · exact he.ex B G0 G env σ H y r e1 w _
  · exact absurd e isV_nx⟩
section
variable {X : Cx} {W : Wi} {K : PySem.W.Frag} {pos p p2 : Pos} {e : Expr} {te : TE} {f : En → Res Vl} {T : Str}
/-- T an own class -/
theorem de_isV (cs yes : List Str) (hC : ∀ c, cs.contains c = true → ExcC K (adr K c)) (hT : X.mg T = some (.ref (adr K T))) (hk : ∀ c, cs.contains c = true → PySem.W.kitOne K (.ref (adr K c)) (.ref (adr K T)) = some (yes.contains c)) (hm : X.mg "isinstance" = none) (h : DE X W e te f)
    (hg : Gl X "isinstance" := by rfl) (hgT : Gl X T := by rfl) (hdb : (T == ("__debug__" : Str)) = false := by decide)
    (h1 : starEach (e :: [.Name T p2]) X.env = (false, eval e X.env) :: starEach [.Name T p2] X.env := by rfl) (hK : X.K = K := by rfl) : DE X W (.Call (.Name "isinstance" p) [e, .Name T p2] [] pos) (tCB (rIsV K) (tCons te (tCons (tC (.ref (adr K T))) tNil))) (unE (isV cs yes) f) := by
  subst hK
  exact ⟨pe_callB call_isV hg hm (by decide +kernel) (pa_cons h.pe (pa_cons (pe_glob (v := .ref (adr X.K T)) hgT hT rfl hdb) pa_nil) h1) (by decide) (by decide) h1, ev_isV cs yes hC (fun u r => r) hk h.ev⟩
/-- T a built-in class -/
theorem de_isVb {Ts : String} (cs yes : List Str) (hC : ∀ c, cs.contains c = true → ExcC K (adr K c)) (hv : bootBuiltins T = some (.type Ts)) (hmT : X.mg T = none) (hk : ∀ c, cs.contains c = true → PySem.W.kitOne K (.ref (adr K c)) (.type Ts) = some (yes.contains c)) (hm : X.mg "isinstance" = none) (h : DE X W e te f)
    (hg : Gl X "isinstance" := by rfl) (hgT : Gl X T := by rfl) (hn : T ≠ "__name__" := by decide) (hdb : (T == ("__debug__" : Str)) = false := by decide)
    (h1 : starEach (e :: [.Name T p2]) X.env = (false, eval e X.env) :: starEach [.Name T p2] X.env := by rfl) (hK : X.K = K := by rfl) : DE X W (.Call (.Name "isinstance" p) [e, .Name T p2] [] pos) (tCB (rIsV K) (tCons te (tCons (tC (.ty Ts)) tNil))) (unE (isV cs yes) f) := by
  subst hK
  exact ⟨pe_callB call_isV hg hm (by decide +kernel) (pa_cons h.pe (pa_cons (pe_bltn hgT hmT hv rfl hn hdb) pa_nil) h1) (by decide) (by decide) h1, ev_isV cs yes hC (fun u r => r) hk h.ev⟩
end
/-! the facts by one look -/
def exB (K : PySem.W.Frag) (D : Addr) : Bool := PySem.W.findIn K (.ref D) "__getattribute__" == some (some (.builtin "BaseException.__getattribute__")) && (PySem.W.findIn K (.ref D) "__getattr__" == some none && (PySem.W.subIn K (.ref D) (.type "BaseException") == some true && (PySem.W.hasDictIn K D &&
  (PySem.W.findIn K (.ref D) "__class__" == some (some (.builtin "object.__class__")) && (PySem.W.specialIn K (.builtin "object.__class__") "__get__" == some (some (.builtin "getset_descriptor.__get__")) && (PySem.W.takesIn K (.builtin "object.__class__") == some true && PySem.W.mroIn K D (.type "object") == some true))))))
theorem exB_ok {K : PySem.W.Frag} {D : Addr} (h : exB K D = true) : ExcC K D ∧ XfC K D := by
  unfold exB at h
  simp only [Bool.and_eq_true, beq_iff_eq] at h
  obtain ⟨h1, h2, h3, h4, h5, h6, h7, h8⟩ := h
  exact ⟨⟨h1, h2, h3, h4, h5, h6, h7, h8⟩, ⟨h1, h2, h3, h4⟩⟩
def exAll (K : PySem.W.Frag) (cs : List Str) : Bool := cs.all fun c => exB K (adr K c)
theorem exAll_c {K : PySem.W.Frag} {cs : List Str} (h : exAll K cs = true) : ∀ c, cs.contains c = true → ExcC K (adr K c) := fun c hc => (exB_ok (List.all_eq_true.1 h c (List.contains_iff_mem.1 hc))).1
theorem exAll_x {K : PySem.W.Frag} {cs : List Str} (h : exAll K cs = true) : ∀ c, cs.contains c = true → XfC K (adr K c) := fun c hc => (exB_ok (List.all_eq_true.1 h c (List.contains_iff_mem.1 hc))).2
def noAll (K : PySem.W.Frag) (n : Str) (cs : List Str) : Bool := cs.all fun c => PySem.W.findIn K (.ref (adr K c)) n == some none
theorem noAll_c {K : PySem.W.Frag} {n : Str} {cs : List Str} (h : noAll K n cs = true) : ∀ c, cs.contains c = true → PySem.W.findIn K (.ref (adr K c)) n = some none := fun c hc => beq_iff_eq.1 (List.all_eq_true.1 h c (List.contains_iff_mem.1 hc))
def kitAll (K : PySem.W.Frag) (cs yes : List Str) (cv : Value) : Bool := cs.all fun c => PySem.W.kitOne K (.ref (adr K c)) cv == some (yes.contains c)
theorem kitAll_c {K : PySem.W.Frag} {cs yes : List Str} {cv : Value} (h : kitAll K cs yes cv = true) : ∀ c, cs.contains c = true → PySem.W.kitOne K (.ref (adr K c)) cv = some (yes.contains c) := fun c hc => beq_iff_eq.1 (List.all_eq_true.1 h c (List.contains_iff_mem.1 hc))
end DL

namespace DL
open PySem L2 PySem.Spec PyProof.Rows
/-! ### the text of exception classes -/
/-- the j-th statement of a class -/
def inC (st : Stmt) (j : Nat) : Stmt := match st with
  | .ClassDef _ _ _ body _ _ _ _ _ _ p => body.getD j (.Pass p)
  | s => s
structure DXt (K : PySem.W.Frag) (mg : Str → Option Value) (x : Str) (ns : List Str) (st : Stmt) : Prop where
  ex : ∃ (C fI : Addr) (fd : FuncData) (qual : Str), mg x = some (.ref C) ∧ PySem.W.nsIn K mainGlobals x = some (some (.ref C)) ∧ OexC K C ∧ PySem.W.findIn K (.ref C) "__init__" = some (some (.ref fI)) ∧ PySem.W.typeIn K (.ref fI) = some (.type "function") ∧ Fun K "__init__" qual st fI fd ∧ Binds K fd (("self" : Str) :: ns) [] ∧ ∀ n, ns.contains n = true → PySem.W.findIn K (.ref C) n = some none
theorem dxt_mk {K : PySem.W.Frag} {h : Heap} {mg : Str → Option Value} {x qual : Str} {ns : List Str} {st : Stmt} {f C : Addr} {nm q : Str} {N : Addr} {bs bm : List Value} {sn : List Str} {sub : List Value} {ab : Bool} {col : Option Bool} {dd : Option Addr} {m0 m1 m2 m3 m5 : Option Value} {oc : Value} {od an : Option Addr} {sl : Array (Option Value)} {kV dc pm cd ct : Value} (X : K.In h) (G : h.Ns mainGlobals mg) (a : PySem.W.nsIn K mainGlobals x = some (some (.ref C)))
    (cl : K.lookup C = some (excClassObj nm q C N bs bm true sn sub ab col dd m0 m1 m2 m3 m5 "ValueError.__new__")) (sa : PySem.W.findIn K (.ref C) "__setattr__" = some (some (.builtin "object.__setattr__")))
    (eC : PySem.W.subIn K (.ref C) (.type "BaseException") = some true) (tC : PySem.W.typeIn K (.ref C) = some (.type "type")) (kC : PySem.W.keepIn K (.ref C) = true) (iC : PySem.W.findIn K (.ref C) "__init__" = some (some (.ref f))) (tI : PySem.W.typeIn K (.ref f) = some (.type "function"))
    (l : K.lookup f = some ⟨oc, od, .func (PySem.W.fnOf "__init__" qual (defArgs st) (defBody st) (defScope st) .none kV dc pm an cd ct), sl⟩) (c : PySem.W.codeIn K cd qual = true) (k : PySem.W.keepIn K (.ref f) = true)
    (rv : PySem.HandSPX.refsVE bm = true) (nf : (ns.all fun n => PySem.W.findIn K (.ref C) n == some none) = true)
    (hb : ∀ (kV doc pm : Value) (an : Option Addr) (cdv ct : Value) (us : List Value), us.length = (("self" : Str) :: ns).length → bindArgs (PySem.W.fnOf "__init__" qual (defArgs st) (defBody st) (defScope st) .none kV doc pm an cdv ct) ⟨us, []⟩ = pure ((("self" : Str) :: ns).zip us)) : DXt K mg x ns st :=
  ⟨C, f, _, qual, PySem.W.mg_of X G a, a, ⟨⟨nm, q, N, bs, bm, sn, sub, ab, col, dd, m0, m1, m2, m3, m5, cl, rv⟩, sa, eC, tC, kC⟩, iC, tI, fun_mk l c k, (fun_mk l c k).binds hb, fun n hn => beq_iff_eq.1 (List.all_eq_true.1 nf n (List.contains_iff_mem.1 hn))⟩
section
variable {P : Program} {w : World} {K : PySem.W.Frag} {mg : Str → Option Value} {base : Heap} {x : Str} {st : Stmt} {f g : Str}
theorem dx_1 (d : DXt K mg x [f] st) (S : FnScope ["self", f] ["self", f] (defScope st))
    (h : ∀ (fI : Addr) (qual : Str) (cdv : Value) (A : Around) (outer : List Env) (s : Shared) (H : Hp) (E : XK), PSs (cxOf CX0 P w K mg base ["self", f] qual (defScope st) fI cdv A outer s H E).nox (defBody st) (tOst K f (tVar 0) (tVar 1))) : DX P w K mg base x [f] := by
  obtain ⟨C, fI, fd, qual, h1, h2, h3, h4, h5, h6, h7, h8⟩ := d.ex
  exact ⟨⟨C, fI, fd, _, h1, h2, h3, h4, h5, h7, init1 (k := 0) h3 (h8 f (by simp)) h6 S (h fI qual)⟩, .inl rfl⟩
theorem dx_2 (d : DXt K mg x [f, g] st) (S : FnScope ["self", f, g] ["self", f, g] (defScope st)) (ne : f ≠ g)
    (h : ∀ (fI : Addr) (qual : Str) (cdv : Value) (A : Around) (outer : List Env) (s : Shared) (H : Hp) (E : XK), PSs (cxOf CX0 P w K mg base ["self", f, g] qual (defScope st) fI cdv A outer s H E).nox (defBody st) (tSeq (tOst K f (tVar 0) (tVar 1)) (tOst K g (tVar 0) (tVar 2)))) : DX P w K mg base x [f, g] := by
  obtain ⟨C, fI, fd, qual, h1, h2, h3, h4, h5, h6, h7, h8⟩ := d.ex
  exact ⟨⟨C, fI, fd, _, h1, h2, h3, h4, h5, h7, init2 (k := 0) h3 (h8 f (by simp)) (h8 g (by simp)) h6 S (h fI qual)⟩, .inr ⟨f, g, rfl, ne⟩⟩
end
theorem dx0_mk {K : PySem.W.Frag} {h : Heap} {mg : Str → Option Value} {x : Str} {C : Addr} {bm : List Value} {B newId initId : String} (X : K.In h) (G : h.Ns mainGlobals mg) (F : ExcBaseFacts B newId initId bm) (a : PySem.W.nsIn K mainGlobals x = some (some (.ref C)))
    (q : PySem.W.excIn K C bm newId = true) (kC : PySem.W.keepIn K (.ref C) = true) (sC : PySem.W.subIn K (.ref C) (.type "BaseException") = some true) (tC : PySem.W.typeIn K (.ref C) = some (.type "type")) : DX0 K mg x :=
  ⟨C, bm, B, newId, initId, PySem.W.mg_of X G a, a, F, q, kC, sC, tC⟩
/-- a class stands under its name -/
theorem cls_mk {K : PySem.W.Frag} {h : Heap} {mg : Str → Option Value} {x : Str} {C : Addr} (X : K.In h) (G : h.Ns mainGlobals mg) (a : PySem.W.nsIn K mainGlobals x = some (some (.ref C))) : mg x = some (.ref (adr K x)) := by
  rw [adr_eq a]
  exact PySem.W.mg_of X G a
end DL

namespace DL
open PySem L2 PySem.Spec PyProof.Rows
/-! ### what a clause catches; isinstance of the caught one -/
def cmOf (cs yes : List Str) (x : Str) : Option Bool := if cs.contains x = true then some (yes.contains x) else none
def exmAll (K : PySem.W.Frag) (cs yes : List Str) (cv : Value) : Bool := cs.all fun c => PySem.W.exmOne K (.ref (adr K c)) cv == some (yes.contains c)
theorem exmAll_c {K : PySem.W.Frag} {cs yes : List Str} {cv : Value} (h : exmAll K cs yes cv = true) (x : Str) (b : Bool) (C : Addr) (hc : cmOf cs yes x = some b) (hn : PySem.W.nsIn K mainGlobals x = some (some (.ref C))) : PySem.W.exmOne K (.ref C) cv = some b := by
  unfold cmOf at hc
  split at hc
  · rename_i hx
    cases hc
    have := beq_iff_eq.1 (List.all_eq_true.1 h x (List.contains_iff_mem.1 hx))
    rwa [adr_eq hn] at this
  · cases hc
/-- isinstance of the exception in slot i -/
def isXT (i : Nat) (cs yes : List Str) : En → Res Vl := fun env => match env[i]? with
  | some (.xc x) => if cs.contains x.c = true then .ok ⟨.g, .bl (yes.contains x.c)⟩ else .no
  | _ => .no
theorem isXT_ne {i : Nat} {cs yes : List Str} {env : En} {x : Exn} : isXT i cs yes env ≠ .ex x := by
  unfold isXT
  split
  · exact if_nx
  · exact fun z => nomatch z
def rIsY (K : PySem.W.Frag) (a : Addr) (cls : Value) (d : Option Addr) : List V → Hp → VK → Prop := fun xs H Q => ∃ D : Addr, ExcC K D ∧ rIsX K D a cls d xs H Q
theorem call_isY {X : Cx} {a : Addr} {oe : Obj} {cls : Value} {d : Option Addr} {pn : List (Addr × Obj)} (hz : Zc cls d oe) (hf : ∃ vs, oe.data = .fields vs) : CallR (X.suite a ((a, oe) :: pn)) (.builtin "isinstance") (rIsY X.K a cls d) := by
  intro pins st H xs us Q v I r h
  obtain ⟨D, hD, h⟩ := h
  exact call_isX hD hz hf pins st H xs us Q v I r h
theorem ev_isXT {tl : Tl} {K : PySem.W.Frag} {a : Addr} {cls : Value} {d : Option Addr} {i : Nat} {v : V} {cv : Value} (cs yes : List Str) (T : ∀ c, cs.contains c = true → ExcC K (adr K c)) (hv : ∀ u, RelV v u → u = cv) (hk : ∀ c, cs.contains c = true → PySem.W.kitOne K (.ref (adr K c)) cv = some (yes.contains c)) :
    EvD K (suW tl a cls d) (tCB (rIsY K a cls d) (tCons (tVar i) (tCons (tC v) tNil))) (isXT i cs yes) := ⟨fun B G0 G env σ H u r e Q q => (by
  unfold isXT at e
  split at e
  · rename_i x ex
    obtain ⟨hc, rfl⟩ := if_ok e
    obtain ⟨eo, C', h1, h2, h0, h3⟩ := r.caught ex
    have T1 := T _ hc
    have T2 := hk _ hc
    rw [adr_eq h2] at T1 T2
    refine ⟨.ref a, eo, C', T1, v, cv, _, rfl, h1, fun dd hdd => ?_, hv, T2, q G H _ (Ext.refl r.gh) (.bl _)⟩
    by_cases hn : x.fs = []
    · have z : d = none := h0 hn
      rw [z] at hdd; cases hdd
    · obtain ⟨dd', l, g1, g2, _⟩ := h3 hn
      have g1 : d = some dd' := g1
      rw [hdd] at g1
      cases g1
      exact ⟨l, r.gh _ _ g2⟩
  · cases e), fun B G0 G env σ H x r e => absurd e isXT_ne⟩
section
variable {tl : Tl} {X : Cx} {K : PySem.W.Frag} {pos p p2 p3 : Pos} {T n : Str} {a : Addr} {oe : Obj} {cls : Value} {d : Option Addr} {pn : List (Addr × Obj)}
theorem de_isX (cs yes : List Str) (hz : Zc cls d oe) (hf : ∃ vs, oe.data = .fields vs) (hC : ∀ c, cs.contains c = true → ExcC K (adr K c)) (hT : X.mg T = some (.ref (adr K T))) (hk : ∀ c, cs.contains c = true → PySem.W.kitOne K (.ref (adr K c)) (.ref (adr K T)) = some (yes.contains c)) (hm : X.mg "isinstance" = none) (i : Nat)
    (hN : X.N[i]? = some n := by rfl) (hvs : Vis X.env.scope n := by first | exact Or.inl rfl | exact Or.inr (Or.inl rfl) | exact Or.inr (Or.inr rfl)) (hd : (n == ("__debug__" : Str)) = false := by decide) (hcd : (n == ("__classdict__" : Str)) = false := by decide)
    (hg : Gl X "isinstance" := by rfl) (hgT : Gl X T := by rfl) (hdb : (T == ("__debug__" : Str)) = false := by decide)
    (h1 : starEach (.Name n p3 :: [.Name T p2]) X.env = (false, eval (.Name n p3) X.env) :: starEach [.Name T p2] X.env := by rfl) (hK : X.K = K := by rfl) :
    DE (X.suite a ((a, oe) :: pn)) (suW tl a cls d) (.Call (.Name "isinstance" p) [.Name n p3, .Name T p2] [] pos) (tCB (rIsY K a cls d) (tCons (tVar i) (tCons (tC (.ref (adr K T))) tNil))) (isXT i cs yes) := by
  subst hK
  exact ⟨pe_callB (X := X.suite a ((a, oe) :: pn)) (call_isY hz hf) hg hm (by decide +kernel) (pa_cons (pe_var (X := X.suite a ((a, oe) :: pn)) hN hvs hd hcd) (pa_cons (pe_glob (X := X.suite a ((a, oe) :: pn)) (v := .ref (adr X.K T)) hgT hT rfl hdb) pa_nil) h1) (by decide) (by decide) h1, ev_isXT cs yes hC (fun u r => r) hk⟩
theorem de_isXb {Ts : String} (cs yes : List Str) (hz : Zc cls d oe) (hf : ∃ vs, oe.data = .fields vs) (hC : ∀ c, cs.contains c = true → ExcC K (adr K c)) (hv : bootBuiltins T = some (.type Ts)) (hmT : X.mg T = none) (hk : ∀ c, cs.contains c = true → PySem.W.kitOne K (.ref (adr K c)) (.type Ts) = some (yes.contains c)) (hm : X.mg "isinstance" = none) (i : Nat)
    (hN : X.N[i]? = some n := by rfl) (hvs : Vis X.env.scope n := by first | exact Or.inl rfl | exact Or.inr (Or.inl rfl) | exact Or.inr (Or.inr rfl)) (hd : (n == ("__debug__" : Str)) = false := by decide) (hcd : (n == ("__classdict__" : Str)) = false := by decide)
    (hg : Gl X "isinstance" := by rfl) (hgT : Gl X T := by rfl) (hn : T ≠ "__name__" := by decide) (hdb : (T == ("__debug__" : Str)) = false := by decide)
    (h1 : starEach (.Name n p3 :: [.Name T p2]) X.env = (false, eval (.Name n p3) X.env) :: starEach [.Name T p2] X.env := by rfl) (hK : X.K = K := by rfl) :
    DE (X.suite a ((a, oe) :: pn)) (suW tl a cls d) (.Call (.Name "isinstance" p) [.Name n p3, .Name T p2] [] pos) (tCB (rIsY K a cls d) (tCons (tVar i) (tCons (tC (.ty Ts)) tNil))) (isXT i cs yes) := by
  subst hK
  exact ⟨pe_callB (X := X.suite a ((a, oe) :: pn)) (call_isY hz hf) hg hm (by decide +kernel) (pa_cons (pe_var (X := X.suite a ((a, oe) :: pn)) hN hvs hd hcd) (pa_cons (pe_bltn (X := X.suite a ((a, oe) :: pn)) hgT hmT hv rfl hn hdb) pa_nil) h1) (by decide) (by decide) h1, ev_isXT cs yes hC (fun u r => r) hk⟩
end
end DL

namespace DL
open PySem L2 PySem.Spec PyProof.Rows
/-! ### instances: fields -/
def objB (K : PySem.W.Frag) (C : Addr) : Bool := PySem.W.plainGet K C Str.empty && (PySem.W.hasDictIn K C && (PySem.W.plainOver K C && PySem.W.findIn K (.ref C) "__setattr__" == some (some (.builtin "object.__setattr__"))))
theorem objB_ok {K : PySem.W.Frag} {C : Addr} (h : objB K C = true) : Cls K C := by
  unfold objB at h
  simp only [Bool.and_eq_true, beq_iff_eq] at h
  exact ⟨h.1, h.2.1, h.2.2.1, h.2.2.2⟩
def objAll (K : PySem.W.Frag) (cs : List Str) : Bool := cs.all fun c => objB K (adr K c)
theorem objAll_c {K : PySem.W.Frag} {cs : List Str} (h : objAll K cs = true) : ∀ c, cs.contains c = true → Cls K (adr K c) := fun c hc => objB_ok (List.all_eq_true.1 h c (List.contains_iff_mem.1 hc))
section
variable {K : PySem.W.Frag} {W : Wi} {B G0 G G' H H' : Hp} {env : En} {σ : L2.St}
theorem fld_rep {fn : Str} {d : D} : ∀ {fs : List (Str × V)} {xs : List D}, RepL K G (fs.map Prod.snd) xs → ((fs.map Prod.fst).zip xs).lookup fn = some d → ∃ v, fs.lookup fn = some v ∧ Rep K G v d
  | [], xs, _, h => by cases h
  | (n, v) :: fs, [], r, h => by cases r
  | (n, v) :: fs, x :: xs, .cons r1 r2, h => by
    by_cases hg : fn = n
    · subst hg
      simp [List.lookup] at h
      subst h
      exact ⟨v, by simp [List.lookup], r1⟩
    · have q : (fn == n) = false := by simpa using hg
      simp [List.lookup, q] at h
      obtain ⟨w, h1, h2⟩ := fld_rep r2 h
      exact ⟨w, by simp [List.lookup, q]; exact h1, h2⟩
theorem Rep.obj_inv {v : V} {c : Str} {ns : List Str} {xs : List D} (h : Rep K G v (.obj c ns xs)) : ∃ (a C dx : Addr) (fs : List (Str × V)), v = .ref a ∧ PySem.W.nsIn K mainGlobals c = some (some (.ref C)) ∧ G a = some (.ins C dx fs) ∧ fs.map Prod.fst = ns ∧ RepL K G (fs.map Prod.snd) xs := by
  cases h with
  | obj h1 h2 h3 h4 h5 => exact ⟨_, _, _, _, rfl, h1, h2, h3, by rw [h4]; exact h5⟩
/-- how an instance lies -/
theorem Rp.objv {u : Vl} {v : V} {c : Str} {ns : List Str} {xs : List D} (r : Rel K W B G0 G' env σ H') (h : Rp K B G' H H' u v) (e : u.d = .obj c ns xs) :
    ∃ (a C dx : Addr) (fs : List (Str × V)), v = .ref a ∧ PySem.W.nsIn K mainGlobals c = some (some (.ref C)) ∧ H' a = some (.ins C dx fs) ∧ fs.map Prod.fst = ns ∧ ∀ fn d, (ns.zip xs).lookup fn = some d → ∃ w, fs.lookup fn = some w ∧ Rp K B G' H H' ⟨u.k.sub, d⟩ w := by
  obtain ⟨k, d⟩ := u
  dsimp only at e
  subst e
  cases k with
  | g =>
    obtain ⟨a, C, dx, fs, e1, e2, e3, e4, e5⟩ := Rep.obj_inv h
    subst e4
    exact ⟨a, C, dx, fs, e1, e2, r.gh _ _ e3, rfl, fun fn d hl => fld_rep e5 hl⟩
  | b =>
    obtain ⟨a, C, dx, fs, e1, e2, e3, e4, e5⟩ := Rep.obj_inv h
    subst e4
    exact ⟨a, C, dx, fs, e1, e2, r.bh _ _ e3, rfl, fun fn d hl => fld_rep e5 hl⟩
  | h =>
    obtain ⟨L, vs, ds, e1, e2, _⟩ := h
    cases e2
  | o =>
    obtain ⟨L, vs, ds, e1, e2, _⟩ := h
    cases e2
end
/-- e.f of an instance of one of the classes cs -/
def fldP (fn : Str) (cs : List Str) (u : Vl) : Res Vl := match u.d with
  | .obj c ns xs => if cs.contains c = true then match (ns.zip xs).lookup fn with
    | some d => .ok ⟨u.k.sub, d⟩
    | none => .no else .no
  | _ => .no
theorem fldP_nx {fn : Str} {cs : List Str} {u : Vl} {x : Exn} : fldP fn cs u ≠ .ex x := by
  unfold fldP
  repeat' split
  all_goals exact fun z => by cases z
theorem de_fld {X : Cx} {W : Wi} {K : PySem.W.Frag} {e : Expr} {te : TE} {f : En → Res Vl} {pos : Pos} {n : Str} (cs : List Str) (T : ∀ c, cs.contains c = true → Cls K (adr K c)) (N : ∀ c, cs.contains c = true → PySem.W.findIn K (.ref (adr K c)) n = some none) (he : DE X W e te f) (hb : attributeBase e n X.env (eval e X.env) = eval e X.env := by rfl) (hK : X.K = K := by rfl) :
    DE X W (.Attribute e n pos) (tFld K te n) (unE (fldP n cs) f) := by
  subst hK
  refine ⟨pe_fld he.pe hb, ⟨fun B G0 G env σ H z r e Q q => ?_, fun B G0 G env σ H y r e w Q => ?_⟩⟩
  · obtain ⟨u, e1, e2⟩ := Res.bind_eq e
    refine he.ev.ok B G0 G env σ H u r e1 _ fun G' H' v x hv => ?_
    unfold fldP at e2
    split at e2
    · rename_i c ns xs ed
      split at e2
      · rename_i hc
        split at e2
        · rename_i d hl
          cases e2
          obtain ⟨a, C, dx, fs, f1, f2, f3, f4, f5⟩ := Rp.objv (r.ext x) hv ed
          have T1 := T c hc
          have N1 := N c hc
          rw [adr_eq f2] at T1 N1
          obtain ⟨w, g1, g2⟩ := f5 n d hl
          exact ⟨a, C, dx, fs, w, f1, f3, T1, N1, g1, q G' H' w x g2⟩
        · cases e2
      · cases e2
    · cases e2
  · rcases Res.bind_ex e with e1 | ⟨u, e1, e⟩
    · exact he.ev.ex B G0 G env σ H y r e1 w _
    · exact absurd e fldP_nx
/-! ### instances that stand in slots -/
/-- the class and the fields of an own instance -/
def insOf : Om → Option (Str × List Str)
  | .ins c ns => some (c, ns)
  | .slf c ns => some (c, ns)
  | _ => none
def Om.putN : Om → List Str → Om
  | .ins c _, ns => .ins c ns
  | .slf c _, ns => .slf c ns
  | t, _ => t
def omF (i : Nat) (fn : Str) (cs : List Str) : En → Res Vl := fun env => match env[i]? with
  | some (.om t xs) => match insOf t with
    | some (c, ns) => if cs.contains c = true then match (ns.zip xs).lookup fn with
      | some d => .ok ⟨.g, d⟩
      | none => .no else .no
    | none => .no
  | _ => .no
theorem omF_nx {i : Nat} {fn : Str} {cs : List Str} {env : En} {x : Exn} : omF i fn cs env ≠ .ex x := by
  unfold omF
  repeat' split
  all_goals exact fun z => by cases z
section
variable {K : PySem.W.Frag} {W : Wi} {B G0 G G' H H' : Hp} {env : En} {σ : L2.St}
theorem OmOk.inst {t : Om} {L : Addr} {xs : List D} {c : Str} {ns : List Str} (h : OmOk K W G H t L xs) (e : insOf t = some (c, ns)) : ∃ (C dx : Addr) (fs : List (Str × V)), PySem.W.nsIn K mainGlobals c = some (some (.ref C)) ∧ H L = some (.ins C dx fs) ∧ fs.map Prod.fst = ns ∧ RepL K G (fs.map Prod.snd) xs := by
  match t, h, e with
  | .ins c ns, h, e => cases e; exact h
  | .slf c ns, ⟨_, h⟩, e => cases e; exact h
theorem OmOk.put {t : Om} {L C dx : Addr} {xs xs' : List D} {c : Str} {ns ns' : List Str} {fs : List (Str × V)} {H2 : Hp} (h : OmOk K W G H t L xs) (e : insOf t = some (c, ns)) (hC : PySem.W.nsIn K mainGlobals c = some (some (.ref C))) (hL : H2 L = some (.ins C dx fs)) (hn : fs.map Prod.fst = ns') (hr : RepL K G (fs.map Prod.snd) xs') : OmOk K W G H2 (t.putN ns') L xs' := by
  match t, h, e with
  | .ins c _, h, e => cases e; exact ⟨C, dx, fs, hC, hL, hn, hr⟩
  | .slf c _, ⟨h0, h⟩, e => cases e; exact ⟨h0, C, dx, fs, hC, hL, hn, hr⟩
/-- an own thing changes -/
theorem Rel.mutO {i : Nat} {t t' : Om} {xs xs' : List D} {L : Addr} {o : HO} (r : Rel K W B G0 G env σ H) (e : env[i]? = some (.om t xs)) (eL : σ[i]? = some (some (.ref L))) (h : OmOk K W G (upd H L o) t' L xs') : Rel K W B G0 G (env.set i (.om t' xs')) σ (upd H L o) := by
  obtain ⟨L', y1, y2, y3, y4⟩ := r.sl i _ _ e eL
  cases y1
  refine ⟨r.g0, fun x u q => ?_, fun x u q => ?_, r.fr, by rw [List.length_set]; exact r.len, fun j s o' q1 q2 => ?_, fun j k s1 t1 L1 hjk q1 q2 o1 o2 q3 q4 => ?_⟩
  · rw [upd_ne (ne_of_none q y3)]; exact r.gh x u q
  · rw [upd_ne (ne_of_none q y2)]; exact r.bh x u q
  · rcases set_get q1 with ⟨rfl, rfl⟩ | ⟨ne, q1⟩
    · rw [eL] at q2
      cases q2
      exact ⟨L, rfl, y2, y3, h⟩
    · have x := r.sl j s o' q1 q2
      match s, x, q1 with
      | .no, _, _ => trivial
      | .vl true d, x, _ => exact x
      | .vl false d, x, _ => exact x
      | .xc y, x, _ => exact x
      | .ow ys, ⟨L2, ws, z1, z2, z3, z4, z5⟩, q1 =>
        have : L2 ≠ L := fun z => r.ds i j _ _ L ne e q1 rfl rfl eL (by rw [q2, z1, z])
        exact ⟨L2, ws, z1, z2, z3, by rw [upd_ne this]; exact z4, z5⟩
      | .om t ys, ⟨L2, z1, z2, z3, z4⟩, q1 =>
        have : L2 ≠ L := fun z => r.ds i j _ _ L ne e q1 rfl rfl eL (by rw [q2, z1, z])
        exact ⟨L2, z1, z2, z3, z4.mono (Same.refl _) (upd_ne this) rfl⟩
  · rcases set_get q1 with ⟨e1, z⟩ | ⟨n1, q1⟩
    · rcases set_get q2 with ⟨e2, _⟩ | ⟨n2, q2⟩
      · exact hjk (e1.symm.trans e2)
      · exact r.ds i k _ _ L1 n2 e q2 rfl o2 (by rw [e1]; exact q3) q4
    · rcases set_get q2 with ⟨e2, _⟩ | ⟨n2, q2⟩
      · exact r.ds j i _ _ L1 (Ne.symm n1) q1 e o1 rfl q3 (by rw [e2]; exact q4)
      · exact r.ds j k _ _ L1 hjk q1 q2 o1 o2 q3 q4
theorem ev_omF {i : Nat} {fn : Str} {cs : List Str} (T : ∀ c, cs.contains c = true → Cls K (adr K c)) (N : ∀ c, cs.contains c = true → PySem.W.findIn K (.ref (adr K c)) fn = some none) : EvD K W (tFld K (tVar i) fn) (omF i fn cs) := ⟨fun B G0 G env σ H u r e Q q => (by
  unfold omF at e
  split at e
  · rename_i t xs es
    split at e
    · rename_i c ns et
      split at e
      · rename_i hc
        split at e
        · rename_i d hl
          cases e
          obtain ⟨o, eo, L, rfl, b, g, om⟩ := r.slot es
          obtain ⟨C, dx, fs, h1, h2, h3, h4⟩ := om.inst et
          subst h3
          have T1 := T c hc
          have N1 := N c hc
          rw [adr_eq h1] at T1 N1
          obtain ⟨w, g1, g2⟩ := fld_rep h4 hl
          exact ⟨.ref L, eo, L, C, dx, fs, w, rfl, h2, T1, N1, g1, q G H w (Ext.refl r.gh) g2⟩
        · cases e
      · cases e
    · cases e
  · cases e), fun B G0 G env σ H x r e => absurd e omF_nx⟩
end
theorem de_omF {X : Cx} {W : Wi} {K : PySem.W.Frag} {x n : Str} {p pos : Pos} (i : Nat) (cs : List Str) (T : ∀ c, cs.contains c = true → Cls K (adr K c)) (N : ∀ c, cs.contains c = true → PySem.W.findIn K (.ref (adr K c)) n = some none) (hN : X.N[i]? = some x := by rfl) (hv : Vis X.env.scope x := by first | exact Or.inl rfl | exact Or.inr (Or.inl rfl) | exact Or.inr (Or.inr rfl)) (hd : (x == ("__debug__" : Str)) = false := by decide)
    (hcd : (x == ("__classdict__" : Str)) = false := by decide) (hb : attributeBase (.Name x p) n X.env (eval (.Name x p) X.env) = eval (.Name x p) X.env := by rfl) (hK : X.K = K := by rfl) : DE X W (.Attribute (.Name x p) n pos) (tFld K (tVar i) n) (omF i n cs) := by
  subst hK
  exact ⟨pe_fld (pe_var hN hv hd hcd) hb, ev_omF T N⟩
/-- self.f = e -/
def omPut (fn : Str) (d : D) : List Str → List D → List Str × List D
  | n :: ns, x :: xs => if n = fn then (n :: ns, d :: xs) else ((n :: (omPut fn d ns xs).1), (x :: (omPut fn d ns xs).2))
  | ns, _ => (ns ++ [fn], [d])
def stoO (i : Nat) (fn : Str) (cs : List Str) (f : En → Res Vl) : En → Out := fun env => match (f env).bind keepD with
  | .ok d => match env[i]? with
    | some (.om t xs) => match insOf t with
      | some (c, ns) => if cs.contains c = true ∧ ns.length < 900 then .nx (env.set i (.om (t.putN (omPut fn d ns xs).1) (omPut fn d ns xs).2)) else .no
      | none => .no
    | _ => .no
  | .ex x => .ex env x
  | .no => .no
theorem omPut_rep {K : PySem.W.Frag} {G : Hp} {fn : Str} {d : D} {v : V} (h : Rep K G v d) : ∀ {fs : List (Str × V)} {xs : List D}, RepL K G (fs.map Prod.snd) xs → (putF fn v fs).map Prod.fst = (omPut fn d (fs.map Prod.fst) xs).1 ∧ RepL K G ((putF fn v fs).map Prod.snd) (omPut fn d (fs.map Prod.fst) xs).2
  | [], [], _ => ⟨rfl, .cons h .nil⟩
  | (n, w) :: fs, [], r => by cases r
  | (n, w) :: fs, x :: xs, .cons r1 r2 => by
    obtain ⟨h1, h2⟩ := omPut_rep h r2
    unfold putF
    show _ = (omPut fn d (n :: fs.map Prod.fst) (x :: xs)).1 ∧ RepL K G _ (omPut fn d (n :: fs.map Prod.fst) (x :: xs)).2
    unfold omPut
    by_cases hn : n = fn
    · rw [if_pos hn, if_pos hn]
      exact ⟨rfl, .cons h r2⟩
    · rw [if_neg hn, if_neg hn]
      exact ⟨by rw [List.map_cons, h1], .cons r1 h2⟩
theorem sv_sto {K : PySem.W.Frag} {W : Wi} {te : TE} {f : En → Res Vl} (i : Nat) (fn : Str) (cs : List Str) (T : ∀ c, cs.contains c = true → Cls K (adr K c)) (N : ∀ c, cs.contains c = true → PySem.W.findIn K (.ref (adr K c)) fn = some none) (hf : EvD K W te f) : SvD K W (sFld K (tVar i) te fn) (stoO i fn cs f) := fun B G0 G env σ H D r k => by
  unfold stoO at k
  split at k
  · rename_i d e
    obtain ⟨u, e1, e2⟩ := Res.bind_eq e
    obtain ⟨hk, rfl⟩ := keepD_inv e2
    split at k
    · rename_i t xs es
      split at k
      · rename_i c ns et
        split at k
        · rename_i hc
          refine hf.ok B G0 G env σ H u r e1 _ fun G1 H1 v x hv => ?_
          obtain ⟨G2, x2, _, rep⟩ := hv.freeze x hk
          have r2 := r.ext x2
          obtain ⟨o, eo, L, rfl, b, g, om⟩ := r2.slot es
          obtain ⟨C, dx, fs, h1, h2, h3, h4⟩ := om.inst et
          subst h3
          have T1 := T c hc.1
          have N1 := N c hc.1
          rw [adr_eq h1] at T1 N1
          obtain ⟨p1, p2⟩ := omPut_rep rep h4
          exact ⟨.ref L, eo, L, C, dx, fs, rfl, h2, T1, N1, by have := hc.2; rw [List.length_map] at this; omega, k G2 σ _ x2.gg (r2.mutO es eo (om.put et h1 upd_same p1 p2))⟩
        · exact k.elim
      · exact k.elim
    · exact k.elim
  · rename_i y e
    rcases Res.bind_ex e with e1 | ⟨u, _, e2⟩
    · exact hf.ex B G0 G env σ H y r e1 (k.xok r) _
    · exact absurd e2 if_nx
  · exact k.elim
theorem ds_sto {X : Cx} {W : Wi} {K : PySem.W.Frag} {e : Expr} {te : TE} {f : En → Res Vl} {x n : Str} {p p' pos : Pos} (i : Nat) (cs : List Str) (T : ∀ c, cs.contains c = true → Cls K (adr K c)) (N : ∀ c, cs.contains c = true → PySem.W.findIn K (.ref (adr K c)) n = some none) (he : DE X W e te f) (hN : X.N[i]? = some x := by rfl)
    (hv : Vis X.env.scope x := by first | exact Or.inl rfl | exact Or.inr (Or.inl rfl) | exact Or.inr (Or.inr rfl)) (hd : (x == ("__debug__" : Str)) = false := by decide) (hcd : (x == ("__classdict__" : Str)) = false := by decide)
    (hs : swapsWith e (some (.Attribute (.Name x p) n p')) pos.line X.env = pure false := by rfl) (hK : X.K = K := by rfl) : DS X W (.Assign [.Attribute (.Name x p) n p'] e pos) (sFld K (tVar i) te n) (stoO i n cs f) := by
  subst hK
  exact ⟨ps_fld (pe_var hN hv hd hcd) he.pe hs, sv_sto i n cs T N he.ev⟩
end DL

namespace DL
open PySem L2 PySem.Spec PyProof.Rows
/-! ### methods -/
/-- o.m(..) where what is raised is wished for at the caller's slots -/
def tMethS (C : Addr) (m : Str) (sp : Sp) (E : L2.St → XK) (ta : TE) (t : TA) : TE := fun σ H Q => ta σ H fun x H1 => ∃ (a dx : Addr) (fs : List (Str × V)), x = .ref a ∧ H1 a = some (.ins C dx fs) ∧ fs.lookup m = none ∧ t σ H1 fun vs H2 => sp (x :: vs) H2 Q (E σ)
section
variable {X : Cx} {CX : CXT} {k : Nat} {f C : Addr} {fd : FuncData} {ps : List Str} {sp : Sp} {E : L2.St → XK} {m : Str} {pos apos : Pos} {e o : Expr} {es : List Expr} {ta : TE} {t : TA}
theorem pe_methS {pl : Sem Bool} (he : PE X o ta) (c : Cls X.K C) (hm : Meth X.K C m f) (F : FnOk X.prog X.w X.K X.mg X.base CX k f fd ps sp) (hr : Room k X.A) (hb : Binds X.K fd ps []) (hx : ∀ σ, PassesAt CX X σ (E σ)) (ha : PA X (e :: es) t)
    (hst : starEach (e :: es) X.env = (false, eval e X.env) :: starEach es X.env := by rfl) (hpl : (backTo pos (starEach es X.env)).any (·.1) = false := by rfl)
    (ht : eval (.Call (.Attribute o m apos) (e :: es) [] pos) X.env = (eval o X.env >>= fun ov => standAt apos.atName >>= fun _ => holding [ov] (getMethod ov m pl) >>= fun g => callWith pos g.1 g.2 (backTo pos (starEach (e :: es) X.env)) (backToKw pos (keywordEach [] X.env))) := by rfl) :
    PE X (.Call (.Attribute o m apos) (e :: es) [] pos) (tMethS C m sp E ta t) := ⟨fun pn sh st H0 Q inv hq => by
  refine PySem.W.methodCall_KW (pl := pl) (thn (he.run pn sh st H0 _ inv hq) ?_) ht
  rintro u sh1 ⟨x, H1, inv1, rx, a, dx, fs, rfl, at1, no, q⟩
  cases rx
  refine getmeth_ok inv1 at1 c hm no (PySem.W.callWith_K (first := [.ref a]) (h₀ := X.base) inv.ok.mod.kin hm.kp (thn (ha.run pos pn sh1 st H1 _ inv1 q) ?_) hst hpl)
  rintro us sh2 ⟨vs, H2, inv2, rel, q2⟩
  exact ⟨inv2.kIn, run_fnS (us := .ref a :: us) (vs := .ref a :: vs) F hr hb (hx st) inv2 (.cons rfl rel) q2⟩⟩
theorem pe_methS0 {pl : Sem Bool} (he : PE X o ta) (c : Cls X.K C) (hm : Meth X.K C m f) (F : FnOk X.prog X.w X.K X.mg X.base CX k f fd ps sp) (hr : Room k X.A) (hb : Binds X.K fd ps []) (hx : ∀ σ, PassesAt CX X σ (E σ))
    (ht : eval (.Call (.Attribute o m apos) [] [] pos) X.env = (eval o X.env >>= fun ov => standAt apos.atName >>= fun _ => holding [ov] (getMethod ov m pl) >>= fun g => callWith pos g.1 g.2 (backTo pos (starEach [] X.env)) (backToKw pos (keywordEach [] X.env))) := by rfl) :
    PE X (.Call (.Attribute o m apos) [] [] pos) (tMethS C m sp E ta tNil) := ⟨fun pn sh st H0 Q inv hq => by
  refine PySem.W.methodCall_KW (pl := pl) (thn (he.run pn sh st H0 _ inv hq) ?_) ht
  rintro u sh1 ⟨x, H1, inv1, rx, a, dx, fs, rfl, at1, no, q⟩
  cases rx
  exact getmeth_ok inv1 at1 c hm no (PySem.W.callWith_K0 (first := [.ref a]) inv1.kIn hm.kp (run_fnS (us := [.ref a]) (vs := [.ref a]) F hr hb (hx st) inv1 (.cons rfl .nil) q))⟩
end
/-- the text of a class's def -/
structure DnM (K : PySem.W.Frag) (c m : Str) (st : Stmt) (ps : List Str) : Prop where
  ex : ∃ (fa : Addr) (fd : FuncData) (qual : Str), Fun K m qual st fa fd ∧ Meth K (adr K c) m fa ∧ Binds K fd ps []
theorem dnm_mk {K : PySem.W.Frag} {h : Heap} {mg : Str → Option Value} {c m qual : Str} {st : Stmt} {ps : List Str} {f C : Addr} {oc : Value} {od an : Option Addr} {sl : Array (Option Value)} {kV dc pm cd ct : Value} (X : K.In h) (G : h.Ns mainGlobals mg) (a : PySem.W.nsIn K mainGlobals c = some (some (.ref C))) (i : PySem.W.findIn K (.ref C) m = some (some (.ref f)))
    (l : K.lookup f = some ⟨oc, od, .func (PySem.W.fnOf m qual (defArgs st) (defBody st) (defScope st) .none kV dc pm an cd ct), sl⟩) (cc : PySem.W.codeIn K cd qual = true) (k : PySem.W.keepIn K (.ref f) = true) (fn : PySem.W.isFn K (.ref f) = true)
    (hb : ∀ (kV doc pm : Value) (an : Option Addr) (cdv ct : Value) (us : List Value), us.length = ps.length → bindArgs (PySem.W.fnOf m qual (defArgs st) (defBody st) (defScope st) .none kV doc pm an cdv ct) ⟨us, []⟩ = pure (ps.zip us)) : DnM K c m st ps :=
  ⟨f, _, qual, fun_mk l cc k, by rw [adr_eq a]; exact ⟨i, fn, k⟩, (fun_mk l cc k).binds hb⟩
/-- a method that may be called -/
structure ClM (P : Program) (w : World) (K : PySem.W.Frag) (mg : Str → Option Value) (base : Heap) (k : Nat) (c m : Str) (n : Nat) (F : Fn) : Prop where
  ex : ∃ (fa : Addr) (fd : FuncData) (ps : List Str), FnOk P w K mg base CX0 k fa fd ps (spD K n F) ∧ Meth K (adr K c) m fa ∧ Binds K fd ps []
  len : ∀ as z, F as = .ok z → as.length = n
structure ClMX (P : Program) (w : World) (K : PySem.W.Frag) (mg : Str → Option Value) (base : Heap) (k : Nat) (c m : Str) (n : Nat) (F : Fn) : Prop where
  ex : ∃ (fa : Addr) (fd : FuncData) (ps : List Str), FnOk P w K mg base (L2.CX P w) k fa fd ps (spX K n F) ∧ Meth K (adr K c) m fa ∧ Binds K fd ps []
  len : ∀ as z, F as = .ok z → as.length = n
  lex : ∀ as z, F as = .ex z → as.length = n
section
variable {P : Program} {w : World} {K : PySem.W.Frag} {mg : Str → Option Value} {base : Heap} {c m : Str} {st : Stmt} {N ps : List Str} {k l n : Nat} {b : En → Out}
theorem clM_mk (d : DnM K c m st ps) (S : FnScope N ps (defScope st)) (hm : l = ps.length) (hn : n = N.length)
    (h : ∀ (fa : Addr) (qual : Str) (cdv : Value) (A : Around) (outer : List Env) (s : Shared) (H : Hp) (E : XK), Room k (A.deeper (envOfC qual (defScope st) s.heap.objs.size fa cdv)) → ∃ t, DSs (cxOf CX0 P w K mg base N qual (defScope st) fa cdv A outer s H E).nox (noW P w) (defBody st) t b) :
    ClM P w K mg base (k + 1) c m l (runF l n b) := by
  obtain ⟨fa, fd, qual, F, M, hb⟩ := d.ex
  exact ⟨⟨fa, fd, ps, fn_ok F S hm hn (h fa qual), M, hb⟩, runF_len⟩
theorem clMX_mk (d : DnM K c m st ps) (S : FnScope N ps (defScope st)) (hm : l = ps.length) (hn : n = N.length)
    (h : ∀ (fa : Addr) (qual : Str) (cdv : Value) (A : Around) (outer : List Env) (s : Shared) (H : Hp) (E : XK), Room k (A.deeper (envOfC qual (defScope st) s.heap.objs.size fa cdv)) → Takes (cxOf (L2.CX P w) P w K mg base N qual (defScope st) fa cdv A outer s H E) (outW P w E).w → ∃ t, DSs (cxOf (L2.CX P w) P w K mg base N qual (defScope st) fa cdv A outer s H E) (outW P w E) (defBody st) t b) :
    ClMX P w K mg base (k + 1) c m l (runF l n b) := by
  obtain ⟨fa, fd, qual, F, M, hb⟩ := d.ex
  exact ⟨⟨fa, fd, ps, fnX_ok F S hm hn (h fa qual), M, hb⟩, runF_len, runF_lex⟩
end
/-- an instance of class c, which has no attribute m of its own -/
def insV (c m : Str) (o : Vl) : Res Vl := match o.d with
  | .obj c' ns _ => if c' = c ∧ ns.contains m = false then .ok o else .no
  | _ => .no
def callM (c m : Str) (F : Fn) (fo : En → Res Vl) (f : En → Res (List Vl)) : En → Res Vl := fun env => (fo env).bind fun o => (insV c m o).bind fun _ => (f env).bind fun us => (F ((o :: us).map Vl.ba)).nx.bind fin
def callMX (c m : Str) (F : Fn) (fo : En → Res Vl) (f : En → Res (List Vl)) : En → Res Vl := fun env => (fo env).bind fun o => (insV c m o).bind fun _ => (f env).bind fun us => (F ((o :: us).map Vl.ba)).bind fin
def propF (c m : Str) (F : Fn) (fo : En → Res Vl) : En → Res Vl := fun env => (fo env).bind fun o => (insV c m o).bind fun _ => (F [o.ba]).nx.bind fin
theorem insV_nx {c m : Str} {o : Vl} {x : Exn} : insV c m o ≠ .ex x := by
  unfold insV
  split
  · exact if_nx
  · exact fun z => nomatch z
theorem insV_inv {c m : Str} {o z : Vl} (h : insV c m o = .ok z) : ∃ ns xs, o.d = .obj c ns xs ∧ ns.contains m = false := by
  unfold insV at h
  split at h
  · rename_i c' ns xs e
    obtain ⟨⟨rfl, h1⟩, _⟩ := if_ok h
    exact ⟨ns, xs, e, h1⟩
  · cases h
theorem fin_inv {z w : Vl} (h : fin w = .ok z) : z = w ∧ (w.k = .g ∨ w.k = .o) := by
  unfold fin at h
  split at h <;> cases h
  · exact ⟨rfl, .inl (by assumption)⟩
  · exact ⟨rfl, .inr (by assumption)⟩
theorem lookup_no {m : Str} : ∀ {fs : List (Str × V)}, (fs.map Prod.fst).contains m = false → fs.lookup m = none
  | [], _ => rfl
  | (n, v) :: fs, h => by
    rw [List.map_cons, List.contains_cons, Bool.or_eq_false_iff] at h
    show (match m == n with | true => some v | false => fs.lookup m) = none
    rw [h.1]
    exact lookup_no h.2
section
variable {K : PySem.W.Frag} {W : Wi} {B G0 G G' H H' : Hp} {env : En} {σ : L2.St}
theorem Rp.objS {u : Vl} {v : V} {c : Str} {ns : List Str} {xs : List D} {H2 H3 : Hp} (h : Rp K B G' H H' u v) (e : u.d = .obj c ns xs) : Rp K B G' H2 H3 u v := by
  obtain ⟨k, d⟩ := u
  dsimp only at e
  subst e
  cases k with
  | g => exact h
  | b => exact h
  | h =>
    obtain ⟨L, vs, ds, e1, e2, _⟩ := h
    cases e2
  | o =>
    obtain ⟨L, vs, ds, e1, e2, _⟩ := h
    cases e2
theorem ret_rep {z : Vl} {B' G2 H0 H1 H2 : Hp} {v : V} (hk : z.k = .g ∨ z.k = .o) (s : Same H0 H1) (hv : Rp K H1 G2 H1 H2 z v) : Rp K B G2 H0 H2 z v := by
  obtain ⟨k, d⟩ := z
  rcases hk with rfl | rfl
  · exact hv
  · exact Rp.from s (show Rp K B G2 H1 H2 ⟨.o, d⟩ v from hv)
theorem ev_m {c m : Str} {F : Fn} {n : Nat} {te : TE} {ta : TA} {fo : En → Res Vl} {f : En → Res (List Vl)} (hn : ∀ as z, F as = .ok z → as.length = n) (ho : EvD K W te fo) (ha : EvA K W ta f) : EvD K W (tMeth (adr K c) m (spD K n F) [] E0 te ta) (callM c m F fo f) := ⟨fun B G0 G env σ H z r e Q q => by
  obtain ⟨o, e1, e⟩ := Res.bind_eq e
  obtain ⟨_, e2, e⟩ := Res.bind_eq e
  obtain ⟨us, e3, e⟩ := Res.bind_eq e
  obtain ⟨y, e4, e5⟩ := Res.bind_eq e
  have e4 := Res.nx_ok e4
  obtain ⟨rfl, hk⟩ := fin_inv e5
  obtain ⟨ns, xs, ed, hm⟩ := insV_inv e2
  refine ho.ok B G0 G env σ H o r e1 _ fun G1 H1 v x1 h1 => ?_
  have r1 := r.ext x1
  obtain ⟨a, C, dx, fs, rfl, hC, hH, hns, _⟩ := Rp.objv r1 h1 ed
  subst hns
  refine ⟨a, dx, fs, rfl, by rw [adr_eq hC]; exact hH, lookup_no hm, ha.ok B G0 G1 env σ H1 us r1 e3 _ fun G2 H2 vs x2 h2 => ?_⟩
  have r2 := r1.ext x2
  rw [List.append_nil]
  refine ⟨G2, (o :: us).map Vl.ba, z, r2.gh, hn _ _ e4, RpL.args r2 (us := o :: us) ⟨_, _, rfl, Rp.objS (h1.mono x2) ed, h2⟩, e4, fun G3 H3 v x3 hv => q G3 H3 v ((x1.trans x2).trans x3) (ret_rep (B' := B) hk (x1.hh.trans x2.hh) hv)⟩, fun B G0 G env σ H y r e w Q => by
  rcases Res.bind_ex e with e1 | ⟨o, e1, e⟩
  · exact ho.ex B G0 G env σ H y r e1 w _
  rcases Res.bind_ex e with e2 | ⟨_, e2, e⟩
  · exact absurd e2 insV_nx
  obtain ⟨ns, xs, ed, hm⟩ := insV_inv e2
  rcases Res.bind_ex e with e3 | ⟨us, e3, e⟩
  · refine ho.ok B G0 G env σ H o r e1 _ fun G1 H1 v x1 h1 => ?_
    obtain ⟨a, C, dx, fs, rfl, hC, hH, hns, _⟩ := Rp.objv (r.ext x1) h1 ed
    subst hns
    exact ⟨a, dx, fs, rfl, by rw [adr_eq hC]; exact hH, lookup_no hm, ha.ex B G0 G1 env σ H1 y (r.ext x1) e3 (w.ext x1) _⟩
  · rcases Res.bind_ex e with e4 | ⟨z, _, e5⟩
    · exact absurd e4 Res.nx_ne
    · exact absurd e5 fin_nx⟩
theorem ev_mx {c m : Str} {F : Fn} {n : Nat} {te : TE} {ta : TA} {fo : En → Res Vl} {f : En → Res (List Vl)} (hn : ∀ as z, F as = .ok z → as.length = n) (hx : ∀ as z, F as = .ex z → as.length = n) (ho : EvD K W te fo) (ha : EvA K W ta f) : EvD K W (tMethS (adr K c) m (spX K n F) (WE W.w) te ta) (callMX c m F fo f) := ⟨fun B G0 G env σ H z r e Q q => by
  obtain ⟨o, e1, e⟩ := Res.bind_eq e
  obtain ⟨_, e2, e⟩ := Res.bind_eq e
  obtain ⟨us, e3, e⟩ := Res.bind_eq e
  obtain ⟨y, e4, e5⟩ := Res.bind_eq e
  obtain ⟨rfl, hk⟩ := fin_inv e5
  obtain ⟨ns, xs, ed, hm⟩ := insV_inv e2
  refine ho.ok B G0 G env σ H o r e1 _ fun G1 H1 v x1 h1 => ?_
  have r1 := r.ext x1
  obtain ⟨a, C, dx, fs, rfl, hC, hH, hns, _⟩ := Rp.objv r1 h1 ed
  subst hns
  refine ⟨a, dx, fs, rfl, by rw [adr_eq hC]; exact hH, lookup_no hm, ha.ok B G0 G1 env σ H1 us r1 e3 _ fun G2 H2 vs x2 h2 => ?_⟩
  have r2 := r1.ext x2
  refine ⟨G2, (o :: us).map Vl.ba, r2.gh, hn _ _ e4, RpL.args r2 (us := o :: us) ⟨_, _, rfl, Rp.objS (h1.mono x2) ed, h2⟩, .inl ⟨z, e4, fun G3 H3 v x3 hv => q G3 H3 v ((x1.trans x2).trans x3) (ret_rep (B' := B) hk (x1.hh.trans x2.hh) hv)⟩⟩, fun B G0 G env σ H y r e w Q => by
  rcases Res.bind_ex e with e1 | ⟨o, e1, e⟩
  · exact ho.ex B G0 G env σ H y r e1 w _
  rcases Res.bind_ex e with e2 | ⟨_, e2, e⟩
  · exact absurd e2 insV_nx
  obtain ⟨ns, xs, ed, hm⟩ := insV_inv e2
  refine ho.ok B G0 G env σ H o r e1 _ fun G1 H1 v x1 h1 => ?_
  have r1 := r.ext x1
  obtain ⟨a, C, dx, fs, rfl, hC, hH, hns, _⟩ := Rp.objv r1 h1 ed
  subst hns
  refine ⟨a, dx, fs, rfl, by rw [adr_eq hC]; exact hH, lookup_no hm, ?_⟩
  rcases Res.bind_ex e with e3 | ⟨us, e3, e⟩
  · exact ha.ex B G0 G1 env σ H1 y r1 e3 (w.ext x1) _
  · rcases Res.bind_ex e with e4 | ⟨z, _, e5⟩
    · refine ha.ok B G0 G1 env σ H1 us r1 e3 _ fun G2 H2 vs x2 h2 => ?_
      have r2 := r1.ext x2
      exact ⟨G2, (o :: us).map Vl.ba, r2.gh, hx _ _ e4, RpL.args r2 (us := o :: us) ⟨_, _, rfl, Rp.objS (h1.mono x2) ed, h2⟩, .inr ⟨y, e4, fun G3 H3 cls d x3 hv => w G3 H3 cls d ((x1.trans x2).trans x3) hv⟩⟩
    · exact absurd e5 fin_nx⟩
theorem ev_prop {c m : Str} {F : Fn} {te : TE} {fo : En → Res Vl} (hn : ∀ as z, F as = .ok z → as.length = 1) (ho : EvD K W te fo) : EvD K W (tProp (adr K c) (spD K 1 F) [] E0 te) (propF c m F fo) := ⟨fun B G0 G env σ H z r e Q q => by
  obtain ⟨o, e1, e⟩ := Res.bind_eq e
  obtain ⟨_, e2, e⟩ := Res.bind_eq e
  obtain ⟨y, e4, e5⟩ := Res.bind_eq e
  have e4 := Res.nx_ok e4
  obtain ⟨rfl, hk⟩ := fin_inv e5
  obtain ⟨ns, xs, ed, hm⟩ := insV_inv e2
  refine ho.ok B G0 G env σ H o r e1 _ fun G1 H1 v x1 h1 => ?_
  have r1 := r.ext x1
  obtain ⟨a, C, dx, fs, rfl, hC, hH, hns, _⟩ := Rp.objv r1 h1 ed
  refine ⟨a, dx, fs, rfl, by rw [adr_eq hC]; exact hH, G1, [o].map Vl.ba, z, r1.gh, rfl, RpL.args r1 (us := [o]) ⟨_, _, rfl, Rp.objS h1 ed, rfl⟩, e4, fun G3 H3 v x3 hv => q G3 H3 v (x1.trans x3) (ret_rep (B' := B) hk x1.hh hv)⟩, fun B G0 G env σ H y r e w Q => by
  rcases Res.bind_ex e with e1 | ⟨o, e1, e⟩
  · exact ho.ex B G0 G env σ H y r e1 w _
  rcases Res.bind_ex e with e2 | ⟨_, e2, e⟩
  · exact absurd e2 insV_nx
  rcases Res.bind_ex e with e4 | ⟨z, _, e5⟩
  · exact absurd e4 Res.nx_ne
  · exact absurd e5 fin_nx⟩
end
section
variable {X : Cx} {W : Wi} {K : PySem.W.Frag} {k j n : Nat} {F : Fn} {c m : Str} {pos apos : Pos} {o e : Expr} {es : List Expr} {te : TE} {ta : TA} {fo : En → Res Vl} {f : En → Res (List Vl)}
theorem de_m {pl : Sem Bool} (cl : ClM X.prog X.w X.K X.mg X.base k c m n F) (hc : Cls K (adr K c)) (hr : Room j X.A) (ho : DE X W o te fo) (ha : DA X W (e :: es) ta f) (hkj : k ≤ j := by decide)
    (hst : starEach (e :: es) X.env = (false, eval e X.env) :: starEach es X.env := by rfl) (hpl : (backTo pos (starEach es X.env)).any (·.1) = false := by rfl)
    (ht : eval (.Call (.Attribute o m apos) (e :: es) [] pos) X.env = (eval o X.env >>= fun ov => standAt apos.atName >>= fun _ => holding [ov] (getMethod ov m pl) >>= fun g => callWith pos g.1 g.2 (backTo pos (starEach (e :: es) X.env)) (backToKw pos (keywordEach [] X.env))) := by rfl) (hK : X.K = K := by rfl) :
    DE X W (.Call (.Attribute o m apos) (e :: es) [] pos) (tMeth (adr K c) m (spD K n F) [] E0 te ta) (callM c m F fo f) := by
  subst hK
  obtain ⟨fa, fd, ps, G, hm, hb⟩ := cl.ex
  exact ⟨pe_meth ho.pe hc hm G (hr.mono hkj) hb .nil pass0 ha.pa hst hpl ht, ev_m cl.len ho.ev ha.ev⟩
theorem de_m0 {pl : Sem Bool} (cl : ClM X.prog X.w X.K X.mg X.base k c m n F) (hc : Cls K (adr K c)) (hr : Room j X.A) (ho : DE X W o te fo) (hkj : k ≤ j := by decide)
    (ht : eval (.Call (.Attribute o m apos) [] [] pos) X.env = (eval o X.env >>= fun ov => standAt apos.atName >>= fun _ => holding [ov] (getMethod ov m pl) >>= fun g => callWith pos g.1 g.2 (backTo pos (starEach [] X.env)) (backToKw pos (keywordEach [] X.env))) := by rfl) (hK : X.K = K := by rfl) :
    DE X W (.Call (.Attribute o m apos) [] [] pos) (tMeth (adr K c) m (spD K n F) [] E0 te tNil) (callM c m F fo nilA) := by
  subst hK
  obtain ⟨fa, fd, ps, G, hm, hb⟩ := cl.ex
  exact ⟨pe_meth0 ho.pe hc hm G (hr.mono hkj) hb .nil pass0 ht, ev_m cl.len ho.ev eva_nil⟩
theorem de_mx {pl : Sem Bool} (cl : ClMX X.prog X.w X.K X.mg X.base k c m n F) (tk : Takes X W.w) (hc : Cls K (adr K c)) (hr : Room j X.A) (ho : DE X W o te fo) (ha : DA X W (e :: es) ta f) (hkj : k ≤ j := by decide)
    (hst : starEach (e :: es) X.env = (false, eval e X.env) :: starEach es X.env := by rfl) (hpl : (backTo pos (starEach es X.env)).any (·.1) = false := by rfl)
    (ht : eval (.Call (.Attribute o m apos) (e :: es) [] pos) X.env = (eval o X.env >>= fun ov => standAt apos.atName >>= fun _ => holding [ov] (getMethod ov m pl) >>= fun g => callWith pos g.1 g.2 (backTo pos (starEach (e :: es) X.env)) (backToKw pos (keywordEach [] X.env))) := by rfl) (hK : X.K = K := by rfl) :
    DE X W (.Call (.Attribute o m apos) (e :: es) [] pos) (tMethS (adr K c) m (spX K n F) (WE W.w) te ta) (callMX c m F fo f) := by
  subst hK
  obtain ⟨fa, fd, ps, G, hm, hb⟩ := cl.ex
  exact ⟨pe_methS ho.pe hc hm G (hr.mono hkj) hb (fun σ => passAt tk σ) ha.pa hst hpl ht, ev_mx cl.len cl.lex ho.ev ha.ev⟩
theorem de_mx0 {pl : Sem Bool} (cl : ClMX X.prog X.w X.K X.mg X.base k c m n F) (tk : Takes X W.w) (hc : Cls K (adr K c)) (hr : Room j X.A) (ho : DE X W o te fo) (hkj : k ≤ j := by decide)
    (ht : eval (.Call (.Attribute o m apos) [] [] pos) X.env = (eval o X.env >>= fun ov => standAt apos.atName >>= fun _ => holding [ov] (getMethod ov m pl) >>= fun g => callWith pos g.1 g.2 (backTo pos (starEach [] X.env)) (backToKw pos (keywordEach [] X.env))) := by rfl) (hK : X.K = K := by rfl) :
    DE X W (.Call (.Attribute o m apos) [] [] pos) (tMethS (adr K c) m (spX K n F) (WE W.w) te tNil) (callMX c m F fo nilA) := by
  subst hK
  obtain ⟨fa, fd, ps, G, hm, hb⟩ := cl.ex
  exact ⟨pe_methS0 ho.pe hc hm G (hr.mono hkj) hb (fun σ => passAt tk σ) ht, ev_mx cl.len cl.lex ho.ev eva_nil⟩
end
end DL

namespace DL
open PySem L2 PySem.Spec PyProof.Rows
/-! ### C(..) of a plain class -/
section
variable {X : Cx} {CX : CXT} {k : Nat} {f C : Addr} {fd : FuncData} {ps : List Str} {sp : Sp}
theorem run_mkS {pn : List (Addr × Obj)} {st : L2.St} {H : Hp} {sh : Shared} {Q : VK} {E : XK} {us : List Value} {kw : List (Str × Value)} (M : Mk X.K C f) (F : FnOk X.prog X.w X.K X.mg X.base CX k f fd ps sp) (hr : Room (k + 1) X.A) (hx : PassesAt CX X st E) (inv : L2.Inv X pn st H sh)
    (h : ∀ x dx, H x = none → H dx = none → dx ≠ x → ∃ (us2 : List Value) (vs2 : List V), (∀ s2 : Shared, X.K.In s2.heap → BindsTo s2 fd ⟨.ref x :: us, kw⟩ (ps.zip us2)) ∧ Vals vs2 us2 ∧ sp vs2 (upd (upd H dx (.own x)) x (.ins C dx [])) (fun v H2 => v = .non ∧ Q (.ref x) H2) E) :
    wpAny (model X.prog X.w) X.A (call (.ref C) us kw) (EP X pn st Q) X.xe sh := by
  have J := Inv.made (C := C) inv
  obtain ⟨us2, vs2, bound, vals, pr⟩ := h _ _ (inv.hok.fresh (Nat.le_succ _)) (inv.hok.fresh (Nat.le_refl _)) (Nat.ne_of_lt (Nat.lt_succ_self _))
  refine wpAny_call (make_map (f := f) inv.kIn M.makes M.init (beq_iff_eq.mp M.fn) (codeAny_mono (F.run _ X.stack _ _ ⟨_ :: us, kw⟩ us2 vs2 _ E (hr.make C us kw) (J.env0.make C us kw) (bound _ J.kIn) vals pr) ?_))
  intro out sh2 hout
  match out, hout with
  | .error er, hout => exact hx pn _ _ er sh2 J hout
  | .ok (.ret u), hout =>
    obtain ⟨v, H2, J3, rv, rfl, done⟩ := J.after hout
    exact ⟨rv, ⟨V.ref (sh.heap.objs.size + 1), H2, J3, rfl, done⟩⟩
  | .ok .next, hout => exact hout.elim
  | .ok .brk, hout => exact hout.elim
  | .ok .cont, hout => exact hout.elim
end
/-- C(e, .., k = v, ..), wished for at the caller's slots -/
def tMkS (C : Addr) (n m : Nat) (sp : Sp) (E : L2.St → XK) (t tk : TA) : TE := fun σ H Q => t σ H fun vs H1 => tk σ H1 fun zs H2 => vs.length = n ∧ zs.length = m ∧ ∀ x dx, H2 x = none → H2 dx = none → dx ≠ x →
  sp (.ref x :: (vs ++ zs)) (upd (upd H2 dx (.own x)) x (.ins C dx [])) (fun v H3 => v = .non ∧ Q (.ref x) H3) (E σ)
section
variable {X : Cx} {CX : CXT} {k n : Nat} {f C : Addr} {fd : FuncData} {ps ks : List Str} {sp : Sp} {E : L2.St → XK} {x : Str} {p pos : Pos} {e : Expr} {es : List Expr} {kws : List Keyword} {t tk : TA}
theorem pe_mkK (M : Mk X.K C f) (F : FnOk X.prog X.w X.K X.mg X.base CX k f fd ps sp) (hr : Room (k + 1) X.A) (hg : Gl X x) (hm : X.mg x = some (.ref C)) (hb : KBn X.K fd ps (n + 1) ks (fun us ws => us ++ ws) (fun vs zs => vs ++ zs)) (hx : ∀ σ, PassesAt CX X σ (E σ)) (ha : PA X (e :: es) t) (hkw : PK X kws tk)
    (hall : (backToKw pos (keywordEach kws X.env)).all (·.1.isSome) = true := by rfl) (hks : (backToKw pos (keywordEach kws X.env)).filterMap (·.1) = ks := by rfl) (hdb : (x == ("__debug__" : Str)) = false := by decide)
    (he : starEach (e :: es) X.env = (false, eval e X.env) :: starEach es X.env := by rfl) (hpl : ((backTo pos (starEach (e :: es) X.env)).any (·.1) || (backToKw pos (keywordEach kws X.env)).any (·.1.isNone)) = false := by rfl) :
    PE X (.Call (.Name x p) (e :: es) kws pos) (tMkS C n ks.length sp E t tk) := ⟨fun pn sh st H0 Q inv hq => by
  refine wpAny_Call_Name_kw (ld_glob inv hg hm (PySem.W.callWith_KW (h₀ := X.base) inv.ok.mod.kin M.kp hall (thn (ha.run pos pn sh st H0 _ inv hq) ?_) hpl he) hdb)
  rintro us sh1 ⟨vs, H1, inv1, rel, q⟩
  refine thn (hkw.run pos pn sh1 st H1 _ inv1 q) ?_
  rintro ws sh2 ⟨zs, H2, inv2, rez, l1, l2, q2⟩
  refine ⟨inv2.kIn, ?_⟩
  rw [hks]
  refine run_mkS M F hr (hx st) inv2 fun x dx h1 h2 h3 => ⟨(.ref x :: us) ++ ws, .ref x :: (vs ++ zs), fun s2 K2 => hb.to s2 (.ref x :: us) ws K2 ?_ ?_, .cons rfl (rel.append rez), q2 x dx h1 h2 h3⟩
  · rw [List.length_cons, ← rel.length, l1]
  · rw [← rez.length, l2]⟩
theorem pe_mkP (M : Mk X.K C f) (F : FnOk X.prog X.w X.K X.mg X.base CX k f fd ps sp) (hr : Room (k + 1) X.A) (hg : Gl X x) (hm : X.mg x = some (.ref C)) (hb : Binds X.K fd ps []) (hn : ps.length = n + 1) (hx : ∀ σ, PassesAt CX X σ (E σ)) (ha : PA X (e :: es) t)
    (hdb : (x == ("__debug__" : Str)) = false := by decide) (he : starEach (e :: es) X.env = (false, eval e X.env) :: starEach es X.env := by rfl) (hpl : (backTo pos (starEach es X.env)).any (·.1) = false := by rfl) :
    PE X (.Call (.Name x p) (e :: es) [] pos) (tMkS C n 0 sp E t tNil) := ⟨fun pn sh st H0 Q inv hq => by
  refine wpAny_Call_Name_kw (ld_glob inv hg hm (PySem.W.callWith_K (h₀ := X.base) inv.ok.mod.kin M.kp (thn (ha.run pos pn sh st H0 _ inv hq) ?_) he hpl) hdb)
  rintro us sh1 ⟨vs, H1, inv1, rel, l1, _, q⟩
  refine ⟨inv1.kIn, run_mkS M F hr (hx st) inv1 fun x dx h1 h2 h3 => ⟨.ref x :: us, .ref x :: vs, fun s2 K2 => ?_, .cons rfl rel, ?_⟩⟩
  · have := hb s2 (.ref x :: us) K2 (by rw [List.append_nil, List.length_cons, ← rel.length, l1, hn])
    rwa [List.append_nil] at this
  · have := q x dx h1 h2 h3
    rwa [List.append_nil] at this⟩
end
/-- what __init__ promises -/
def spIX (K : PySem.W.Frag) (c : Str) (n : Nat) (F : Fn) : Sp := fun vs H Q E => ∃ (G : Hp) (as : List (Bool × D)) (a C dx : Addr) (ws : List V), vs = .ref a :: ws ∧ PySem.W.nsIn K mainGlobals c = some (some (.ref C)) ∧ H a = some (.ins C dx []) ∧ Same G (del H a) ∧ as.length = n ∧ ArgsOk K G (del H a) as ws ∧
  ((∃ ns xs, F as = .ok ⟨.g, .obj c ns xs⟩ ∧ ∀ G' H', Ext G (del H a) G' H' → Rep K G' (.ref a) (.obj c ns xs) → Q .non H') ∨ ∃ x, F as = .ex x ∧ ∀ G' H' cls d, Ext G (del H a) G' H' → RepX K G' H' x cls d → E cls d H')
/-- what is made, at the end of __init__ -/
def madeV (c : Str) : Out → Res Vl
  | .nx env => match (env[0]? : Option Sl) with
    | some (Sl.om (.slf c' ns) xs) => if c' = c then .ok ⟨.g, .obj c ns xs⟩ else .no
    | _ => .no
  | .ex _ x => .ex x
  | _ => .no
def runI (c : Str) (m n : Nat) (b : En → Out) : Fn := fun as => if as.length = m then madeV c (b (.om (.slf c []) [] :: startE n as)) else .no
abbrev outI (P : Program) (w : World) (E : XK) (me : Addr) : Wi := ⟨fun cls d _ H => E cls d H, (0, .none, none), ⟨P, w, me⟩⟩
theorem start_own {n : Nat} {as : List (Bool × D)} {i : Nat} {s : Sl} (h : (startE n as)[i]? = some s) : (∃ g d, s = .vl g d) ∨ s = .no := by
  unfold startE at h
  by_cases hi : i < as.length
  · rw [List.getElem?_append_left (by simpa using hi), List.getElem?_map] at h
    cases e : as[i]? with
    | none => rw [e] at h; cases h
    | some a => rw [e] at h; cases h; exact .inl ⟨_, _, rfl⟩
  · rw [List.getElem?_append_right (by simpa using Nat.le_of_not_lt hi), List.getElem?_replicate] at h
    split at h
    · cases h; exact .inr rfl
    · cases h
theorem start_relI {P : Program} {w : World} {E : XK} {K : PySem.W.Frag} {G H : Hp} {x c : Str} {N : List Str} {as : List (Bool × D)} {ws : List V} {a C dx : Addr} (hC : PySem.W.nsIn K mainGlobals c = some (some (.ref C))) (hH : H a = some (.ins C dx [])) (gh : Same G (del H a)) (h : ArgsOk K G (del H a) as ws) :
    Rel K (outI P w E a) (del H a) G G (.om (.slf c []) [] :: startE N.length as) (L2.start (x :: N) (.ref a :: ws)) H := by
  have r0 : Rel K (outI P w E a) (del H a) G G (startE N.length as) (L2.start N ws) (del H a) := start_rel gh h
  have sm : Same (del H a) H := fun b o e => by
    by_cases z : b = a
    · rw [z, del_same] at e; cases e
    · rwa [del_ne z] at e
  have e0 : L2.start (x :: N) (.ref a :: ws) = some (.ref a) :: L2.start N ws := by
    unfold L2.start
    simp
  rw [e0]
  refine ⟨Same.refl _, gh.trans sm, sm, fun b e n => absurd e n, by rw [List.length_cons, List.length_cons, r0.len], fun i s o q1 q2 => ?_, fun i j s t L hij q1 q2 o1 o2 _ _ => ?_⟩
  · match i with
    | 0 =>
      cases q1; cases q2
      exact ⟨a, rfl, del_same, gh.free del_same, rfl, C, dx, [], hC, hH, rfl, .nil⟩
    | i + 1 =>
      have q1 : (startE N.length as)[i]? = some s := by simpa using q1
      have q2 : (L2.start N ws)[i]? = some o := by simpa using q2
      have z := r0.sl i s o q1 q2
      rcases start_own q1 with ⟨g, d, rfl⟩ | rfl
      · cases g <;> exact z
      · trivial
  · match i, j with
    | 0, 0 => exact hij rfl
    | i + 1, _ =>
      have q1 : (startE N.length as)[i]? = some s := by simpa using q1
      rcases start_own q1 with ⟨g, d, rfl⟩ | rfl <;> cases o1
    | 0, j + 1 =>
      have q2 : (startE N.length as)[j]? = some t := by simpa using q2
      rcases start_own q2 with ⟨g, d, rfl⟩ | rfl <;> cases o2
/-- a class's __init__ as it stands -/
structure DnI (K : PySem.W.Frag) (mg : Str → Option Value) (c : Str) (st : Stmt) : Prop where
  ex : ∃ (C fI : Addr) (fd : FuncData) (qual : Str), mg c = some (.ref C) ∧ PySem.W.nsIn K mainGlobals c = some (some (.ref C)) ∧ Mk K C fI ∧ Fun K "__init__" qual st fI fd
theorem dni_mk {K : PySem.W.Frag} {h : Heap} {mg : Str → Option Value} {c qual : Str} {st : Stmt} {f C : Addr} {oc : Value} {od an : Option Addr} {sl : Array (Option Value)} {kV dc pm cd ct : Value} (X : K.In h) (G : h.Ns mainGlobals mg) (a : PySem.W.nsIn K mainGlobals c = some (some (.ref C))) (mk : PySem.W.makesIn K C = true) (i : PySem.W.findIn K (.ref C) "__init__" = some (some (.ref f)))
    (fn : PySem.W.isFn K (.ref f) = true) (kC : PySem.W.keepIn K (.ref C) = true) (l : K.lookup f = some ⟨oc, od, .func (PySem.W.fnOf "__init__" qual (defArgs st) (defBody st) (defScope st) .none kV dc pm an cd ct), sl⟩) (cc : PySem.W.codeIn K cd qual = true) (k : PySem.W.keepIn K (.ref f) = true) : DnI K mg c st :=
  ⟨C, f, _, qual, PySem.W.mg_of X G a, a, ⟨mk, i, fn, kC⟩, fun_mk l cc k⟩
/-- its promise -/
structure Ini (P : Program) (w : World) (K : PySem.W.Frag) (mg : Str → Option Value) (base : Heap) (k : Nat) (c : Str) (st : Stmt) (ps : List Str) (F : Fn) : Prop where
  ex : ∃ (C fI : Addr) (fd : FuncData) (qual : Str), mg c = some (.ref C) ∧ PySem.W.nsIn K mainGlobals c = some (some (.ref C)) ∧ Mk K C fI ∧ Fun K "__init__" qual st fI fd ∧ FnOk P w K mg base (L2.CX P w) k fI fd ("self" :: ps) (spIX K c ps.length F)
  ob : ∀ as z, F as = .ok z → as.length = ps.length ∧ ∃ ns xs, z = ⟨.g, .obj c ns xs⟩
  lex : ∀ as z, F as = .ex z → as.length = ps.length
theorem runI_ok {c : Str} {m n : Nat} {b : En → Out} {as : List (Bool × D)} {z : Vl} (h : runI c m n b as = .ok z) : as.length = m ∧ ∃ env ns xs, b (.om (.slf c []) [] :: startE n as) = .nx env ∧ env[0]? = some (.om (.slf c ns) xs) ∧ z = ⟨.g, .obj c ns xs⟩ := by
  unfold runI at h
  obtain ⟨hl, h⟩ : as.length = m ∧ madeV c (b (.om (.slf c []) [] :: startE n as)) = .ok z := by
    by_cases e : as.length = m
    · rw [if_pos e] at h; exact ⟨e, h⟩
    · rw [if_neg e] at h; cases h
  refine ⟨hl, ?_⟩
  unfold madeV at h
  split at h
  · rename_i env e
    split at h
    · rename_i c' ns xs e0
      split at h
      · rename_i hc
        subst hc
        cases h
        exact ⟨env, ns, xs, e, e0, rfl⟩
      · cases h
    · cases h
  · cases h
  · cases h
theorem runI_ex {c : Str} {m n : Nat} {b : En → Out} {as : List (Bool × D)} {x : Exn} (h : runI c m n b as = .ex x) : as.length = m ∧ ∃ env, b (.om (.slf c []) [] :: startE n as) = .ex env x := by
  unfold runI at h
  obtain ⟨hl, h⟩ : as.length = m ∧ madeV c (b (.om (.slf c []) [] :: startE n as)) = .ex x := by
    by_cases e : as.length = m
    · rw [if_pos e] at h; exact ⟨e, h⟩
    · rw [if_neg e] at h; cases h
  refine ⟨hl, ?_⟩
  unfold madeV at h
  split at h
  · split at h
    · split at h <;> cases h
    · cases h
  · rename_i env y e
    cases h
    exact ⟨env, e⟩
  · cases h
/-- THE RULE for an __init__ -/
theorem ini_mk {P : Program} {w : World} {K : PySem.W.Frag} {mg : Str → Option Value} {base : Heap} {c : Str} {st : Stmt} {N ps : List Str} {k m n : Nat} {b : En → Out} (d : DnI K mg c st) (S : FnScope ("self" :: N) ("self" :: ps) (defScope st)) (hm : m = ps.length) (hn : n = N.length)
    (h : ∀ (fa : Addr) (qual : Str) (cdv : Value) (A : Around) (outer : List Env) (s : Shared) (H : Hp) (E : XK) (me : Addr), Room k (A.deeper (envOfC qual (defScope st) s.heap.objs.size fa cdv)) → Takes (cxOf (L2.CX P w) P w K mg base ("self" :: N) qual (defScope st) fa cdv A outer s H E) (outI P w E me).w → ∃ t, DSs (cxOf (L2.CX P w) P w K mg base ("self" :: N) qual (defScope st) fa cdv A outer s H E) (outI P w E me) (defBody st) t b) :
    Ini P w K mg base (k + 1) c st ps (runI c m n b) := by
  subst hm hn
  obtain ⟨C, fI, fd, qual, hmg, hC, M, F⟩ := d.ex
  refine ⟨⟨C, fI, fd, qual, hmg, hC, M, F, ?_⟩, fun as z e => ?_, fun as z e => (runI_ex e).1⟩
  · obtain ⟨oc, od, kV, doc, pm, an, cdv, ct, osl, rfl, lk, hcd⟩ := F.ex
    refine fn_of lk hcd S (fun vs H Q E hs => ?_) fun A outer s H vs Q E hr hs => ?_
    · obtain ⟨G, as, a, C, dx, ws, rfl, _, _, _, hl, ha, _⟩ := hs
      rw [List.length_cons, ha.len, hl]
      rfl
    · obtain ⟨G, as, a, C, dx, ws, rfl, hC, hH, gh, hl, ha, hz⟩ := hs
      obtain ⟨t, ht⟩ := h fI qual cdv A outer s H E a hr (takes_of rfl rfl rfl rfl)
      refine ⟨t, ht.ps, ?_⟩
      have r : Rel K (outI P w E a) (del H a) G G (.om (.slf c []) [] :: startE N.length as) (L2.start ("self" :: N) (.ref a :: ws)) H := start_relI hC hH gh ha
      refine ht.sv _ G G _ _ H _ r ?_
      rcases hz with ⟨ns, xs, hz, q⟩ | ⟨y, hz, q⟩
      · obtain ⟨_, env, ns', xs', e1, e2, e3⟩ := runI_ok hz
        cases e3
        rw [e1]
        intro G' σ' H' s' r'
        obtain ⟨o, eo, L, rfl, b1, g1, hL, C2, dx2, fs, hC2, hH2, hn2, rp⟩ := r'.slot e2
        have hL : L = a := hL
        subst hL
        have s1 : Same G' (upd G' L (.ins C2 dx2 fs)) := same_upd (Same.refl _) g1
        refine q (upd G' L (.ins C2 dx2 fs)) H' ⟨s'.trans s1, r'.bh, fun b u e => ?_, fun b e n => ?_⟩ (Rep.obj hC2 upd_same hn2 rfl (rp.mono s1))
        · by_cases z : b = L
          · subst z
            rw [upd_same] at e
            cases e
            exact hH2
          · rw [upd_ne z] at e
            exact r'.gh b u e
        · by_cases z : b = L
          · rw [z]; exact b1
          · rw [upd_ne z] at n
            exact r'.fr b e n
      · obtain ⟨_, env, e1⟩ := runI_ex hz
        rw [e1]
        exact fun G' σ' H' cls d s' r' hx => q G' H' cls d ⟨s', r'.bh, r'.gh, r'.fr⟩ hx
  · obtain ⟨h1, env, ns, xs, _, _, h2⟩ := runI_ok e
    exact ⟨h1, ns, xs, h2⟩
/-- C(..) with keywords: F of all values in the parameters' order -/
def callIK (F : Fn) (n m : Nat) (f g : En → Res (List Vl)) : En → Res Vl := fun env => (f env).bind fun us => (g env).bind fun ws => if us.length = n ∧ ws.length = m then F ((us ++ ws).map Vl.ba) else .no
theorem del_upd {H : Hp} {x dx : Addr} {o o2 : HO} (h : H x = none) (ne : dx ≠ x) : del (upd (upd H dx o) x o2) x = upd H dx o := by
  funext b
  by_cases z : b = x
  · rw [z, del_same, upd_ne (Ne.symm ne), h]
  · rw [del_ne z, upd_ne z]
theorem ArgsOk.ext {K : PySem.W.Frag} {G H H' : Hp} (s : Same H H') : ∀ {as : List (Bool × D)} {vs : List V}, ArgsOk K G H as vs → ArgsOk K G H' as vs
  | [], _, h => h
  | (true, d) :: as, _, ⟨v, r, e, h, l⟩ => ⟨v, r, e, h, ArgsOk.ext s l⟩
  | (false, d) :: as, _, ⟨v, r, e, h, l⟩ => ⟨v, r, e, Rep.mono s h, ArgsOk.ext s l⟩
theorem Ext.pre {G H H1 G' H' : Hp} (x : Ext G H1 G' H') (s : Same H H1) (f : ∀ a, H1 a = none → H a = none) : Ext G H G' H' := ⟨x.gg, s.trans x.hh, x.gh, fun a g n => f a (x.fr a g n)⟩
section
variable {K : PySem.W.Frag} {W : Wi}
theorem ev_mk {c : Str} {F : Fn} {n m : Nat} {ta tk : TA} {f g : En → Res (List Vl)} (hC : ∃ C, PySem.W.nsIn K mainGlobals c = some (some (.ref C))) (ho : ∀ as z, F as = .ok z → as.length = n + m ∧ ∃ ns xs, z = ⟨.g, .obj c ns xs⟩) (hx : ∀ as z, F as = .ex z → as.length = n + m) (h : EvA K W ta f) (h2 : EvA K W tk g) : EvD K W (tMkS (adr K c) n m (spIX K c (n + m) F) (WE W.w) ta tk) (callIK F n m f g) := by
  obtain ⟨C, hC⟩ := hC
  rw [adr_eq hC]
  have core : ∀ {B G0 G G1 G2 H H1 H2 : Hp} {env : En} {σ : L2.St} {us ws : List Vl} {vs zs : List V}, Rel K W B G0 G env σ H → Ext G H G1 H1 → Ext G1 H1 G2 H2 → RpL K B G1 H1 us vs → RpL K B G2 H2 ws zs → us.length = n → ws.length = m →
      vs.length = n ∧ zs.length = m ∧ Same G2 H2 ∧ ArgsOk K G2 H2 ((us ++ ws).map Vl.ba) (vs ++ zs) := fun r x1 x2 l1 l2 hu hw => by
    have r2 := (r.ext x1).ext x2
    exact ⟨l1.len.trans hu, l2.len.trans hw, r2.gh, RpL.args r2 ((l1.mono x2).app l2)⟩
  refine ⟨fun B G0 G env σ H z r e Q q => ?_, fun B G0 G env σ H y r e w Q => ?_⟩
  · obtain ⟨us, e1, e⟩ := Res.bind_eq e
    obtain ⟨ws, e2, e⟩ := Res.bind_eq e
    split at e
    · rename_i hlen
      refine h.ok B G0 G env σ H us r e1 _ fun G1 H1 vs x1 l1 => h2.ok B G0 G1 env σ H1 ws (r.ext x1) e2 _ fun G2 H2 zs x2 l2 => ?_
      obtain ⟨c1, c2, c3, c4⟩ := core r x1 x2 l1 l2 hlen.1 hlen.2
      refine ⟨c1, c2, fun x dx hx hdx ne => ?_⟩
      have s2 : Same H2 (upd H2 dx (.own x)) := same_upd (Same.refl _) hdx
      obtain ⟨_, ns, xs, rfl⟩ := ho _ _ e
      refine ⟨G2, (us ++ ws).map Vl.ba, x, C, dx, vs ++ zs, rfl, hC, upd_same, by rw [del_upd hx ne]; exact c3.trans s2, (ho _ _ e).1, by rw [del_upd hx ne]; exact c4.ext s2, .inl ⟨ns, xs, e, fun G3 H3 x3 rp => ⟨rfl, ?_⟩⟩⟩
      rw [del_upd hx ne] at x3
      refine q G3 H3 _ ((x1.trans x2).trans (x3.pre s2 fun b hb => ?_)) rp
      by_cases z : b = dx
      · rw [z]; exact hdx
      · rwa [upd_ne z] at hb
    · cases e
  · rcases Res.bind_ex e with e1 | ⟨us, e1, e⟩
    · exact h.ex B G0 G env σ H y r e1 w _
    rcases Res.bind_ex e with e2 | ⟨ws, e2, e⟩
    · exact h.ok B G0 G env σ H us r e1 _ fun G1 H1 vs x1 l1 => h2.ex B G0 G1 env σ H1 y (r.ext x1) e2 (w.ext x1) _
    split at e
    · rename_i hlen
      refine h.ok B G0 G env σ H us r e1 _ fun G1 H1 vs x1 l1 => h2.ok B G0 G1 env σ H1 ws (r.ext x1) e2 _ fun G2 H2 zs x2 l2 => ?_
      obtain ⟨c1, c2, c3, c4⟩ := core r x1 x2 l1 l2 hlen.1 hlen.2
      refine ⟨c1, c2, fun x dx hx' hdx ne => ?_⟩
      have s2 : Same H2 (upd H2 dx (.own x)) := same_upd (Same.refl _) hdx
      refine ⟨G2, (us ++ ws).map Vl.ba, x, C, dx, vs ++ zs, rfl, hC, upd_same, by rw [del_upd hx' ne]; exact c3.trans s2, hx _ _ e, by rw [del_upd hx' ne]; exact c4.ext s2, .inr ⟨y, e, fun G3 H3 cls d x3 rp => ?_⟩⟩
      rw [del_upd hx' ne] at x3
      refine w G3 H3 cls d ((x1.trans x2).trans (x3.pre s2 fun b hb => ?_)) rp
      by_cases z : b = dx
      · rw [z]; exact hdx
      · rwa [upd_ne z] at hb
    · cases e
end
section
variable {X : Cx} {W : Wi} {K : PySem.W.Frag} {k j n : Nat} {F : Fn} {c : Str} {st : Stmt} {ps ks : List Str} {p pos : Pos} {e : Expr} {es : List Expr} {kws : List Keyword} {ta tk : TA} {f g : En → Res (List Vl)}
/-- C(e, .., k = v, ..), all parameters given -/
theorem de_mkK (i : Ini X.prog X.w X.K X.mg X.base k c st ps F) (tks : Takes X W.w) (hr : Room j X.A) (ha : DA X W (e :: es) ta f) (hkw : DK X W kws tk g) (n : Nat) (hn : n + ks.length = ps.length)
    (hb : ∀ (qual : Str) (kV doc pm : Value) (an : Option Addr) (cdv ct : Value) (us ws : List Value), us.length = n + 1 → ws.length = ks.length → bindArgs (PySem.W.fnOf "__init__" qual (defArgs st) (defBody st) (defScope st) .none kV doc pm an cdv ct) ⟨us, ks.zip ws⟩ = pure (("self" :: ps : List Str).zip (us ++ ws)))
    (hkj : k + 1 ≤ j := by decide) (hg : Gl X c := by rfl) (hall : (backToKw pos (keywordEach kws X.env)).all (·.1.isSome) = true := by rfl) (hks : (backToKw pos (keywordEach kws X.env)).filterMap (·.1) = ks := by rfl) (hdb : (c == ("__debug__" : Str)) = false := by decide)
    (he : starEach (e :: es) X.env = (false, eval e X.env) :: starEach es X.env := by rfl) (hpl : ((backTo pos (starEach (e :: es) X.env)).any (·.1) || (backToKw pos (keywordEach kws X.env)).any (·.1.isNone)) = false := by rfl) (hK : X.K = K := by rfl) :
    DE X W (.Call (.Name c p) (e :: es) kws pos) (tMkS (adr K c) n ks.length (spIX K c (n + ks.length) F) (WE W.w) ta tk) (callIK F n ks.length f g) := by
  subst hK
  obtain ⟨C, fI, fd, qual, hmg, hC, M, Fn, G⟩ := i.ex
  obtain ⟨oc, od, kV, doc, pm, an, cdv, ct, osl, rfl, lk, hcd⟩ := Fn.ex
  refine ⟨?_, ev_mk ⟨C, hC⟩ (by rw [hn]; exact i.ob) (by rw [hn]; exact i.lex) ha.ev hkw.ev⟩
  rw [adr_eq hC, hn]
  exact pe_mkK M G (hr.mono hkj) hg hmg ⟨fun s us ws X l1 l2 => .of_eq (hb _ _ _ _ _ _ _ us ws l1 l2), fun r1 r2 => r1.append r2⟩ (fun σ => passAt tks σ) ha.pa hkw.pk hall hks hdb he hpl
/-- C(e, ..) -/
theorem de_mkP (i : Ini X.prog X.w X.K X.mg X.base k c st ps F) (tks : Takes X W.w) (hr : Room j X.A) (ha : DA X W (e :: es) ta f)
    (hb : ∀ (qual : Str) (kV doc pm : Value) (an : Option Addr) (cdv ct : Value) (us : List Value), us.length = ("self" :: ps : List Str).length → bindArgs (PySem.W.fnOf "__init__" qual (defArgs st) (defBody st) (defScope st) .none kV doc pm an cdv ct) ⟨us, []⟩ = pure (("self" :: ps : List Str).zip us))
    (hkj : k + 1 ≤ j := by decide) (hg : Gl X c := by rfl) (hdb : (c == ("__debug__" : Str)) = false := by decide)
    (he : starEach (e :: es) X.env = (false, eval e X.env) :: starEach es X.env := by rfl) (hpl : (backTo pos (starEach es X.env)).any (·.1) = false := by rfl) (hK : X.K = K := by rfl) :
    DE X W (.Call (.Name c p) (e :: es) [] pos) (tMkS (adr K c) ps.length 0 (spIX K c (ps.length + 0) F) (WE W.w) ta tNil) (callIK F ps.length 0 f nilA) := by
  subst hK
  obtain ⟨C, fI, fd, qual, hmg, hC, M, Fn, G⟩ := i.ex
  have bd := Fn.binds (ps := "self" :: ps) (hb qual)
  refine ⟨?_, ev_mk ⟨C, hC⟩ i.ob i.lex ha.ev eva_nil⟩
  rw [adr_eq hC]
  exact pe_mkP M G (hr.mono hkj) hg hmg bd rfl (fun σ => passAt tks σ) ha.pa hdb he hpl
end
end DL

/-! DLb3: sets of tuples of ints: asked and added to. -/
namespace L2
open PySem PySem.Spec PyProof.Rows
section
variable {P : Program} {w : World} {A : Around} {E : Value → Shared → Prop} {sh : Shared} {b : Addr} {L : List (Addr × List Int)} {es : Array (Int × Value)} {ep : Nat} {t : SetTable}
abbrev hr0 (P : Program) (w : World) (t : SetTable) (k : List Int) : SetTable.Probe := runAt t.mask (SetTable.bits (thash P w k) % (t.mask + 1)) (SetTable.bits (thash P w k))
theorem no_dummy (m : Nat) : ∀ (n : Nat) (p : SetTable.Probe), p.dummy = none → (nth m p n).dummy = none
  | 0, _, h => h
  | n + 1, p, h => no_dummy m n (adv m p) (by unfold adv; split <;> exact h)
/-- the search of a set that is asked, not added to -/
theorem ask_from (R : SetTR P w sh.heap b L es ep t) {x : Addr} {k : List Int} (hx : IsT P w sh.heap k x) (room : A.units < cLine) {Z : Nat} (few : Z < 10 * SetTable.turns t.mask)
    (atZ : way t.mask (thash P w k) Z ∉ t.place.toList) (below : ∀ c, c < Z → way t.mask (thash P w k) c ∈ t.place.toList) {Q : SetFound → Shared → Prop}
    (yes : ∀ i, k ∈ L.map (·.2) → Q (.there (some i)) sh) (no : ∀ c e, k ∉ L.map (·.2) → Q (.free c e) sh) :
    ∀ (f c : Nat) (stand : Option SetTable.Probe), stand.getD (t.probeStart (thash P w k)) = nth t.mask (hr0 P w t k) c → c ≤ Z → Z - c < f →
      (∀ (i : Nat) p, L[i]? = some p → p.2 = k → ∃ c', c ≤ c' ∧ c' < Z ∧ t.place.toList[i]? = some (way t.mask (thash P w k) c')) →
      wpAny (model P w) A (setSearchFrom b (.ref x) (thash P w k) false f stand) Q E sh := by
  obtain ⟨ob, atb, exact', data⟩ := R.ob
  have jAt : ∀ c q, (nth t.mask (nth t.mask (hr0 P w t k) c) q).j = way t.mask (thash P w k) (c + q) := fun c q => congrArg SetTable.Probe.j (nth_add t.mask c _ q).symm
  have hsh : ∀ (i : Nat) p, L[i]? = some p → ((es[i]?.map (·.1)).getD 0) = thash P w p.2 := fun i p hp => by rw [R.entry hp]; rfl
  intro f
  induction f with
  | zero => intro c stand _ _ h; exact absurd h (Nat.not_lt_zero _)
  | succ f ih =>
    intro c stand start cZ fuel there
    rw [setSearchFrom_succ]
    refine wpAny_bind (wpAny_setState_of atb data R.fits ?_)
    dsimp only
    refine wp_if_neg R.gw ?_
    try refine wpAny_bind (wpAny_pure ?_)
    rcases go_spec t R.tab.ris R.tab.dm (fun i => (es[i]?.map (·.1)).getD 0) (thash P w k) (10 * SetTable.turns t.mask) (Z - c) (nth t.mask (hr0 P w t k) c) (no_dummy _ c _ rfl) (by omega)
      (fun q hq => by rw [jAt]; exact below (c + q) (by omega)) (by rw [jAt, Nat.add_sub_cancel' cZ]; exact atZ) with ⟨q, i, hq, hi, _, passed, met⟩ | ⟨passed, met⟩
    · have e0 : t.probe (fun i => (es[i]?.map (·.1)).getD 0) (thash P w k) (stand.getD (t.probeStart (thash P w k))) = some (.candidate (way t.mask (thash P w k) (c + q)) i (nth t.mask (hr0 P w t k) (c + (q + 1)))) := by
        rw [start, ← jAt, nth_add t.mask c _ (q + 1)]
        exact met
      rw [e0]
      dsimp only
      rw [jAt] at hi
      have il : i < L.length := by
        have u1 := (List.getElem?_eq_some_iff.mp hi).1
        have u2 := R.tab.sz
        rw [List.length_map] at u2
        rw [Array.length_toList] at u1
        omega
      obtain ⟨p, hp⟩ : ∃ p, L[i]? = some p := ⟨_, List.getElem?_eq_getElem il⟩
      have pL : p ∈ L := List.mem_of_getElem? hp
      have live := slot_live R.tab.ris hi
      have go : wpAny (model P w) A (searchRest b (.ref x) (thash P w k) false f es t (way t.mask (thash P w k) (c + q)) i (nth t.mask (hr0 P w t k) (c + (q + 1)))) Q E sh := by
        unfold searchRest
        rw [R.entry hp]
        dsimp only
        refine wpAny_bind (wpAny_holding (wpAny_eqBool_tuple room (R.tup p pL) hx (wpAny_bind (wpAny_setState_of atb data R.fits ?_))))
        dsimp only
        refine wp_if_neg (by simp) ?_
        try refine wpAny_bind (wpAny_pure ?_)
        rw [sameMem]
        dsimp only
        simp only [if_true, live, R.entry hp]
        refine wpAny_bind (wpAny_isSame_ref_self (wpAny_bind (wpAny_pure ?_)))
        simp only [if_true]
        by_cases same : p.2 = k
        · exact wp_if_pos (by simp [same]) (wpAny_pure (yes i (List.mem_map.mpr ⟨p, pL, same⟩)))
        · refine wp_if_neg (by simp [same]) (ih (c + (q + 1)) _ rfl (by omega) (by omega) fun i0 p0 h0 k0 => ?_)
          obtain ⟨c', a1, a2, a3⟩ := there i0 p0 h0 k0
          have hh0 : (fun i => (es[i]?.map (·.1)).getD 0) i0 = thash P w k := (hsh i0 p0 h0).trans (congrArg (thash P w) k0)
          refine ⟨c', Decidable.byContradiction fun lt => ?_, a2, a3⟩
          rcases Nat.lt_or_ge c' (c + q) with lt2 | ge
          · exact passed (c' - c) i0 (by omega) (by rw [jAt, Nat.add_sub_cancel' a1]; exact a3) hh0
          · have ec : c' = c + q := by omega
            rw [ec] at a3
            have two := (slot_live R.tab.ris a3).symm.trans live
            injection two with two
            rw [two, hp] at h0
            exact same ((congrArg Prod.snd (Option.some.inj h0)).trans k0)
      by_cases led : t.led = true
      · refine wp_if_neg (by simp [led]) ?_
        try refine wpAny_bind (wpAny_pure ?_)
        exact go
      · refine wp_if_pos (by simp [led]) (wpAny_bind (seen_tup hx (fun y hy => ?_) ?_))
        · obtain ⟨en, hen, rfl⟩ := List.mem_map.mp hy
          have inE : en ∈ es.toList := by
            have : en ∈ es ∧ en.1 = thash P w k := by simpa using hen
            simpa using this.1
          rw [R.rows] at inE
          obtain ⟨p2, hp2, rfl⟩ := List.mem_map.mp inE
          exact ⟨p2.2, p2.1, rfl, R.tup p2 hp2⟩
        · refine wp_if_neg (by decide) ?_
          try refine wpAny_bind (wpAny_pure ?_)
          exact go
    · have e0 : t.probe (fun i => (es[i]?.map (·.1)).getD 0) (thash P w k) (stand.getD (t.probeStart (thash P w k))) = some (.empty (way t.mask (thash P w k) Z) none) := by
        have e2 := jAt c (Z - c)
        rw [Nat.add_sub_cancel' cZ] at e2
        rw [start, ← e2]
        exact met
      rw [e0]
      dsimp only
      refine wpAny_pure (no _ _ fun mem => ?_)
      obtain ⟨p0, h0, k0⟩ := List.mem_map.mp mem
      obtain ⟨i0, lt0, e3⟩ := List.getElem_of_mem h0
      have h00 : L[i0]? = some p0 := by rw [List.getElem?_eq_getElem lt0, e3]
      obtain ⟨c', a1, a2, a3⟩ := there i0 p0 h00 k0
      exact passed (c' - c) i0 (by omega) (by rw [jAt, Nat.add_sub_cancel' a1]; exact a3) ((hsh i0 p0 h00).trans (congrArg (thash P w) k0))
theorem ask_at (R : SetTR P w sh.heap b L es ep t) {x : Addr} {k : List Int} (hx : IsT P w sh.heap k x) (room : A.units < cLine) {Q : SetFound → Shared → Prop}
    (yes : ∀ i, k ∈ L.map (·.2) → Q (.there (some i)) sh) (no : ∀ c e, k ∉ L.map (·.2) → Q (.free c e) sh) : wpAny (model P w) A (setSearch b (.ref x) (thash P w k)) Q E sh := by
  have rm := R.room
  obtain ⟨Z, few, atZ, below⟩ := R.tab.first (by rw [List.length_map]; omega) (thash P w k)
  have fuel : Z < 100000 := Nat.lt_of_lt_of_le few (by unfold SetTable.turns; rcases R.tab.mok with e | e | e <;> omega)
  unfold setSearch
  refine ask_from R hx room few atZ below yes no 100000 0 none rfl (Nat.zero_le _) fuel fun i p hp hk => ?_
  have lt : i < t.place.toList.length := by
    have u1 := (List.getElem?_eq_some_iff.mp hp).1
    have u2 := R.tab.sz
    rw [List.length_map] at u2
    rw [Array.length_toList]
    omega
  obtain ⟨c, hc, e⟩ := R.tab.before (h := thash P w k) (i := i) atZ (by rw [List.getElem?_map, hp, ← hk]; rfl) (List.getElem?_eq_getElem lt)
  exact ⟨c, Nat.zero_le _, hc, by rw [List.getElem?_eq_getElem lt, e]⟩
theorem SetTR.typ (R : SetTR P w sh.heap b L es ep t) : sh.TypeIs (.ref b) "set" := by
  obtain ⟨ob, at1, ex, _⟩ := R.ob
  exact ⟨ob, at1, ex.1⟩
theorem find_setT {x : Addr} {k : List Int} {Q : Option Nat → Shared → Prop} (R : SetTR P w sh.heap b L es ep t) (hx : IsT P w sh.heap k x) (room : A.units < cLine) (h : ∀ r : Option Nat, r.isSome = decide (k ∈ L.map (·.2)) → Q r sh) : wpAny (model P w) A (setFind b (.ref x) (thash P w k)) Q E sh := by
  obtain ⟨ob, atb, exact', data⟩ := R.ob
  have noScan : byScan (.ref x) es = false := by unfold byScan; rfl
  unfold setFind setFindIn
  refine wpAny_bind (wpAny_setState_of atb data R.fits ?_)
  dsimp only
  rw [noScan]
  simp only [Bool.false_eq_true, if_false]
  try refine wpAny_bind (wpAny_pure ?_)
  refine wpAny_bind (ask_at R hx room (fun i hm => ?_) fun c e hm => ?_)
  · exact wpAny_pure (h (some i) (by rw [decide_eq_true hm]; rfl))
  · exact wpAny_pure (h none (by rw [decide_eq_false hm]; rfl))
theorem has_setT {x : Addr} {k : List Int} {Q : Bool → Shared → Prop} (R : SetTR P w sh.heap b L es ep t) (hx : IsT P w sh.heap k x) (room : A.in1.units < cLine) (h : ∀ tk, Q (decide (k ∈ L.map (·.2))) { sh with toks := tk }) :
    wpAny (model P w) A (contains (.ref b) (.ref x)) Q E sh := by
  unfold contains
  try with_reducible refine wpAny_holding ?_
  refine wpAny_bind (wpAny_specialOf R.typ F.slot_set_contains.lookup ?_)
  show wpAny _ _ (if (some (Value.builtin "set.__contains__") == some Value.none) = true then _ else _) _ E sh
  rw [if_neg (show ¬ (some (Value.builtin "set.__contains__") == some Value.none) = true by rw [beq_builtin_none]; exact Bool.false_ne_true)]
  refine wpAny_bind (wpAny_callSpecialUnlessNone?_slot (name := Str.ofString "__contains__") R.typ F.slot_set_contains (wpAny_call_entry F.slot_set_contains R.typ entry_set_contains ?_ (F.args_set_contains_2 _ _)))
  unfold Builtin.«frozenset.__contains__» Builtin.Frozenset.oneOther
  simp only [List.isEmpty_nil, bind_assoc]
  unfold Builtin.Frozenset.addrOf Builtin.Frozenset.withSetAsKey setContains
  refine wpAny_bind (wpAny_pure ?_)
  try dsimp only
  refine wpAny_bind (wpAny_pure ?_)
  try dsimp only
  refine wpAny_bind (wpAny_tryCatch (wpAny_holding (wpAny_bind (wpAny_pyHash_tuple room hx ?_))))
  refine wpAny_bind (find_setT (sh := { sh with toks := sh.toks + (k.length + 1) }) R hx room fun r hr => wpAny_pure ?_)
  show wpAny _ _ (ret (Value.bool r.isSome)) _ _ _
  rw [hr]
  exact wpAny_pure ⟨_, rfl, wpAny_truthy_bool (h _)⟩
theorem add_setT {x : Addr} {k : List Int} {Q : Value → Shared → Prop} (R : SetTR P w sh.heap b L es ep t) (hx : IsT P w sh.heap k x) (room : A.in1.units < cLine) (few : L.length + 1 < 64)
    (h : ∀ h' L' es' ep' t' tk, Heap.SameBut b sh.heap h' → SetTR P w h' b L' es' ep' t' → (k ∈ L.map (·.2) → L' = L) → (k ∉ L.map (·.2) → L'.Perm ((x, k) :: L)) → Q .none { sh with heap := h', toks := tk }) :
    wpAny (model P w) A (call (.builtin "set.add") [.ref b, .ref x]) Q E sh := by
  refine wpAny_call_entry F.slot_set_add R.typ F.entry_set_add ?_ (F.args_set_add_2 _ _)
  unfold Builtin.«set.add» Builtin.Frozenset.oneOther
  simp only [List.isEmpty_nil, bind_assoc]
  unfold Builtin.Frozenset.addrOf setAdd
  refine wpAny_bind (wpAny_pure ?_)
  try dsimp only
  refine wpAny_bind (wpAny_pure ?_)
  try dsimp only
  refine wpAny_bind (wpAny_holding (wpAny_bind (wpAny_pyHash_tuple room hx ?_)))
  refine add_at (s := { sh with toks := sh.toks + (k.length + 1) }) R hx room few fun _ h' L' es' ep' t' sb R' c1 c2 => ?_
  show wpAny _ _ (ret Value.none) _ _ _
  exact wpAny_pure ⟨_, rfl, h h' L' es' ep' t' _ sb R' c1 c2⟩
end
/-! ### the rules -/
/-- at a: a set of the tuples L, each at its address -/
def TSetAt (X : Cx) (H : Hp) (a : Addr) (L : List (Addr × List Int)) : Prop := H a = some (SetTO X.prog X.w a L) ∧ ∀ p ∈ L, SqT X.K H p.1 (p.2.map V.int)
section
variable {X : Cx} {pn : List (Addr × Obj)} {st : St} {H : Hp} {sh : Shared} {a : Addr} {L : List (Addr × List Int)}
theorem TSetAt.raw (I : Inv X pn st H sh) (h : TSetAt X H a L) : ∃ es ep t, SetTR X.prog X.w sh.heap a L es ep t := by
  have ok : ObjOk X.prog X.w H sh.heap a (.ext fun h => SetT0 X.prog X.w h a L) := I.hok a _ h.1
  exact SetT0.full ok.1 fun p hp => I.isT (h.2 p hp)
/-- x in s -/
def rTIn (X : Cx) (neg : Bool) : V → V → Hp → VK → Prop := fun x y H Q => ∃ (b a : Addr) (k : List Int) (L : List (Addr × List Int)), x = .ref b ∧ y = .ref a ∧ SqT X.K H b (k.map V.int) ∧ TSetAt X H a L ∧ Q (.bl (if neg then !decide (k ∈ L.map (·.2)) else decide (k ∈ L.map (·.2)))) H
theorem or_tin (hu : X.A.units + 64 < cLine) : OpR X (compareOp .In) (rTIn X false) := by
  intro pn sh st H x y v u Q I rx ry ⟨b, a, k, L, ex, ey, hb, ha, q⟩
  subst ex ey
  cases rx
  cases ry
  obtain ⟨es, ep, t, R⟩ := ha.raw I
  show wpAny _ _ (contains (.ref a) (.ref b) >>= fun r => pure (Value.bool r)) _ _ _
  exact wpAny_bind (has_setT R (I.isT hb) (by show X.A.units + 1 < cLine; omega) fun tk => wpAny_pure ⟨.bl _, H, I.kept (t' := tk) fun _ _ z => z, rfl, q⟩)
theorem or_tnotin (hu : X.A.units + 64 < cLine) : OpR X (compareOp .NotIn) (rTIn X true) := by
  intro pn sh st H x y v u Q I rx ry ⟨b, a, k, L, ex, ey, hb, ha, q⟩
  subst ex ey
  cases rx
  cases ry
  obtain ⟨es, ep, t, R⟩ := ha.raw I
  show wpAny _ _ (contains (.ref a) (.ref b) >>= fun r => pure (Value.bool (!r))) _ _ _
  exact wpAny_bind (has_setT R (I.isT hb) (by show X.A.units + 1 < cLine; omega) fun tk => wpAny_pure ⟨.bl _, H, I.kept (t' := tk) fun _ _ z => z, rfl, q⟩)
/-- s.add(x) -/
def rTAdd (X : Cx) : V → List V → Hp → VK → Prop := fun x xs H Q => ∃ (a b : Addr) (k : List Int) (L : List (Addr × List Int)), x = .ref a ∧ xs = [.ref b] ∧ SqT X.K H b (k.map V.int) ∧ TSetAt X H a L ∧ L.length + 1 < 64 ∧
  ∀ L', (k ∈ L.map (·.2) → L' = L) → (k ∉ L.map (·.2) → L'.Perm ((b, k) :: L)) → Q .non (upd H a (SetTO X.prog X.w a L'))
theorem mt_tadd (hu : X.A.units + 64 < cLine) : MtR X "set.add" (rTAdd X) := by
  intro pn sh st H x xs v us Q I rx rxs ⟨a, b, k, L, ex, exs, hb, ha, few, q⟩
  subst ex exs
  cases rx
  cases rxs with
  | cons ry rt =>
    cases rt
    cases ry
    obtain ⟨es, ep, t, R⟩ := ha.raw I
    refine add_setT R (I.isT hb) (by show X.A.units + 1 < cLine; omega) few fun h' L' es' ep' t' tk sb R' c1 c2 => ?_
    have there : ∃ u, h'.get? a = some u := by
      obtain ⟨o, ho, _⟩ := R'.ob
      exact ⟨o, ho⟩
    exact ⟨.non, upd H a (SetTO X.prog X.w a L'), I.write (e := a) (t' := tk) (by rw [ha.1]; trivial) (.inl rfl) (fun c u hc hu => (sb.2 c hc).trans hu) there (setTO_new R'.t0), rfl, q L' c1 c2⟩
/-- set(), to hold tuples -/
def rSet0T (X : Cx) : List V → Hp → VK → Prop := fun xs H Q => xs = [] ∧ ∀ p, H p = none → Q (.ref p) (upd H p (SetTO X.prog X.w p []))
theorem cr_set0T : CallR X (.type "set") (rSet0T X) := by
  intro pn sh st H xs us Q I r ⟨ex, q⟩
  subst ex
  cases r
  refine setR_new fun _ => ?_
  exact ⟨.ref _, upd H sh.heap.objs.size (SetTO X.prog X.w sh.heap.objs.size []), I.laid (t' := sh.toks) (fun b u e => Heap.get?_push_of_some _ e) (Nat.le_refl _) (setTO_new (setTR_fresh (Heap.get?_push_size _ rfl)).t0), rfl, q _ (I.hok.fresh (Nat.le_refl _))⟩
end
end L2

namespace L2
open PySem PySem.Spec PyProof.Rows
def tTAdd (X : Cx) (to : TE) (t : TA) : TE := fun σ H Q => to σ H fun x H1 => (∃ a L, x = V.ref a ∧ TSetAt X H1 a L) ∧ t σ H1 fun xs H2 => rTAdd X x xs H2 Q
section
variable {X : Cx} {o e : Expr} {es : List Expr} {to : TE} {t : TA} {apos cpos : Pos}
theorem pe_tadd (hu : X.A.units + 64 < cLine) (ho : PE X o to) (ha : PA X (e :: es) t) (base : attributeBase o "add" X.env (eval o X.env) = eval o X.env := by rfl)
    (few : ((backTo cpos (starEach (e :: es) X.env)).all (fun x => !x.1) && (backToKw cpos (keywordEach [] X.env)).all (fun x => x.1.isSome) && decide ((e :: es).length + ([] : List Keyword).length + (if ([] : List Keyword).isEmpty then 0 else 1) < 30)) = true := by rfl)
    (line : (apos.endLine == cpos.line) = true := by rfl) (hs : starEach (e :: es) X.env = (false, eval e X.env) :: starEach es X.env := by rfl) (plain : (backTo cpos (starEach es X.env)).any (·.1) = false := by rfl) :
    PE X (.Call (.Attribute o "add" apos) (e :: es) [] cpos) (tTAdd X to t) := ⟨fun pn sh st H0 Q inv hq => by
  refine wpAny_Call_method_late base few line rfl (thn (ho.run pn sh st H0 _ inv hq) ?_)
  rintro v sh1 ⟨x, H1, inv1, rx, ⟨a, L, rfl, at1⟩, q⟩
  cases rx
  obtain ⟨es2, ep, tb, R⟩ := at1.raw inv1
  have noDict : ∀ c, Value.ref a = .ref c → ∃ ob, sh1.heap.get? c = some ob ∧ ob.dict = none := fun c z => by
    cases z
    obtain ⟨ob, h1, h2, _⟩ := R.ob
    exact ⟨ob, h1, h2.2.1⟩
  refine ⟨"set", "set.add", F.plainAttrs_set, F.slot_set_add, F.type_set_add, R.typ, noDict, ?_⟩
  have args := ha.run cpos pn sh1 st H1 _ inv1 q
  rw [hs] at args ⊢
  refine Calls.callWith_builtin (by show (false || (backTo cpos (starEach es X.env)).any (·.1)) = false; rw [plain] <;> rfl) (Calls.evalArgs_plain (thn args ?_))
  rintro us sh2 ⟨vs, H2, inv2, rel, q2⟩
  exact mt_tadd hu pn sh2 st H2 (.ref a) vs (.ref a) us Q inv2 rfl rel q2⟩
end
end L2
namespace DL
open PySem L2 PySem.Spec PyProof.Rows
/-! ### sets in slots -/
def tupsOf : List D → Option (List (List Int))
  | [] => some []
  | .tup ds :: r => (intsOf ds).bind fun k => (tupsOf r).map (k :: ·)
  | _ => none
def tpD (k : List Int) : D := .tup (k.map D.int)
theorem tupsOf_inv : ∀ {xs : List D} {ks : List (List Int)}, tupsOf xs = some ks → xs = ks.map tpD
  | [], ks, h => by cases h; rfl
  | .tup ds :: r, ks, h => by
    unfold tupsOf at h
    cases e1 : intsOf ds with
    | none => rw [e1] at h; cases h
    | some k =>
      rw [e1] at h
      cases e2 : tupsOf r with
      | none => rw [e2] at h; cases h
      | some ks' =>
        rw [e2] at h
        cases h
        rw [intsOf_inv e1, tupsOf_inv e2]
        rfl
  | .non :: _, _, h => by cases h
  | .bl _ :: _, _, h => by cases h
  | .int _ :: _, _, h => by cases h
  | .str _ :: _, _, h => by cases h
  | .lst _ :: _, _, h => by cases h
  | .fz _ :: _, _, h => by cases h
  | .obj _ _ _ :: _, _, h => by cases h
  | .exn _ _ _ :: _, _, h => by cases h
theorem tupsOf_map (ks : List (List Int)) : tupsOf (ks.map tpD) = some ks := by
  induction ks with
  | nil => rfl
  | cons k r ih =>
    show ((intsOf (k.map D.int)).bind fun k => (tupsOf (r.map tpD)).map (k :: ·)) = _
    rw [ih, intsOf_map]
    rfl
theorem tpD_inj {a b : List Int} (h : tpD a = tpD b) : a = b := by
  have h' : a.map D.int = b.map D.int := by injection h
  have := congrArg intsOf h'
  rw [intsOf_map, intsOf_map] at this
  exact Option.some.inj this
theorem set_mem {Ls : List (Addr × List Int)} {ks : List (List Int)} (h : (Ls.map fun p => D.tup (p.2.map D.int)).Perm (ks.map tpD)) (k : List Int) : k ∈ Ls.map (·.2) ↔ k ∈ ks := by
  have e : (Ls.map fun p => D.tup (p.2.map D.int)) = (Ls.map (·.2)).map tpD := by rw [List.map_map]; rfl
  rw [e] at h
  have hm := h.mem_iff (a := tpD k)
  constructor
  · intro m
    obtain ⟨y, h1, h2⟩ := List.mem_map.1 (hm.1 (List.mem_map_of_mem m))
    rwa [← tpD_inj h2]
  · intro m
    obtain ⟨y, h1, h2⟩ := List.mem_map.1 (hm.2 (List.mem_map_of_mem m))
    rwa [← tpD_inj h2]
/-- what a set says of a value -/
def inSetV (s : Option Sl) (u : D) : Res Bool := match s, u with
  | some (.om .stt xs), .tup ds => match tupsOf xs, intsOf ds with
    | some ks, some k => .ok (decide (k ∈ ks))
    | _, _ => .no
  | some (.om .sti xs), .int i => match intsOf xs with
    | some ns => .ok (decide (i ∈ ns))
    | none => .no
  | _, _ => .no
def inSetE (i : Nat) (neg : Bool) (f : En → Res Vl) : En → Res Vl := fun env => (f env).bind fun u => (inSetV env[i]? u.d).bind fun b => .ok ⟨.g, .bl (if neg then !b else b)⟩
theorem inSetV_nx {s : Option Sl} {u : D} {x : Exn} : inSetV s u ≠ .ex x := by
  unfold inSetV
  repeat' split
  all_goals exact fun z => by cases z
def rAnyIn (X : Cx) (neg : Bool) : R2 := fun x y H Q => rTIn X neg x y H Q ∨ (if neg then rSNotIn X.w x y H Q else rSIn X.w x y H Q)
theorem or_anyIn {X : Cx} (hu : X.A.units + 64 < cLine) : OpR X (compareOp .In) (rAnyIn X false) := (or_tin hu).or or_sin
theorem or_anyNotIn {X : Cx} (hu : X.A.units + 64 < cLine) : OpR X (compareOp .NotIn) (rAnyIn X true) := (or_tnotin hu).or or_snotin
section
variable {X : Cx} {W : Wi} {te : TE} {f : En → Res Vl}
theorem ev_inSet (i : Nat) (neg : Bool) (hT : W.T.P = X.prog ∧ W.T.wd = X.w) (hf : EvD X.K W te f) : EvD X.K W (tOp (rAnyIn X neg) te (tVar i)) (inSetE i neg f) := ⟨fun B G0 G env σ H z r e Q q => (by
  obtain ⟨u, e1, e⟩ := Res.bind_eq e
  obtain ⟨b, e2, e3⟩ := Res.bind_eq e
  cases e3
  refine hf.ok B G0 G env σ H u r e1 _ fun G1 H1 v x hv => ?_
  have r1 := r.ext x
  have lk := hv.look r1
  unfold inSetV at e2
  split at e2
  · rename_i xs ds es ed
    obtain ⟨o, eo, L, rfl, b0, g0, Ls, h1, h2, h3⟩ := r1.slot es
    split at e2
    · rename_i ks k e4 e5
      cases e2
      rw [tupsOf_inv e4] at h2
      rw [ed] at lk
      obtain ⟨a, vs, rfl, s1, s2⟩ := lk.tup_inv
      rw [intsOf_inv e5] at s2
      rw [RepL.ints s2] at s1
      refine ⟨.ref L, eo, .inl ⟨a, L, k, Ls, rfl, rfl, s1, ⟨by rw [← hT.1, ← hT.2]; exact h1, fun p hp => Same.sqt r1.gh (h3 p hp)⟩, ?_⟩⟩
      have hd : decide (k ∈ Ls.map (·.2)) = decide (k ∈ ks) := decide_eq_decide.2 (set_mem h2 k)
      rw [hd]
      exact q G1 H1 _ x (.bl _)
    · cases e2
  · rename_i xs j es ed
    obtain ⟨o, eo, L, rfl, b0, g0, S, ns, h1, h2, h3, h4⟩ := r1.slot es
    split at e2
    · rename_i ns' e4
      cases e2
      have : ns' = ns := by
        rw [h2, intsOf_map] at e4
        exact (Option.some.inj e4).symm
      subst this
      rw [ed] at lk
      refine ⟨.ref L, eo, .inr ?_⟩
      have w1 : H1 L = some (SetO X.w L S ns'.length) := by rw [← hT.2]; exact h1
      cases neg
      · exact ⟨j, L, S, _, lk.int_inv, rfl, w1, by rw [h4 j]; exact q G1 H1 _ x (.bl _)⟩
      · exact ⟨j, L, S, _, lk.int_inv, rfl, w1, by rw [h4 j]; exact q G1 H1 _ x (.bl _)⟩
    · cases e2
  · cases e2), fun B G0 G env σ H y r e w Q => by
  rcases Res.bind_ex e with e1 | ⟨u, e1, e⟩
  · exact hf.ex B G0 G env σ H y r e1 w _
  rcases Res.bind_ex e with e2 | ⟨b, e2, e⟩
  · exact absurd e2 inSetV_nx
  · cases e⟩
end
section
variable {X : Cx} {W : Wi} {te : TE} {f : En → Res Vl} {a : Expr} {x : Str} {p pos : Pos}
theorem de_inSet (i : Nat) (hu : X.A.units + 64 < cLine) (ha : DE X W a te f) (hT : W.T.P = X.prog ∧ W.T.wd = X.w := by exact ⟨rfl, rfl⟩) (hN : X.N[i]? = some x := by rfl) (hv : Vis X.env.scope x := by first | exact Or.inl rfl | exact Or.inr (Or.inl rfl) | exact Or.inr (Or.inr rfl)) (hd : (x == ("__debug__" : Str)) = false := by decide)
    (hcd : (x == ("__classdict__" : Str)) = false := by decide) (hm : behindInMarks .In (.Name x p) = false := by first | exact nomark _ | rfl) : DE X W (.Compare a [.In] [.Name x p] pos) (tOp (rAnyIn X false) te (tVar i)) (inSetE i false f) :=
  ⟨pe_cmpR (or_anyIn hu) ha.pe (pe_var hN hv hd hcd) hm, ev_inSet i false hT ha.ev⟩
theorem de_notInSet (i : Nat) (hu : X.A.units + 64 < cLine) (ha : DE X W a te f) (hT : W.T.P = X.prog ∧ W.T.wd = X.w := by exact ⟨rfl, rfl⟩) (hN : X.N[i]? = some x := by rfl) (hv : Vis X.env.scope x := by first | exact Or.inl rfl | exact Or.inr (Or.inl rfl) | exact Or.inr (Or.inr rfl)) (hd : (x == ("__debug__" : Str)) = false := by decide)
    (hcd : (x == ("__classdict__" : Str)) = false := by decide) (hm : behindInMarks .NotIn (.Name x p) = false := by first | exact nomark _ | rfl) : DE X W (.Compare a [.NotIn] [.Name x p] pos) (tOp (rAnyIn X true) te (tVar i)) (inSetE i true f) :=
  ⟨pe_cmpR (or_anyNotIn hu) ha.pe (pe_var hN hv hd hcd) hm, ev_inSet i true hT ha.ev⟩
end
/-- x = set() -/
def setNewO (i : Nat) (t : Om) : En → Out := fun env => .nx (env.set i (.om t []))
section
variable {X : Cx} {W : Wi} {x : Str} {p p' pos pos2 : Pos}
theorem ds_setT (i : Nat) (hN : X.N.Nodup) (hm : X.mg "set" = none) (hT : W.T.P = X.prog ∧ W.T.wd = X.w := by exact ⟨rfl, rfl⟩) (hi : X.N[i]? = some x := by rfl) (hx : Loc X.env.scope x := by first | exact Or.inl rfl | exact Or.inr rfl) (hg : Gl X "set" := by rfl) (hf : X.fn x = true ∨ X.env.scope.names.lookup x = some .local := by first | exact .inl rfl | exact .inr rfl | assumption)
    (hs : swapsWith (.Call (.Name "set" p) [] [] pos2) (some (.Name x p')) pos.line X.env = pure false := by rfl) :
    DS X W (.Assign [.Name x p'] (.Call (.Name "set" p) [] [] pos2) pos) (tAsg (tCB (rSet0T X) tNil) (gName i)) (setNewO i .stt) := ⟨ps_set hN hi hx (pe_callTy0 cr_set0T hg hm (by decide +kernel)) hs, fun B G0 G env σ H D r k => by
  refine ⟨rfl, fun p hp => ?_⟩
  have xt : Ext G H G (upd H p (SetTO X.prog X.w p [])) := Ext.new r.gh hp
  exact k G _ _ (Same.refl _) (r.putS (s := .om .stt []) xt ⟨p, rfl, r.bh.free hp, r.gh.free hp, [], by rw [hT.1, hT.2]; exact upd_same, .refl _, fun q hq => by cases hq⟩ (fun _ L z => by cases z; exact hp) i)⟩
theorem ds_setI (i : Nat) (hN : X.N.Nodup) (hm : X.mg "set" = none) (hT : W.T.P = X.prog ∧ W.T.wd = X.w := by exact ⟨rfl, rfl⟩) (hi : X.N[i]? = some x := by rfl) (hx : Loc X.env.scope x := by first | exact Or.inl rfl | exact Or.inr rfl) (hg : Gl X "set" := by rfl) (hf : X.fn x = true ∨ X.env.scope.names.lookup x = some .local := by first | exact .inl rfl | exact .inr rfl | assumption)
    (hs : swapsWith (.Call (.Name "set" p) [] [] pos2) (some (.Name x p')) pos.line X.env = pure false := by rfl) :
    DS X W (.Assign [.Name x p'] (.Call (.Name "set" p) [] [] pos2) pos) (tAsg (tCB (rSet0 X.w) tNil) (gName i)) (setNewO i .sti) := ⟨ps_set hN hi hx (pe_callTy0 cr_set0 hg hm (by decide +kernel)) hs, fun B G0 G env σ H D r k => by
  refine ⟨rfl, fun p hp => ?_⟩
  have xt : Ext G H G (upd H p (SetO X.w p (fun _ => false) 0)) := Ext.new r.gh hp
  exact k G _ _ (Same.refl _) (r.putS (s := .om .sti []) xt ⟨p, rfl, r.bh.free hp, r.gh.free hp, fun _ => false, [], by rw [hT.2]; exact upd_same, rfl, List.nodup_nil, fun i => by simp⟩ (fun _ L z => by cases z; exact hp) i)⟩
end
/-- x.add(e) -/
def addSetV (s : Option Sl) (u : D) : Res Sl := match s, u with
  | some (.om .stt xs), .tup ds => match tupsOf xs, intsOf ds with
    | some ks, some k => if ks.length + 1 < 64 then .ok (.om .stt (if k ∈ ks then xs else xs ++ [.tup ds])) else .no
    | _, _ => .no
  | some (.om .sti xs), .int i => match intsOf xs with
    | some ns => if ns.length + 1 < scanBound then .ok (.om .sti (if i ∈ ns then xs else xs ++ [.int i])) else .no
    | none => .no
  | _, _ => .no
def addSetO (i : Nat) (f : En → Res Vl) : En → Out := fun env => match (f env).bind keepD with
  | .ok d => match addSetV env[i]? d with
    | .ok s => .nx (env.set i s)
    | _ => .no
  | .ex x => .ex env x
  | .no => .no
section
variable {X : Cx} {W : Wi} {te : TE} {f : En → Res Vl} {a : Expr} {x : Str} {p apos pos pos2 : Pos}
theorem ds_addT (i : Nat) (hu : X.A.units + 64 < cLine) (ha : DE X W a te f) (hT : W.T.P = X.prog ∧ W.T.wd = X.w := by exact ⟨rfl, rfl⟩) (hN : X.N[i]? = some x := by rfl) (hv : Vis X.env.scope x := by first | exact Or.inl rfl | exact Or.inr (Or.inl rfl) | exact Or.inr (Or.inr rfl)) (hd : (x == ("__debug__" : Str)) = false := by decide)
    (hcd : (x == ("__classdict__" : Str)) = false := by decide) (base : attributeBase (.Name x p) "add" X.env (eval (.Name x p) X.env) = eval (.Name x p) X.env := by rfl)
    (few : ((backTo pos2 (starEach [a] X.env)).all (fun x => !x.1) && (backToKw pos2 (keywordEach [] X.env)).all (fun x => x.1.isSome) && decide (([a] : List Expr).length + ([] : List Keyword).length + (if ([] : List Keyword).isEmpty then 0 else 1) < 30)) = true := by rfl)
    (line : (apos.endLine == pos2.line) = true := by rfl) (hs : starEach [a] X.env = (false, eval a X.env) :: starEach [] X.env := by rfl) (plain : (backTo pos2 (starEach [] X.env)).any (·.1) = false := by rfl)
    (hsw : swapsWith (.Call (.Attribute (.Name x p) "add" apos) [a] [] pos2) none pos.line X.env = pure false := by rfl) (hs2 : starEach (a :: []) X.env = (false, eval a X.env) :: starEach [] X.env := by rfl) :
    DS X W (.Expr (.Call (.Attribute (.Name x p) "add" apos) [a] [] pos2) pos) (fun D σ H => (tDrop (tTAdd X (tVar i) (tCons te tNil))) D σ H) (fun env => match env[i]? with | some (.om .stt _) => addSetO i f env | _ => .no) :=
  ⟨ps_expr (pe_tadd hu (pe_var hN hv hd hcd) (pa_cons ha.pe pa_nil hs2) base few line hs plain) hsw, fun B G0 G env σ H D r k => by
  split at k
  · rename_i xs0 es
    unfold addSetO at k
    obtain ⟨o, eo, L, rfl, b0, g0, Ls, h1, h2, h3⟩ := r.slot es
    have at0 : TSetAt X H L Ls := ⟨by rw [← hT.1, ← hT.2]; exact h1, fun p hp => Same.sqt r.gh (h3 p hp)⟩
    split at k
    · rename_i d e
      obtain ⟨u, e1, e2⟩ := Res.bind_eq e
      obtain ⟨kp, rfl⟩ := keepD_inv e2
      split at k
      · rename_i s e3
        refine ⟨.ref L, eo, ⟨L, Ls, rfl, at0⟩, ha.ev.ok B G0 G env σ H u r e1 _ fun G1 H1 v xt hv => ?_⟩
        obtain ⟨G2, x2, s2, rep⟩ := hv.freeze xt kp
        have r2 := r.ext x2
        rw [es] at e3
        unfold addSetV at e3
        split at e3
        · rename_i xs ds q1 q2
          cases q1
          split at e3
          · rename_i ks kk e4 e5
            obtain ⟨hfew, rfl⟩ := if_ok e3
            rw [q2] at rep
            obtain ⟨a2, vs, rfl, p1, p2⟩ := rep.tup_inv
            rw [intsOf_inv e5] at p2
            rw [RepL.ints p2] at p1
            rw [tupsOf_inv e4] at h2
            have hlen : Ls.length = ks.length := by
              have := h2.length_eq
              rwa [List.length_map, List.length_map] at this
            have h3' : ∀ p ∈ Ls, SqT X.K G2 p.1 (p.2.map V.int) := fun p hp => Same.sqt x2.gg (h3 p hp)
            refine ⟨L, a2, kk, Ls, rfl, rfl, Same.sqt r2.gh p1, ⟨by rw [← hT.1, ← hT.2]; exact x2.hh _ _ h1, fun p hp => Same.sqt r2.gh (h3' p hp)⟩, by omega, fun L' c1 c2 => ?_⟩
            refine k G2 σ _ x2.gg (r2.mutO es eo ?_)
            by_cases hk : kk ∈ ks
            · rw [if_pos hk]
              rw [c1 ((set_mem h2 kk).2 hk)]
              exact ⟨Ls, by rw [hT.1, hT.2]; exact upd_same, by rw [tupsOf_inv e4]; exact h2, h3'⟩
            · rw [if_neg hk]
              have pm := c2 fun z => hk ((set_mem h2 kk).1 z)
              refine ⟨L', by rw [hT.1, hT.2]; exact upd_same, ?_, fun p hp => ?_⟩
              · refine (pm.map _).trans ?_
                rw [List.map_cons, tupsOf_inv e4]
                refine (List.Perm.cons _ h2).trans ?_
                have e6 : DL.D.tup (kk.map DL.D.int) = DL.D.tup ds := by rw [intsOf_inv e5]
                rw [e6]
                exact List.perm_append_comm (l₁ := [DL.D.tup ds]) (l₂ := ks.map tpD)
              · rcases List.mem_cons.1 (pm.mem_iff.1 hp) with rfl | hp
                · exact p1
                · exact h3' p hp
          · cases e3
        · rename_i q1 _; cases q1
        · cases e3
      · exact k.elim
    · rename_i y e
      rcases Res.bind_ex e with e1 | ⟨u, _, e2⟩
      · exact ⟨.ref L, eo, ⟨L, Ls, rfl, at0⟩, ha.ev.ex B G0 G env σ H y r e1 (k.xok r) _⟩
      · exact absurd e2 if_nx
    · exact k.elim
  · exact k.elim⟩
theorem ds_addI (i : Nat) (ha : DE X W a te f) (hT : W.T.P = X.prog ∧ W.T.wd = X.w := by exact ⟨rfl, rfl⟩) (hN : X.N[i]? = some x := by rfl) (hv : Vis X.env.scope x := by first | exact Or.inl rfl | exact Or.inr (Or.inl rfl) | exact Or.inr (Or.inr rfl)) (hd : (x == ("__debug__" : Str)) = false := by decide)
    (hcd : (x == ("__classdict__" : Str)) = false := by decide) (base : attributeBase (.Name x p) "add" X.env (eval (.Name x p) X.env) = eval (.Name x p) X.env := by rfl)
    (few : ((backTo pos2 (starEach [a] X.env)).all (fun x => !x.1) && (backToKw pos2 (keywordEach [] X.env)).all (fun x => x.1.isSome) && decide (([a] : List Expr).length + ([] : List Keyword).length + (if ([] : List Keyword).isEmpty then 0 else 1) < 30)) = true := by rfl)
    (line : (apos.endLine == pos2.line) = true := by rfl) (hs : starEach [a] X.env = (false, eval a X.env) :: starEach [] X.env := by rfl) (plain : (backTo pos2 (starEach [] X.env)).any (·.1) = false := by rfl)
    (hsw : swapsWith (.Call (.Attribute (.Name x p) "add" apos) [a] [] pos2) none pos.line X.env = pure false := by rfl) (hs2 : starEach (a :: []) X.env = (false, eval a X.env) :: starEach [] X.env := by rfl) :
    DS X W (.Expr (.Call (.Attribute (.Name x p) "add" apos) [a] [] pos2) pos) (tDrop (tSAdd X.w (tVar i) (tCons te tNil))) (fun env => match env[i]? with | some (.om .sti _) => addSetO i f env | _ => .no) :=
  ⟨ps_expr (pe_sadd (pe_var hN hv hd hcd) (pa_cons ha.pe pa_nil hs2) base few line hs plain) hsw, fun B G0 G env σ H D r k => by
  split at k
  · rename_i xs0 es
    unfold addSetO at k
    obtain ⟨o, eo, L, rfl, b0, g0, S, ns, h1, h2, h3, h4⟩ := r.slot es
    have at0 : H L = some (SetO X.w L S ns.length) := by rw [← hT.2]; exact h1
    split at k
    · rename_i d e
      obtain ⟨u, e1, e2⟩ := Res.bind_eq e
      obtain ⟨kp, rfl⟩ := keepD_inv e2
      split at k
      · rename_i s e3
        refine ⟨.ref L, eo, ⟨L, S, _, rfl, at0⟩, ha.ev.ok B G0 G env σ H u r e1 _ fun G1 H1 v xt hv => ?_⟩
        obtain ⟨G2, x2, s2, rep⟩ := hv.freeze xt kp
        have r2 := r.ext x2
        rw [es] at e3
        unfold addSetV at e3
        split at e3
        · rename_i q1 _; cases q1
        · rename_i xs j q1 q2
          cases q1
          split at e3
          · rename_i ns' e4
            obtain ⟨hfew, rfl⟩ := if_ok e3
            have hh : ns' = ns := by
              rw [h2, intsOf_map] at e4
              exact (Option.some.inj e4).symm
            subst hh
            rw [q2] at rep
            refine ⟨L, j, S, _, rfl, by rw [rep.int_inv], x2.hh _ _ at0, hfew, ?_⟩
            refine k G2 σ _ x2.gg (r2.mutO es eo ?_)
            by_cases hk : j ∈ ns'
            · rw [if_pos hk]
              refine ⟨_, ns', by rw [hT.2, if_pos (by rw [h4]; exact decide_eq_true hk)]; exact upd_same, h2, h3, fun i => ?_⟩
              rw [h4 i]
              by_cases hi : i = j
              · subst hi; simp [hk]
              · simp [hi]
            · rw [if_neg hk]
              refine ⟨_, ns' ++ [j], by rw [hT.2, List.length_append, if_neg (by rw [h4, decide_eq_false hk]; exact Bool.false_ne_true)]; exact upd_same, by rw [h2, List.map_append]; rfl, ?_, fun i => ?_⟩
              · refine List.nodup_append.2 ⟨h3, List.pairwise_singleton _ _, fun y hy z hz => ?_⟩
                rw [List.mem_singleton.1 hz]
                rintro rfl
                exact hk hy
              · rw [h4 i]
                by_cases hi : i = j
                · subst hi; simp
                · simp [hi]
          · cases e3
        · cases e3
      · exact k.elim
    · rename_i y e
      rcases Res.bind_ex e with e1 | ⟨u, _, e2⟩
      · exact ⟨.ref L, eo, ⟨L, S, _, rfl, at0⟩, ha.ev.ex B G0 G env σ H y r e1 (k.xok r) _⟩
      · exact absurd e2 if_nx
    · exact k.elim
  · exact k.elim⟩
end
end DL

/-! DLb5: sorted, min, max over data; in over anything. -/
namespace L2
open PySem PySem.Spec PyProof.Rows
theorem Room.u100 {k : Nat} {A : Around} (r : Room k A) : A.units + 100 < cLine := by have := r.un; omega
end L2
namespace PySem.W
open PySem PySem.Calls PyProof.Rows
/-- sorted of a list or of a tuple: the new list stands where nothing stood, what stood stays -/
theorem sorted_seq {prog : Program} {w : World} {A : Around} {E Q : Value → Shared → Prop} {s : Shared} {l : Addr} {vs : List Value} {T : String} {o : Obj} {m : Nat} (which : T = "list" ∨ T = "tuple") (at1 : s.heap.get? l = some o) (cls : o.cls = .type T) (data : o.data = .seq vs.toArray m) (few : vs.length ≤ sizeLine)
    (go : ∀ h1 : Heap, (∀ b u, s.heap.get? b = some u → h1.get? b = some u) → ∃ κ : PyProof.Rows.KeyKind, SortsAt prog w A.in1.in1 { s with heap := sortingHeap (h1.push (seqObj "list" vs.toArray 0)) h1.objs.size vs } κ vs ∧
      ∀ h2 r, (∀ b u, s.heap.get? b = some u → h2.get? b = some u) → s.heap.get? r = none → (∃ e, h2.get? r = some (seqObj "list" (sortVals κ false vs vs).toArray e)) → Q (.ref r) { s with heap := h2 }) :
    wpAny (model prog w) A (call (.builtin "sorted") [.ref l]) Q E s := by
  refine call_function_entry_kw kind_sorted plain_sorted entry_sorted (args_sorted1 _) ?_
  unfold Builtin.«sorted»
  refine wpAny_bind (m := checkCount _ _ _ _) (wpAny_pure (wpAny_bind (wpAny_collect_seq l which at1 cls data (fun h1 kept => ?_) (by simpa using few))))
  obtain ⟨κ, S, fin⟩ := go h1 kept
  have new1 : (h1.push (seqObj "list" vs.toArray 0)).get? h1.objs.size = some (seqObj "list" vs.toArray 0) := Heap.get?_push_size _ rfl
  have none1 : s.heap.get? h1.objs.size = none := by
    cases e : s.heap.get? h1.objs.size with
    | none => rfl
    | some u => exact absurd (Heap.lt_size (kept _ u e)) (Nat.lt_irrefl _)
  have old1 : ∀ b u, s.heap.get? b = some u → b ≠ h1.objs.size ∧ (h1.push (seqObj "list" vs.toArray 0)).get? b = some u := fun b u e => ⟨(fun z => by rw [z, none1] at e; cases e), Heap.get?_push_of_some _ (kept b u e)⟩
  refine wpAny_bind (wpAny_newList (wpAny_bind (wpAny_holding (wpAny_call_entry_kw slot_list_sort ⟨_, new1, rfl⟩ entry_list_sort (list_sort_vals (s := { s with heap := h1.push (seqObj "list" vs.toArray 0) }) new1 S few ⟨_, rfl, wpAny_pure ⟨_, rfl, fin _ _ (fun b u e => ?_) none1 (sortedHeap_at new1)⟩⟩) (args_list_sort _)))) few)
  rw [sortedHeap_old (old1 b u e).1 (Heap.lt_size (old1 b u e).2)]
  exact (old1 b u e).2
end PySem.W
namespace L2
open PySem PySem.Spec PyProof.Rows
abbrev leZ {α : Type} (a b : α × PyData) : Bool := !PySem.W.dataLt b.2 a.2
def rSortD (K : PySem.W.Frag) : List V → Hp → VK → Prop := fun vs H Q => ∃ (a : Addr) (zs : List (V × PyData)), vs = [.ref a] ∧ (SqL K H a (zs.map Prod.fst) ∨ SqT K H a (zs.map Prod.fst)) ∧ (∀ z ∈ zs, Dp K H z.1 z.2 ∧ SeqAt.shaped z.2 = true) ∧
  PySem.W.AllAlike (zs.map Prod.snd) ∧ PySem.W.Sortable (zs.map Prod.snd) ∧ ∀ p, H p = none → Q (.ref p) (upd H p (.lst ((zs.mergeSort leZ).map Prod.fst)))
theorem un_new {fs ex : List Addr} {H : Hp} {h h' : Heap} {a : Addr} {o : HO} (keep : ∀ b u, h.get? b = some u → h'.get? b = some u) (gone : H a = none) (empty : h.get? a = none) : Un fs ex H (upd H a o) h h' := by
  have other : ∀ b u, H b = some u → upd H a o b = H b := fun b u e => upd_ne fun z => by rw [z, gone] at e; cases e
  exact ⟨fun b u e _ _ _ => keep b u e, fun b u e _ _ _ => ⟨u.slots, keep b u e⟩, fun b u e n _ => by rw [upd_ne fun z => by rw [z, empty] at e; cases e]; exact n, fun b u e _ => ⟨u, keep b u e⟩,
    fun b xs e => by rw [other b _ e]; exact e, fun b u v e => by rw [other b _ e]; exact e, fun b ps e => ⟨#[], by rw [other b _ e, e]; simp⟩⟩
section
variable {X : Cx}
theorem vals_zip : ∀ {zs : List (V × PyData)} {its : List Value}, Vals (zs.map Prod.fst) its → PySem.W.EachIs (fun v (z : V × PyData) => RelV z.1 v ∧ z ∈ zs) its zs
  | [], _, h => by cases h; exact .nil
  | z :: zs, _, h => by
    cases h with
    | cons h1 h2 => exact .cons ⟨h1, List.mem_cons_self⟩ (PySem.W.EachIs.mono (fun _ _ h => ⟨h.1, List.mem_cons_of_mem _ h.2⟩) (vals_zip h2))
theorem zip_vals : ∀ {zs : List (V × PyData)} {its : List Value}, PySem.W.EachIs (fun v (z : V × PyData) => RelV z.1 v) its zs → Vals (zs.map Prod.fst) its
  | _, _, .nil => .nil
  | _, _, .cons h1 h2 => .cons h1 (zip_vals h2)
theorem each_snd {R : Value → PyData → Prop} : ∀ {zs : List (V × PyData)} {its : List Value}, PySem.W.EachIs (fun v (z : V × PyData) => R v z.2) its zs → PySem.W.EachIs R its (zs.map Prod.snd)
  | _, _, .nil => .nil
  | _, _, .cons h1 h2 => .cons h1 (each_snd h2)
theorem cr_sortD (hu : X.A.units + 100 < cLine) : CallR X (.builtin "sorted") (rSortD X.K) := by
  intro pins s σ H vs us Q I r h
  obtain ⟨a, zs, rfl, hs, hd, al, so, q⟩ := h
  rw [Vals.ref1 r]
  obtain ⟨its, rv, hz, hseq⟩ : ∃ its, Vals (zs.map Prod.fst) its ∧ (zs.map Prod.fst).length ≤ sizeLine ∧ (s.heap.IsList a its.toArray ∨ s.heap.IsTuple a its.toArray) := by
    rcases hs with hs | hs
    · obtain ⟨its, rv, hl, hz⟩ := I.list hs
      exact ⟨its, rv, hz, .inl hl.isList⟩
    · obtain ⟨its, rv, hl, hz⟩ := I.tuple hs
      obtain ⟨o, h1, h2, n, h3⟩ := hl
      exact ⟨its, rv, hz, .inr ⟨o, h1, h2, n, h3⟩⟩
  have hz' : its.length ≤ sizeLine := by rw [← rv.length]; exact hz
  have e0 := vals_zip rv
  have main : ∀ {T : String} {o : Obj} {m : Nat}, T = "list" ∨ T = "tuple" → s.heap.get? a = some o → o.cls = .type T → o.data = .seq its.toArray m → wpAny (model X.prog X.w) X.A (call (.builtin "sorted") [.ref a]) (EP X pins σ Q) X.xe s := fun which at1 cls data => by
    refine PySem.W.sorted_seq which at1 cls data hz' fun h1 kept => ?_
    have none1 : s.heap.get? h1.objs.size = none := by
      cases e : s.heap.get? h1.objs.size with
      | none => rfl
      | some u => exact absurd (Heap.lt_size (kept _ u e)) (Nat.lt_irrefl _)
    have old : ∀ b u, s.heap.get? b = some u → (PySem.W.sortingHeap (h1.push (seqObj "list" its.toArray 0)) h1.objs.size its).get? b = some u := fun b u e => PySem.W.sortingHeap_old (fun z => by rw [z, none1] at e; cases e) (Heap.get?_push_of_some _ (kept b u e))
    let s' : Shared := { s with heap := PySem.W.sortingHeap (h1.push (seqObj "list" its.toArray 0)) h1.objs.size its }
    have rd : ∀ v (z : V × PyData), RelV z.1 v ∧ z ∈ zs → ∃ as, PySem.Reads s'.heap v z.2 as := fun v z hz => by
      obtain ⟨as, r0⟩ := Dp.reads I z.2 z.1 v (hd z hz.2).1 hz.1
      exact ⟨as, Reads.keeps old r0⟩
    have e1 : PySem.W.EachIs (fun v d => ∃ as, PySem.Reads s'.heap v d as) its (zs.map Prod.snd) := each_snd (PySem.W.EachIs.mono rd e0)
    have S : PySem.W.SortsAt X.prog X.w X.A.in1.in1 s' (PySem.W.dataKind s'.heap (zs.map Prod.snd)) its := PySem.W.SortsAt.data e1 al so fun d hd' => by
      obtain ⟨z, hz, rfl⟩ := List.mem_map.1 hd'
      have := SeqAt.depth_of_shaped (hd z hz).2
      show X.A.units + 1 + 1 + z.2.depth < cLine
      omega
    have e2 : PySem.W.EachIs (fun v (z : V × PyData) => RelV z.1 v) (PySem.W.sortVals (PySem.W.dataKind s'.heap (zs.map Prod.snd)) false its its) (zs.mergeSort leZ) :=
      PySem.W.sortVals_each (κ := PySem.W.dataKind s'.heap (zs.map Prod.snd)) (k := fun z : V × PyData => PySem.W.keyToks z.2) (PySem.W.EachIs.mono (fun _ _ h => h.1) e0) (PySem.W.EachIs.mono (fun v z h => by
        obtain ⟨as, r0⟩ := rd v z h
        exact PySem.W.dataKind_some al (List.mem_map_of_mem h.2) r0) e0)
    refine ⟨_, S, fun h2 p keep2 none2 ⟨ep, there⟩ => ?_⟩
    have gone : H p = none := I.hok.gone none2
    refine ⟨.ref _, upd H p (.lst ((zs.mergeSort leZ).map Prod.fst)), I.un (un_new keep2 gone none2) (HOk.laidN I.hok keep2 gone ⟨?_, _, ep, zip_vals e2, there⟩), rfl, q _ gone⟩
    rw [List.length_map, List.length_mergeSort]
    rw [List.length_map] at hz
    exact hz
  rcases hseq with ⟨o, h1, h2, n, h3⟩ | ⟨o, h1, h2, n, h3⟩
  · exact main (.inl rfl) h1 h2 h3
  · exact main (.inr rfl) h1 h2 h3
end
end L2
namespace DL
open PySem L2
/-- the sorted list -/
def srtD (xs : List D) : List D := xs.mergeSort fun a b => !PySem.W.dataLt (toPy b) (toPy a)
def isTC : D → Bool
  | .tup (_ :: _) => true
  | _ => false
def isNT : D → Bool
  | .tup _ => false
  | .non => false
  | _ => true
/-- they can be sorted -/
def srtOk (xs : List D) : Bool := xs.all (fun x => SeqAt.shaped (toPy x)) && xs.all (fun x => xs.all fun y => PySem.W.alike (toPy x) (toPy y)) && (xs.all isTC || xs.all isNT)
def sortAC : List Vl → Res Vl := fun us => match us with
  | [⟨k, .lst xs⟩] => if (k.it xs && srtOk xs) = true then .ok ⟨.o, .lst (srtD xs)⟩ else .no
  | [⟨k, .tup xs⟩] => if (k.it xs && srtOk xs) = true then .ok ⟨.o, .lst (srtD xs)⟩ else .no
  | [⟨k, .fz xs⟩] => if (k.it xs && srtOk xs) = true then .ok ⟨.o, .lst (srtD xs)⟩ else .no
  | _ => .no
section
variable {K : PySem.W.Frag} {W : Wi} {B G0 G' H' : Hp} {env : En} {σ : L2.St}
theorem isTC_py {d : D} (h : isTC d = true) : ∃ x r, toPy d = .tuple (x :: r) := by
  unfold isTC at h
  split at h
  · exact ⟨_, _, rfl⟩
  · cases h
theorem isNT_py {d : D} (h : isNT d = true) (c : SeqAt.shaped (toPy d) = true) : toPy d ≠ .none ∧ ∀ xs, toPy d ≠ .tuple xs := by
  cases d <;> first
    | (cases h; done)
    | exact ⟨fun z => (nomatch z), fun xs z => (nomatch z)⟩
theorem srtOk_inv {xs : List D} (h : srtOk xs = true) : (∀ x ∈ xs, SeqAt.shaped (toPy x) = true) ∧ PySem.W.AllAlike (xs.map toPy) ∧ PySem.W.Sortable (xs.map toPy) := by
  unfold srtOk at h
  rw [Bool.and_eq_true, Bool.and_eq_true, Bool.or_eq_true] at h
  obtain ⟨⟨h1, h2⟩, h3⟩ := h
  rw [List.all_eq_true] at h1 h2
  refine ⟨h1, fun d hd d' hd' => ?_, ?_⟩
  · obtain ⟨x, hx, rfl⟩ := List.mem_map.1 hd
    obtain ⟨y, hy, rfl⟩ := List.mem_map.1 hd'
    exact List.all_eq_true.1 (h2 x hx) y hy
  · rcases h3 with h3 | h3
    · refine .inl fun d hd => ?_
      obtain ⟨x, hx, rfl⟩ := List.mem_map.1 hd
      exact isTC_py (List.all_eq_true.1 h3 x hx)
    · refine .inr fun d hd => ?_
      obtain ⟨x, hx, rfl⟩ := List.mem_map.1 hd
      exact isNT_py (List.all_eq_true.1 h3 x hx) (h1 x hx)
theorem repL_each : ∀ {vs : List V} {ds : List D}, RepL K G' vs ds → PySem.W.EachIs (Rep K G') vs ds
  | _, _, .nil => .nil
  | _, _, .cons h t => .cons h (repL_each t)
theorem each_repL : ∀ {vs : List V} {ds : List D}, PySem.W.EachIs (Rep K G') vs ds → RepL K G' vs ds
  | _, _, .nil => .nil
  | _, _, .cons h t => .cons h (each_repL t)
theorem sort_core {ws : List V} {xs : List D} {Q : VK} {a : Addr} (r : Rel K W B G0 G' env σ H') (hq : SqL K H' a ws ∨ SqT K H' a ws) (h2 : RepL K G' ws xs) (c : srtOk xs = true) (q : ∀ G2 H2 v, Ext G' H' G2 H2 → Rp K B G2 H' H2 ⟨.o, .lst (srtD xs)⟩ v → Q v H2) : rSortD K [.ref a] H' Q := by
  obtain ⟨c1, c2, c3⟩ := srtOk_inv c
  have hl := (repL_each h2).length
  have e1 : (ws.zip (xs.map toPy)).map Prod.fst = ws := List.map_fst_zip (by rw [List.length_map]; omega)
  have e2 : (ws.zip (xs.map toPy)).map Prod.snd = xs.map toPy := List.map_snd_zip (by rw [List.length_map]; omega)
  refine ⟨a, ws.zip (xs.map toPy), rfl, by rw [e1]; exact hq, fun z hz => ?_, by rw [e2]; exact c2, by rw [e2]; exact c3, ?_⟩
  · rw [List.zip_map_right] at hz
    obtain ⟨p, hp, rfl⟩ := List.mem_map.1 hz
    have hr := (repL_each h2).zip p hp
    have hm := (List.of_mem_zip hp).2
    exact ⟨(hr.mono r.gh).dp (c1 _ hm), c1 _ hm⟩
  · have e3 : ((ws.zip (xs.map toPy)).mergeSort leZ).map Prod.fst = ((ws.zip xs).mergeSort fun a b => !PySem.W.dataLt (toPy b.2) (toPy a.2)).map Prod.fst := by
      rw [List.zip_map_right, ← PySem.W.sort_maps (r := fun a b : V × D => !PySem.W.dataLt (toPy b.2) (toPy a.2)) (s := leZ) (Prod.map id toPy) (fun _ _ _ _ => rfl), List.map_map]
      rfl
    have e4 : RepL K G' (((ws.zip xs).mergeSort fun a b => !PySem.W.dataLt (toPy b.2) (toPy a.2)).map Prod.fst) (srtD xs) := by
      have e5 : ((ws.zip xs).mergeSort fun a b => !PySem.W.dataLt (toPy b.2) (toPy a.2)).map Prod.snd = srtD xs := by
        rw [PySem.W.sort_maps (s := fun a b : D => !PySem.W.dataLt (toPy b) (toPy a)) Prod.snd (fun _ _ _ _ => rfl), List.map_snd_zip (by omega)]
        rfl
      rw [← e5]
      exact each_repL (PySem.W.EachIs.of fun p hp => (repL_each h2).zip p ((List.mergeSort_perm _ _).mem_iff.mp hp))
    rw [e3]
    exact new_list r e4 q
theorem snc_sortA : SndC K (rSortD K) sortAC := ⟨fun B G0 G' env σ H' us z vs Q r h e q => (by
  unfold sortAC at e
  split at e
  · obtain ⟨c, rfl⟩ := if_ok e
    rw [Bool.and_eq_true] at c
    obtain ⟨v, w, e, h, l⟩ := h
    subst e
    obtain ⟨a, ws, rfl, h1, h2⟩ := Rp.items r h rfl c.1
    rw [show w = [] from l]
    exact sort_core r (.inl (SqL.of h1)) h2 c.2 q
  · obtain ⟨c, rfl⟩ := if_ok e
    rw [Bool.and_eq_true] at c
    obtain ⟨v, w, e, h, l⟩ := h
    subst e
    obtain ⟨a, ws, rfl, h1, h2⟩ := Rp.tupItems r h rfl c.1
    rw [show w = [] from l]
    exact sort_core r (.inr h1) h2 c.2 q
  · obtain ⟨c, rfl⟩ := if_ok e
    rw [Bool.and_eq_true] at c
    obtain ⟨v, w, e, h, l⟩ := h
    subst e
    obtain ⟨a, ws, rfl, h1, h2⟩ := Rp.fzItems r h rfl c.1
    rw [show w = [] from l]
    exact sort_core r (.inl h1) h2 c.2 q
  · cases e), fun us x => by
  unfold sortAC
  repeat' split
  all_goals exact fun z => by cases z⟩
end
theorem ck_sortA {X : Cx} {K : PySem.W.Frag} (hu : X.A.units + 100 < cLine) (hK : X.K = K := by rfl) : CallR X (.builtin "sorted") (rSortD K) := by subst hK; exact cr_sortD hu
end DL

/-! DLb6: in over anything; min, max of ints in a list or a tuple; all, any; insert. -/
namespace DL
open PySem L2 PySem.Spec PyProof.Rows
section
variable {K : PySem.W.Frag} {X : Cx}
/-! ### in -/
def inAP (neg : Bool) : Vl → Vl → Res Vl := fun u w => match w.d with
  | .tup ys => if (flat u.d && ys.all flat) = true then inP neg u w else inTP neg u w
  | _ => inP neg u w
def rInA (K : PySem.W.Frag) : R2 := fun x y H Q => rInB K x y H Q ∨ rInT K false x y H Q
def rNotInA (K : PySem.W.Frag) : R2 := fun x y H Q => rNotInB K x y H Q ∨ rInT K true x y H Q
theorem inAP_nx {neg : Bool} (u w : Vl) (x : Exn) : inAP neg u w ≠ .ex x := by
  unfold inAP
  split
  · split
    · exact inP_nx u w x
    · unfold inTP
      split <;> first
        | exact if_nx
        | exact fun z => nomatch z
  · exact inP_nx u w x
theorem snd_inA : Snd2 K (rInA K) (inAP false) := ⟨fun B G0 G G' env σ H H' u w z x y Q rl hu hw e q => (by
  unfold inAP at e
  split at e
  · split at e
    · exact .inl (snd_in.ok B G0 G G' env σ H H' u w z x y Q rl hu hw e q)
    · exact .inr ((snd_inT false).ok B G0 G G' env σ H H' u w z x y Q rl hu hw e q)
  · exact .inl (snd_in.ok B G0 G G' env σ H H' u w z x y Q rl hu hw e q)), inAP_nx⟩
theorem snd_notInA : Snd2 K (rNotInA K) (inAP true) := ⟨fun B G0 G G' env σ H H' u w z x y Q rl hu hw e q => (by
  unfold inAP at e
  split at e
  · split at e
    · exact .inl (snd_notIn.ok B G0 G G' env σ H H' u w z x y Q rl hu hw e q)
    · exact .inr ((snd_inT true).ok B G0 G G' env σ H H' u w z x y Q rl hu hw e q)
  · exact .inl (snd_notIn.ok B G0 G G' env σ H H' u w z x y Q rl hu hw e q)), inAP_nx⟩
theorem cm_inA (hu : X.A.units + 100 < cLine) (hK : X.K = K := by rfl) : CmpR X .In (rInA K) (inAP false) := by
  subst hK
  have hu' : X.A.units + 65 < cLine := by omega
  exact ⟨(op_in_seq.or (op_inD hu')).or (op_inT hu'), snd_inA⟩
theorem cm_notInA (hu : X.A.units + 100 < cLine) (hK : X.K = K := by rfl) : CmpR X .NotIn (rNotInA K) (inAP true) := by
  subst hK
  have hu' : X.A.units + 65 < cLine := by omega
  exact ⟨(op_notIn_seq.or (op_notInD hu')).or (op_notInT hu'), snd_notInA⟩
/-! ### min, max -/
def rMinA (K : PySem.W.Frag) : List V → Hp → VK → Prop := fun vs H Q => ∃ (a : Addr) (n : Int) (ns : List Int), vs = [.ref a] ∧ (SqL K H a ((n :: ns).map V.int) ∨ SqT K H a ((n :: ns).map V.int)) ∧ Q (.int (ns.foldl min n)) H
def rMaxA (K : PySem.W.Frag) : List V → Hp → VK → Prop := fun vs H Q => ∃ (a : Addr) (n : Int) (ns : List Int), vs = [.ref a] ∧ (SqL K H a ((n :: ns).map V.int) ∨ SqT K H a ((n :: ns).map V.int)) ∧ Q (.int (ns.foldl max n)) H
theorem dpAll_ints {H : Hp} : ∀ ns : List Int, DpAll K H (ns.map V.int) (ns.map PyData.int)
  | [] => .nil
  | n :: ns => .cons (.int n) (dpAll_ints ns)
theorem alike_ints (ns : List Int) : PySem.W.AlikeAll (ns.map PyData.int) := PySem.W.alikeAll_datum ns
theorem dep_ints : ∀ ns : List Int, PyData.depthAll (ns.map PyData.int) ≤ 1
  | [] => by simp [PyData.depthAll]
  | n :: ns => by
    have := dep_ints ns
    rw [List.map_cons]
    simp only [PyData.depthAll, PyData.depth]
    omega
theorem reads_int {h : Heap} {v : Value} {n : Int} {bs : List Addr} (r : PySem.Reads h v (.int n) bs) : ∃ t, v = .int n t := by
  cases r
  exact ⟨_, rfl⟩
theorem cr_minA (hc : X.calm = true) (hu : X.A.units + 100 < cLine) : CallR X (.builtin "min") (rMinA X.K) := by
  intro pins s σ H vs us Q I r h
  obtain ⟨a, n, ns, rfl, hs, q⟩ := h
  rw [Vals.ref1 r]
  have dep := dep_ints (n :: ns)
  have hu' : X.A.units + 1 + PyData.depthAll ((n :: ns).map PyData.int) < cLine := by omega
  rcases hs with hs | hs
  · obtain ⟨its, rv, hl, hz⟩ := I.list hs
    obtain ⟨as, rd⟩ := Dp.readsAll I _ _ its (dpAll_ints (n :: ns)) rv
    refine PySem.W.min_list_data (I.ok.hd hc) hl.isList (x := .int n) (xs := ns.map PyData.int) (as := as) (by simpa using rd) (alike_ints (n :: ns)) hu' fun i v h' tk bs _ r2 hk => ?_
    rw [PySem.W.minD_ints] at r2
    obtain ⟨t, rfl⟩ := reads_int r2
    exact ⟨.int _, H, I.kept hk, ⟨_, rfl⟩, q⟩
  · obtain ⟨its, rv, hl, hz⟩ := I.tuple hs
    obtain ⟨as, rd⟩ := Dp.readsAll I _ _ its (dpAll_ints (n :: ns)) rv
    obtain ⟨o, h1, h2, m, h3⟩ := hl
    refine PySem.W.min_tuple_data (I.ok.hd hc) (vs := its.toArray) ⟨o, h1, h2, m, h3⟩ (x := .int n) (xs := ns.map PyData.int) (as := as) (by simpa using rd) (alike_ints (n :: ns)) hu' fun i v h' tk bs _ r2 hk => ?_
    rw [PySem.W.minD_ints] at r2
    obtain ⟨t, rfl⟩ := reads_int r2
    exact ⟨.int _, H, I.kept hk, ⟨_, rfl⟩, q⟩
theorem cr_maxA (hc : X.calm = true) (hu : X.A.units + 100 < cLine) : CallR X (.builtin "max") (rMaxA X.K) := by
  intro pins s σ H vs us Q I r h
  obtain ⟨a, n, ns, rfl, hs, q⟩ := h
  rw [Vals.ref1 r]
  have dep := dep_ints (n :: ns)
  have hu' : X.A.units + 1 + PyData.depthAll ((n :: ns).map PyData.int) < cLine := by omega
  rcases hs with hs | hs
  · obtain ⟨its, rv, hl, hz⟩ := I.list hs
    obtain ⟨as, rd⟩ := Dp.readsAll I _ _ its (dpAll_ints (n :: ns)) rv
    refine PySem.W.max_list_data (I.ok.hd hc) hl.isList (x := .int n) (xs := ns.map PyData.int) (as := as) (by simpa using rd) (alike_ints (n :: ns)) hu' fun i v h' tk bs _ r2 hk => ?_
    rw [PySem.W.maxD_ints] at r2
    obtain ⟨t, rfl⟩ := reads_int r2
    exact ⟨.int _, H, I.kept hk, ⟨_, rfl⟩, q⟩
  · obtain ⟨its, rv, hl, hz⟩ := I.tuple hs
    obtain ⟨as, rd⟩ := Dp.readsAll I _ _ its (dpAll_ints (n :: ns)) rv
    obtain ⟨o, h1, h2, m, h3⟩ := hl
    refine PySem.W.max_tuple_data (I.ok.hd hc) (vs := its.toArray) ⟨o, h1, h2, m, h3⟩ (x := .int n) (xs := ns.map PyData.int) (as := as) (by simpa using rd) (alike_ints (n :: ns)) hu' fun i v h' tk bs _ r2 hk => ?_
    rw [PySem.W.maxD_ints] at r2
    obtain ⟨t, rfl⟩ := reads_int r2
    exact ⟨.int _, H, I.kept hk, ⟨_, rfl⟩, q⟩
def minAC : List Vl → Res Vl := fun us => match us with
  | [⟨_, .lst xs⟩] => match intsOf xs with
    | some (n :: ns) => .ok ⟨.g, .int (ns.foldl min n)⟩
    | _ => .no
  | [⟨_, .tup xs⟩] => match intsOf xs with
    | some (n :: ns) => .ok ⟨.g, .int (ns.foldl min n)⟩
    | _ => .no
  | _ => .no
def maxAC : List Vl → Res Vl := fun us => match us with
  | [⟨_, .lst xs⟩] => match intsOf xs with
    | some (n :: ns) => .ok ⟨.g, .int (ns.foldl max n)⟩
    | _ => .no
  | [⟨_, .tup xs⟩] => match intsOf xs with
    | some (n :: ns) => .ok ⟨.g, .int (ns.foldl max n)⟩
    | _ => .no
  | _ => .no
theorem snc_minA : SndC K (rMinA K) minAC := ⟨fun B G0 G' env σ H' us z vs Q r h e q => (by
  unfold minAC at e
  split at e
  · split at e
    · rename_i n ns en
      cases e
      obtain ⟨v, w, e, h, l⟩ := h
      subst e
      obtain ⟨a, ws, rfl, h1, h2⟩ := (h.look r).lst_inv
      rw [intsOf_inv en] at h2
      rw [show w = [] from l]
      exact ⟨a, n, ns, rfl, .inl (SqL.of (by rw [h1, h2.ints])), q _ _ _ (Ext.refl r.gh) (.int _)⟩
    · cases e
  · split at e
    · rename_i n ns en
      cases e
      obtain ⟨v, w, e, h, l⟩ := h
      subst e
      obtain ⟨a, ws, rfl, h1, h2⟩ := (h.look r).tup_inv
      rw [intsOf_inv en] at h2
      rw [show w = [] from l]
      exact ⟨a, n, ns, rfl, .inr (h2.ints ▸ h1), q _ _ _ (Ext.refl r.gh) (.int _)⟩
    · cases e
  · cases e), fun us x => by
  unfold minAC
  repeat' split
  all_goals exact fun z => by cases z⟩
theorem snc_maxA : SndC K (rMaxA K) maxAC := ⟨fun B G0 G' env σ H' us z vs Q r h e q => (by
  unfold maxAC at e
  split at e
  · split at e
    · rename_i n ns en
      cases e
      obtain ⟨v, w, e, h, l⟩ := h
      subst e
      obtain ⟨a, ws, rfl, h1, h2⟩ := (h.look r).lst_inv
      rw [intsOf_inv en] at h2
      rw [show w = [] from l]
      exact ⟨a, n, ns, rfl, .inl (SqL.of (by rw [h1, h2.ints])), q _ _ _ (Ext.refl r.gh) (.int _)⟩
    · cases e
  · split at e
    · rename_i n ns en
      cases e
      obtain ⟨v, w, e, h, l⟩ := h
      subst e
      obtain ⟨a, ws, rfl, h1, h2⟩ := (h.look r).tup_inv
      rw [intsOf_inv en] at h2
      rw [show w = [] from l]
      exact ⟨a, n, ns, rfl, .inr (h2.ints ▸ h1), q _ _ _ (Ext.refl r.gh) (.int _)⟩
    · cases e
  · cases e), fun us x => by
  unfold maxAC
  repeat' split
  all_goals exact fun z => by cases z⟩
theorem ck_minA (hc : X.calm = true) (hu : X.A.units + 100 < cLine) (hK : X.K = K := by rfl) : CallR X (.builtin "min") (rMinA K) := by subst hK; exact cr_minA hc hu
theorem ck_maxA (hc : X.calm = true) (hu : X.A.units + 100 < cLine) (hK : X.K = K := by rfl) : CallR X (.builtin "max") (rMaxA K) := by subst hK; exact cr_maxA hc hu
/-! ### all, any -/
def blsOf : List D → Option (List Bool)
  | [] => some []
  | .bl b :: r => (blsOf r).map (b :: ·)
  | _ => none
theorem blsOf_inv : ∀ {xs : List D} {bs : List Bool}, blsOf xs = some bs → xs = bs.map D.bl
  | [], bs, h => by cases h; rfl
  | d :: r, bs, h => by
    cases d with
    | bl b =>
      unfold blsOf at h
      cases e : blsOf r with
      | none => rw [e] at h; cases h
      | some bs' =>
        rw [e] at h
        cases h
        rw [blsOf_inv e]
        rfl
    | _ => cases h
theorem blsOf_map (bs : List Bool) : blsOf (bs.map D.bl) = some bs := by
  induction bs with
  | nil => rfl
  | cons b r ih =>
    show (blsOf (r.map D.bl)).map (b :: ·) = _
    rw [ih]
    rfl
theorem repL_bls {G : Hp} : ∀ {bs : List Bool} {vs : List V}, RepL K G vs (bs.map D.bl) → vs = bs.map V.bl
  | [], _, h => by cases h; rfl
  | b :: bs, _, h => by
    rw [List.map_cons] at h
    cases h with
    | cons h1 h2 => rw [h1.bl_inv, repL_bls h2]; rfl
def allC : List Vl → Res Vl := fun us => match us with
  | [⟨_, .lst xs⟩] => match blsOf xs with
    | some bs => .ok ⟨.g, .bl (bs.all id)⟩
    | none => .no
  | _ => .no
def anyC : List Vl → Res Vl := fun us => match us with
  | [⟨_, .lst xs⟩] => match blsOf xs with
    | some bs => .ok ⟨.g, .bl (bs.any id)⟩
    | none => .no
  | _ => .no
theorem snc_all : SndC K (rAll K) allC := ⟨fun B G0 G' env σ H' us z vs Q r h e q => (by
  unfold allC at e
  split at e
  · split at e
    · rename_i bs en
      cases e
      obtain ⟨v, w, e, h, l⟩ := h
      subst e
      obtain ⟨a, ws, rfl, h1, h2⟩ := (h.look r).lst_inv
      rw [blsOf_inv en] at h2
      rw [show w = [] from l]
      exact ⟨a, bs, rfl, SqL.of (by rw [h1, repL_bls h2]), q _ _ _ (Ext.refl r.gh) (.bl _)⟩
    · cases e
  · cases e), fun us x => by
  unfold allC
  repeat' split
  all_goals exact fun z => by cases z⟩
theorem snc_any : SndC K (rAny K) anyC := ⟨fun B G0 G' env σ H' us z vs Q r h e q => (by
  unfold anyC at e
  split at e
  · split at e
    · rename_i bs en
      cases e
      obtain ⟨v, w, e, h, l⟩ := h
      subst e
      obtain ⟨a, ws, rfl, h1, h2⟩ := (h.look r).lst_inv
      rw [blsOf_inv en] at h2
      rw [show w = [] from l]
      exact ⟨a, bs, rfl, SqL.of (by rw [h1, repL_bls h2]), q _ _ _ (Ext.refl r.gh) (.bl _)⟩
    · cases e
  · cases e), fun us x => by
  unfold anyC
  repeat' split
  all_goals exact fun z => by cases z⟩
theorem ck_all (hc : X.calm = true) (hK : X.K = K := by rfl) : CallR X (.builtin "all") (rAll K) := by subst hK; exact cr_all hc
theorem ck_any (hc : X.calm = true) (hK : X.K = K := by rfl) : CallR X (.builtin "any") (rAny K) := by subst hK; exact cr_any hc
end
/-! ### xs.insert(j, e) -/
def rInsert : V → List V → Hp → VK → Prop := fun x vs H Q => ∃ (l : Addr) (xs : List V) (i : Int) (y : V), x = .ref l ∧ vs = [.int i, y] ∧ H l = some (.lst xs) ∧ xs.length < sizeLine ∧ 0 ≤ i ∧ i < 2 ^ 63 ∧ Q .non (upd H l (.lst (xs.take i.toNat ++ [y] ++ xs.drop i.toNat)))
theorem mt_ins {X : Cx} : MtR X "list.insert" rInsert := mt_insert
def insO (i : Nat) (f g : En → Res Vl) : En → Out := fun env => match f env with
  | .ok ⟨_, .int j⟩ => match (g env).bind keepD with
    | .ok d => match owAt env i with
      | .ok xs => if xs.length < sizeLine ∧ 0 ≤ j ∧ j < 2 ^ 63 then .nx (env.set i (.ow (xs.take j.toNat ++ [d] ++ xs.drop j.toNat))) else .no
      | _ => .no
    | _ => .no
  | _ => .no
theorem sv_ins (i : Nat) {K : PySem.W.Frag} {W : Wi} {te tg : TE} {f g : En → Res Vl} (hf : EvD K W te f) (hg : EvD K W tg g) : SvD K W (tDrop (tBM K "list" rInsert (tVar i) (tCons te (tCons tg tNil)))) (insO i f g) := fun B G0 G env σ H D r k => by
  unfold insO at k
  split at k
  · rename_i kd j ej
    split at k
    · rename_i d e
      obtain ⟨u, e1, e2⟩ := Res.bind_eq e
      obtain ⟨kp, rfl⟩ := keepD_inv e2
      split at k
      · rename_i xs ex
        have ex := owAt_inv ex
        split at k
        · rename_i hz
          obtain ⟨o, eo, L, vs, y1, y2, y3, y4, y5⟩ := r.slot ex
          subst y1
          refine ⟨.ref L, eo, tyV_lst y4, hf.ok B G0 G env σ H _ r ej _ fun G1 H1 v x hv => hg.ok B G0 G1 env σ H1 u (r.ext x) e1 _ fun G2 H2 w x2 hw => ?_⟩
          obtain ⟨G3, x3, s3, hd⟩ := hw.freeze x2 kp
          have xx := x.trans x3
          have r2 := r.ext xx
          refine ⟨L, vs, j, w, rfl, by rw [(hv.look (r.ext x)).int_inv], xx.hh _ _ y4, by rw [y5.len]; exact hz.1, hz.2.1, hz.2.2, ?_⟩
          have y6 := y5.mono xx.gg
          exact k G3 σ _ xx.gg (r2.mut ex eo (((y6.take j.toNat).app (.cons hd .nil)).app (y6.drop j.toNat)))
        · exact k.elim
      · exact k.elim
    · exact k.elim
  · exact k.elim
section
variable {X : Cx} {W : Wi} {e j : Expr} {te tj : TE} {f g : En → Res Vl} {x : Str} {p1 apos cpos pos : Pos}
theorem ds_ins (i : Nat) (hj : DE X W j tj f) (he : DE X W e te g) (hN : X.N[i]? = some x := by rfl) (hv : Vis X.env.scope x := by first | exact Or.inl rfl | exact Or.inr (Or.inl rfl) | exact Or.inr (Or.inr rfl)) (hd : (x == ("__debug__" : Str)) = false := by decide)
    (hcd : (x == ("__classdict__" : Str)) = false := by decide) (hbase : attributeBase (.Name x p1) "insert" X.env (eval (.Name x p1) X.env) = eval (.Name x p1) X.env := by rfl)
    (hfew : ((backTo cpos (starEach (j :: e :: []) X.env)).all (fun x => !x.1) && (backToKw cpos (keywordEach [] X.env)).all (fun x => x.1.isSome)
      && decide ((j :: e :: []).length + ([] : List Keyword).length + (if ([] : List Keyword).isEmpty then 0 else 1) < 30)) = true := by rfl)
    (hline : (apos.endLine == cpos.line) = true := by rfl) (hs : starEach (j :: e :: []) X.env = (false, eval j X.env) :: starEach (e :: []) X.env := by rfl) (hs2 : starEach (e :: []) X.env = (false, eval e X.env) :: starEach [] X.env := by rfl) (hplain : (backTo cpos (starEach (e :: []) X.env)).any (·.1) = false := by rfl)
    (hw : swapsWith (.Call (.Attribute (.Name x p1) "insert" apos) [j, e] [] cpos) none pos.line X.env = pure false := by rfl) :
    DS X W (.Expr (.Call (.Attribute (.Name x p1) "insert" apos) [j, e] [] cpos) pos) (tDrop (tBM X.K "list" rInsert (tVar i) (tCons tj (tCons te tNil)))) (insO i f g) :=
  ⟨ps_expr (pe_bm PySem.F.plainAttrs_list PySem.F.slot_list_insert PySem.F.type_list_insert mt_ins (pe_var hN hv hd hcd) (pa_cons hj.pe (pa_cons he.pe pa_nil hs2) hs) hbase hfew hline hs hplain) hw, sv_ins i hj.ev he.ev⟩
end
end DL

/-! DLb7: for i, x in enumerate(t), t a list or a tuple; range of three. -/
namespace L2
open PySem PySem.Spec PyProof.Rows PyProof
set_option maxHeartbeats 1000000 in
theorem enum_new_of {v : Value} {o : Obj} {St : Heap → Prop} (B : Begins v o St) :
    Meets (Builtin.«enumerate.__new__» ⟨[.type "enumerate", v], []⟩) (fun _ R s => St s.heap ∧ R (.ok (.ret (.ref (s.heap.push o).objs.size)))
      { s with heap := (s.heap.push o).push { cls := .type "enumerate", data := .fields #[.none, .bool false, .ref s.heap.objs.size, rawInt 0, .none, .none] } }) :=
  .of_wp fun prog w A R s ⟨stands, goal⟩ => by
    obtain ⟨hp, g, d, tk, os⟩ := s
    have kin := sub_enumerate
    have begun : ∀ {A1 : Around} {E Q : Value → Shared → Prop}, Q (.ref hp.objs.size) ⟨hp.push o, g, d, tk, os⟩ → wpAny (model prog w) A1 (pyIter v) Q E ⟨hp, g, d, tk, os⟩ := fun q => B.iter prog w _ _ _ _ stands q
    wp_walk using begun
    refine wpAny_stack_any fun fr => wpAny_pure ?_
    split
    case h_1 c _ _ _ _ _ => cases (c == Value.type "enumerate") <;> (wp_walk using begun; exact ⟨_, rfl, goal⟩)
    all_goals (wp_walk using begun; exact ⟨_, rfl, goal⟩)
theorem enum_called {prog : Program} {w : World} {A : Around} {E : Value → Shared → Prop} {s : Shared} {v : Value} {o : Obj} {St : Heap → Prop} {Q : Value → Shared → Prop} (B : Begins v o St) (stands : St s.heap)
    (q : ∀ h', IsEnum h' (s.heap.objs.size + 1) s.heap.objs.size 0 .none → h'.get? s.heap.objs.size = some o → (∀ b u, s.heap.get? b = some u → h'.get? b = some u) → Q (.ref (s.heap.objs.size + 1)) { s with heap := h' }) :
    wpAny (model prog w) A (call (.type "enumerate") [v]) Q E s := by
  refine callType_new F.called_enumerate (by decide) (F.typeCall_enumerate_1 _) (F.newCall_enumerate_1 _) (fun obj => F.args_object_init_2 obj _) F.entry_enumerate_new (enum_new_of B) ⟨stands, ?_⟩
  have size1 : (s.heap.push o).objs.size = s.heap.objs.size + 1 := Heap.size_push ..
  have made : IsEnum ((s.heap.push o).push { cls := .type "enumerate", data := .fields #[.none, .bool false, .ref s.heap.objs.size, rawInt 0, .none, .none] }) (s.heap.objs.size + 1) s.heap.objs.size 0 .none := by
    rw [← size1]
    exact Heap.get?_push_size _ rfl
  rw [size1]
  exact ⟨⟨_, made, rfl⟩, q _ made (Heap.get?_push_of_some _ (Heap.get?_push_size _ B.free)) fun b u x => Heap.get?_push_of_some _ (Heap.get?_push_of_some _ x)⟩
/-- at a: a list, a tuple of the items -/
def SqA (K : PySem.W.Frag) (tu : Bool) (H : Hp) (a : Addr) (xs : List V) : Prop := if tu = true then SqT K H a xs else SqL K H a xs
/-- (i, x) for the items x of the list, of the tuple at a -/
def Itet (K : PySem.W.Frag) (tu : Bool) (a : Addr) : It :=
  ⟨fun i H => ∃ (xs : List V) (x : V), SqA K tu H a xs ∧ xs[i]? = some x, fun i H v H' => ∃ T x, v = .ref T ∧ H T = none ∧ (∃ o : Obj, o.dict = none ∧ H' = upd H T (.frz o (.tup [.int (i : Nat), x]))) ∧ ∀ xs, SqA K tu H a xs → xs[i]? = some x, fun i H => ∃ xs : List V, SqA K tu H a xs ∧ xs.length ≤ i⟩
def seqAt (tu : Bool) (h : Heap) (a : Addr) (its : List Value) : Prop := if tu = true then h.IsTuple a its.toArray else h.IsList a its.toArray
def iterAt (tu : Bool) (h : Heap) (it a : Addr) (i : Nat) : Prop := if tu = true then h.IsTupleIter it a i else h.IsListIter it a i
theorem seqA_at {X : Cx} {pn : List (Addr × Obj)} {st : St} {H : Hp} {sh : Shared} {tu : Bool} {a : Addr} {xs : List V} (I : Inv X pn st H sh) (h : SqA X.K tu H a xs) : ∃ its, Vals xs its ∧ seqAt tu sh.heap a its := by
  cases tu
  · obtain ⟨its, rv, pl, _⟩ := I.list h
    exact ⟨its, rv, pl.isList⟩
  · obtain ⟨its, rv, tup, _⟩ := I.tuple h
    exact ⟨its, rv, tup⟩
theorem seqA_inj {X : Cx} {pn : List (Addr × Obj)} {st : St} {H : Hp} {sh : Shared} {tu : Bool} {a : Addr} {xs ys : List V} (I : Inv X pn st H sh) (h : SqA X.K tu H a xs) (h' : SqA X.K tu H a ys) : xs = ys := by
  cases tu
  · exact I.list_inj h h'
  · exact I.tuple_inj h h'
theorem draws_seq {prog : Program} {w : World} {A : Around} (hh : A.handled = none) {tu : Bool} {it t : Addr} (hne : t ≠ it) (its : List Value) :
    Draws prog w A it [it, t] its.length (fun i v => its[i]? = some v) (fun i h => iterAt tu h it t i ∧ seqAt tu h t its) := by
  cases tu
  · have D := Draws.list (prog := prog) (w := w) hh it t hne its.toArray
    simpa [iterAt, seqAt] using D
  · have D := Draws.tuple (prog := prog) (w := w) hh it t hne its.toArray
    simpa [iterAt, seqAt] using D
theorem iterAt_keep {tu : Bool} {h h' : Heap} {it a : Addr} {i : Nat} (x : iterAt tu h it a i) (k : ∀ o, h.get? it = some o → h'.get? it = some o) : iterAt tu h' it a i := by
  cases tu
  · exact Heap.IsListIter.at x k
  · exact Heap.IsTupleIter.at x k
theorem seqAt_keep {tu : Bool} {h h' : Heap} {a : Addr} {its : List Value} (x : seqAt tu h a its) (k : ∀ o, h.get? a = some o → h'.get? a = some o) : seqAt tu h' a its := by
  cases tu
  · exact Heap.IsList.at x k
  · exact Heap.IsTuple.at x k
theorem iterAt_get {tu : Bool} {h : Heap} {it a : Addr} {i : Nat} (x : iterAt tu h it a i) : ∃ o, h.get? it = some o ∧ ∀ v, o.data ≠ .cell v := by
  cases tu <;> (obtain ⟨o, ho, _, hd⟩ := x; exact ⟨o, ho, fun v q => by rw [hd] at q; cases q⟩)
theorem turn_enumT {P : Program} {w : World} {K : PySem.W.Frag} {elts : List Expr} {kk : Nat} {tpos : Pos} (tu : Bool) (a e it : Addr) :
    Turn P w K (.Tuple elts kk tpos) (Itet K tu a) [e, it] e (fun i h => (∃ old, IsEnum h e it ((i : Nat) : Int) old) ∧ iterAt tu h it a i ∧ e ≠ it ∧ a ≠ it ∧ a ≠ e) where
  mem := List.mem_cons_self
  obj := fun i h ⟨⟨old, he⟩, hi, _⟩ b hb => by
    simp only [List.mem_cons, List.not_mem_nil, or_false] at hb
    rcases hb with rfl | rfl
    · exact ⟨_, he, nofun⟩
    · exact iterAt_get hi
  keep := fun i h h' ⟨⟨old, he⟩, hi, n1, n2, n3⟩ k => ⟨⟨old, k e (by simp) _ he⟩, iterAt_keep hi fun o q => k it (by simp) o q, n1, n2, n3⟩
  item := by
    intro X hP hw hK hc i pins s σ H E I hf ⟨⟨old, he⟩, hit, n1, n2, n3⟩ ⟨xs, x, hq, hx⟩
    subst hP hw hK
    obtain ⟨its, rv, sq⟩ := seqA_at I hq
    obtain ⟨u, hu, ru⟩ := rv.get hx
    have el : e < s.heap.objs.size := Heap.lt_size he
    have il : it < s.heap.objs.size := by obtain ⟨_, q, _⟩ := iterAt_get hit; exact Heap.lt_size q
    have D := draws_seq (prog := X.prog) (w := X.w) (A := X.A.in1) (I.ok.hd hc) (tu := tu) n2 its
    refine wpAny_pyNext_enum_itemD D he ⟨hit, sq⟩ (List.getElem?_eq_some_iff.mp hu).1 n1 (by simp only [List.mem_cons, List.not_mem_nil, or_false, not_or]; exact ⟨n1, Ne.symm n3⟩) fun y h1 tk hy out ⟨hit1, _⟩ hT _ kept => ?_
    rw [hu] at hy
    cases hy
    refine ⟨_, rfl, wpAny_letOwnedTupleGo_enum (s := { s with heap := h1, toks := tk + 1 }) out fun h2 he2 sb => ?_⟩
    have hT2 : h2.get? s.heap.objs.size = some { cls := .type "tuple", data := .seq #[.int i tk, u] } := (sb.2 _ (Nat.ne_of_gt el)).trans hT
    have ok : ObjOk X.prog X.w (upd H s.heap.objs.size (.frz { cls := .type "tuple", data := .seq #[.int i tk, u] } (.tup [.int (i : Nat), x]))) h2 s.heap.objs.size (.frz { cls := .type "tuple", data := .seq #[.int i tk, u] } (.tup [.int (i : Nat), x])) :=
      ⟨hT2, by show 2 ≤ sizeLine; decide, [.int i tk, u], .cons ⟨_, rfl⟩ (.cons ru .nil), ⟨_, hT2, rfl, _, rfl⟩⟩
    have out2 : ∀ b, b ∈ [e, it] → b ≠ s.heap.objs.size := fun b hb z => by
      subst z
      simp only [List.mem_cons, List.not_mem_nil, or_false] at hb
      rcases hb with hb | hb
      · exact absurd el (hb ▸ Nat.lt_irrefl _)
      · exact absurd il (hb ▸ Nat.lt_irrefl _)
    refine ⟨.ref s.heap.objs.size, _, I.turnedNew (t' := tk + 1) (ch := [e, it]) (fun b ob hb q => ?_) hf (Nat.le_refl _) ok, rfl, ⟨_, x, rfl, I.hok.fresh (Nat.le_refl _), ⟨_, rfl, rfl⟩, fun ys hy => by rw [seqA_inj I hy hq]; exact hx⟩, ⟨⟨u, ?_⟩, iterAt_keep hit1 fun o q => (sb.2 it (Ne.symm n1)).trans q, n1, n2, n3⟩, fun b hb => ?_⟩
    · simp only [List.mem_cons, List.not_mem_nil, or_false, not_or] at hb
      exact (sb.2 b hb.1).trans (kept b ob hb.1 hb.2 q)
    · rw [show ((i + 1 : Nat) : Int) = (i : Int) + 1 by omega]
      exact he2
    · rw [upd_ne (out2 b hb)]
      exact (hf b hb).1
  done := by
    intro X hP hw hK hc i pins s σ H E I hf ⟨⟨old, he⟩, hit, n1, n2, n3⟩ ⟨xs, hq, hx⟩
    subst hP hw hK
    obtain ⟨its, rv, sq⟩ := seqA_at I hq
    obtain ⟨f0, f1, f2, f3, f4, f5⟩ := hf it (by simp)
    have len := rv.length
    have D : Draws X.prog X.w X.A.in1 it [it, a] i (fun _ _ => True) (fun j h => j = i ∧ iterAt tu h it a i ∧ seqAt tu h a its) := {
      live := fun _ _ st => let ⟨o, ho, _⟩ := iterAt_get st.2.1; ⟨o, ho⟩
      frame := fun _ _ _ st hk => ⟨st.1, iterAt_keep st.2.1 fun o q => hk it (by simp) o q, seqAt_keep st.2.2 fun o q => hk a (by simp) o q⟩
      item := fun j s Q E hj st hQ => absurd st.1 (Nat.ne_of_lt hj)
      done := fun s Q E st hE => by
        cases tu
        · exact wpAny_nextOf_list_end (I.ok.hd hc) st.2.1 st.2.2 (by simp; omega) hE
        · exact wpAny_nextOf_tuple_end (I.ok.hd hc) st.2.1 st.2.2 (by simp; omega) hE }
    exact wpAny_pyNext_enum_endD D he ⟨rfl, hit, sq⟩ fun h' eb => ⟨rfl, I.turned (t' := s.toks) (fun b o hb q => eb b o hb q) f0 f1 f3 f4 f5⟩
  self := fun A i s Q E ⟨⟨_, he⟩, _⟩ h => wpAny_pyIter_enum he h
def iEnumT (K : PySem.W.Frag) (tu : Bool) (ta : TA) : TI := fun σ H R => ta σ H fun vs H1 => ∃ a xs, vs = [.ref a] ∧ SqA K tu H1 a xs ∧ R (Itet K tu a) H1
theorem seqA_lt {tu : Bool} {h : Heap} {a : Addr} {its : List Value} (x : seqAt tu h a its) : a < h.objs.size := by
  cases tu <;> (obtain ⟨_, q, _⟩ := x; exact Heap.lt_size q)
theorem pi_enumT {X : Cx} {e : Expr} {ta : TA} {p pos tpos : Pos} {elts : List Expr} {kk : Nat} (tu : Bool) (hg : Gl X "enumerate") (hm : X.mg "enumerate" = none) (ha : PA X [e] ta) (hs : starEach [e] X.env = [(false, eval e X.env)] := by rfl) :
    PI X (.Tuple elts kk tpos) (.Call (.Name "enumerate" p) [e] [] pos) (iEnumT X.K tu ta) := ⟨fun pins s σ H R I h => by
  refine Call_ (ld_blt I hg hm boot_enumerate (PyProof.Rows.callWith_type1 (thn (ha.run pos pins s σ H _ I h) fun us s1 ⟨vs, H1, I1, r1, a, xs, ev, hq, q⟩ => ?_) hs rfl))
  subst ev
  obtain rfl := Vals.ref1 r1
  obtain ⟨its, rv, sq⟩ := seqA_at I1 hq
  have al : a < s1.heap.objs.size := seqA_lt sq
  have fin : ∀ b, b ∈ [s1.heap.objs.size + 1, s1.heap.objs.size] → FpOk X pins H1 b := fun b hb => by
    have le : s1.heap.objs.size ≤ b := by
      simp only [List.mem_cons, List.not_mem_nil, or_false] at hb
      rcases hb with hb | hb
      · exact hb ▸ Nat.le_succ _
      · exact hb ▸ Nat.le_refl _
    exact I1.fpOk le (I1.hok.fresh le)
  cases tu
  · refine enum_called (begins_list a its.toArray) sq fun h2 he hit hk => wpAny_pyIter_enum he ?_
    exact ⟨s1.heap.objs.size + 1, [s1.heap.objs.size + 1, s1.heap.objs.size], _, _, H1, rfl, I1.kept (t' := s1.toks) hk, turn_enumT false a (s1.heap.objs.size + 1) s1.heap.objs.size, ⟨⟨.none, he⟩, ⟨_, hit, rfl, rfl⟩, Nat.succ_ne_self _, Nat.ne_of_lt al, Nat.ne_of_lt (Nat.lt_succ_of_lt al)⟩, fin, q⟩
  · refine enum_called (begins_tuple a its.toArray) sq fun h2 he hit hk => wpAny_pyIter_enum he ?_
    exact ⟨s1.heap.objs.size + 1, [s1.heap.objs.size + 1, s1.heap.objs.size], _, _, H1, rfl, I1.kept (t' := s1.toks) hk, turn_enumT true a (s1.heap.objs.size + 1) s1.heap.objs.size, ⟨⟨.none, he⟩, ⟨_, hit, rfl, rfl⟩, Nat.succ_ne_self _, Nat.ne_of_lt al, Nat.ne_of_lt (Nat.lt_succ_of_lt al)⟩, fin, q⟩⟩
end L2
namespace DL
open PySem L2
section
variable {K : PySem.W.Frag} {W : Wi} {B G0 G G' H H' : Hp} {env : En} {σ : L2.St}
theorem walks_enumT {tu : Bool} {a : Addr} {vs : List V} {ds : List D} (hs : ∀ H, Same G' H → Same B H → SqA K tu H a vs) (h : RepL K G' vs ds) : Walks K B G' (Itet K tu a) .g (enD ds) := by
  have hlen : (enD ds).length = vs.length := by rw [h.len]; exact enF_len 0 ds
  refine ⟨.inl rfl, fun i H s1 s2 hi => ?_, fun i d G2 H x H' s1 s2 s3 y e => ?_, fun H s1 s2 => ⟨vs, hs H s1 s2, by rw [hlen]; exact Nat.le_refl _⟩⟩
  · rw [hlen] at hi
    exact ⟨vs, vs[i], hs H s1 s2, List.getElem?_eq_getElem hi⟩
  · obtain ⟨T, w, rfl, hT, ⟨o, od, rfl⟩, hy⟩ := y
    obtain ⟨e', h1, h2⟩ := enF_get 0 i ds e
    have hw := hy vs (hs H (s1.trans s2) s3)
    obtain ⟨d', q1, q2⟩ := h.get hw
    rw [h1] at q1
    cases q1
    subst h2
    rw [Nat.zero_add]
    have gT : G2 T = none := s2.free hT
    have sg : Same G2 (upd G2 T (.frz o (.tup [.int (i : Nat), w]))) := same_upd (Same.refl _) gT
    exact ⟨_, Ext.newG s2 hT, .tup (SqN.new od) (.cons (.int _) (.cons (q2.mono (s1.trans sg)) .nil))⟩
def enA (f : En → Res Vl) : En → Res (Kd × List D) := fun env => (f env).bind fun u => match u with
  | ⟨.g, .tup xs⟩ => .ok (.g, enD xs)
  | ⟨.b, .tup xs⟩ => if xs.all flat = true then .ok (.g, enD xs) else .no
  | u => enI (fun _ => .ok u) env
theorem it_enA {te : TE} {f : En → Res Vl} (h : EvD K W te f) : ItD K W (fun σ H R => iEnumT K false (tCons te tNil) σ H R ∨ iEnumT K true (tCons te tNil) σ H R) (enA f) := ⟨fun B G0 G env σ H k xs r e R q => (by
  obtain ⟨u, e1, e2⟩ := Res.bind_eq e
  split at e2
  · cases e2
    refine .inr (h.ok B G0 G env σ H _ r e1 _ fun G1 H1 v x hv => ?_)
    obtain ⟨a, vs, rfl, h1, h2⟩ := Rep.tup_inv (show Rep K G1 v _ from hv)
    exact ⟨a, vs, rfl, Same.sqt (r.ext x).gh h1, q G1 H1 _ x (walks_enumT (tu := true) (fun H s1 s2 => Same.sqt s1 h1) h2)⟩
  · obtain ⟨c, e3⟩ := if_ok e2
    cases e3
    refine .inr (h.ok B G0 G env σ H _ r e1 _ fun G1 H1 v x hv => ?_)
    obtain ⟨a, vs, rfl, h1, h2⟩ := Rep.tup_inv (show Rep K B v _ from hv)
    exact ⟨a, vs, rfl, Same.sqt (r.ext x).bh h1, q G1 H1 _ x (walks_enumT (tu := true) (fun H s1 s2 => Same.sqt s2 h1) (h2.flat c))⟩
  · refine .inl (h.ok B G0 G env σ H u r e1 _ fun G1 H1 v x hv => ?_)
    have r1 := r.ext x
    unfold enI at e2
    simp only [Res.bind] at e2
    split at e2
    · cases e2
      obtain ⟨a, vs, rfl, h1, h2⟩ := Rep.lst_inv (show Rep K G1 v _ from hv)
      exact ⟨a, vs, rfl, SqL.of (r1.gh _ _ h1), q G1 H1 _ x (walks_enumT (tu := false) (fun H s1 s2 => SqL.of (s1 _ _ h1)) h2)⟩
    · cases e2
      obtain ⟨G2, x2, s2, hd⟩ := hv.freeze x rfl
      obtain ⟨a, vs, rfl, h1, h2⟩ := Rep.lst_inv hd
      exact ⟨a, vs, rfl, SqL.of (x2.gh _ _ h1), q G2 H1 _ x2 (walks_enumT (tu := false) (fun H s1 s2 => SqL.of (s1 _ _ h1)) h2)⟩
    · cases e2
      obtain ⟨a, vs, rfl, h1, h2⟩ := Rep.fz_inv (show Rep K G1 v _ from hv)
      exact ⟨a, vs, rfl, r1.gh.seq h1, q G1 H1 _ x (walks_enumT (tu := false) (fun H s1 s2 => s1.seq h1) h2)⟩
    · obtain ⟨c, e3⟩ := if_ok e2
      cases e3
      obtain ⟨a, vs, rfl, h1, h2⟩ := Rep.lst_inv (show Rep K B v _ from hv)
      exact ⟨a, vs, rfl, SqL.of (r1.bh _ _ h1), q G1 H1 _ x (walks_enumT (tu := false) (fun H s1 s2 => SqL.of (s2 _ _ h1)) (h2.flat c))⟩
    · cases e2), fun B G0 G env σ H x r e w R => by
  rcases Res.bind_ex e with e1 | ⟨u, e1, e⟩
  · exact .inl (h.ex B G0 G env σ H x r e1 w _)
  · exact absurd e (by
      unfold enI
      repeat' split
      all_goals first
        | exact if_nx
        | exact fun z => by cases z
        | (refine bind_nx (fun x z => by cases z) fun _ _ => ?_
           repeat' split
           all_goals exact fun z => by cases z))⟩
end
theorem di_enumA {X : Cx} {W : Wi} {K : PySem.W.Frag} {a : Expr} {ta : TE} {f : En → Res Vl} {p pos tpos : Pos} {elts : List Expr} {kk : Nat} (hm : X.mg "enumerate" = none) (h : DE X W a ta f) (hg : Gl X "enumerate" := by rfl) (hs : starEach [a] X.env = [(false, eval a X.env)] := by rfl) (hs' : starEach (a :: []) X.env = (false, eval a X.env) :: starEach [] X.env := by rfl) (hK : X.K = K := by rfl) :
    DI X W (.Tuple elts kk tpos) (.Call (.Name "enumerate" p) [a] [] pos) (fun σ H R => iEnumT K false (tCons ta tNil) σ H R ∨ iEnumT K true (tCons ta tNil) σ H R) (enA f) := by
  subst hK
  exact ⟨pi_or (pi_enumT false hg hm (pa_cons h.pe pa_nil hs') hs) (pi_enumT true hg hm (pa_cons h.pe pa_nil hs') hs), it_enA h.ev⟩
/-! ### range(i, j, -1) -/
def rngN (i : Int) (n : Nat) : List D := (List.range n).map fun (t : Nat) => .int (i - t)
def rng3 (f g h : En → Res Vl) : En → Res (Kd × List D) := fun env => (f env).bind fun u => (g env).bind fun w => (h env).bind fun z => match u.d, w.d, z.d with
  | .int i, .int j, .int (-1) => if -(2 ^ 62) ≤ i ∧ i < 2 ^ 62 ∧ -(2 ^ 62) ≤ j ∧ j < 2 ^ 62 then .ok (.g, rngN i (i - j).toNat) else .no
  | _, _, _ => .no
section
variable {K : PySem.W.Frag} {W : Wi} {B G0 G G' H H' : Hp} {env : En} {σ : L2.St}
theorem walks_rngN {i : Int} {n : Nat} : Walks0 K B G' (Itc i (-1) n) .g (rngN i n) := by
  refine ⟨.inl rfl, (List.range n).map fun (t : Nat) => V.int (i - t), by simp [rngN], fun j v d e1 e2 G2 H s => ?_, fun j H s1 s2 hi => (show j < n by simpa [rngN] using hi), fun j H x H' s1 s2 ⟨e, y⟩ => ⟨e, fun hi => ?_⟩, fun H s1 s2 => by simp [rngN, Itc]⟩
  · rw [rngN, List.getElem?_map] at e2
    rw [List.getElem?_map] at e1
    cases q : (List.range n)[j]? with
    | none => rw [q] at e1; cases e1
    | some m =>
      rw [q] at e1 e2
      cases e1
      cases e2
      exact .int _
  · have hn : j < n := by simpa [rngN] using hi
    rw [List.getElem?_map, List.getElem?_range hn, y]
    show some (V.int (i - (j : Nat))) = some (V.int (i + (j : Nat) * -1))
    rw [show i - (j : Nat) = i + (j : Nat) * -1 by omega]
theorem it_rng3 {te tf tg : TE} {f g h : En → Res Vl} (hf : EvD K W te f) (hg : EvD K W tf g) (hh : EvD K W tg h) : ItD K W (iRng3 (tCons te (tCons tf (tCons tg tNil)))) (rng3 f g h) := ⟨fun B G0 G env σ H k xs r e R q => (by
  obtain ⟨u, e1, e⟩ := Res.bind_eq e
  obtain ⟨w, e2, e⟩ := Res.bind_eq e
  obtain ⟨z, e3, e⟩ := Res.bind_eq e
  refine hf.ok B G0 G env σ H u r e1 _ fun G1 H1 v1 x1 h1 => hg.ok B G0 G1 env σ H1 w (r.ext x1) e2 _ fun G2 H2 v2 x2 h2 => hh.ok B G0 G2 env σ H2 z ((r.ext x1).ext x2) e3 _ fun G3 H3 v3 x3 h3 => ?_
  have r1 := r.ext x1
  have r2 := r1.ext x2
  have r3 := r2.ext x3
  have y1 := h1.look r1
  have y2 := h2.look r2
  have y3 := h3.look r3
  split at e
  · rename_i i j ei ej em
    obtain ⟨⟨c1, c2, c3, c4⟩, e⟩ := if_ok e
    cases e
    rw [ei] at y1
    rw [ej] at y2
    rw [em] at y3
    refine ⟨i, j, -1, (i - j).toNat, by rw [y1.int_inv, y2.int_inv, y3.int_inv], RgC.neg c1 c2 c3 c4, q G3 H3 _ ((x1.trans x2).trans x3) walks_rngN.up⟩
  · cases e), fun B G0 G env σ H x r e w R => by
  rcases Res.bind_ex e with e1 | ⟨u, e1, e⟩
  · exact hf.ex B G0 G env σ H x r e1 w _
  rcases Res.bind_ex e with e2 | ⟨u2, e2, e⟩
  · exact hf.ok B G0 G env σ H u r e1 _ fun G1 H1 v1 x1 h1 => hg.ex B G0 G1 env σ H1 x (r.ext x1) e2 (w.ext x1) _
  rcases Res.bind_ex e with e3 | ⟨u3, e3, e⟩
  · exact hf.ok B G0 G env σ H u r e1 _ fun G1 H1 v1 x1 h1 => hg.ok B G0 G1 env σ H1 u2 (r.ext x1) e2 _ fun G2 H2 v2 x2 h2 => hh.ex B G0 G2 env σ H2 x ((r.ext x1).ext x2) e3 ((w.ext x1).ext x2) _
  exact absurd e (by
    split <;> first
      | exact if_nx
      | exact fun z => nomatch z)⟩
end
theorem di_rng3 {X : Cx} {W : Wi} {a b c tg : Expr} {ta tb tc : TE} {f g h : En → Res Vl} {p pos : Pos} (hm : X.mg "range" = none) (ha : DE X W a ta f) (hb : DE X W b tb g) (hc : DE X W c tc h) (hg : Gl X "range" := by rfl)
    (hs : starEach [a, b, c] X.env = (false, eval a X.env) :: starEach [b, c] X.env := by rfl) (hs2 : starEach [b, c] X.env = (false, eval b X.env) :: starEach [c] X.env := by rfl) (hs3 : starEach [c] X.env = (false, eval c X.env) :: starEach [] X.env := by rfl) (hpl : (backTo pos (starEach [b, c] X.env)).any (·.1) = false := by rfl) :
    DI X W tg (.Call (.Name "range" p) [a, b, c] [] pos) (iRng3 (tCons ta (tCons tb (tCons tc tNil)))) (rng3 f g h) :=
  ⟨pi_range3 hg hm (pa_cons ha.pe (pa_cons hb.pe (pa_cons hc.pe pa_nil hs3) hs2) hs) hs hpl, it_rng3 ha.ev hb.ev hc.ev⟩
end DL

/-! DLh: x.index(e), x.count(e), x a list or a tuple of ints. -/
namespace L2
open PySem PySem.Spec PyProof.Rows
theorem count_tuple_ints {prog : Program} {w : World} {A : Around} {E : Value → Shared → Prop} {s : Shared} {l : Addr} {vs : List Value} {ns : List Int} {k : Int} {t : Tok} {Q : Value → Shared → Prop} (hl : s.heap.IsTuple l vs.toArray) (hi : IntsAre vs ns)
    (h : Q (.int (ns.count k : Nat) s.toks) { s with toks := s.toks + 1 }) : wpAny (model prog w) A (call (.builtin "tuple.count") [.ref l, .int k t]) Q E s := by
  obtain ⟨o, ho, hc, n, hd⟩ := id hl
  obtain ⟨cls, dd, data, sl⟩ := o
  dsimp only at hc hd
  cases hc
  cases hd
  refine call_meets PySem.F.slot_tuple_count ⟨_, ho, rfl⟩ PySem.F.entry_tuple_count (PySem.F.args_tuple_count_2 _ _) (PySem.SeqAt.tuple_countAt l vs.toArray n dd sl (.int k t) (isInt k)) ⟨ho, fun y m => (eq_isInt k t hi y (by simpa using m)).at _ _, ?_⟩
  have e : List.countP (isInt k) vs.toArray.toList = ns.count k := countP_isInt k hi
  rw [e]
  exact h
def rIxLs (K : PySem.W.Frag) : V → List V → Hp → VK → Prop := fun x xs H Q => ∃ (a : Addr) (ns : List Int) (k : Int), x = .ref a ∧ xs = [.int k] ∧ SqL K H a (ns.map V.int) ∧ k ∈ ns ∧ ns.length ≤ sizeLine ∧ Q (.int (ns.idxOf k : Nat)) H
def rIxTs (K : PySem.W.Frag) : V → List V → Hp → VK → Prop := fun x xs H Q => ∃ (a : Addr) (ns : List Int) (k : Int), x = .ref a ∧ xs = [.int k] ∧ SqT K H a (ns.map V.int) ∧ k ∈ ns ∧ Q (.int (ns.idxOf k : Nat)) H
def rCnLs (K : PySem.W.Frag) : V → List V → Hp → VK → Prop := fun x xs H Q => ∃ (a : Addr) (ns : List Int) (k : Int), x = .ref a ∧ xs = [.int k] ∧ SqL K H a (ns.map V.int) ∧ Q (.int (ns.count k : Nat)) H
def rCnTs (K : PySem.W.Frag) : V → List V → Hp → VK → Prop := fun x xs H Q => ∃ (a : Addr) (ns : List Int) (k : Int), x = .ref a ∧ xs = [.int k] ∧ SqT K H a (ns.map V.int) ∧ Q (.int (ns.count k : Nat)) H
section
variable {X : Cx}
theorem mt_ixL : MtR X "list.index" (rIxLs X.K) := by
  intro pins s σ H x xs v us Q I rx rxs ⟨a, ns, k, ex, exs, hs, hk, few, q⟩
  subst ex exs
  cases rx
  obtain ⟨u, rfl, ⟨tk, rfl⟩⟩ := vals1 rxs
  obtain ⟨its, rv, pl, _⟩ := I.list hs
  exact PySem.SeqAt.list_index_ints pl.isList rv.ints few hk ⟨.int _, H, I.tok _, ⟨_, rfl⟩, q⟩
theorem mt_ixT : MtR X "tuple.index" (rIxTs X.K) := by
  intro pins s σ H x xs v us Q I rx rxs ⟨a, ns, k, ex, exs, hs, hk, q⟩
  subst ex exs
  cases rx
  obtain ⟨u, rfl, ⟨tk, rfl⟩⟩ := vals1 rxs
  obtain ⟨its, rv, tup, _⟩ := I.tuple hs
  exact PySem.SeqAt.tuple_index_ints tup rv.ints hk ⟨.int _, H, I.tok _, ⟨_, rfl⟩, q⟩
theorem mt_cnL : MtR X "list.count" (rCnLs X.K) := by
  intro pins s σ H x xs v us Q I rx rxs ⟨a, ns, k, ex, exs, hs, q⟩
  subst ex exs
  cases rx
  obtain ⟨u, rfl, ⟨tk, rfl⟩⟩ := vals1 rxs
  obtain ⟨its, rv, pl, _⟩ := I.list hs
  exact count_list_ints pl.isList rv.ints ⟨.int _, H, I.tok _, ⟨_, rfl⟩, q⟩
theorem mt_cnT : MtR X "tuple.count" (rCnTs X.K) := by
  intro pins s σ H x xs v us Q I rx rxs ⟨a, ns, k, ex, exs, hs, q⟩
  subst ex exs
  cases rx
  obtain ⟨u, rfl, ⟨tk, rfl⟩⟩ := vals1 rxs
  obtain ⟨its, rv, tup, _⟩ := I.tuple hs
  exact count_tuple_ints tup rv.ints ⟨.int _, H, I.tok _, ⟨_, rfl⟩, q⟩
end
theorem noD_at {X : Cx} {pn : List (Addr × Obj)} {st : St} {H : Hp} {sh : Shared} {a : Addr} (I : Inv X pn st H sh) (h : DL.NoD X.K H a) : ∃ o, sh.heap.get? a = some o ∧ o.dict = none := by
  rcases h with ⟨o, u, h1, h2⟩ | ⟨o, h1, h2⟩
  · exact ⟨o, (I.hok a _ h1).1, h2⟩
  · exact ⟨o, I.kIn a o h1, h2⟩
def tSqM (K : PySem.W.Frag) (rl rt : V → List V → Hp → VK → Prop) (to : TE) (t : TA) : TE := fun σ H Q => to σ H fun x H1 =>
  ((∃ a xs, x = V.ref a ∧ SqL K H1 a xs) ∧ t σ H1 fun ys H2 => rl x ys H2 Q) ∨ ((∃ a xs, x = V.ref a ∧ DL.SqN K H1 a xs) ∧ t σ H1 fun ys H2 => rt x ys H2 Q)
section
variable {X : Cx} {o e : Expr} {to : TE} {t : TA} {apos cpos : Pos}
theorem pe_sqM {nm : Str} {il it : String} {rl rt : V → List V → Hp → VK → Prop} (sl : Slot "list" nm il) (tl : typeOf (.builtin il) = pure (.type "method_descriptor")) (st' : Slot "tuple" nm it) (tt : typeOf (.builtin it) = pure (.type "method_descriptor")) (ml : MtR X il rl) (mt : MtR X it rt)
    (ho : PE X o to) (ha : PA X [e] t) (base : attributeBase o nm X.env (eval o X.env) = eval o X.env)
    (few : ((backTo cpos (starEach [e] X.env)).all (fun x => !x.1) && (backToKw cpos (keywordEach [] X.env)).all (fun x => x.1.isSome) && decide (([e] : List Expr).length + ([] : List Keyword).length + (if ([] : List Keyword).isEmpty then 0 else 1) < 30)) = true)
    (line : (apos.endLine == cpos.line) = true) (hs : starEach [e] X.env = (false, eval e X.env) :: starEach [] X.env) (plain : (backTo cpos (starEach [] X.env)).any (·.1) = false) :
    PE X (.Call (.Attribute o nm apos) [e] [] cpos) (tSqM X.K rl rt to t) := ⟨fun pn sh st H0 Q inv hq => by
  refine wpAny_Call_method_late base few line rfl (thn (ho.run pn sh st H0 _ inv hq) ?_)
  rintro v sh1 ⟨x, H1, inv1, rx, ⟨⟨a, ns, rfl, at1⟩, q⟩ | ⟨⟨a, ns, rfl, at1⟩, q⟩⟩
  · cases rx
    obtain ⟨its, rv, ⟨ob, n, h1, h2, h3, h4⟩, few'⟩ := inv1.list at1
    refine ⟨"list", il, F.plainAttrs_list, sl, tl, Heap.IsList.typeIs ⟨ob, h1, h2, n, h4⟩, fun c z => by cases z; exact ⟨ob, h1, h3⟩, ?_⟩
    have args := ha.run cpos pn sh1 st H1 _ inv1 q
    rw [hs] at args ⊢
    refine Calls.callWith_builtin (by show (false || (backTo cpos (starEach [] X.env)).any (·.1)) = false; rw [plain] <;> rfl) (Calls.evalArgs_plain (thn args ?_))
    rintro us sh2 ⟨vs, H2, inv2, rel, q2⟩
    exact ml pn sh2 st H2 (.ref a) vs (.ref a) us Q inv2 rfl rel q2
  · cases rx
    obtain ⟨its, rv, tup, few'⟩ := inv1.tuple at1.1
    obtain ⟨ob, h1, h3⟩ := noD_at inv1 at1.2
    refine ⟨"tuple", it, F.plainAttrs_tuple, st', tt, tup.typeIs, fun c z => by cases z; exact ⟨ob, h1, h3⟩, ?_⟩
    have args := ha.run cpos pn sh1 st H1 _ inv1 q
    rw [hs] at args ⊢
    refine Calls.callWith_builtin (by show (false || (backTo cpos (starEach [] X.env)).any (·.1)) = false; rw [plain] <;> rfl) (Calls.evalArgs_plain (thn args ?_))
    rintro us sh2 ⟨vs, H2, inv2, rel, q2⟩
    exact mt pn sh2 st H2 (.ref a) vs (.ref a) us Q inv2 rfl rel q2⟩
end
end L2
namespace DL
open PySem L2 PySem.Spec PyProof.Rows
/-- the items and the sought one, where both are ints -/
def sqP (f : List Int → Int → Res Vl) : Vl → Vl → Res Vl := fun u w => match u.d, w.d with
  | .lst xs, .int k => match intsOf xs with
    | some ns => f ns k
    | none => .no
  | .tup xs, .int k => match intsOf xs with
    | some ns => f ns k
    | none => .no
  | _, _ => .no
def ixF (ns : List Int) (k : Int) : Res Vl := if k ∈ ns ∧ ns.length ≤ sizeLine then .ok ⟨.g, .int (ns.idxOf k : Nat)⟩ else .no
def cnF (ns : List Int) (k : Int) : Res Vl := .ok ⟨.g, .int (ns.count k : Nat)⟩
def isSq : D → Res Unit
  | .lst _ => .ok ()
  | .tup _ => .ok ()
  | _ => .no
def sqE (h : List Int → Int → Res Vl) (f g : En → Res Vl) : En → Res Vl := fun env => (f env).bind fun u => (isSq u.d).bind fun _ => (g env).bind fun w => sqP h u w
abbrev idxE : (En → Res Vl) → (En → Res Vl) → En → Res Vl := sqE ixF
abbrev cntE : (En → Res Vl) → (En → Res Vl) → En → Res Vl := sqE cnF
theorem isSq_nx {d : D} {x : Exn} : isSq d ≠ .ex x := by
  unfold isSq
  split <;> exact fun z => nomatch z
section
variable {K : PySem.W.Frag} {W : Wi} {to te : TE} {f g : En → Res Vl}
theorem sqP_nx {h : List Int → Int → Res Vl} (hn : ∀ ns k x, h ns k ≠ .ex x) (u w : Vl) (x : Exn) : sqP h u w ≠ .ex x := by
  unfold sqP
  repeat' split
  all_goals first
    | exact hn _ _ _
    | exact fun z => by cases z
theorem ev_sqM {rl rt : V → List V → Hp → VK → Prop} {h : List Int → Int → Res Vl} (hn : ∀ ns k x, h ns k ≠ .ex x)
    (el : ∀ (a : Addr) (ns : List Int) (k : Int) (H : Hp) (z : Vl) (Q : VK), h ns k = .ok z → SqL K H a (ns.map V.int) → (∀ i, z = ⟨.g, .int i⟩ → Q (.int i) H) → rl (.ref a) [.int k] H Q)
    (et : ∀ (a : Addr) (ns : List Int) (k : Int) (H : Hp) (z : Vl) (Q : VK), h ns k = .ok z → SqT K H a (ns.map V.int) → (∀ i, z = ⟨.g, .int i⟩ → Q (.int i) H) → rt (.ref a) [.int k] H Q)
    (ho : EvD K W to f) (hg : EvD K W te g) : EvD K W (tSqM K rl rt to (tCons te tNil)) (sqE h f g) := ⟨fun B G0 G env σ H z r e Q q => (by
  obtain ⟨u, e1, e⟩ := Res.bind_eq e
  obtain ⟨_, _, e⟩ := Res.bind_eq e
  obtain ⟨w, e2, e⟩ := Res.bind_eq e
  refine ho.ok B G0 G env σ H u r e1 _ fun G1 H1 v x1 hv => ?_
  have r1 := r.ext x1
  have lk := hv.look r1
  unfold sqP at e
  split at e
  · rename_i xs k e3 e4
    split at e
    · rename_i ns e5
      rw [e3] at lk
      obtain ⟨a, vs, rfl, s1, s2⟩ := lk.lst_inv
      rw [intsOf_inv e5] at s2
      rw [RepL.ints s2] at s1
      refine .inl ⟨⟨a, _, rfl, SqL.of s1⟩, hg.ok B G0 G1 env σ H1 w r1 e2 _ fun G2 H2 y x2 hy => ?_⟩
      have ly := hy.look (r1.ext x2)
      rw [e4] at ly
      rw [ly.int_inv]
      exact el a ns k H2 z Q e (SqL.of (x2.hh _ _ s1)) fun i hi => q G2 H2 _ (x1.trans x2) (by rw [hi]; exact .int _)
    · cases e
  · rename_i xs k e3 e4
    split at e
    · rename_i ns e5
      rw [e3] at lk
      obtain ⟨a, vs, rfl, s1, s2⟩ := lk.tup_invN
      rw [intsOf_inv e5] at s2
      rw [RepL.ints s2] at s1
      refine .inr ⟨⟨a, _, rfl, s1⟩, hg.ok B G0 G1 env σ H1 w r1 e2 _ fun G2 H2 y x2 hy => ?_⟩
      have ly := hy.look (r1.ext x2)
      rw [e4] at ly
      rw [ly.int_inv]
      exact et a ns k H2 z Q e (Same.sqt x2.hh s1.1) fun i hi => q G2 H2 _ (x1.trans x2) (by rw [hi]; exact .int _)
    · cases e
  · cases e), fun B G0 G env σ H y r e w Q => by
  rcases Res.bind_ex e with e1 | ⟨u, e1, e⟩
  · exact ho.ex B G0 G env σ H y r e1 w _
  rcases Res.bind_ex e with e0 | ⟨_, e0, e⟩
  · exact absurd e0 isSq_nx
  rcases Res.bind_ex e with e2 | ⟨b, e2, e⟩
  · refine ho.ok B G0 G env σ H u r e1 _ fun G1 H1 v x1 hv => ?_
    have r1 := r.ext x1
    have lk := hv.look r1
    unfold isSq at e0
    split at e0
    · rename_i xs e3
      rw [e3] at lk
      obtain ⟨a, vs, rfl, s1, s2⟩ := lk.lst_inv
      exact .inl ⟨⟨a, _, rfl, SqL.of s1⟩, hg.ex B G0 G1 env σ H1 y r1 e2 (w.ext x1) _⟩
    · rename_i xs e3
      rw [e3] at lk
      obtain ⟨a, vs, rfl, s1, s2⟩ := lk.tup_invN
      exact .inr ⟨⟨a, _, rfl, s1⟩, hg.ex B G0 G1 env σ H1 y r1 e2 (w.ext x1) _⟩
    · cases e0
  · exact absurd e (sqP_nx hn _ _ _)⟩
theorem ixF_nx (ns : List Int) (k : Int) (x : Exn) : ixF ns k ≠ .ex x := if_nx
theorem cnF_nx (ns : List Int) (k : Int) (x : Exn) : cnF ns k ≠ .ex x := fun z => nomatch z
end
section
variable {X : Cx} {W : Wi} {o e : Expr} {to te : TE} {f g : En → Res Vl} {apos cpos : Pos}
theorem de_index {K : PySem.W.Frag} (ho : DE X W o to f) (he : DE X W e te g) (hK : X.K = K := by rfl) (base : attributeBase o "index" X.env (eval o X.env) = eval o X.env := by rfl)
    (few : ((backTo cpos (starEach [e] X.env)).all (fun x => !x.1) && (backToKw cpos (keywordEach [] X.env)).all (fun x => x.1.isSome) && decide (([e] : List Expr).length + ([] : List Keyword).length + (if ([] : List Keyword).isEmpty then 0 else 1) < 30)) = true := by rfl)
    (line : (apos.endLine == cpos.line) = true := by rfl) (hs : starEach [e] X.env = (false, eval e X.env) :: starEach [] X.env := by rfl) (plain : (backTo cpos (starEach [] X.env)).any (·.1) = false := by rfl) :
    DE X W (.Call (.Attribute o "index" apos) [e] [] cpos) (tSqM K (rIxLs K) (rIxTs K) to (tCons te tNil)) (idxE f g) := by
  subst hK
  refine ⟨pe_sqM F.slot_list_index F.type_list_index F.slot_tuple_index F.type_tuple_index mt_ixL mt_ixT ho.pe (pa_cons he.pe pa_nil hs) base few line hs plain, ev_sqM ixF_nx ?_ ?_ ho.ev he.ev⟩
  · intro a ns k H z Q h hs q
    obtain ⟨hc, rfl⟩ := if_ok h
    exact ⟨a, ns, k, rfl, rfl, hs, hc.1, hc.2, q _ rfl⟩
  · intro a ns k H z Q h hs q
    obtain ⟨hc, rfl⟩ := if_ok h
    exact ⟨a, ns, k, rfl, rfl, hs, hc.1, q _ rfl⟩
theorem de_count {K : PySem.W.Frag} (ho : DE X W o to f) (he : DE X W e te g) (hK : X.K = K := by rfl) (base : attributeBase o "count" X.env (eval o X.env) = eval o X.env := by rfl)
    (few : ((backTo cpos (starEach [e] X.env)).all (fun x => !x.1) && (backToKw cpos (keywordEach [] X.env)).all (fun x => x.1.isSome) && decide (([e] : List Expr).length + ([] : List Keyword).length + (if ([] : List Keyword).isEmpty then 0 else 1) < 30)) = true := by rfl)
    (line : (apos.endLine == cpos.line) = true := by rfl) (hs : starEach [e] X.env = (false, eval e X.env) :: starEach [] X.env := by rfl) (plain : (backTo cpos (starEach [] X.env)).any (·.1) = false := by rfl) :
    DE X W (.Call (.Attribute o "count" apos) [e] [] cpos) (tSqM K (rCnLs K) (rCnTs K) to (tCons te tNil)) (cntE f g) := by
  subst hK
  refine ⟨pe_sqM F.slot_list_count F.type_list_count F.slot_tuple_count F.type_tuple_count mt_cnL mt_cnT ho.pe (pa_cons he.pe pa_nil hs) base few line hs plain, ev_sqM cnF_nx ?_ ?_ ho.ev he.ev⟩
  · intro a ns k H z Q h hs q
    cases h
    exact ⟨a, ns, k, rfl, rfl, hs, q _ rfl⟩
  · intro a ns k H z Q h hs q
    cases h
    exact ⟨a, ns, k, rfl, rfl, hs, q _ rfl⟩
/-! ### as they reckon -/
theorem sqP_lst {h : List Int → Int → Res Vl} {k k' : Kd} {ns : List Int} {i : Int} : sqP h ⟨k, .lst (ns.map D.int)⟩ ⟨k', .int i⟩ = h ns i := by
  unfold sqP
  dsimp only
  rw [intsOf_map]
theorem sqP_tup {h : List Int → Int → Res Vl} {k k' : Kd} {ns : List Int} {i : Int} : sqP h ⟨k, .tup (ns.map D.int)⟩ ⟨k', .int i⟩ = h ns i := by
  unfold sqP
  dsimp only
  rw [intsOf_map]
theorem isSq_lst {xs : List D} : isSq (.lst xs) = .ok () := rfl
theorem isSq_tup {xs : List D} : isSq (.tup xs) = .ok () := rfl
end
end DL

/-! DLb8: sets asked in tests; properties. -/
namespace DL
open PySem L2 PySem.Spec PyProof.Rows
section
variable {X : Cx} {W : Wi} {te : TE} {f : En → Res Vl} {a : Expr} {x : Str} {p pos : Pos}
theorem dt_inSet (i : Nat) (hu : X.A.units + 64 < cLine) (ha : DE X W a te f) (hT : W.T.P = X.prog ∧ W.T.wd = X.w := by exact ⟨rfl, rfl⟩) (hN : X.N[i]? = some x := by rfl) (hv : Vis X.env.scope x := by first | exact Or.inl rfl | exact Or.inr (Or.inl rfl) | exact Or.inr (Or.inr rfl)) (hd : (x == ("__debug__" : Str)) = false := by decide)
    (hcd : (x == ("__classdict__" : Str)) = false := by decide) (hm : behindInMarks .In (.Name x p) = false := by first | exact nomark _ | rfl) : DT X W (.Compare a [.In] [.Name x p] pos) (tTest (tOp (rAnyIn X false) te (tVar i))) (valT (inSetE i false f)) :=
  ⟨pt_cmpR (or_anyIn hu) ha.pe (pe_var hN hv hd hcd) hm, evt_val (ev_inSet i false hT ha.ev)⟩
theorem dt_notInSet (i : Nat) (hu : X.A.units + 64 < cLine) (ha : DE X W a te f) (hT : W.T.P = X.prog ∧ W.T.wd = X.w := by exact ⟨rfl, rfl⟩) (hN : X.N[i]? = some x := by rfl) (hv : Vis X.env.scope x := by first | exact Or.inl rfl | exact Or.inr (Or.inl rfl) | exact Or.inr (Or.inr rfl)) (hd : (x == ("__debug__" : Str)) = false := by decide)
    (hcd : (x == ("__classdict__" : Str)) = false := by decide) (hm : behindInMarks .NotIn (.Name x p) = false := by first | exact nomark _ | rfl) : DT X W (.Compare a [.NotIn] [.Name x p] pos) (tTest (tOp (rAnyIn X true) te (tVar i))) (valT (inSetE i true f)) :=
  ⟨pt_cmpR (or_anyNotIn hu) ha.pe (pe_var hN hv hd hcd) hm, evt_val (ev_inSet i true hT ha.ev)⟩
end
/-! ### properties -/
structure DnP (K : PySem.W.Frag) (c m : Str) (st : Stmt) (ps : List Str) : Prop where
  ex : ∃ (fa pa : Addr) (fd : FuncData) (qual : Str), Fun K m qual st fa fd ∧ PropOf K (adr K c) m pa fa ∧ Binds K fd ps []
theorem dnp_mk {K : PySem.W.Frag} {h : Heap} {mg : Str → Option Value} {c m qual : Str} {st : Stmt} {ps : List Str} {f C p : Addr} {oc : Value} {od an : Option Addr} {sl : Array (Option Value)} {kV dc pm cd ct : Value} {rest : List Value} (X : K.In h) (G : h.Ns mainGlobals mg) (a : PySem.W.nsIn K mainGlobals c = some (some (.ref C))) (i : PySem.W.findIn K (.ref C) m = some (some (.ref p)))
    (g : PySem.W.specialIn K (.ref p) "__get__" = some (some (.builtin "property.__get__"))) (t : PySem.W.takesIn K (.ref p) = some true) (r : PySem.W.recIn K p "property" = some (.ref f :: rest))
    (l : K.lookup f = some ⟨oc, od, .func (PySem.W.fnOf m qual (defArgs st) (defBody st) (defScope st) .none kV dc pm an cd ct), sl⟩) (cc : PySem.W.codeIn K cd qual = true) (k : PySem.W.keepIn K (.ref f) = true)
    (hb : ∀ (kV doc pm : Value) (an : Option Addr) (cdv ct : Value) (us : List Value), us.length = ps.length → bindArgs (PySem.W.fnOf m qual (defArgs st) (defBody st) (defScope st) .none kV doc pm an cdv ct) ⟨us, []⟩ = pure (ps.zip us)) : DnP K c m st ps :=
  ⟨f, p, _, qual, fun_mk l cc k, by rw [adr_eq a]; exact ⟨i, g, t, _, r⟩, (fun_mk l cc k).binds hb⟩
structure ClP (P : Program) (w : World) (K : PySem.W.Frag) (mg : Str → Option Value) (base : Heap) (k : Nat) (c m : Str) (F : Fn) : Prop where
  ex : ∃ (fa pa : Addr) (fd : FuncData) (ps : List Str), FnOk P w K mg base CX0 k fa fd ps (spD K 1 F) ∧ PropOf K (adr K c) m pa fa ∧ Binds K fd ps []
  len : ∀ as z, F as = .ok z → as.length = 1
theorem clP_mk {P : Program} {w : World} {K : PySem.W.Frag} {mg : Str → Option Value} {base : Heap} {c m : Str} {st : Stmt} {N ps : List Str} {k n : Nat} {b : En → Out} (d : DnP K c m st ps) (S : FnScope N ps (defScope st)) (hm : 1 = ps.length) (hn : n = N.length)
    (h : ∀ (fa : Addr) (qual : Str) (cdv : Value) (A : Around) (outer : List Env) (s : Shared) (H : Hp) (E : XK), Room k (A.deeper (envOfC qual (defScope st) s.heap.objs.size fa cdv)) → ∃ t, DSs (cxOf CX0 P w K mg base N qual (defScope st) fa cdv A outer s H E).nox (noW P w) (defBody st) t b) :
    ClP P w K mg base (k + 1) c m (runF 1 n b) := by
  obtain ⟨fa, pa, fd, qual, F, M, hb⟩ := d.ex
  exact ⟨⟨fa, pa, fd, ps, fn_ok F S hm hn (h fa qual), M, hb⟩, runF_len⟩
theorem de_prop {X : Cx} {W : Wi} {K : PySem.W.Frag} {k j : Nat} {F : Fn} {c m : Str} {pos : Pos} {o : Expr} {te : TE} {fo : En → Res Vl} (cl : ClP X.prog X.w X.K X.mg X.base k c m F) (hc : Cls K (adr K c)) (hr : Room j X.A) (ho : DE X W o te fo) (hkj : k + 1 ≤ j := by decide)
    (hab : attributeBase o m X.env (eval o X.env) = eval o X.env := by rfl) (hK : X.K = K := by rfl) : DE X W (.Attribute o m pos) (tProp (adr K c) (spD K 1 F) [] E0 te) (propF c m F fo) := by
  subst hK
  obtain ⟨fa, pa, fd, ps, G, hp, hb⟩ := cl.ex
  exact ⟨pe_prop ho.pe hc hp G (hr.mono hkj) hb .nil (fun pn σ H s e s' _ h => pass0 pn σ H s e s' ‹_› h) hab, ev_prop cl.len ho.ev⟩
end DL

/-! DLb9: comprehensions in comprehensions; calls that may raise where nothing is wished for. -/
namespace DL
open PySem L2 PySem.Spec PyProof.Rows
theorem takesNo {X : Cx} : Takes X (fun _ _ _ _ => False) := fun _ _ x => by
  obtain ⟨_, _, _, _, _, _, _, _, _, _, _, _, _, _, _, _, no⟩ := x
  exact no.elim
/-- a comprehension's names where it stands in a block of scope par -/
def relS (scope par : Scope) : Scope := { scope with names := scope.names.map fun p => if (p.2 == .free && par.kind == .function && par.names.lookup p.1 == some .cell) then (p.1, .cell) else p }
theorem relS_eq (scope : Scope) (env : Env) : relabel scope env = relS scope env.scope := rfl
theorem blkOk_nest {N : List Str} {out scope : Scope} {env : Env} {own : List (Str × Nat)} (par : Scope) (hp : env.scope = par) (h : blkC N (relS out par) scope own = true) : BlkOk N (relabel out env) scope own := by
  rw [relS_eq, hp]
  exact blkOk_by h
end DL
namespace DL
open PySem L2
theorem di_seqK {X : Cx} {W : Wi} {K : PySem.W.Frag} {tg e : Expr} {te : TE} {f : En → Res Vl} (h : DE X W e te f) (hK : X.K = K := by rfl) : DI X W tg e (fun σ H R => iList K te σ H R ∨ iTup K te σ H R) (seqI f) := by
  subst hK
  exact di_seq h
end DL

/-! DLd0: isinstance(o, C) of an instance of C; fields of the caught one, of any of some classes. -/
namespace DL
open PySem L2 PySem.Spec PyProof.Rows
def insB (K : PySem.W.Frag) (C : Addr) : Bool := objB K C && (PySem.W.findIn K (.ref C) "__class__" == some (some (.builtin "object.__class__")) && (PySem.W.specialIn K (.builtin "object.__class__") "__get__" == some (some (.builtin "getset_descriptor.__get__")) &&
  (PySem.W.takesIn K (.builtin "object.__class__") == some true && (PySem.W.mroIn K C (.type "object") == some true && PySem.W.kitOne K (.ref C) (.ref C) == some true))))
theorem insB_ok {K : PySem.W.Frag} {C : Addr} (h : insB K C = true) : C8.InsC K C := by
  unfold insB at h
  simp only [Bool.and_eq_true, beq_iff_eq] at h
  obtain ⟨h0, h1, h2, h3, h4, h5⟩ := h
  exact ⟨objB_ok h0, h1, h2, h3, h4, h5⟩
/-- an instance of c; nothing is told of other values -/
def isOV (c : Str) (u : Vl) : Res Vl := match u.d with
  | .obj c' _ _ => if c' = c then .ok ⟨.g, .bl true⟩ else .no
  | _ => .no
theorem isOV_nx {c : Str} {u : Vl} {x : Exn} : isOV c u ≠ .ex x := by
  unfold isOV
  split
  · exact if_nx
  · exact fun z => nomatch z
def rIsO (C : Addr) : List V → Hp → VK → Prop := fun xs H Q => ∃ a dx fs, xs = [.ref a, .ref C] ∧ H a = some (.ins C dx fs) ∧ Q (.bl true) H
theorem de_isO {X : Cx} {W : Wi} {K : PySem.W.Frag} {pos p p2 : Pos} {e : Expr} {te : TE} {f : En → Res Vl} {T : Str} (hC : insB K (adr K T) = true) (hT : X.mg T = some (.ref (adr K T))) (hm : X.mg "isinstance" = none) (h : DE X W e te f)
    (hg : Gl X "isinstance" := by rfl) (hgT : Gl X T := by rfl) (hdb : (T == ("__debug__" : Str)) = false := by decide)
    (h1 : starEach (e :: [.Name T p2]) X.env = (false, eval e X.env) :: starEach [.Name T p2] X.env := by rfl) (hK : X.K = K := by rfl) : DE X W (.Call (.Name "isinstance" p) [e, .Name T p2] [] pos) (tCB (rIsO (adr K T)) (tCons te (tCons (tC (.ref (adr K T))) tNil))) (unE (isOV T) f) := by
  subst hK
  refine ⟨pe_callB (C8.call_isC (insB_ok hC)) hg hm (by decide +kernel) (pa_cons h.pe (pa_cons (pe_glob (v := .ref (adr X.K T)) hgT hT rfl hdb) pa_nil) h1) (by decide) (by decide) h1, ⟨fun B G0 G env σ H z r e Q q => ?_, fun B G0 G env σ H y r e w Q => ?_⟩⟩
  · obtain ⟨u, e1, e2⟩ := Res.bind_eq e
    refine h.ev.ok B G0 G env σ H u r e1 _ fun G' H' w x hw => ?_
    unfold isOV at e2
    split at e2
    · rename_i c ns xs ed
      obtain ⟨rfl, rfl⟩ := if_ok e2
      obtain ⟨a, C, dx, fs, rfl, f2, f3, _⟩ := Rp.objv (r.ext x) hw ed
      exact ⟨a, dx, fs, by rw [adr_eq f2], by rw [adr_eq f2]; exact f3, q G' H' _ x (.bl _)⟩
    · cases e2
  · rcases Res.bind_ex e with e1 | ⟨u, e1, e⟩
    · exact h.ev.ex B G0 G env σ H y r e1 w _
    · exact absurd e isOV_nx
def xfM (i : Nat) (cs : List Str) (fn : Str) : En → Res Vl := fun env => match env[i]? with
  | some (.xc x) => if cs.contains x.c = true then match x.fs.lookup fn with
    | some d => .ok ⟨.g, d⟩
    | none => .no else .no
  | _ => .no
theorem xfM_ne {i : Nat} {cs : List Str} {fn : Str} {env : En} {x : Exn} : xfM i cs fn env ≠ .ex x := by
  unfold xfM
  repeat' split
  all_goals exact fun z => by cases z
def tXfM (K : PySem.W.Frag) (a : Addr) (cls : Value) (d : Option Addr) (cs : List Str) (fn : Str) (te : TE) : TE := fun σ H Q => ∃ c, cs.contains c = true ∧ tXf a cls d (adr K c) fn te σ H Q
theorem de_xfM {tl : Tl} {X : Cx} {a : Addr} {oe : Obj} {cls : Value} {d : Option Addr} {pn : List (Addr × Obj)} {n fn : Str} {p pos : Pos} (cs : List Str) (T : ∀ c, cs.contains c = true → XfC X.K (adr X.K c)) (hno : ∀ c, cs.contains c = true → PySem.W.findIn X.K (.ref (adr X.K c)) fn = some none) (hz : Zc cls d oe) (hf : ∃ vs, oe.data = .fields vs) (i : Nat)
    (hN : X.N[i]? = some n := by rfl) (hv : Vis X.env.scope n := by first | exact Or.inl rfl | exact Or.inr (Or.inl rfl) | exact Or.inr (Or.inr rfl)) (hd : (n == ("__debug__" : Str)) = false := by decide) (hcd : (n == ("__classdict__" : Str)) = false := by decide)
    (hb : attributeBase (.Name n p) fn X.env (eval (.Name n p) X.env) = eval (.Name n p) X.env := by rfl) : DE (X.suite a ((a, oe) :: pn)) (suW tl a cls d) (.Attribute (.Name n p) fn pos) (tXfM X.K a cls d cs fn (tVar i)) (xfM i cs fn) := by
  refine ⟨⟨fun pins s σ H Q I ⟨c, hc, h⟩ => (pe_xf (T c hc) (hno c hc) hz hf (pe_var (X := X.suite a ((a, oe) :: pn)) hN hv hd hcd) hb).run pins s σ H Q I h⟩, ⟨fun B G0 G env σ H u r e Q q => ?_, fun B G0 G env σ H x r e => absurd e xfM_ne⟩⟩
  unfold xfM at e
  split at e
  · rename_i x ex
    split at e
    · rename_i hc
      split at e
      · rename_i y hy
        cases e
        obtain ⟨eo, C', h1, h2, h0, h3⟩ := r.caught ex
        obtain ⟨dd, l, g1, g2, g3⟩ := h3 (fun z => by rw [z] at hy; cases hy)
        obtain ⟨v, k1, k2⟩ := g3 _ _ (lookup_mem hy)
        exact ⟨x.c, hc, .ref a, eo, rfl, by rw [adr_eq h2]; exact h1, dd, l, v, g1, r.gh _ _ g2, k1, q G H v (Ext.refl r.gh) k2⟩
      · cases e
    · cases e
  · cases e
end DL
namespace DL
open PySem L2
/-- s.add(x), s a set of tuples of ints; of ints -/
def addST (i : Nat) (f : En → Res Vl) : En → Out := fun env => match env[i]? with | some (.om .stt _) => addSetO i f env | _ => .no
def addSI (i : Nat) (f : En → Res Vl) : En → Out := fun env => match env[i]? with | some (.om .sti _) => addSetO i f env | _ => .no
def addSTv (s : Option Sl) (o : Out) : Out := match s with | some (.om .stt _) => o | _ => .no
def addSIv (s : Option Sl) (o : Out) : Out := match s with | some (.om .sti _) => o | _ => .no
theorem addST_eq {i : Nat} {f : En → Res Vl} {env : En} : addST i f env = addSTv env[i]? (addSetO i f env) := rfl
theorem addSI_eq {i : Nat} {f : En → Res Vl} {env : En} : addSI i f env = addSIv env[i]? (addSetO i f env) := rfl
theorem addSTv_om {xs : List D} {o : Out} : addSTv (some (.om .stt xs)) o = o := rfl
theorem addSIv_om {xs : List D} {o : Out} : addSIv (some (.om .sti xs)) o = o := rfl
end DL


/-! DLs: how the combinators reckon, as rules for simp. -/
namespace DL
open PySem L2
def lsV : D → Res Vl
  | .int j => if j.toNat ≤ 2 ^ 24 then .ok ⟨.o, .lst (rngD 0 j.toNat)⟩ else .no
  | _ => .no
def lsW : D → D → Res Vl
  | .int i, .int j => if (j - i).toNat ≤ 2 ^ 24 then .ok ⟨.o, .lst (rngD i (j - i).toNat)⟩ else .no
  | _, _ => .no
section
variable {env : En} {i j : Nat} {k l : Bool} {d : D} {xs ys : List D} {a b : Int} {s t : Str} {u w : Vl} {q q' : Kd}
def nmV : Option Sl → Res Vl
  | some (.vl k d) => .ok ⟨kd k, d⟩
  | some (.ow xs) => .ok ⟨.h, .lst xs⟩
  | _ => .no
theorem nmE_eq : nmE i env = nmV env[i]? := by
  unfold nmE
  cases h : env[i]? with
  | none => rfl
  | some s => cases s <;> rfl
theorem nmV_vl : nmV (some (.vl k d)) = .ok ⟨kd k, d⟩ := rfl
theorem nmV_ow : nmV (some (.ow xs)) = .ok ⟨.h, .lst xs⟩ := rfl
theorem kd_true : kd true = .g := rfl
theorem kd_false : kd false = .b := rfl
theorem nmE_vl (h : env[i]? = some (.vl k d)) : nmE i env = .ok ⟨kd k, d⟩ := by unfold nmE; rw [h]
theorem nmE_ow (h : env[i]? = some (.ow xs)) : nmE i env = .ok ⟨.h, .lst xs⟩ := by unfold nmE; rw [h]
theorem cE_eq : cE d env = .ok ⟨.g, d⟩ := rfl
theorem binE_eq {p : Vl → Vl → Res Vl} {f g : En → Res Vl} : binE p f g env = (f env).bind fun x => (g env).bind fun y => p x y := rfl
theorem unE_eq {p : Vl → Res Vl} {f : En → Res Vl} : unE p f env = (f env).bind p := rfl
theorem negP_int : negP ⟨q, .int a⟩ = .ok ⟨.g, .int (-a)⟩ := rfl
theorem callE_eq {p : List Vl → Res Vl} {f : En → Res (List Vl)} : callE p f env = (f env).bind p := rfl
theorem callF_eq {F : Fn} {ds : List D} {f : En → Res (List Vl)} : callF F ds f env = (f env).bind fun us => (F (us.map Vl.ba ++ ds.map fun d => (true, d))).nx.bind fin := rfl
theorem callX_eq {F : Fn} {ds : List D} {f : En → Res (List Vl)} : callX F ds f env = (f env).bind fun us => (F (us.map Vl.ba ++ ds.map fun d => (true, d))).bind fin := rfl
theorem rnx_ok {α : Type} {a : α} : (Res.ok a).nx = .ok a := rfl
theorem rnx_no {α : Type} : (Res.no : Res α).nx = .no := rfl
theorem rnx_ex {α : Type} {x : Exn} : (Res.ex x : Res α).nx = .no := rfl
theorem callK_eq {F : Fn} {n m : Nat} {f g : En → Res (List Vl)} : callK F n m f g env = (f env).bind fun us => (g env).bind fun ws => if us.length = n ∧ ws.length = m then (F ((us ++ ws).map Vl.ba)).nx.bind fin else .no := rfl
theorem fin_g : fin ⟨.g, d⟩ = .ok ⟨.g, d⟩ := rfl
theorem fin_o : fin ⟨.o, d⟩ = .ok ⟨.o, d⟩ := rfl
theorem nilA_eq : nilA env = .ok [] := rfl
theorem consA_eq {f : En → Res Vl} {g : En → Res (List Vl)} : consA f g env = (f env).bind fun x => (g env).bind fun xs => .ok (x.arg :: xs) := rfl
theorem arg_kd : (⟨kd k, d⟩ : Vl).arg = ⟨kd k, d⟩ := by cases k <;> rfl
theorem arg_g : (⟨.g, d⟩ : Vl).arg = ⟨.g, d⟩ := rfl
theorem arg_h : (⟨.h, d⟩ : Vl).arg = ⟨.h, d⟩ := rfl
theorem arg_b : (⟨.b, d⟩ : Vl).arg = ⟨.b, d⟩ := rfl
theorem arg_o : (⟨.o, d⟩ : Vl).arg = ⟨.g, d⟩ := rfl
theorem ba_kd : Vl.ba ⟨kd k, d⟩ = (k || flat d, d) := by cases k <;> rfl
theorem ba_g : Vl.ba ⟨.g, d⟩ = (true, d) := rfl
theorem ba_h : Vl.ba ⟨.h, .lst xs⟩ = (false, .lst xs) := rfl
theorem keep_kd : (⟨kd k, d⟩ : Vl).keep = (k || flat d) := by cases k <;> rfl
theorem keep_g : (⟨.g, d⟩ : Vl).keep = true := rfl
theorem keep_o : (⟨.o, d⟩ : Vl).keep = true := rfl
theorem flat_int : flat (.int a) = true := rfl
theorem flat_bl : flat (.bl k) = true := rfl
theorem flat_str : flat (.str s) = true := rfl
theorem flat_non : flat .non = true := rfl
theorem flat_lst : flat (.lst xs) = false := rfl
theorem flat_tup : flat (.tup xs) = false := rfl
theorem slot_kd : slotOf ⟨kd k, d⟩ = .ok (.vl k d) := by cases k <;> rfl
theorem slot_g : slotOf ⟨.g, d⟩ = .ok (.vl true d) := rfl
theorem slot_b : slotOf ⟨.b, d⟩ = .ok (.vl false d) := rfl
theorem slot_o : slotOf ⟨.o, .lst xs⟩ = .ok (.ow xs) := rfl
theorem sub_kd : (kd k).sub = kd k := by cases k <;> rfl
theorem sub_g : Kd.sub .g = .g := rfl
theorem sub_h : Kd.sub .h = .g := rfl
theorem sub_o : Kd.sub .o = .g := rfl
theorem sub_b : Kd.sub .b = .b := rfl
theorem it_kd : (kd k).it xs = (k || xs.all flat) := by cases k <;> rfl
theorem it_g : Kd.it .g xs = true := rfl
theorem it_h : Kd.it .h xs = true := rfl
theorem it_o : Kd.it .o xs = true := rfl
theorem intP_int {g : Int → Int → Res D} : intP g ⟨q, .int a⟩ ⟨q', .int b⟩ = (g a b).bind fun d => .ok ⟨.g, d⟩ := rfl
theorem addP_int : addP ⟨q, .int a⟩ ⟨q', .int b⟩ = .ok ⟨.g, .int (a + b)⟩ := rfl
theorem addP_lst : addP ⟨q, .lst xs⟩ ⟨q', .lst ys⟩ = if q.it xs = true ∧ q'.it ys = true ∧ xs.length + ys.length ≤ sizeLine then .ok ⟨.o, .lst (xs ++ ys)⟩ else .no := rfl
theorem addP_str : addP ⟨q, .str s⟩ ⟨q', .str t⟩ = if s.length + t.length ≤ sizeLine then .ok ⟨.g, .str (s ++ t)⟩ else .no := rfl
theorem addI_eq : addI a b = .ok (.int (a + b)) := rfl
theorem subI_eq : subI a b = .ok (.int (a - b)) := rfl
theorem ltI_eq : ltI a b = .ok (.bl (decide (a < b))) := rfl
theorem leI_eq : leI a b = .ok (.bl (decide (a ≤ b))) := rfl
theorem gtI_eq : gtI a b = .ok (.bl (decide (b < a))) := rfl
theorem geI_eq : geI a b = .ok (.bl (decide (b ≤ a))) := rfl
theorem modI_eq : modI a b = if 0 < b then .ok (.int (a % b)) else .no := rfl
theorem eqP_eq {n : Bool} : eqP n u w = (eqB n u.d w.d).bind fun b => .ok ⟨.g, .bl b⟩ := rfl
theorem eqB_int {n : Bool} : eqB n (.int a) (.int b) = .ok (if n then !decide (a = b) else decide (a = b)) := rfl
theorem eqB_str {n : Bool} : eqB n (.str s) (.str t) = .ok (if n then !decide (s = t) else decide (s = t)) := rfl
theorem eqB_bl {n : Bool} : eqB n (.bl k) (.bl l) = .ok (if n then !decide (k = l) else decide (k = l)) := rfl
theorem eqB_non {n : Bool} : eqB n .non .non = .ok (if n then !true else true) := rfl
theorem isP_non {n : Bool} : isP n ⟨q, .non⟩ ⟨q', .non⟩ = .ok ⟨.g, .bl (!n)⟩ := rfl
theorem isP_int_non {n : Bool} : isP n ⟨q, .int a⟩ ⟨q', .non⟩ = .ok ⟨.g, .bl n⟩ := rfl
theorem isP_str_non {n : Bool} : isP n ⟨q, .str s⟩ ⟨q', .non⟩ = .ok ⟨.g, .bl n⟩ := rfl
theorem isP_bl_non {n : Bool} : isP n ⟨q, .bl k⟩ ⟨q', .non⟩ = .ok ⟨.g, .bl n⟩ := rfl
theorem isP_lst_non {n : Bool} : isP n ⟨q, .lst xs⟩ ⟨q', .non⟩ = .ok ⟨.g, .bl n⟩ := rfl
theorem isP_tup_non {n : Bool} : isP n ⟨q, .tup xs⟩ ⟨q', .non⟩ = .ok ⟨.g, .bl n⟩ := rfl
theorem isP_bl {n : Bool} : isP n ⟨q, .bl k⟩ ⟨q', .bl l⟩ = .ok ⟨.g, .bl (if n then !decide (k = l) else decide (k = l))⟩ := rfl
theorem isP_non_bl {n : Bool} : isP n ⟨q, .non⟩ ⟨q', .bl l⟩ = .ok ⟨.g, .bl n⟩ := rfl
theorem isP_int_bl {n : Bool} : isP n ⟨q, .int a⟩ ⟨q', .bl l⟩ = .ok ⟨.g, .bl n⟩ := rfl
theorem isP_str_bl {n : Bool} : isP n ⟨q, .str s⟩ ⟨q', .bl l⟩ = .ok ⟨.g, .bl n⟩ := rfl
theorem isP_lst_bl {n : Bool} : isP n ⟨q, .lst xs⟩ ⟨q', .bl l⟩ = .ok ⟨.g, .bl n⟩ := rfl
theorem isP_tup_bl {n : Bool} : isP n ⟨q, .tup xs⟩ ⟨q', .bl l⟩ = .ok ⟨.g, .bl n⟩ := rfl
theorem intC_int : intC [⟨q, .int a⟩] = .ok ⟨.g, .int a⟩ := rfl
theorem intC_bl : intC [⟨q, .bl k⟩] = .ok ⟨.g, .int (if k then 1 else 0)⟩ := rfl
theorem absC_int : absC [⟨q, .int a⟩] = .ok ⟨.g, .int (if a < 0 then -a else a)⟩ := rfl
theorem min2C_int : min2C [⟨q, .int a⟩, ⟨q', .int b⟩] = .ok ⟨.g, .int (if b < a then b else a)⟩ := rfl
theorem max2C_int : max2C [⟨q, .int a⟩, ⟨q', .int b⟩] = .ok ⟨.g, .int (if b > a then b else a)⟩ := rfl
theorem lenC_lst : lenC [⟨q, .lst xs⟩] = .ok ⟨.g, .int xs.length⟩ := rfl
theorem lenC_tup : lenC [⟨q, .tup xs⟩] = .ok ⟨.g, .int xs.length⟩ := rfl
theorem divmodC_int : divmodC [⟨q, .int a⟩, ⟨q', .int b⟩] = if CDiv a b then .ok ⟨.g, .tup [.int (a / b), .int (a % b)]⟩ else .no := rfl
theorem sumC_ints {ns : List Int} : sumC [⟨q, .lst (ns.map D.int)⟩] = .ok ⟨.g, .int ns.sum⟩ := by unfold sumC; simp
theorem sumC_tup {ns : List Int} : sumC [⟨q, .tup (ns.map D.int)⟩] = .ok ⟨.g, .int ns.sum⟩ := by unfold sumC; simp
theorem listC_lst : listC [⟨q, .lst xs⟩] = if q.it xs = true then .ok ⟨.o, .lst xs⟩ else .no := rfl
theorem listC_tup : listC [⟨q, .tup xs⟩] = if q.it xs = true then .ok ⟨.o, .lst xs⟩ else .no := rfl
theorem tupleC_lst : tupleC [⟨q, .lst xs⟩] = if q.it xs = true then .ok ⟨.g, .tup xs⟩ else .no := rfl
theorem tupleC_tup : tupleC [⟨q, .tup xs⟩] = .ok ⟨q, .tup xs⟩ := rfl
theorem ixP_lst : ixP ⟨q, .lst xs⟩ ⟨q', .int a⟩ = (atD xs a).bind fun d => .ok ⟨q.sub, d⟩ := rfl
theorem ixP_tup : ixP ⟨q, .tup xs⟩ ⟨q', .int a⟩ = (atD xs a).bind fun d => .ok ⟨q.sub, d⟩ := rfl
theorem tupE_eq {f : En → Res (List Vl)} : tupE f env = (f env).bind fun us => if us.all Vl.keep = true ∧ us.length ≤ sizeLine then .ok ⟨.g, .tup (us.map Vl.d)⟩ else .no := rfl
theorem lstE_eq {f : En → Res (List Vl)} : lstE f env = (f env).bind fun us => if us.all Vl.keep = true ∧ us.length ≤ sizeLine then .ok ⟨.o, .lst (us.map Vl.d)⟩ else .no := rfl
theorem isiE_eq {T : String} {f : En → Res Vl} : isiE T f env = (f env).bind fun u => if isOb u.d = true then .no else .ok ⟨.g, .bl (isiB T u.d)⟩ := rfl
theorem isOb_non : isOb .non = false := rfl
theorem isOb_bl : isOb (.bl k) = false := rfl
theorem isOb_int : isOb (.int a) = false := rfl
theorem isOb_str : isOb (.str s) = false := rfl
theorem isOb_lst : isOb (.lst xs) = false := rfl
theorem isOb_tup : isOb (.tup xs) = false := rfl
theorem isOb_fz : isOb (.fz xs) = false := rfl
theorem isi_non_int : isiB "int" .non = false := rfl
theorem isi_non_str : isiB "str" .non = false := rfl
theorem isi_non_bool : isiB "bool" .non = false := rfl
theorem isi_non_list : isiB "list" .non = false := rfl
theorem isi_non_tuple : isiB "tuple" .non = false := rfl
theorem isi_bl_int : isiB "int" (.bl k) = true := rfl
theorem isi_bl_str : isiB "str" (.bl k) = false := rfl
theorem isi_bl_bool : isiB "bool" (.bl k) = true := rfl
theorem isi_bl_list : isiB "list" (.bl k) = false := rfl
theorem isi_bl_tuple : isiB "tuple" (.bl k) = false := rfl
theorem isi_int_int : isiB "int" (.int a) = true := rfl
theorem isi_int_str : isiB "str" (.int a) = false := rfl
theorem isi_int_bool : isiB "bool" (.int a) = false := rfl
theorem isi_int_list : isiB "list" (.int a) = false := rfl
theorem isi_int_tuple : isiB "tuple" (.int a) = false := rfl
theorem isi_str_int : isiB "int" (.str s) = false := rfl
theorem isi_str_str : isiB "str" (.str s) = true := rfl
theorem isi_str_bool : isiB "bool" (.str s) = false := rfl
theorem isi_str_list : isiB "list" (.str s) = false := rfl
theorem isi_str_tuple : isiB "tuple" (.str s) = false := rfl
theorem isi_lst_int : isiB "int" (.lst xs) = false := rfl
theorem isi_lst_str : isiB "str" (.lst xs) = false := rfl
theorem isi_lst_bool : isiB "bool" (.lst xs) = false := rfl
theorem isi_lst_list : isiB "list" (.lst xs) = true := rfl
theorem isi_lst_tuple : isiB "tuple" (.lst xs) = false := rfl
theorem isi_tup_int : isiB "int" (.tup xs) = false := rfl
theorem isi_tup_str : isiB "str" (.tup xs) = false := rfl
theorem isi_tup_bool : isiB "bool" (.tup xs) = false := rfl
theorem isi_tup_list : isiB "list" (.tup xs) = false := rfl
theorem isi_tup_tuple : isiB "tuple" (.tup xs) = true := rfl
theorem isi_fz_int : isiB "int" (.fz xs) = false := rfl
theorem isi_fz_str : isiB "str" (.fz xs) = false := rfl
theorem isi_fz_bool : isiB "bool" (.fz xs) = false := rfl
theorem isi_fz_list : isiB "list" (.fz xs) = true := rfl
theorem isi_fz_tuple : isiB "tuple" (.fz xs) = false := rfl
theorem slE_eq {f : En → Res Vl} {p r : En → Res (Option Int)} : slE f p r env = (f env).bind fun u => (p env).bind fun lo => (r env).bind fun hi => slP u lo hi := rfl
theorem slP_lst {lo hi : Option Int} : slP ⟨q, .lst xs⟩ lo hi = if q.it xs = true then .ok ⟨.o, .lst (cutD xs lo hi)⟩ else .no := rfl
theorem slP_fz {lo hi : Option Int} : slP ⟨q, .fz xs⟩ lo hi = if q.it xs = true then .ok ⟨.o, .lst (cutD xs lo hi)⟩ else .no := rfl
theorem slP_tup {lo hi : Option Int} : slP ⟨q, .tup xs⟩ lo hi = if q.it xs = true ∧ ¬ (HT.sIx xs.length 0 lo = 0 ∧ HT.sIx xs.length xs.length hi = xs.length) then .ok ⟨.g, .tup (cutD xs lo hi)⟩ else .no := rfl
theorem noPart_eq : noPart env = .ok none := rfl
theorem part_eq {f : En → Res Vl} : part f env = (f env).bind fun u => match u.d with
  | .int i => .ok (some i)
  | _ => .no := rfl
theorem truT_eq {f : En → Res Vl} : truT f env = (f env).bind fun u => truD u.d := rfl
theorem valT_eq {f : En → Res Vl} : valT f env = (f env).bind fun u => boolD u.d := rfl
theorem truD_bl : truD (.bl k) = .ok k := rfl
theorem truD_int : truD (.int a) = .ok (a != 0) := rfl
theorem truD_lst : truD (.lst xs) = .ok (!xs.isEmpty) := rfl
theorem truD_tup : truD (.tup xs) = .ok (!xs.isEmpty) := rfl
theorem truD_non : truD .non = .ok false := rfl
theorem boolD_bl : boolD (.bl k) = .ok k := rfl
theorem andT_eq {f g : En → Res Bool} : andT f g env = (f env).bind fun b => if b = true then g env else .ok false := by unfold andT; congr; funext b; cases b <;> rfl
theorem orT_eq {f g : En → Res Bool} : orT f g env = (f env).bind fun b => if b = true then .ok true else g env := by unfold orT; congr; funext b; cases b <;> rfl
theorem notT_eq {f : En → Res Bool} : notT f env = (f env).bind fun b => .ok (!b) := rfl
theorem andE_eq {f g : En → Res Vl} : andE f g env = (f env).bind fun u => (boolD u.d).bind fun c => if c = true then g env else .ok ⟨.g, .bl false⟩ := by unfold andE; congr; funext u; congr; funext b; cases b <;> rfl
theorem orE_eq {f g : En → Res Vl} : orE f g env = (f env).bind fun u => (boolD u.d).bind fun c => if c = true then .ok ⟨.g, .bl true⟩ else g env := by unfold orE; congr; funext u; congr; funext b; cases b <;> rfl
theorem notE_eq {f : En → Res Vl} : notE f env = (f env).bind fun u => (boolD u.d).bind fun c => .ok ⟨.g, .bl (!c)⟩ := rfl
theorem ifE_eq {p : En → Res Bool} {f g : En → Res Vl} : ifE p f g env = (p env).bind fun c => if c = true then f env else g env := by unfold ifE; congr; funext b; cases b <;> rfl
/-- what follows an outcome -/
def Out.bind : Out → (En → Out) → Out
  | .nx e, g => g e
  | o, _ => o
theorem seqO_eq {f g : En → Out} : seqO f g env = (f env).bind g := by unfold seqO Out.bind; cases f env <;> rfl
theorem ob_nx {g : En → Out} : (Out.nx env).bind g = g env := rfl
theorem ob_rt {g : En → Out} : (Out.rt u).bind g = .rt u := rfl
theorem ob_bk {g : En → Out} : (Out.bk env).bind g = .bk env := rfl
theorem ob_ct {g : En → Out} : (Out.ct env).bind g = .ct env := rfl
theorem ob_if {c : Prop} [Decidable c] {x y : Out} {g : En → Out} : (if c then x else y).bind g = if c then x.bind g else y.bind g := by split <;> rfl
def Res.out {α : Type} (r : Res α) (e : En) (g : α → Out) : Out := match r with
  | .ok a => g a
  | .ex x => .ex e x
  | .no => .no
def Res.nxo {α : Type} (r : Res α) (g : α → Out) : Out := match r with
  | .ok a => g a
  | _ => .no
theorem out_ok {α : Type} {a : α} {g : α → Out} : (Res.ok a).out env g = g a := rfl
theorem out_no {α : Type} {g : α → Out} : (Res.no : Res α).out env g = .no := rfl
theorem out_ex {α : Type} {x : Exn} {g : α → Out} : (Res.ex x : Res α).out env g = .ex env x := rfl
theorem nxo_ok {α : Type} {a : α} {g : α → Out} : (Res.ok a).nxo g = g a := rfl
theorem nxo_no {α : Type} {g : α → Out} : (Res.no : Res α).nxo g = .no := rfl
theorem nxo_ex {α : Type} {x : Exn} {g : α → Out} : (Res.ex x : Res α).nxo g = .no := rfl
theorem ob_no {g : En → Out} : Out.no.bind g = .no := rfl
theorem ob_ex {x : Exn} {g : En → Out} : (Out.ex env x).bind g = .ex env x := rfl
theorem setO_eq {f : En → Res Vl} : setO i f env = ((f env).bind slotOf).out env fun s => .nx (env.set i s) := by
  unfold setO Res.out
  cases (f env).bind slotOf <;> rfl
theorem asgO_eq {t : Tg} {f : En → Res Vl} : asgO t f env = (f env).out env fun u => (t u env).nxo fun e => .nx e := by
  unfold asgO Res.out Res.nxo
  cases f env with
  | ok u => dsimp only; cases t u env <;> rfl
  | _ => rfl
theorem retO_eq {f : En → Res Vl} : retO f env = ((f env).bind retV).out env fun u => .rt u := by
  unfold retO Res.out
  cases (f env).bind retV <;> rfl
theorem retV_g : retV ⟨.g, d⟩ = .ok ⟨.g, d⟩ := rfl
theorem retV_o : retV ⟨.o, d⟩ = .ok ⟨.o, d⟩ := rfl
theorem retV_h : retV ⟨.h, d⟩ = .ok ⟨.o, d⟩ := rfl
theorem retV_kd (h : flat d = true) : retV ⟨kd k, d⟩ = .ok ⟨.g, d⟩ := by
  cases k
  · show (if flat d = true then _ else _) = _
    rw [if_pos h]
  · rfl
theorem ifO_eq {p : En → Res Bool} {f g : En → Out} : ifO p f g env = (p env).out env fun b => if b = true then f env else g env := by
  unfold ifO Res.out
  cases p env with
  | ok b => cases b <;> rfl
  | ex x => rfl
  | no => rfl
theorem nextO_eq : nextO env = .nx env := rfl
theorem dropO_eq {f : En → Res Vl} : dropO f env = (f env).out env fun _ => .nx env := by
  unfold dropO Res.out
  cases f env <;> rfl
theorem appO_eq {f : En → Res Vl} : appO i f env = (owAt env i).nxo fun xs => ((f env).bind keepD).out env fun d => if xs.length < sizeLine then .nx (env.set i (.ow (xs ++ [d]))) else .no := by
  unfold appO Res.out Res.nxo
  cases (f env).bind keepD <;> cases owAt env i <;> rfl
theorem putO_eq {f g : En → Res Vl} : putO i f g env = ((f env).bind keepD).out env fun d => (g env).nxo fun w => match w with
  | ⟨_, .int j⟩ => (owAt env i).nxo fun xs => match ixN xs.length j with
    | some m => .nx (env.set i (.ow (xs.set m d)))
    | none => .no
  | _ => .no := by
  unfold putO Res.out Res.nxo
  cases (f env).bind keepD with
  | no => rfl
  | ex x => rfl
  | ok d =>
    cases g env with
    | no => rfl
    | ex x => rfl
    | ok w =>
      obtain ⟨k, e⟩ := w
      cases e with
      | int j => cases owAt env i <;> rfl
      | _ => rfl
theorem keepD_eq : keepD u = if u.keep = true then .ok u.d else .no := rfl
def owV : Option Sl → Res (List D)
  | some (.ow xs) => .ok xs
  | _ => .no
theorem owAt_eq : owAt env i = owV env[i]? := by
  unfold owAt
  cases h : env[i]? with
  | none => rfl
  | some s => cases s <;> rfl
theorem owV_ow : owV (some (.ow xs)) = .ok xs := rfl
def frzV (env : En) (i : Nat) : Option Sl → En
  | some (.ow xs) => env.set i (.vl true (.lst xs))
  | _ => env
theorem frz1_eq : frz1 i env = frzV env i env[i]? := by
  unfold frz1
  cases h : env[i]? with
  | none => rfl
  | some s => cases s <;> rfl
theorem frzV_ow : frzV env i (some (.ow xs)) = env.set i (.vl true (.lst xs)) := rfl
theorem frzV_vl : frzV env i (some (.vl k d)) = env := rfl
theorem frzV_no : frzV env i (some .no) = env := rfl
def augV (p : Int → Int → Int) (i : Nat) (r : Res Vl) (env : En) : Option Sl → Out
  | some (.vl _ (.int a)) => match r with
    | .ok ⟨_, .int b⟩ => .nx (env.set i (.vl true (.int (p a b))))
    | _ => .no
  | _ => .no
theorem augO_eq {p : Int → Int → Int} {f : En → Res Vl} : augO i p f env = augV p i (f env) env env[i]? := by
  unfold augO augV
  cases h : env[i]? with
  | none => rfl
  | some s =>
    cases s with
    | vl k d => cases d <;> rfl
    | _ => rfl
theorem augV_int {p : Int → Int → Int} : augV p i (.ok ⟨q, .int b⟩) env (some (.vl k (.int a))) = .nx (env.set i (.vl true (.int (p a b)))) := rfl
theorem owAt_ow (h : env[i]? = some (.ow xs)) : owAt env i = .ok xs := by unfold owAt; rw [h]
theorem frzO_eq {is : List Nat} {f : En → Out} : frzO is f env = f (frz is env) := rfl
theorem frz_nil : frz [] env = env := rfl
theorem frz_cons {is : List Nat} : frz (i :: is) env = frz is (frz1 i env) := rfl
theorem frz1_ow (h : env[i]? = some (.ow xs)) : frz1 i env = env.set i (.vl true (.lst xs)) := by unfold frz1; rw [h]
theorem frz1_vl (h : env[i]? = some (.vl k d)) : frz1 i env = env := by unfold frz1; rw [h]
theorem frz1_no (h : env[i]? = some .no) : frz1 i env = env := by unfold frz1; rw [h]
def seqV : Vl → Res (Kd × List D)
  | ⟨.g, .lst xs⟩ => .ok (.g, xs)
  | ⟨.o, .lst xs⟩ => .ok (.g, xs)
  | ⟨.b, .lst xs⟩ => .ok (.b, xs)
  | ⟨.g, .tup xs⟩ => .ok (.g, xs)
  | ⟨.b, .tup xs⟩ => .ok (.b, xs)
  | ⟨.g, .fz xs⟩ => .ok (.g, xs)
  | ⟨.b, .fz xs⟩ => .ok (.b, xs)
  | _ => .no
theorem seqI_eq {f : En → Res Vl} : seqI f env = (f env).bind seqV := by
  unfold seqI
  congr
theorem seqV_gf : seqV ⟨.g, .fz xs⟩ = .ok (.g, xs) := rfl
theorem seqV_kf : seqV ⟨kd k, .fz xs⟩ = .ok (kd k, xs) := by cases k <;> rfl
theorem seqV_kd : seqV ⟨kd k, .lst xs⟩ = .ok (kd k, xs) := by cases k <;> rfl
theorem seqV_kdt : seqV ⟨kd k, .tup xs⟩ = .ok (kd k, xs) := by cases k <;> rfl
theorem seqV_g : seqV ⟨.g, .lst xs⟩ = .ok (.g, xs) := rfl
theorem seqV_gt : seqV ⟨.g, .tup xs⟩ = .ok (.g, xs) := rfl
theorem seqV_o : seqV ⟨.o, .lst xs⟩ = .ok (.g, xs) := rfl
theorem seqV_b : seqV ⟨.b, .lst xs⟩ = .ok (.b, xs) := rfl
theorem seqV_bt : seqV ⟨.b, .tup xs⟩ = .ok (.b, xs) := rfl
def rg (j : Int) : Bool := decide (-(2 ^ 62) ≤ j ∧ j < 2 ^ 62)
theorem rg_in {j : Int} (h1 : -1000000000 ≤ j) (h2 : j ≤ 1000000000) : rg j = true := decide_eq_true ⟨by omega, by omega⟩
def rng1V : D → Res (Kd × List D)
  | .int j => if rg j = true then .ok (.g, rngD 0 j.toNat) else .no
  | _ => .no
def rng2V : D → D → Res (Kd × List D)
  | .int i, .int j => if rg i = true ∧ rg j = true then .ok (.g, rngD i (j - i).toNat) else .no
  | _, _ => .no
theorem rg_iff {j : Int} : (rg j = true) ↔ (-(2 ^ 62) ≤ j ∧ j < 2 ^ 62) := decide_eq_true_iff
theorem rng1_eq {f : En → Res Vl} : rng1 f env = (f env).bind fun u => rng1V u.d := by
  unfold rng1
  congr
  funext u
  obtain ⟨k, e⟩ := u
  cases e with
  | int j =>
    unfold rng1V
    simp only [rg_iff]
  | _ => rfl
theorem rng2_eq {f g : En → Res Vl} : rng2 f g env = (f env).bind fun u => (g env).bind fun w => rng2V u.d w.d := by
  unfold rng2
  congr
  funext u
  congr
  funext w
  obtain ⟨k, e⟩ := u
  obtain ⟨k', e'⟩ := w
  cases e <;> cases e' <;> first
    | rfl
    | (unfold rng2V
       simp only [rg_iff, and_assoc])
theorem rng1V_int : rng1V (.int a) = if rg a = true then .ok (.g, rngD 0 a.toNat) else .no := rfl
theorem rng2V_int : rng2V (.int a) (.int b) = if rg a = true ∧ rg b = true then .ok (.g, rngD a (b - a).toNat) else .no := rfl
theorem forS_eq {it : En → Res (Kd × List D)} {t : Tg} {f : En → Out} : forS it t f env = (it env).out env fun p => forO t f p.1 p.2 env := by
  unfold forS Res.out
  cases it env with
  | ok p => rfl
  | ex x => rfl
  | no => rfl
theorem lcE_eq {it : En → Res (Kd × List D)} {t : Tg} {c : En → Res Bool} {f : En → Res Vl} {own : List Nat} : lcE it t c f own env = (it env).bind fun p => if p.2.length < sizeLine then (lcO t c f p.1 (wipeE env own) p.2).nx.bind fun ds => .ok ⟨.o, .lst ds⟩ else .no := rfl
theorem lcO_nil {t : Tg} {c : En → Res Bool} {f : En → Res Vl} : lcO t c f q env [] = .ok [] := rfl
theorem lcO_cons {t : Tg} {c : En → Res Bool} {f : En → Res Vl} {x : D} : lcO t c f q env (x :: xs) = (t ⟨q, x⟩ env).bind fun e => (c e).bind fun b => if b = true then ((f e).bind keepD).bind fun d => (lcO t c f q env xs).bind fun ds => .ok (d :: ds) else lcO t c f q env xs := by
  conv => lhs; unfold lcO
  congr
  funext e
  congr
  funext b
  cases b <;> rfl
theorem nmT_eq : nmT i u env = (slotOf u).bind fun s => .ok (env.set i s) := rfl
theorem tupT_tup {n : Nat} {r : Kd → List D → En → Res En} : tupT n r ⟨q, .tup xs⟩ env = if xs.length = n then r q.sub xs env else .no := rfl
theorem consT_cons {t : Tg} {r : Kd → List D → En → Res En} : consT t r q (d :: xs) env = (t ⟨q, d⟩ env).bind fun e => r q xs e := rfl
theorem nilT_nil : nilT q [] env = .ok env := rfl
theorem wipeE_nil : wipeE env [] = env := rfl
theorem wipeE_cons {is : List Nat} : wipeE env (i :: is) = (wipeE env is).set i .no := rfl
theorem forO_nil {t : Tg} {f : En → Out} : forO t f q [] env = .nx env := rfl
/-- a turn's end -/
def Out.turn (o : Out) (g : En → Out) : Out := match o with
  | .nx e => g e
  | .ct e => g e
  | .bk e => .nx e
  | .rt u => .rt u
  | .ex e x => .ex e x
  | .no => .no
theorem forO_cons {t : Tg} {f : En → Out} {x : D} : forO t f q (x :: xs) env = (t ⟨q, x⟩ env).nxo fun e => (f e).turn fun e' => forO t f q xs e' := by
  unfold Res.nxo Out.turn
  conv => lhs; unfold forO
  cases t ⟨q, x⟩ env with
  | no => rfl
  | ex y => rfl
  | ok e => cases f e <;> rfl
theorem turn_nx {g : En → Out} : (Out.nx env).turn g = g env := rfl
theorem turn_ct {g : En → Out} : (Out.ct env).turn g = g env := rfl
theorem turn_bk {g : En → Out} : (Out.bk env).turn g = .nx env := rfl
theorem turn_rt {g : En → Out} : (Out.rt u).turn g = .rt u := rfl
theorem turn_if {c : Prop} [Decidable c] {x y : Out} {g : En → Out} : (if c then x else y).turn g = if c then x.turn g else y.turn g := by split <;> rfl
def Out.val : Out → Res Vl
  | .rt u => .ok u
  | .nx _ => .ok ⟨.g, .non⟩
  | .ex _ x => .ex x
  | _ => .no
theorem runF_eq {m n : Nat} {f : En → Out} {as : List (Bool × D)} : runF m n f as = if as.length = m then (f (startE n as)).val else .no := by
  unfold runF Out.val
  split
  · cases f (startE n as) <;> rfl
  · rfl
theorem val_rt : (Out.rt u).val = .ok u := rfl
theorem val_ex {x : Exn} : (Out.ex env x).val = .ex x := rfl
theorem val_nx : (Out.nx env).val = .ok ⟨.g, .non⟩ := rfl
theorem val_if {c : Prop} [Decidable c] {x y : Out} : (if c then x else y).val = if c then x.val else y.val := by split <;> rfl
theorem rb_if {α β : Type} {c : Prop} [Decidable c] {x y : Res α} {g : α → Res β} : (if c then x else y).bind g = if c then x.bind g else y.bind g := by split <;> rfl
theorem ro_if {α : Type} {c : Prop} [Decidable c] {x y : Res α} {g : α → Out} : (if c then x else y).out env g = if c then x.out env g else y.out env g := by split <;> rfl
theorem mulI_ok {i j : Int} (a b : Nat) (hi : i.natAbs < 2 ^ a) (hj : j.natAbs < 2 ^ b) (h0 : 0 < a := by decide) (h1 : 0 < b := by decide) (h : a + b ≤ 1000000 := by decide) : mulI i j = .ok (.int (i * j)) := by
  unfold mulI
  rw [if_pos (wide_mul hi hj h0 h1 h)]
theorem mulI_200 {i j : Int} (h1 : i.natAbs < 2 ^ 200) (h2 : j.natAbs < 2 ^ 200) : mulI i j = .ok (.int (i * j)) := mulI_ok 200 200 h1 h2
theorem divI_64 {i j : Int} (h : 0 < j) (h2 : j < 2 ^ 64) : divI i j = .ok (.int (i / j)) := by
  unfold divI
  rw [if_pos (wide_div (b := 64) h (by omega) (by decide) (by decide))]
theorem modI_ok {i j : Int} (h : 0 < j) : modI i j = .ok (.int (i % j)) := by
  unfold modI
  rw [if_pos h]
theorem if_true_true {α : Type} {a b : α} : (if true = true then a else b) = a := if_pos rfl
theorem if_false_true {α : Type} {a b : α} : (if false = true then a else b) = b := if_neg Bool.false_ne_true
theorem toPyL_ints {p : List Int} : toPyL (p.map D.int) = p.map PyData.int := by
  induction p with
  | nil => rfl
  | cons x p ih => rw [List.map_cons, List.map_cons, ← ih]; rfl
theorem eqvAll_ints : ∀ {p r : List Int}, PyData.eqvAll (p.map PyData.int) (r.map PyData.int) = decide (p = r)
  | [], [] => rfl
  | [], _ :: _ => rfl
  | _ :: _, [] => rfl
  | x :: p, y :: r => by
    have ih := eqvAll_ints (p := p) (r := r)
    rw [List.map_cons, List.map_cons]
    show (x == y && PyData.eqvAll (p.map PyData.int) (r.map PyData.int)) = _
    rw [ih]
    by_cases h : x = y <;> by_cases h2 : p = r <;> simp [h, h2]
theorem canL_ints : ∀ {p : List Int}, PyData.canLayAll0 (p.map PyData.int) = true
  | [] => rfl
  | x :: p => by
    rw [List.map_cons]
    simp [PyData.canLayAll0, PyData.canLay0, canL_ints (p := p)]
theorem depth_ints : ∀ {p : List Int}, PyData.depthAll (p.map PyData.int) = 0
  | [] => rfl
  | x :: p => by
    rw [List.map_cons]
    simp [PyData.depthAll, PyData.depth, depth_ints (p := p)]
theorem shaped_ints {p : List Int} : SeqAt.shaped (.list (p.map PyData.int)) = true := by
  simp [SeqAt.shaped, PyData.canLay0, PyData.depth, canL_ints, depth_ints]
theorem eqB_ints {n : Bool} {p r : List Int} : eqB n (.lst (p.map D.int)) (.lst (r.map D.int)) = .ok (if n then !decide (p = r) else decide (p = r)) := by
  unfold eqB
  show (if SeqAt.shaped (.list (toPyL (p.map D.int))) = true ∧ SeqAt.shaped (.list (toPyL (r.map D.int))) = true then _ else _) = _
  rw [toPyL_ints, toPyL_ints, if_pos ⟨shaped_ints, shaped_ints⟩]
  show Res.ok (if n then !PyData.eqvAll (toPyL (p.map D.int)) (toPyL (r.map D.int)) else PyData.eqvAll (toPyL (p.map D.int)) (toPyL (r.map D.int))) = _
  rw [toPyL_ints, toPyL_ints, eqvAll_ints]
theorem eqB_ints0 {n : Bool} {p : List Int} : eqB n (.lst (p.map D.int)) (.lst []) = .ok (if n then !decide (p = []) else decide (p = [])) := eqB_ints (r := [])
theorem sz_le {n : Nat} (h : n ≤ 4000000) : (n ≤ sizeLine) = True := eq_true (Nat.le_trans h (by decide))
theorem sz_lt {n : Nat} (h : n < 4000000) : (n < sizeLine) = True := eq_true (Nat.lt_trans h (by decide))
theorem powI_18 : powI 10 18 = .ok (.int 1000000000000000000) := by unfold powI; rw [if_pos (by decide)]; rfl
theorem powI_30 : powI 10 30 = .ok (.int 1000000000000000000000000000000) := by unfold powI; rw [if_pos (by decide)]; rfl
theorem ints_snoc {p : List Int} {x : Int} : p.map D.int ++ [D.int x] = (p ++ [x]).map D.int := by rw [List.map_append]; rfl
theorem ints_set {p : List Int} {x : Int} {m : Nat} : (p.map D.int).set m (D.int x) = (p.set m x).map D.int := by rw [List.map_set]
theorem ints_app {p r : List Int} : p.map D.int ++ r.map D.int = (p ++ r).map D.int := by rw [List.map_append]
theorem all_ints {p : List Int} : (p.map D.int).all flat = true := by
  rw [List.all_eq_true]
  intro x hx
  obtain ⟨y, _, rfl⟩ := List.mem_map.1 hx
  rfl
theorem lsR1_eq {f : En → Res Vl} : lsR1 f env = (f env).bind fun u => lsV u.d := by
  unfold lsR1
  congr
theorem lsR2_eq {f g : En → Res Vl} : lsR2 f g env = (f env).bind fun u => (g env).bind fun w => lsW u.d w.d := by
  unfold lsR2
  congr
theorem lsV_int : lsV (.int a) = if a.toNat ≤ 2 ^ 24 then .ok ⟨.o, .lst (rngD 0 a.toNat)⟩ else .no := rfl
theorem lsW_int : lsW (.int a) (.int b) = if (b - a).toNat ≤ 2 ^ 24 then .ok ⟨.o, .lst (rngD a (b - a).toNat)⟩ else .no := rfl
end
end DL

namespace DL
open PySem L2
section
variable {env : En} {q : Kd}
theorem rngD_zero {lo : Int} : rngD lo 0 = [] := rfl
theorem rngD_len {lo : Int} {n : Nat} : (rngD lo n).length = n := by simp [rngD]
theorem rngD_succ {lo : Int} {n : Nat} : rngD lo (n + 1) = .int lo :: rngD (lo + 1) n := by
  unfold rngD
  rw [List.range_succ_eq_map, List.map_cons, List.map_map]
  congr 1
  · show D.int (lo + ((0 : Nat) : Int)) = _
    rw [Int.natCast_zero, Int.add_zero]
  · apply List.map_congr_left
    intro i _
    show D.int (lo + ((i + 1 : Nat) : Int)) = D.int (lo + 1 + (i : Int))
    congr 1
    omega
/-- a loop over a range, by an invariant -/
theorem forO_inv {t : Tg} {f : En → Out} (I : Nat → En → Prop) (lo : Int) (n : Nat) (h0 : I 0 env) (hs : ∀ k e, k < n → I k e → ∃ e', ((t ⟨q, .int (lo + k)⟩ e).nxo fun a => f a) = .nx e' ∧ I (k + 1) e') : ∃ e', forO t f q (rngD lo n) env = .nx e' ∧ I n e' := by
  induction n generalizing lo env I with
  | zero => exact ⟨env, rfl, h0⟩
  | succ n ih =>
    obtain ⟨e1, q1, i1⟩ := hs 0 env (Nat.succ_pos n) h0
    have := ih (fun k e => I (k + 1) e) (lo + 1) i1 (fun k e hk hi => by
      obtain ⟨e', q2, i2⟩ := hs (k + 1) e (by omega) hi
      refine ⟨e', ?_, i2⟩
      rw [← q2]
      congr 3
      congr 1
      show lo + 1 + (k : Int) = lo + ((k + 1 : Nat) : Int)
      omega)
    obtain ⟨e', q3, i3⟩ := this
    refine ⟨e', ?_, i3⟩
    rw [rngD_succ, forO_cons]
    rw [Int.natCast_zero, Int.add_zero] at q1
    rw [show ((t ⟨q, .int lo⟩ env).nxo fun e => (f e).turn fun e' => forO t f q (rngD (lo + 1) n) e') = ((t ⟨q, .int lo⟩ env).nxo fun a => f a).turn fun e' => forO t f q (rngD (lo + 1) n) e' by cases t ⟨q, .int lo⟩ env <;> rfl]
    rw [q1]
    exact q3
/-- a loop over a range that may return or leave -/
theorem forO_find {t : Tg} {f : En → Out} (I : Nat → En → Prop) (P : Nat → Prop) (R : Out → Prop) (lo : Int) (n : Nat) (h0 : I 0 env) (hr : ∀ o, R o → ∃ u, o = .rt u)
    (hs : ∀ k e, k < n → I k e → (P k ∧ R ((t ⟨q, .int (lo + k)⟩ e).nxo fun a => f a)) ∨ (¬ P k ∧ ∃ e', ((t ⟨q, .int (lo + k)⟩ e).nxo fun a => f a) = .nx e' ∧ I (k + 1) e')) :
    ((∃ k, k < n ∧ P k) ∧ R (forO t f q (rngD lo n) env)) ∨ ((∀ k, k < n → ¬ P k) ∧ ∃ e', forO t f q (rngD lo n) env = .nx e' ∧ I n e') := by
  induction n generalizing lo env I P with
  | zero => exact .inr ⟨fun k hk => absurd hk (Nat.not_lt_zero k), env, rfl, h0⟩
  | succ n ih =>
    have e0 : forO t f q (rngD lo (n + 1)) env = ((t ⟨q, .int (lo + (0 : Nat))⟩ env).nxo fun a => f a).turn fun e' => forO t f q (rngD (lo + 1) n) e' := by
      rw [rngD_succ, forO_cons, Int.natCast_zero, Int.add_zero]
      cases t ⟨q, .int lo⟩ env <;> rfl
    rcases hs 0 env (Nat.succ_pos n) h0 with ⟨p, r⟩ | ⟨p, e1, q1, i1⟩
    · refine .inl ⟨⟨0, Nat.succ_pos n, p⟩, ?_⟩
      obtain ⟨u, hu⟩ := hr _ r
      rw [e0, hu, turn_rt, ← hu]
      exact r
    · have := ih (fun k e => I (k + 1) e) (fun k => P (k + 1)) (lo + 1) i1 (fun k e hk hi => by
        have := hs (k + 1) e (by omega) hi
        rw [show lo + ((k + 1 : Nat) : Int) = lo + 1 + (k : Int) by omega] at this
        exact this)
      rw [q1, turn_nx] at e0
      rw [e0]
      rcases this with ⟨⟨k, hk, pk⟩, r⟩ | ⟨h, r⟩
      · exact .inl ⟨⟨k + 1, by omega, pk⟩, r⟩
      · refine .inr ⟨fun k hk => ?_, r⟩
        cases k with
        | zero => exact p
        | succ k => exact h k (by omega)
/-- the same over a list -/
theorem forO_invL {α : Type} {t : Tg} {f : En → Out} (g : α → D) (xs : List α) (I : Nat → En → Prop) (h0 : I 0 env) (hs : ∀ k e (h : k < xs.length), I k e → ∃ e', ((t ⟨q, g xs[k]⟩ e).nxo fun a => f a) = .nx e' ∧ I (k + 1) e') : ∃ e', forO t f q (xs.map g) env = .nx e' ∧ I xs.length e' := by
  induction xs generalizing env I with
  | nil => exact ⟨env, rfl, h0⟩
  | cons x xs ih =>
    obtain ⟨e1, q1, i1⟩ := hs 0 env (Nat.succ_pos _) h0
    obtain ⟨e', q3, i3⟩ := ih (fun k e => I (k + 1) e) i1 (fun k e hk hi => hs (k + 1) e (Nat.succ_lt_succ hk) hi)
    refine ⟨e', ?_, i3⟩
    rw [List.map_cons, forO_cons]
    rw [show ((t ⟨q, g x⟩ env).nxo fun e => (f e).turn fun e' => forO t f q (xs.map g) e') = ((t ⟨q, g x⟩ env).nxo fun a => f a).turn fun e' => forO t f q (xs.map g) e' by cases t ⟨q, g x⟩ env <;> rfl]
    rw [show ((t ⟨q, g x⟩ env).nxo fun a => f a) = .nx e1 from q1]
    exact q3
theorem forO_findL {α : Type} {t : Tg} {f : En → Out} (g : α → D) (xs : List α) (I : En → Prop) (P : α → Prop) (R : Out → Prop) (h0 : I env) (hr : ∀ o, R o → ∃ u, o = .rt u)
    (hs : ∀ x e, x ∈ xs → I e → (P x ∧ R ((t ⟨q, g x⟩ e).nxo fun a => f a)) ∨ (¬ P x ∧ ∃ e', ((t ⟨q, g x⟩ e).nxo fun a => f a) = .nx e' ∧ I e')) :
    ((∃ x, x ∈ xs ∧ P x) ∧ R (forO t f q (xs.map g) env)) ∨ ((∀ x, x ∈ xs → ¬ P x) ∧ ∃ e', forO t f q (xs.map g) env = .nx e' ∧ I e') := by
  induction xs generalizing env with
  | nil => exact .inr ⟨fun x hx => absurd hx (List.not_mem_nil), env, rfl, h0⟩
  | cons x xs ih =>
    have e0 : forO t f q ((x :: xs).map g) env = ((t ⟨q, g x⟩ env).nxo fun a => f a).turn fun e' => forO t f q (xs.map g) e' := by
      rw [List.map_cons, forO_cons]
      cases t ⟨q, g x⟩ env <;> rfl
    rcases hs x env List.mem_cons_self h0 with ⟨p, r⟩ | ⟨p, e1, q1, i1⟩
    · refine .inl ⟨⟨x, List.mem_cons_self, p⟩, ?_⟩
      obtain ⟨u, hu⟩ := hr _ r
      rw [e0, hu, turn_rt, ← hu]
      exact r
    · rw [q1, turn_nx] at e0
      rw [e0]
      rcases ih i1 (fun y e hy => hs y e (List.mem_cons_of_mem _ hy)) with ⟨⟨y, hy, py⟩, r⟩ | ⟨h, r⟩
      · exact .inl ⟨⟨y, List.mem_cons_of_mem _ hy, py⟩, r⟩
      · refine .inr ⟨fun y hy => ?_, r⟩
        rcases List.mem_cons.1 hy with rfl | hy
        · exact p
        · exact h y hy
/-- a comprehension with no test, over what a map gives -/
theorem lcO_map {α : Type} {t : Tg} {f : En → Res Vl} (g h : α → D) (xs : List α) (hs : ∀ x ∈ xs, ((t ⟨q, g x⟩ env).bind fun e => (f e).bind keepD) = .ok (h x)) : lcO t yesT f q env (xs.map g) = .ok (xs.map h) := by
  induction xs with
  | nil => rfl
  | cons x xs ih =>
    rw [List.map_cons, lcO_cons]
    have h1 := hs x List.mem_cons_self
    cases q1 : t ⟨q, g x⟩ env with
    | no => rw [q1] at h1; cases h1
    | ex x => rw [q1] at h1; cases h1
    | ok e =>
      rw [q1] at h1
      have h1 : (f e).bind keepD = .ok (h x) := h1
      rw [Res.bind_ok, show yesT e = .ok true from rfl, Res.bind_ok, if_pos rfl, h1, ih fun y hy => hs y (List.mem_cons_of_mem _ hy)]
      rfl
theorem lcO_rng {t : Tg} {f : En → Res Vl} {lo : Int} {n : Nat} (h : Nat → D) (hs : ∀ k, k < n → ((t ⟨q, .int (lo + k)⟩ env).bind fun e => (f e).bind keepD) = .ok (h k)) : lcO t yesT f q env (rngD lo n) = .ok ((List.range n).map h) :=
  lcO_map (g := fun (i : Nat) => .int (lo + i)) (h := h) _ fun k hk => hs k (List.mem_range.1 hk)
theorem getD_at {α : Type} {p : List α} {i : Nat} {d : α} (h : i < p.length) : p.getD i d = p[i] := by simp [List.getD, h]
theorem ixN_in {n : Nat} {i : Int} (h0 : 0 ≤ i) (h : i < n) : ixN n i = some i.toNat := by
  unfold ixN
  rw [if_pos h0, if_pos h]
theorem atD_in {p : List D} {i : Int} (h0 : 0 ≤ i) (h : i < p.length) : atD p i = .ok (p.getD i.toNat .non) := by
  unfold atD atI
  rw [ixN_in h0 h]
  have h2 : i.toNat < p.length := by omega
  show (match p[i.toNat]? with | some d => Res.ok d | none => .no) = _
  rw [List.getElem?_eq_getElem h2, getD_at h2]
theorem atD_map {p : List Int} {i : Int} (h0 : 0 ≤ i) (h : i < p.length) : atD (p.map D.int) i = .ok (.int (p.getD i.toNat 0)) := by
  have h2 : i.toNat < p.length := by omega
  rw [atD_in h0 (by rw [List.length_map]; exact h), getD_at (by rw [List.length_map]; exact h2), List.getElem_map, getD_at h2]
theorem cutD_take {p : List D} {k : Int} (h : 0 ≤ k) : cutD p none (some k) = p.take k.toNat := by
  unfold cutD
  have h1 : HT.sIx p.length 0 none = 0 := rfl
  rw [h1, List.drop_zero, Nat.sub_zero]
  have h2 : HT.sIx p.length p.length (some k) = min k.toNat p.length := by
    have e : k = ((k.toNat : Nat) : Int) := by omega
    rw [e]
    exact HT.sIx_nat _ _ _
  rw [h2]
  by_cases h3 : k.toNat ≤ p.length
  · rw [Nat.min_eq_left h3]
  · rw [Nat.min_eq_right (by omega), List.take_length, List.take_of_length_le (by omega)]
/-! a small logic of what a text leaves -/
inductive Out.hs (N : En → Prop) (R : Vl → Prop) (B C : En → Prop) (Y : En → Exn → Prop) : Out → Prop where
  | nx {e : En} : N e → Out.hs N R B C Y (.nx e)
  | rt {u : Vl} : R u → Out.hs N R B C Y (.rt u)
  | bk {e : En} : B e → Out.hs N R B C Y (.bk e)
  | ct {e : En} : C e → Out.hs N R B C Y (.ct e)
  | ex {e : En} {x : Exn} : Y e x → Out.hs N R B C Y (.ex e x)
section
variable {N N' M : En → Prop} {R R' : Vl → Prop} {B C : En → Prop} {Y : En → Exn → Prop} {o : Out} {g : En → Out}
theorem hs_nx (h : N env) : Out.hs N R B C Y (Out.nx env) := .nx h
theorem hs_rt {u : Vl} (h : R u) : Out.hs N R B C Y (Out.rt u) := .rt h
theorem hs_ex {x : Exn} (h : Y env x) : Out.hs N R B C Y (Out.ex env x) := .ex h
theorem hs_bk (h : B env) : Out.hs N R B C Y (Out.bk env) := .bk h
theorem hs_ct (h : C env) : Out.hs N R B C Y (Out.ct env) := .ct h
theorem hs_bind (M : En → Prop) (h : Out.hs M R B C Y o) (k : ∀ e, M e → Out.hs N R B C Y (g e)) : Out.hs N R B C Y (o.bind g) := by
  cases h with
  | nx h => exact k _ h
  | rt h => exact .rt h
  | bk h => exact .bk h
  | ct h => exact .ct h
  | ex h => exact .ex h
theorem hs_mono (h : Out.hs N R B C Y o) (h1 : ∀ e, N e → N' e) (h2 : ∀ u, R u → R' u) : Out.hs N' R' B C Y o := by
  cases h with
  | nx h => exact .nx (h1 _ h)
  | rt h => exact .rt (h2 _ h)
  | bk h => exact .bk h
  | ct h => exact .ct h
  | ex h => exact .ex h
theorem hs_turn {t : Out} (h : Out.hs M R N M Y t) (k : ∀ e, M e → Out.hs N R B C Y (g e)) : Out.hs N R B C Y (t.turn g) := by
  cases h with
  | nx h => exact k _ h
  | ct h => exact k _ h
  | bk h => exact .nx h
  | rt h => exact .rt h
  | ex h => exact .ex h
theorem hs_forL {α : Type} {t : Tg} {f : En → Out} (v : α → D) (xs : List α) (I : Nat → En → Prop) (h0 : I 0 env) (hs : ∀ k e (h : k < xs.length), I k e → Out.hs (I (k + 1)) R N (I (k + 1)) Y ((t ⟨q, v xs[k]⟩ e).nxo fun a => f a)) (hl : ∀ e, I xs.length e → N e) : Out.hs N R B C Y (forO t f q (xs.map v) env) := by
  induction xs generalizing env I with
  | nil => exact .nx (hl _ h0)
  | cons x xs ih =>
    rw [List.map_cons, forO_cons]
    rw [show ((t ⟨q, v x⟩ env).nxo fun e => (f e).turn fun e' => forO t f q (xs.map v) e') = ((t ⟨q, v x⟩ env).nxo fun a => f a).turn fun e' => forO t f q (xs.map v) e' by cases t ⟨q, v x⟩ env <;> rfl]
    exact hs_turn (hs 0 env (Nat.succ_pos _) h0) fun e he => ih (fun k e => I (k + 1) e) he (fun k e hk hi => hs (k + 1) e (Nat.succ_lt_succ hk) hi) hl
theorem hs_forR {t : Tg} {f : En → Out} {lo : Int} {n : Nat} (I : Nat → En → Prop) (h0 : I 0 env) (hs : ∀ k e, k < n → I k e → Out.hs (I (k + 1)) R N (I (k + 1)) Y ((t ⟨q, .int (lo + k)⟩ e).nxo fun a => f a)) (hl : ∀ e, I n e → N e) : Out.hs N R B C Y (forO t f q (rngD lo n) env) :=
  hs_forL (fun (i : Nat) => .int (lo + i)) (List.range n) I h0 (fun k e h hi => by
    rw [List.getElem_range]
    exact hs k e (by rwa [List.length_range] at h) hi) (by rw [List.length_range]; exact hl)
theorem run_hs {m n : Nat} {b : En → Out} {as : List (Bool × D)} (h : as.length = m) (hb : Out.hs (fun _ => R ⟨.g, .non⟩) R (fun _ => False) (fun _ => False) (fun _ _ => False) (b (startE n as))) : ∃ u, runF m n b as = .ok u ∧ R u := by
  rw [runF_eq, if_pos h]
  cases q : b (startE n as) with
  | nx e => rw [q] at hb; cases hb with | nx h => exact ⟨_, rfl, h⟩
  | rt u => rw [q] at hb; cases hb with | rt h => exact ⟨_, rfl, h⟩
  | bk e => rw [q] at hb; cases hb with | bk h => exact h.elim
  | ct e => rw [q] at hb; cases hb with | ct h => exact h.elim
  | ex e x => rw [q] at hb; cases hb with | ex h => exact h.elim
  | no => rw [q] at hb; cases hb
/-- what a def that may raise hands back -/
inductive Res.hs (R : Vl → Prop) (Z : Exn → Prop) : Res Vl → Prop where
  | ok {u : Vl} : R u → Res.hs R Z (.ok u)
  | ex {x : Exn} : Z x → Res.hs R Z (.ex x)
theorem run_hsX {Z : Exn → Prop} {m n : Nat} {b : En → Out} {as : List (Bool × D)} (h : as.length = m) (hb : Out.hs (fun _ => R ⟨.g, .non⟩) R (fun _ => False) (fun _ => False) (fun _ x => Z x) (b (startE n as))) : Res.hs R Z (runF m n b as) := by
  rw [runF_eq, if_pos h]
  cases q : b (startE n as) with
  | nx e => rw [q] at hb; cases hb with | nx h => exact .ok h
  | rt u => rw [q] at hb; cases hb with | rt h => exact .ok h
  | bk e => rw [q] at hb; cases hb with | bk h => exact h.elim
  | ct e => rw [q] at hb; cases hb with | ct h => exact h.elim
  | ex e x => rw [q] at hb; cases hb with | ex h => exact .ex h
  | no => rw [q] at hb; cases hb
end
end
end DL

/-! DLf: the new forms, as equations over plain data. -/
namespace DL
open PySem L2
section
variable {q q' : Kd} {a b : Int} {env : En} {xs ys : List D} {d : D} {neg : Bool} {ns : List Int} {ps : List (Int × Int)} {c m : Str}
def dP (p : Int × Int) : D := .tup [.int p.1, .int p.2]
def dK (k : List Int × Int) : D := .tup [.tup (k.1.map D.int), .int k.2]
theorem dP_eq (p : Int × Int) : dP p = .tup [.int p.1, .int p.2] := rfl
theorem dK_eq (k : List Int × Int) : dK k = .tup [.tup (k.1.map D.int), .int k.2] := rfl
def enV : Vl → Res (Kd × List D)
  | ⟨.g, .lst xs⟩ => .ok (.g, enD xs)
  | ⟨.g, .tup xs⟩ => .ok (.g, enD xs)
  | ⟨.g, .fz xs⟩ => .ok (.g, enD xs)
  | ⟨.o, .lst xs⟩ => .ok (.g, enD xs)
  | u => enA (fun _ => .ok u) []
theorem enA_eq {f : En → Res Vl} : enA f env = (f env).bind enV := by
  unfold enA
  congr
  funext u
  obtain ⟨k, e⟩ := u
  cases k <;> cases e <;> rfl
theorem enV_gl : enV ⟨.g, .lst xs⟩ = .ok (.g, enD xs) := rfl
theorem enV_gt : enV ⟨.g, .tup xs⟩ = .ok (.g, enD xs) := rfl
theorem enV_gf : enV ⟨.g, .fz xs⟩ = .ok (.g, enD xs) := rfl
theorem enV_ol : enV ⟨.o, .lst xs⟩ = .ok (.g, enD xs) := rfl
def raV (x : Str) (ns : List Str) (env : En) : Res (List Vl) → Out
  | .ok us => if us.all Vl.keep = true ∧ us.length = ns.length then .ex env ⟨x, ns.zip (us.map Vl.d)⟩ else .no
  | _ => .no
theorem raise_eq {x : Str} {ns : List Str} {f : En → Res (List Vl)} : raiseO (mkE x ns f) env = raV x ns env (f env) := by
  unfold raiseO mkE raV
  cases f env with
  | ok us =>
    dsimp only
    by_cases h : us.all Vl.keep = true ∧ us.length = ns.length
    · rw [if_pos h, if_pos h]
    · rw [if_neg h, if_neg h]
  | ex x => rfl
  | no => rfl
theorem raV_ok {x : Str} {ns : List Str} {us : List Vl} : raV x ns env (.ok us) = if us.all Vl.keep = true ∧ us.length = ns.length then .ex env ⟨x, ns.zip (us.map Vl.d)⟩ else .no := rfl
theorem propF_eq {F : Fn} {fo : En → Res Vl} : propF c m F fo env = (fo env).bind fun o => (insV c m o).bind fun _ => (F [o.ba]).nx.bind fin := rfl
theorem callM_eq {F : Fn} {fo : En → Res Vl} {f : En → Res (List Vl)} : callM c m F fo f env = (fo env).bind fun o => (insV c m o).bind fun _ => (f env).bind fun us => (F ((o :: us).map Vl.ba)).nx.bind fin := rfl
theorem callMX_eq {F : Fn} {fo : En → Res Vl} {f : En → Res (List Vl)} : callMX c m F fo f env = (fo env).bind fun o => (insV c m o).bind fun _ => (f env).bind fun us => (F ((o :: us).map Vl.ba)).bind fin := rfl
theorem callIK_eq {F : Fn} {n m : Nat} {f g : En → Res (List Vl)} : callIK F n m f g env = (f env).bind fun us => (g env).bind fun ws => if us.length = n ∧ ws.length = m then F ((us ++ ws).map Vl.ba) else .no := rfl
theorem chE_eq {p p' : Vl → Vl → Res Vl} {f g h : En → Res Vl} : chainE p p' f g h env = (f env).bind fun x => (g env).bind fun y => (p x y).bind fun z => (boolD z.d).bind fun c => if c = true then (h env).bind fun w => p' y w else .ok ⟨.g, .bl false⟩ := by
  unfold chainE
  congr
  funext x
  congr
  funext y
  congr
  funext z
  congr
  funext c
  cases c <;> rfl
theorem inSetE_eq {i : Nat} {f : En → Res Vl} : inSetE i neg f env = (f env).bind fun u => (inSetV env[i]? u.d).bind fun b => .ok ⟨.g, .bl (if neg then !b else b)⟩ := rfl
theorem setNewO_eq {i : Nat} {t : Om} : setNewO i t env = .nx (env.set i (.om t [])) := rfl
theorem addSetO_eq {i : Nat} {f : En → Res Vl} : addSetO i f env = ((f env).bind keepD).out env fun d => (addSetV env[i]? d).out env fun s => .nx (env.set i s) := by
  unfold addSetO Res.out
  cases (f env).bind keepD with
  | ok d =>
    dsimp only
    cases h : addSetV env[i]? d with
    | ok s => rfl
    | ex x =>
      exfalso
      unfold addSetV at h
      repeat' split at h
      all_goals cases h
    | no => rfl
  | ex x => rfl
  | no => rfl
theorem cast0 : ((0 : Nat) : Int) = 0 := rfl
theorem cast1 : ((1 : Nat) : Int) = 1 := rfl
theorem cast2 : ((2 : Nat) : Int) = 2 := rfl
theorem cast3 : ((3 : Nat) : Int) = 3 := rfl
theorem cast4 : ((4 : Nat) : Int) = 4 := rfl
theorem cast5 : ((5 : Nat) : Int) = 5 := rfl
theorem not_decide_iff {p : Prop} [Decidable p] : ((!decide p) = true) = ¬ p := by by_cases h : p <;> simp [h]
theorem atD2_0 {x y : D} : atD [x, y] 0 = .ok x := rfl
theorem atD2_1 {x y : D} : atD [x, y] 1 = .ok y := rfl
theorem keep_bi : (⟨.b, .int a⟩ : Vl).keep = true := rfl
/-! ### membership -/
theorem memD_int : memD (.int a) (ns.map D.int) = decide (a ∈ ns) := by
  unfold memD
  induction ns with
  | nil => rfl
  | cons n ns ih =>
    rw [List.map_cons, List.any_cons, ih]
    show (PyData.eqv (.int n) (.int a) || decide (a ∈ ns)) = _
    have : PyData.eqv (.int n) (.int a) = decide (a = n) := by
      show (n == a) = _
      rw [Bool.beq_eq_decide_eq]
      exact decide_eq_decide.2 eq_comm
    rw [this]
    by_cases h : a = n <;> simp [h]
theorem memD_pair {p : Int × Int} : memD (dP p) (ps.map dP) = decide (p ∈ ps) := by
  unfold memD
  induction ps with
  | nil => rfl
  | cons n ns ih =>
    rw [List.map_cons, List.any_cons, ih]
    have : PyData.eqv (toPy (dP n)) (toPy (dP p)) = decide (p = n) := by
      show (n.1 == p.1 && (n.2 == p.2 && true)) = _
      obtain ⟨n1, n2⟩ := n
      obtain ⟨p1, p2⟩ := p
      show (n1 == p1 && (n2 == p2 && true)) = _
      rw [Bool.and_true, Bool.beq_eq_decide_eq, Bool.beq_eq_decide_eq, ← Bool.decide_and]
      refine decide_eq_decide.2 ⟨fun h => by rw [h.1, h.2], fun h => ?_⟩
      have := Prod.mk.inj h
      exact ⟨this.1.symm, this.2.symm⟩
    rw [this]
    by_cases h : p = n <;> simp [h]
theorem inB_int_lst : inAP neg ⟨q, .int a⟩ ⟨q', .lst (ns.map D.int)⟩ = .ok ⟨.g, .bl (if neg then !decide (a ∈ ns) else decide (a ∈ ns))⟩ := by
  show (inB (.int a) (.lst (ns.map D.int))).bind _ = _
  unfold inB
  dsimp only
  rw [if_pos (by rw [all_ints]; rfl), memD_int]
  rfl
theorem inB_int_tup : inAP neg ⟨q, .int a⟩ ⟨q', .tup (ns.map D.int)⟩ = .ok ⟨.g, .bl (if neg then !decide (a ∈ ns) else decide (a ∈ ns))⟩ := by
  unfold inAP
  dsimp only
  rw [if_pos (by rw [all_ints]; rfl)]
  show (inB (.int a) (.tup (ns.map D.int))).bind _ = _
  unfold inB
  dsimp only
  rw [if_pos (by rw [all_ints]; rfl), memD_int]
  rfl
theorem lay_pairs : ∀ {ps : List (Int × Int)}, PyData.canLayAll0 (toPyL (ps.map dP)) = true
  | [] => rfl
  | p :: ps => by
    show (PyData.canLay0 (.tuple [.int p.1, .int p.2]) && PyData.canLayAll0 (toPyL (ps.map dP))) = true
    rw [lay_pairs]
    rfl
theorem dep_pairs : ∀ {ps : List (Int × Int)}, PyData.depthAll (toPyL (ps.map dP)) ≤ 2
  | [] => by show 0 ≤ 2; omega
  | p :: ps => by
    have := dep_pairs (ps := ps)
    show max (PyData.depth (.tuple [.int p.1, .int p.2])) (PyData.depthAll (toPyL (ps.map dP))) ≤ 2
    have : PyData.depth (.tuple [.int p.1, .int p.2]) ≤ 2 := by simp [PyData.depth, PyData.depthAll]
    omega
theorem shaped_pair {p : Int × Int} : SeqAt.shaped (toPy (dP p)) = true := by
  show SeqAt.shaped (.tuple [.int p.1, .int p.2]) = true
  simp [SeqAt.shaped, PyData.canLay0, PyData.canLayAll0, PyData.depth, PyData.depthAll]
theorem shaped_pairsL : SeqAt.shaped (.list (toPyL (ps.map dP))) = true := by
  have := dep_pairs (ps := ps)
  refine Bool.and_eq_true_iff.2 ⟨lay_pairs, decide_eq_true ?_⟩
  simp only [PyData.depth]
  omega
theorem shaped_pairsT : SeqAt.shaped (.tuple (toPyL (ps.map dP))) = true := by
  have := dep_pairs (ps := ps)
  refine Bool.and_eq_true_iff.2 ⟨lay_pairs, decide_eq_true ?_⟩
  simp only [PyData.depth]
  omega
theorem inB_pair_lst : inAP neg ⟨q, .tup [.int a, .int b]⟩ ⟨q', .lst (ps.map dP)⟩ = .ok ⟨.g, .bl (if neg then !decide ((a, b) ∈ ps) else decide ((a, b) ∈ ps))⟩ := by
  show (inB (dP (a, b)) (.lst (ps.map dP))).bind _ = _
  unfold inB
  dsimp only
  rw [if_neg (by rw [show flat (dP (a, b)) = false from rfl]; exact Bool.false_ne_true), if_pos ⟨shaped_pair, shaped_pairsL⟩, memD_pair]
  rfl
theorem inB_pair_tup : inAP neg ⟨q, .tup [.int a, .int b]⟩ ⟨q', .tup (ps.map dP)⟩ = .ok ⟨.g, .bl (if neg then !decide ((a, b) ∈ ps) else decide ((a, b) ∈ ps))⟩ := by
  unfold inAP
  dsimp only
  rw [if_neg (by rw [show flat (.tup [.int a, .int b]) = false from rfl]; exact Bool.false_ne_true)]
  unfold inTP
  dsimp only
  rw [if_pos ⟨shaped_pair (p := (a, b)), shaped_pairsT⟩]
  have := memD_pair (p := (a, b)) (ps := ps)
  rw [← this]
  rfl
/-! ### sets -/
theorem tupsOf_pairs : tupsOf (ps.map dP) = some (ps.map fun p => [p.1, p.2]) := by
  have := tupsOf_map (ps.map fun p => [p.1, p.2])
  rw [List.map_map] at this
  exact this
theorem mem_two {p : Int × Int} : ([p.1, p.2] ∈ ps.map fun p => [p.1, p.2]) = (p ∈ ps) := by
  rw [List.mem_map]
  refine propext ⟨?_, fun h => ⟨p, h, rfl⟩⟩
  rintro ⟨r, h, e⟩
  have e1 : r.1 = p.1 := by injection e
  have e2 : r.2 = p.2 := by injection e with _ e; injection e
  rw [show p = r from Prod.ext e1.symm e2.symm]
  exact h
theorem inSet_pair : inSetV (some (.om .stt (ps.map dP))) (.tup [.int a, .int b]) = .ok (decide ((a, b) ∈ ps)) := by
  show (match tupsOf (ps.map dP), intsOf [.int a, .int b] with | some ks, some k => Res.ok (decide (k ∈ ks)) | _, _ => .no) = _
  rw [tupsOf_pairs]
  have := mem_two (p := (a, b)) (ps := ps)
  show Res.ok (decide ([a, b] ∈ ps.map fun p => [p.1, p.2])) = _
  rw [decide_eq_decide.2 (iff_of_eq this)]
theorem inSet_nilT : inSetV (some (.om .stt [])) (.tup [.int a, .int b]) = .ok false := inSet_pair (ps := [])
theorem inSet_int : inSetV (some (.om .sti (ns.map D.int))) (.int a) = .ok (decide (a ∈ ns)) := by
  show (match intsOf (ns.map D.int) with | some ns => Res.ok (decide (a ∈ ns)) | none => .no) = _
  rw [intsOf_map]
theorem addSet_pair : addSetV (some (.om .stt (ps.map dP))) (.tup [.int a, .int b]) = if ps.length + 1 < 64 then .ok (.om .stt ((if (a, b) ∈ ps then ps else ps ++ [(a, b)]).map dP)) else .no := by
  show (match tupsOf (ps.map dP), intsOf [.int a, .int b] with | some ks, some k => if ks.length + 1 < 64 then Res.ok (Sl.om .stt (if k ∈ ks then ps.map dP else ps.map dP ++ [D.tup [D.int a, D.int b]])) else .no | _, _ => .no) = _
  rw [tupsOf_pairs]
  show (if (ps.map fun p => [p.1, p.2]).length + 1 < 64 then Res.ok (Sl.om .stt (if [(a, b).1, (a, b).2] ∈ ps.map (fun p => [p.1, p.2]) then ps.map dP else ps.map dP ++ [dP (a, b)])) else .no) = _
  simp only [mem_two, List.length_map]
  by_cases h : (a, b) ∈ ps <;> simp [h]
theorem addSet_int : addSetV (some (.om .sti (ns.map D.int))) (.int a) = if ns.length + 1 < scanBound then .ok (.om .sti ((if a ∈ ns then ns else ns ++ [a]).map D.int)) else .no := by
  show (match intsOf (ns.map D.int) with | some ns' => if ns'.length + 1 < scanBound then Res.ok (Sl.om .sti (if a ∈ ns' then ns.map D.int else ns.map D.int ++ [D.int a])) else .no | none => .no) = _
  rw [intsOf_map]
  dsimp only
  by_cases h : a ∈ ns <;> simp [h]
/-! ### sorted, min, max, all -/
def srtBy {α : Type} (v : α → D) (xs : List α) : List α := xs.mergeSort fun a b => !PySem.W.dataLt (toPy (v b)) (toPy (v a))
theorem srtD_map {α : Type} (v : α → D) (xs : List α) : srtD (xs.map v) = (srtBy v xs).map v := (PySem.W.sort_maps v fun _ _ _ _ => rfl).symm
theorem srtBy_perm {α : Type} (v : α → D) (xs : List α) : (srtBy v xs).Perm xs := List.mergeSort_perm _ _
theorem srtOk_ints : srtOk (ns.map D.int) = true := by
  unfold srtOk
  simp only [Bool.and_eq_true, Bool.or_eq_true, List.all_eq_true, List.mem_map, forall_exists_index, and_imp, forall_apply_eq_imp_iff₂]
  exact ⟨⟨fun a _ => rfl, fun a _ b _ => by show PySem.W.alike (.int a) (.int b) = true; simp only [PySem.W.alike]⟩, .inr fun a _ => rfl⟩
theorem srtOk_pairs : srtOk (ps.map dP) = true := by
  unfold srtOk
  simp only [Bool.and_eq_true, Bool.or_eq_true, List.all_eq_true, List.mem_map, forall_exists_index, and_imp, forall_apply_eq_imp_iff₂]
  exact ⟨⟨fun a _ => shaped_pair, fun a _ b _ => by show PySem.W.alike (.tuple [.int a.1, .int a.2]) (.tuple [.int b.1, .int b.2]) = true; simp [PySem.W.alike, PySem.W.alikeAll]⟩, .inl fun a _ => rfl⟩
theorem alikeAll_int : ∀ xs ys : List Int, PySem.W.alikeAll (toPyL (xs.map D.int)) (toPyL (ys.map D.int)) = true
  | [], ys => by show PySem.W.alikeAll [] _ = true; rw [PySem.W.alikeAll]
  | x :: xs, [] => by show PySem.W.alikeAll (_ :: _) [] = true; rw [PySem.W.alikeAll]
  | x :: xs, y :: ys => by
    show PySem.W.alikeAll (PyData.int x :: toPyL (xs.map D.int)) (PyData.int y :: toPyL (ys.map D.int)) = true
    rw [PySem.W.alikeAll, alikeAll_int xs ys]
    simp [PySem.W.alike]
theorem shaped_kind {k : List Int × Int} : SeqAt.shaped (toPy (dK k)) = true := by
  show SeqAt.shaped (.tuple [.tuple (toPyL (k.1.map D.int)), .int k.2]) = true
  rw [toPyL_ints]
  simp [SeqAt.shaped, PyData.canLay0, PyData.canLayAll0, PyData.depth, PyData.depthAll, canL_ints, depth_ints]
theorem srtOk_kinds {ks : List (List Int × Int)} : srtOk (ks.map dK) = true := by
  unfold srtOk
  simp only [Bool.and_eq_true, Bool.or_eq_true, List.all_eq_true, List.mem_map, forall_exists_index, and_imp, forall_apply_eq_imp_iff₂]
  exact ⟨⟨fun a _ => shaped_kind, fun a _ b _ => by
    show PySem.W.alike (.tuple [.tuple (toPyL (a.1.map D.int)), .int a.2]) (.tuple [.tuple (toPyL (b.1.map D.int)), .int b.2]) = true
    simp [PySem.W.alike, PySem.W.alikeAll, alikeAll_int]⟩, .inl fun a _ => rfl⟩
theorem sort_ints : sortAC [⟨q, .lst (ns.map D.int)⟩] = .ok ⟨.o, .lst ((srtBy D.int ns).map D.int)⟩ := by
  show (if (q.it (ns.map D.int) && srtOk (ns.map D.int)) = true then Res.ok (⟨.o, .lst (srtD (ns.map D.int))⟩ : Vl) else .no) = _
  rw [srtOk_ints, srtD_map, if_pos (by cases q <;> first | rfl | (show ((ns.map D.int).all flat && true) = true; rw [all_ints]; rfl))]
theorem sort_intsT : sortAC [⟨q, .tup (ns.map D.int)⟩] = .ok ⟨.o, .lst ((srtBy D.int ns).map D.int)⟩ := by
  show (if (q.it (ns.map D.int) && srtOk (ns.map D.int)) = true then Res.ok (⟨.o, .lst (srtD (ns.map D.int))⟩ : Vl) else .no) = _
  rw [srtOk_ints, srtD_map, if_pos (by cases q <;> first | rfl | (show ((ns.map D.int).all flat && true) = true; rw [all_ints]; rfl))]
theorem sort_pairs : sortAC [⟨q, .lst (ps.map dP)⟩] = if q.it (ps.map dP) = true then .ok ⟨.o, .lst ((srtBy dP ps).map dP)⟩ else .no := by
  show (if (q.it (ps.map dP) && srtOk (ps.map dP)) = true then Res.ok (⟨.o, .lst (srtD (ps.map dP))⟩ : Vl) else .no) = _
  rw [srtOk_pairs, srtD_map, Bool.and_true]
theorem sort_kinds {ks : List (List Int × Int)} : sortAC [⟨q, .lst (ks.map dK)⟩] = if q.it (ks.map dK) = true then .ok ⟨.o, .lst ((srtBy dK ks).map dK)⟩ else .no := by
  show (if (q.it (ks.map dK) && srtOk (ks.map dK)) = true then Res.ok (⟨.o, .lst (srtD (ks.map dK))⟩ : Vl) else .no) = _
  rw [srtOk_kinds, srtD_map, Bool.and_true]
theorem min_pair : minAC [⟨q, .tup [.int a, .int b]⟩] = .ok ⟨.g, .int (min a b)⟩ := rfl
theorem max_pair : maxAC [⟨q, .tup [.int a, .int b]⟩] = .ok ⟨.g, .int (max a b)⟩ := rfl
theorem all_bls {bs : List Bool} : allC [⟨q, .lst (bs.map D.bl)⟩] = .ok ⟨.g, .bl (bs.all id)⟩ := by
  show (match blsOf (bs.map D.bl) with | some bs => Res.ok (⟨.g, .bl (bs.all id)⟩ : Vl) | none => .no) = _
  rw [blsOf_map]
theorem pairs_snoc : ps.map dP ++ [D.tup [.int a, .int b]] = (ps ++ [(a, b)]).map dP := by rw [List.map_append]; rfl
theorem kinds_snoc {ks : List (List Int × Int)} : ks.map dK ++ [D.tup [.tup (ns.map D.int), .int b]] = (ks ++ [(ns, b)]).map dK := by rw [List.map_append]; rfl
/-! ### loops over enumerate; comprehensions with a test -/
theorem enF_map {α : Type} (v : α → D) : ∀ (i : Nat) (xs : List α), enF i (xs.map v) = (xs.zipIdx i).map fun p => .tup [.int (p.2 : Nat), v p.1]
  | _, [] => rfl
  | i, x :: xs => by
    show D.tup [.int (i : Nat), v x] :: enF (i + 1) (xs.map v) = _
    rw [enF_map v (i + 1) xs]
    rfl
variable {N B C : En → Prop} {R : Vl → Prop} {Y : En → Exn → Prop}
theorem hs_forE {α : Type} {t : Tg} {f : En → Out} (v : α → D) (xs : List α) (I : Nat → En → Prop) (h0 : I 0 env) (hs : ∀ k e (h : k < xs.length), I k e → Out.hs (I (k + 1)) R N (I (k + 1)) Y ((t ⟨q, .tup [.int (k : Nat), v xs[k]]⟩ e).nxo fun a => f a)) (hl : ∀ e, I xs.length e → N e) : Out.hs N R B C Y (forO t f q (enD (xs.map v)) env) := by
  unfold enD
  rw [enF_map v 0 xs]
  refine hs_forL (fun p : α × Nat => .tup [.int (p.2 : Nat), v p.1]) xs.zipIdx I h0 (fun k e h hi => ?_) (by rw [List.length_zipIdx]; exact hl)
  rw [List.length_zipIdx] at h
  rw [List.getElem_zipIdx]
  have := hs k e h hi
  simpa using this
theorem lcO_filter {α : Type} {t : Tg} {c : En → Res Bool} {f : En → Res Vl} (g h : α → D) (p : α → Bool) (xs : List α) (hs : ∀ x ∈ xs, ∃ e, t ⟨q, g x⟩ env = .ok e ∧ c e = .ok (p x) ∧ (p x = true → (f e).bind keepD = .ok (h x))) : lcO t c f q env (xs.map g) = .ok ((xs.filter p).map h) := by
  induction xs with
  | nil => rfl
  | cons x xs ih =>
    obtain ⟨e, h1, h2, h3⟩ := hs x List.mem_cons_self
    rw [List.map_cons, lcO_cons, h1, Res.bind_ok, h2, Res.bind_ok, ih fun y hy => hs y (List.mem_cons_of_mem _ hy)]
    cases hp : p x with
    | true => rw [if_pos rfl, h3 hp, List.filter_cons_of_pos hp]; rfl
    | false => rw [if_neg Bool.false_ne_true, List.filter_cons_of_neg (by rw [hp]; exact Bool.false_ne_true)]
theorem hs_while {p : En → Res Bool} {b : En → Out} {n : Nat} (I : Nat → En → Prop) (h0 : I 0 env) (hs : ∀ k e, k < n → I k e → (p e = .ok false ∧ N e) ∨ (p e = .ok true ∧ Out.hs (I (k + 1)) R N (I (k + 1)) Y (b e))) (hn : ∀ e, ¬ I n e) : Out.hs N R B C Y (whileO p b n env) := by
  induction n generalizing env I with
  | zero => exact absurd h0 (hn _)
  | succ n ih =>
    unfold whileO
    rcases hs 0 env (Nat.succ_pos _) h0 with ⟨h1, h2⟩ | ⟨h1, h2⟩
    · rw [h1]
      exact .nx h2
    · rw [h1]
      dsimp only
      have go : ∀ e, I 1 e → Out.hs N R B C Y (whileO p b n e) := fun e he => ih (fun k e => I (k + 1) e) he (fun k e hk hi => hs (k + 1) e (Nat.succ_lt_succ hk) hi) hn
      cases hb : b env with
      | nx e => rw [hb] at h2; cases h2 with | nx h => exact go e h
      | ct e => rw [hb] at h2; cases h2 with | ct h => exact go e h
      | bk e => rw [hb] at h2; cases h2 with | bk h => exact .nx h
      | rt u => rw [hb] at h2; cases h2 with | rt h => exact .rt h
      | ex e x => rw [hb] at h2; cases h2 with | ex h => exact .ex h
      | no => rw [hb] at h2; cases h2
theorem sqE_eq {h : List Int → Int → Res Vl} {f g : En → Res Vl} : sqE h f g env = (f env).bind fun u => (isSq u.d).bind fun _ => (g env).bind fun w => sqP h u w := rfl
theorem isq_lst : isSq (.lst xs) = .ok () := rfl
theorem isq_tup : isSq (.tup xs) = .ok () := rfl
theorem sq_lst {h : List Int → Int → Res Vl} : sqP h ⟨q, .lst (ns.map D.int)⟩ ⟨q', .int a⟩ = h ns a := sqP_lst
theorem sq_tup {h : List Int → Int → Res Vl} : sqP h ⟨q, .tup (ns.map D.int)⟩ ⟨q', .int a⟩ = h ns a := sqP_tup
theorem ixF_in (h : a ∈ ns) (hl : ns.length ≤ 1000) : ixF ns a = .ok ⟨.g, .int (ns.idxOf a : Nat)⟩ := if_pos ⟨h, Nat.le_trans hl (by decide)⟩
theorem cnF_eq : cnF ns a = .ok ⟨.g, .int (ns.count a : Nat)⟩ := rfl
theorem atD_get {r : List Int} {k : Nat} {x : Int} (h : r[k]? = some x) : atD (r.map D.int) (k : Nat) = .ok (.int x) := by
  have hl := (List.getElem?_eq_some_iff.1 h).1
  rw [atD_map (by omega) (by omega)]
  simp [List.getD, h]
end
end DL

local macro_rules | `(tactic| walk_at "dl") => `(tactic| simp -implicitDefEqProofs only [DL.nmE_eq, DL.nmV_vl, DL.nmV_ow, DL.kd_true, DL.kd_false, DL.cE_eq, DL.binE_eq, DL.unE_eq, DL.negP_int, DL.callE_eq, DL.callF_eq, DL.callX_eq, DL.rnx_ok, DL.rnx_no, DL.rnx_ex, DL.callK_eq, DL.fin_g, DL.fin_o, DL.nilA_eq, DL.consA_eq, DL.arg_kd, DL.arg_g, DL.arg_h, DL.arg_b, DL.arg_o, DL.ba_kd, DL.ba_g, DL.ba_h, DL.keep_kd, DL.keep_g, DL.keep_o, DL.flat_int, DL.flat_bl, DL.flat_str, DL.flat_non, DL.flat_lst, DL.flat_tup, DL.slot_kd, DL.slot_g, DL.slot_b, DL.slot_o, DL.sub_kd, DL.sub_g, DL.sub_h, DL.sub_o, DL.sub_b, DL.it_kd, DL.it_g, DL.it_h, DL.it_o, DL.intP_int, DL.addP_int, DL.addP_lst, DL.addP_str, DL.addI_eq, DL.subI_eq, DL.ltI_eq, DL.leI_eq, DL.gtI_eq, DL.geI_eq, DL.modI_eq, DL.eqP_eq, DL.eqB_int, DL.eqB_str, DL.eqB_bl, DL.eqB_non, DL.isP_non, DL.isP_int_non, DL.isP_str_non, DL.isP_bl_non, DL.isP_lst_non, DL.isP_tup_non, DL.isP_bl, DL.isP_non_bl, DL.isP_int_bl, DL.isP_str_bl, DL.isP_lst_bl, DL.isP_tup_bl, DL.intC_int, DL.intC_bl, DL.absC_int, DL.min2C_int, DL.max2C_int, DL.lenC_lst, DL.lenC_tup, DL.divmodC_int, DL.sumC_ints, DL.sumC_tup, DL.listC_lst, DL.listC_tup, DL.tupleC_lst, DL.tupleC_tup, DL.ixP_lst, DL.ixP_tup, DL.tupE_eq, DL.lstE_eq, DL.isiE_eq, DL.isOb_non, DL.isOb_bl, DL.isOb_int, DL.isOb_str, DL.isOb_lst, DL.isOb_tup, DL.isOb_fz, DL.isi_non_int, DL.isi_non_str, DL.isi_non_bool, DL.isi_non_list, DL.isi_non_tuple, DL.isi_bl_int, DL.isi_bl_str, DL.isi_bl_bool, DL.isi_bl_list, DL.isi_bl_tuple, DL.isi_int_int, DL.isi_int_str, DL.isi_int_bool, DL.isi_int_list, DL.isi_int_tuple, DL.isi_str_int, DL.isi_str_str, DL.isi_str_bool, DL.isi_str_list, DL.isi_str_tuple, DL.isi_lst_int, DL.isi_lst_str, DL.isi_lst_bool, DL.isi_lst_list, DL.isi_lst_tuple, DL.isi_tup_int, DL.isi_tup_str, DL.isi_tup_bool, DL.isi_tup_list, DL.isi_tup_tuple, DL.isi_fz_int, DL.isi_fz_str, DL.isi_fz_bool, DL.isi_fz_list, DL.isi_fz_tuple, DL.slE_eq, DL.slP_lst, DL.slP_fz, DL.slP_tup, DL.noPart_eq, DL.part_eq, DL.truT_eq, DL.valT_eq, DL.truD_bl, DL.truD_int, DL.truD_lst, DL.truD_tup, DL.truD_non, DL.boolD_bl, DL.andT_eq, DL.orT_eq, DL.notT_eq, DL.andE_eq, DL.orE_eq, DL.notE_eq, DL.ifE_eq, DL.seqO_eq, DL.ob_nx, DL.ob_rt, DL.ob_bk, DL.ob_ct, DL.out_ok, DL.out_no, DL.out_ex, DL.nxo_ok, DL.nxo_no, DL.nxo_ex, DL.ob_no, DL.ob_ex, DL.setO_eq, DL.asgO_eq, DL.retO_eq, DL.retV_g, DL.retV_o, DL.retV_h, DL.ifO_eq, DL.nextO_eq, DL.dropO_eq, DL.appO_eq, DL.putO_eq, DL.keepD_eq, DL.owAt_eq, DL.owV_ow, DL.frz1_eq, DL.frzV_ow, DL.frzV_vl, DL.frzV_no, DL.augO_eq, DL.augV_int, DL.frzO_eq, DL.frz_nil, DL.frz_cons, DL.seqI_eq, DL.seqV_gf, DL.seqV_kf, DL.seqV_kd, DL.seqV_kdt, DL.seqV_g, DL.seqV_gt, DL.seqV_o, DL.seqV_b, DL.seqV_bt, DL.rg_in, DL.rng1_eq, DL.rng2_eq, DL.rng1V_int, DL.rng2V_int, DL.forS_eq, DL.lcE_eq, DL.nmT_eq, DL.tupT_tup, DL.consT_cons, DL.nilT_nil, DL.wipeE_nil, DL.wipeE_cons, DL.turn_nx, DL.turn_ct, DL.turn_bk, DL.turn_rt, DL.runF_eq, DL.val_rt, DL.val_ex, DL.val_nx, DL.rb_if, DL.ro_if, DL.modI_ok, DL.if_true_true, DL.if_false_true, DL.eqB_ints, DL.eqB_ints0, DL.sz_le, DL.sz_lt, DL.powI_18, DL.powI_30, DL.ints_snoc, DL.ints_set, DL.ints_app, DL.all_ints, DL.lsR1_eq, DL.lsR2_eq, DL.lsV_int, DL.lsW_int, DL.Res.bind_ok, DL.Res.bind_no, DL.Res.bind_xx, DL.startE, DL.yesT, DL.dP_eq, DL.dK_eq, DL.enA_eq, DL.enV_gl, DL.enV_gt, DL.enV_gf, DL.enV_ol, DL.raise_eq, DL.raV_ok, DL.propF_eq, DL.callM_eq, DL.callMX_eq, DL.callIK_eq, DL.chE_eq, DL.inSetE_eq, DL.setNewO_eq, DL.addSetO_eq, DL.cast0, DL.cast1, DL.cast2, DL.cast3, DL.cast4, DL.cast5, DL.not_decide_iff, DL.atD2_0, DL.atD2_1, DL.keep_bi, DL.inB_int_lst, DL.inB_int_tup, DL.inB_pair_lst, DL.inB_pair_tup, DL.inSet_pair, DL.inSet_nilT, DL.inSet_int, DL.addSet_pair, DL.addSet_int, DL.sort_ints, DL.sort_intsT, DL.sort_pairs, DL.sort_kinds, DL.min_pair, DL.max_pair, DL.all_bls, DL.pairs_snoc, DL.kinds_snoc, DL.sqE_eq, DL.isq_lst, DL.isq_tup, DL.sq_lst, DL.sq_tup, DL.cnF_eq, DL.addST_eq, DL.addSI_eq, DL.addSTv_om, DL.addSIv_om, List.map_cons, List.map_nil, List.length_cons, List.length_nil, List.cons_append, List.nil_append, List.getElem?_cons_zero, List.getElem?_cons_succ, List.set_cons_zero, List.set_cons_succ, Nat.reduceAdd, Nat.reduceSub, List.replicate, ↓reduceIte, List.all_cons, List.all_nil, Bool.and_true, Bool.true_and, Bool.or_true, Bool.true_or, Bool.and_self, and_true, true_and, and_self, Bool.false_eq_true, Bool.not_true, Bool.not_false, Bool.or_false, Bool.false_or, decide_eq_true_eq, List.isEmpty_cons, List.isEmpty_nil, Int.ofNat_eq_natCast, Int.reduceLT, Int.reduceLE, Int.reduceMod, Int.reduceDiv, Int.reduceAdd, Int.reduceSub, Int.reduceMul, Int.reduceNeg, Int.reduceEq, Nat.reduceLT, Nat.reduceLeDiff, Nat.reduceEqDiff, Nat.reduceMul, Nat.reducePow, Int.reducePow, Nat.reduceMod, Nat.reduceDiv, Int.reduceToNat, not_true_eq_false, not_false_eq_true, decide_true, decide_false, ite_true, ite_false, false_and, and_false, reduceCtorEq, if_true, if_false, Nat.zero_le, Int.zero_add, Int.add_zero, Int.toNat_natCast, List.length_map])
local macro_rules | `(tactic| walk_at "dlh") => `(tactic| simp -implicitDefEqProofs only [DL.nmE_eq, DL.nmV_vl, DL.nmV_ow, DL.kd_true, DL.kd_false, DL.cE_eq, DL.binE_eq, DL.unE_eq, DL.negP_int, DL.callE_eq, DL.callF_eq, DL.callX_eq, DL.rnx_ok, DL.rnx_no, DL.rnx_ex, DL.callK_eq, DL.fin_g, DL.fin_o, DL.nilA_eq, DL.consA_eq, DL.arg_kd, DL.arg_g, DL.arg_h, DL.arg_b, DL.arg_o, DL.ba_kd, DL.ba_g, DL.ba_h, DL.keep_kd, DL.keep_g, DL.keep_o, DL.flat_int, DL.flat_bl, DL.flat_str, DL.flat_non, DL.flat_lst, DL.flat_tup, DL.slot_kd, DL.slot_g, DL.slot_b, DL.slot_o, DL.sub_kd, DL.sub_g, DL.sub_h, DL.sub_o, DL.sub_b, DL.it_kd, DL.it_g, DL.it_h, DL.it_o, DL.intP_int, DL.addP_int, DL.addP_lst, DL.addP_str, DL.addI_eq, DL.subI_eq, DL.ltI_eq, DL.leI_eq, DL.gtI_eq, DL.geI_eq, DL.modI_eq, DL.eqP_eq, DL.eqB_int, DL.eqB_str, DL.eqB_bl, DL.eqB_non, DL.isP_non, DL.isP_int_non, DL.isP_str_non, DL.isP_bl_non, DL.isP_lst_non, DL.isP_tup_non, DL.isP_bl, DL.isP_non_bl, DL.isP_int_bl, DL.isP_str_bl, DL.isP_lst_bl, DL.isP_tup_bl, DL.intC_int, DL.intC_bl, DL.absC_int, DL.min2C_int, DL.max2C_int, DL.lenC_lst, DL.lenC_tup, DL.divmodC_int, DL.sumC_ints, DL.sumC_tup, DL.listC_lst, DL.listC_tup, DL.tupleC_lst, DL.tupleC_tup, DL.ixP_lst, DL.ixP_tup, DL.tupE_eq, DL.lstE_eq, DL.isiE_eq, DL.isOb_non, DL.isOb_bl, DL.isOb_int, DL.isOb_str, DL.isOb_lst, DL.isOb_tup, DL.isOb_fz, DL.isi_non_int, DL.isi_non_str, DL.isi_non_bool, DL.isi_non_list, DL.isi_non_tuple, DL.isi_bl_int, DL.isi_bl_str, DL.isi_bl_bool, DL.isi_bl_list, DL.isi_bl_tuple, DL.isi_int_int, DL.isi_int_str, DL.isi_int_bool, DL.isi_int_list, DL.isi_int_tuple, DL.isi_str_int, DL.isi_str_str, DL.isi_str_bool, DL.isi_str_list, DL.isi_str_tuple, DL.isi_lst_int, DL.isi_lst_str, DL.isi_lst_bool, DL.isi_lst_list, DL.isi_lst_tuple, DL.isi_tup_int, DL.isi_tup_str, DL.isi_tup_bool, DL.isi_tup_list, DL.isi_tup_tuple, DL.isi_fz_int, DL.isi_fz_str, DL.isi_fz_bool, DL.isi_fz_list, DL.isi_fz_tuple, DL.slE_eq, DL.slP_lst, DL.slP_fz, DL.slP_tup, DL.noPart_eq, DL.part_eq, DL.truT_eq, DL.valT_eq, DL.truD_bl, DL.truD_int, DL.truD_lst, DL.truD_tup, DL.truD_non, DL.boolD_bl, DL.andT_eq, DL.orT_eq, DL.notT_eq, DL.andE_eq, DL.orE_eq, DL.notE_eq, DL.ifE_eq, DL.seqO_eq, DL.ob_nx, DL.ob_rt, DL.ob_bk, DL.ob_ct, DL.out_ok, DL.out_no, DL.out_ex, DL.nxo_ok, DL.nxo_no, DL.nxo_ex, DL.ob_no, DL.ob_ex, DL.setO_eq, DL.asgO_eq, DL.retO_eq, DL.retV_g, DL.retV_o, DL.retV_h, DL.ifO_eq, DL.nextO_eq, DL.dropO_eq, DL.appO_eq, DL.putO_eq, DL.keepD_eq, DL.owAt_eq, DL.owV_ow, DL.frz1_eq, DL.frzV_ow, DL.frzV_vl, DL.frzV_no, DL.augO_eq, DL.augV_int, DL.frzO_eq, DL.frz_nil, DL.frz_cons, DL.seqI_eq, DL.seqV_gf, DL.seqV_kf, DL.seqV_kd, DL.seqV_kdt, DL.seqV_g, DL.seqV_gt, DL.seqV_o, DL.seqV_b, DL.seqV_bt, DL.rg_in, DL.rng1_eq, DL.rng2_eq, DL.rng1V_int, DL.rng2V_int, DL.forS_eq, DL.lcE_eq, DL.nmT_eq, DL.tupT_tup, DL.consT_cons, DL.nilT_nil, DL.wipeE_nil, DL.wipeE_cons, DL.turn_nx, DL.turn_ct, DL.turn_bk, DL.turn_rt, DL.runF_eq, DL.val_rt, DL.val_ex, DL.val_nx, DL.rb_if, DL.ro_if, DL.modI_ok, DL.if_true_true, DL.if_false_true, DL.eqB_ints, DL.eqB_ints0, DL.sz_le, DL.sz_lt, DL.powI_18, DL.powI_30, DL.ints_snoc, DL.ints_set, DL.ints_app, DL.all_ints, DL.lsR1_eq, DL.lsR2_eq, DL.lsV_int, DL.lsW_int, DL.Res.bind_ok, DL.Res.bind_no, DL.Res.bind_xx, DL.startE, DL.yesT, DL.dP_eq, DL.dK_eq, DL.enA_eq, DL.enV_gl, DL.enV_gt, DL.enV_gf, DL.enV_ol, DL.raise_eq, DL.raV_ok, DL.propF_eq, DL.callM_eq, DL.callMX_eq, DL.callIK_eq, DL.chE_eq, DL.inSetE_eq, DL.setNewO_eq, DL.addSetO_eq, DL.cast0, DL.cast1, DL.cast2, DL.cast3, DL.cast4, DL.cast5, DL.not_decide_iff, DL.atD2_0, DL.atD2_1, DL.keep_bi, DL.inB_int_lst, DL.inB_int_tup, DL.inB_pair_lst, DL.inB_pair_tup, DL.inSet_pair, DL.inSet_nilT, DL.inSet_int, DL.addSet_pair, DL.addSet_int, DL.sort_ints, DL.sort_intsT, DL.sort_pairs, DL.sort_kinds, DL.min_pair, DL.max_pair, DL.all_bls, DL.pairs_snoc, DL.kinds_snoc, DL.sqE_eq, DL.isq_lst, DL.isq_tup, DL.sq_lst, DL.sq_tup, DL.cnF_eq, DL.addST_eq, DL.addSI_eq, DL.addSTv_om, DL.addSIv_om, List.map_cons, List.map_nil, List.length_cons, List.length_nil, List.cons_append, List.nil_append, List.getElem?_cons_zero, List.getElem?_cons_succ, List.set_cons_zero, List.set_cons_succ, Nat.reduceAdd, Nat.reduceSub, List.replicate, ↓reduceIte, List.all_cons, List.all_nil, Bool.and_true, Bool.true_and, Bool.or_true, Bool.true_or, Bool.and_self, and_true, true_and, and_self, Bool.false_eq_true, Bool.not_true, Bool.not_false, Bool.or_false, Bool.false_or, decide_eq_true_eq, List.isEmpty_cons, List.isEmpty_nil, Int.ofNat_eq_natCast, Int.reduceLT, Int.reduceLE, Int.reduceMod, Int.reduceDiv, Int.reduceAdd, Int.reduceSub, Int.reduceMul, Int.reduceNeg, Int.reduceEq, Nat.reduceLT, Nat.reduceLeDiff, Nat.reduceEqDiff, Nat.reduceMul, Nat.reducePow, Int.reducePow, Nat.reduceMod, Nat.reduceDiv, Int.reduceToNat, not_true_eq_false, not_false_eq_true, decide_true, decide_false, ite_true, ite_false, false_and, and_false, reduceCtorEq, if_true, if_false, Nat.zero_le, Int.zero_add, Int.add_zero, Int.toNat_natCast, List.length_map, *])
local macro_rules | `(tactic| walk_at "dlt") => `(tactic| try walk_at "dl")

namespace Lw
open PySem L2 DL
def top (i : Nat) : Stmt := PySem.Challenge.pw_handsatwork_k02_wants_and_neighbours.main.body.getD i (.Pass ⟨0, 0, 0, 0⟩)
abbrev s_wall : Stmt := top 0
abbrev s_lower_first : Stmt := top 11
abbrev s_first_wrong_hands : Stmt := top 12
abbrev s_first_wrong_tie : Stmt := top 13
abbrev s_first_cut_off : Stmt := top 14
abbrev s_is_way : Stmt := top 15
abbrev s_first_wrong_kind : Stmt := top 16
abbrev s_first_wrong_quick : Stmt := top 17
abbrev s_first_wrong_share : Stmt := top 18
abbrev s_broken_rule : Stmt := top 19
abbrev s_check_person : Stmt := top 21
abbrev s_check_kind : Stmt := top 22
abbrev s_neighbours_of : Stmt := top 23
abbrev s_wants_along : Stmt := top 24
abbrev s_steps_along : Stmt := top 25
abbrev s_share_with : Stmt := top 26
abbrev s_law_mixed : Stmt := top 29
abbrev s_law_pool : Stmt := top 30
abbrev s_law_same : Stmt := top 31
abbrev s_law_order : Stmt := top 32
abbrev s_law_climb : Stmt := top 33
abbrev s_law_way : Stmt := top 34
abbrev s_law_shape : Stmt := top 35
abbrev s_law_normal : Stmt := top 36
abbrev s_law_fields : Stmt := top 37
abbrev s_law_web : Stmt := top 38
abbrev s_law_roam : Stmt := top 39
abbrev s_law_web_kinds : Stmt := top 40
abbrev s_law_turned : Stmt := top 41
abbrev s_law_round : Stmt := top 42
abbrev s_law_quick : Stmt := top 43
abbrev s_law_groups : Stmt := top 44
abbrev s_law_web_shape : Stmt := top 45
abbrev s_law_drawn : Stmt := top 46
abbrev s_law_due : Stmt := top 47
abbrev s_Table_is_quick : Stmt := inC (top 27) 4
abbrev s_Table_wants : Stmt := inC (top 27) 5
abbrev s_Table_steps_to : Stmt := inC (top 27) 6
abbrev s_Table_share_of : Stmt := inC (top 27) 7
abbrev s_Table_neighbours : Stmt := inC (top 27) 2
abbrev s_Table_is_tied : Stmt := inC (top 27) 3
abbrev s_law_told : Stmt := top 48
abbrev s_law_grounds : Stmt := top 49
abbrev s_Table_init : Stmt := inC (top 27) 0
abbrev s_Table_is_tree : Stmt := inC (top 27) 8
abbrev s_Table_is_round : Stmt := inC (top 27) 9
abbrev s_Table_has_one_hand : Stmt := inC (top 27) 10
abbrev s_law : Stmt := top 50
abbrev s_Table_people : Stmt := inC (top 27) 1
def cs_all : List Str := ["HandsatworkError", "BadTable", "NoSuch"]
def ys_BadTable : List Str := ["BadTable"]
def ys_HandsatworkError : List Str := ["HandsatworkError", "BadTable", "NoSuch"]
def ys_NoSuch : List Str := ["NoSuch"]
def ys_ValueError : List Str := ["HandsatworkError", "BadTable", "NoSuch"]
def cf_what : List Str := ["NoSuch"]
def oc_neighbours_u : List Str := ["Table"]
def oc_share_u : List Str := ["Table"]
def oc_steps_u : List Str := ["Table"]
def oc_wants_u : List Str := ["Table"]
def oc_hands : List Str := ["Table"]
def oc_kinds : List Str := ["Table"]
def oc_quick : List Str := ["Table"]
def oc_shares : List Str := ["Table"]
def oc_ties : List Str := ["Table"]
def oc_all : List Str := ["Table"]
theorem cf_sub {a b : List Str} (h : (a.all fun c => b.contains c) = true) : ∀ c, a.contains c = true → b.contains c = true := fun c hc => List.all_eq_true.1 h c (List.contains_iff_mem.1 hc)
abbrev si_NoSuch : Stmt := inC (top 4) 0
abbrev si_BadTable : Stmt := inC (top 3) 0
structure Tx (K : PySem.W.Frag) (mg : Str → Option Value) : Prop where
  z_ValueError : mg "ValueError" = none
  z_abs : mg "abs" = none
  z_all : mg "all" = none
  z_bool : mg "bool" = none
  z_enumerate : mg "enumerate" = none
  z_int : mg "int" = none
  z_isinstance : mg "isinstance" = none
  z_len : mg "len" = none
  z_list : mg "list" = none
  z_max : mg "max" = none
  z_min : mg "min" = none
  z_range : mg "range" = none
  z_set : mg "set" = none
  z_sorted : mg "sorted" = none
  z_str : mg "str" = none
  z_tuple : mg "tuple" = none
  g_MOST_BOUND : ∃ u, mg "MOST_BOUND" = some u ∧ RelV (vOf (.int 24)) u
  g_MOST_HANDS : ∃ u, mg "MOST_HANDS" = some u ∧ RelV (vOf (.int 4)) u
  g_MOST_KINDS : ∃ u, mg "MOST_KINDS" = some u ∧ RelV (vOf (.int 6)) u
  g_MOST_PEOPLE : ∃ u, mg "MOST_PEOPLE" = some u ∧ RelV (vOf (.int 6)) u
  g_MOST_SHARES : ∃ u, mg "MOST_SHARES" = some u ∧ RelV (vOf (.int 3)) u
  x_NoSuch : DXt K mg "NoSuch" ["what"] si_NoSuch
  x_BadTable : DXt K mg "BadTable" ["place", "index"] si_BadTable
  e_all : exAll K cs_all = true
  k_BadTable : kitAll K cs_all ys_BadTable (.ref (adr K "BadTable")) = true
  gc_BadTable : mg "BadTable" = some (.ref (adr K "BadTable"))
  k_HandsatworkError : kitAll K cs_all ys_HandsatworkError (.ref (adr K "HandsatworkError")) = true
  gc_HandsatworkError : mg "HandsatworkError" = some (.ref (adr K "HandsatworkError"))
  k_ValueError : kitAll K cs_all ys_ValueError (.type "ValueError") = true
  o_all : objAll K oc_all = true
  of_neighbours_u : noAll K "_neighbours" oc_neighbours_u = true
  of_share_u : noAll K "_share" oc_share_u = true
  of_steps_u : noAll K "_steps" oc_steps_u = true
  of_wants_u : noAll K "_wants" oc_wants_u = true
  of_hands : noAll K "hands" oc_hands = true
  of_kinds : noAll K "kinds" oc_kinds = true
  of_quick : noAll K "quick" oc_quick = true
  of_shares : noAll K "shares" oc_shares = true
  of_ties : noAll K "ties" oc_ties = true
  m_NoSuch : exmAll K cs_all ys_NoSuch (.ref (adr K "NoSuch")) = true
  gc_NoSuch : mg "NoSuch" = some (.ref (adr K "NoSuch"))
  n_what : noAll K "what" cf_what = true
  d_wall : Dn K mg "_wall" s_wall ["k"]
  d_lower_first : Dn K mg "lower_first" s_lower_first ["pair"]
  d_first_wrong_hands : Dn K mg "first_wrong_hands" s_first_wrong_hands ["hands"]
  d_first_wrong_tie : Dn K mg "first_wrong_tie" s_first_wrong_tie ["people", "ties"]
  d_first_cut_off : Dn K mg "first_cut_off" s_first_cut_off ["people", "ties"]
  d_is_way : Dn K mg "is_way" s_is_way ["people", "pairs", "way"]
  d_first_wrong_kind : Dn K mg "first_wrong_kind" s_first_wrong_kind ["people", "pairs", "kinds"]
  d_first_wrong_quick : Dn K mg "first_wrong_quick" s_first_wrong_quick ["pairs", "quick"]
  d_first_wrong_share : Dn K mg "first_wrong_share" s_first_wrong_share ["many_kinds", "shares"]
  d_broken_rule : Dn K mg "broken_rule" s_broken_rule ["hands", "ties", "kinds", "quick", "shares"]
  d_check_person : Dn K mg "check_person" s_check_person ["table", "person"]
  d_check_kind : Dn K mg "check_kind" s_check_kind ["table", "kind"]
  d_neighbours_of : Dn K mg "neighbours_of" s_neighbours_of ["person", "ties"]
  d_wants_along : Dn K mg "wants_along" s_wants_along ["people", "way"]
  d_steps_along : Dn K mg "steps_along" s_steps_along ["people", "way"]
  d_share_with : Dn K mg "share_with" s_share_with ["kind", "shares"]
  d_law_mixed : Dn K mg "_law_mixed" s_law_mixed ["number", "turn"]
  d_law_pool : Dn K mg "_law_pool" s_law_pool ["script", "many"]
  d_law_same : Dn K mg "_law_same" s_law_same ["actual", "due"]
  d_law_order : Dn K mg "_law_order" s_law_order ["pool", "start", "many"]
  d_law_climb : Dn K mg "_law_climb" s_law_climb ["parents", "person"]
  d_law_way : Dn K mg "_law_way" s_law_way ["parents", "start", "end"]
  d_law_shape : Dn K mg "_law_shape" s_law_shape ["pool", "start", "many", "kinds", "hands", "most"]
  d_law_normal : Dn K mg "_law_normal" s_law_normal ["shape", "share_rows", "quick_row"]
  d_law_fields : Dn K mg "_law_fields" s_law_fields ["table", "due"]
  d_law_web : Dn K mg "_law_web" s_law_web ["pool", "start", "many", "extra"]
  d_law_roam : Dn K mg "_law_roam" s_law_roam ["pool", "start", "many", "ties", "steps"]
  d_law_web_kinds : Dn K mg "_law_web_kinds" s_law_web_kinds ["pool", "start", "many", "ties", "kinds", "most"]
  d_law_turned : Dn K mg "_law_turned" s_law_turned ["order", "ties", "kinds"]
  d_law_round : Dn K mg "_law_round" s_law_round ["pool", "start", "many", "kinds", "hands", "most"]
  d_law_quick : Dn K mg "_law_quick" s_law_quick ["pool", "start", "ties", "share"]
  d_law_groups : Dn K mg "_law_groups" s_law_groups ["pool", "start", "kinds", "bound"]
  d_law_web_shape : Dn K mg "_law_web_shape" s_law_web_shape ["pool", "many", "kinds", "hands", "most"]
  d_law_drawn : Dn K mg "_law_drawn" s_law_drawn ["pool"]
  d_law_due : Dn K mg "_law_due" s_law_due ["normal", "which", "one", "two"]
  d_Table_is_quick : DnM K "Table" "is_quick" s_Table_is_quick ["self", "person", "other"]
  d_Table_wants : DnM K "Table" "wants" s_Table_wants ["self", "kind", "person"]
  d_Table_steps_to : DnM K "Table" "steps_to" s_Table_steps_to ["self", "kind", "person"]
  d_Table_share_of : DnM K "Table" "share_of" s_Table_share_of ["self", "kind"]
  d_Table_neighbours : DnM K "Table" "neighbours" s_Table_neighbours ["self", "person"]
  d_Table_is_tied : DnM K "Table" "is_tied" s_Table_is_tied ["self", "person", "other"]
  d_law_told : Dn K mg "_law_told" s_law_told ["table", "which", "one", "two"]
  d_law_grounds : Dn K mg "_law_grounds" s_law_grounds ["normal"]
  d_Table_init : DnI K mg "Table" s_Table_init
  d_Table_is_tree : DnM K "Table" "is_tree" s_Table_is_tree ["self"]
  d_Table_is_round : DnM K "Table" "is_round" s_Table_is_round ["self"]
  d_Table_has_one_hand : DnM K "Table" "has_one_hand" s_Table_has_one_hand ["self"]
  d_law : DnL K mg "law" s_law "script"
  d_Table_people : DnP K "Table" "people" s_Table_people ["self"]
section
variable {P : Program} {w : World} {K : PySem.W.Frag} {mg : Str → Option Value} {base : Heap}
theorem sx_NoSuch : FnScope ["self", "what"] ["self", "what"] (defScope si_NoSuch) := ⟨rfl, rfl, rfl, by decide +kernel, rfl, by decide +kernel, by decide +kernel⟩
theorem x_NoSuch (T : Tx K mg) : DX P w K mg base "NoSuch" ["what"] := dx_1 T.x_NoSuch sx_NoSuch fun fI qual cdv A outer s H E => pss_one (ps_ost (pv 0) (pv 1))
theorem sx_BadTable : FnScope ["self", "place", "index"] ["self", "place", "index"] (defScope si_BadTable) := ⟨rfl, rfl, rfl, by decide +kernel, rfl, by decide +kernel, by decide +kernel⟩
theorem x_BadTable (T : Tx K mg) : DX P w K mg base "BadTable" ["place", "index"] := dx_2 T.x_BadTable sx_BadTable (by decide) fun fI qual cdv A outer s H E => pss_cons (ps_ost (pv 0) (pv 1)) (pss_one (ps_ost (pv 0) (pv 2)))
/-! _wall: 0 k -/
def b_wall : En → Out := (whileO (truT (cE (.bl true))) nextO 1000)
def F_wall : Fn := runF 1 1 b_wall
theorem sc_wall : FnScope ["k"] ["k"] (defScope s_wall) := ⟨rfl, rfl, rfl, by decide +kernel, rfl, by decide +kernel, by decide +kernel⟩
theorem c_wall (T : Tx K mg) : Cl P w K mg base 1 "_wall" 1 F_wall [] :=
  cl_mk T.d_wall sc_wall rfl rfl fun fa cdv A outer s H E hr => ⟨_, (dss_one (ds_while 1000 PassesOwn.never (dt_tru (K := K) de_bl) (dss_one ds_pass)))⟩
/-! lower_first: 0 pair -/
def b_lower_first : En → Out := (seqO (ifO (valT (binE (intP ltI) (binE ixP (nmE 0) (cE (.int 1))) (binE ixP (nmE 0) (cE (.int 0))))) (retO (tupE (consA (binE ixP (nmE 0) (cE (.int 1))) (consA (binE ixP (nmE 0) (cE (.int 0))) nilA)))) nextO) (retO (tupE (consA (binE ixP (nmE 0) (cE (.int 0))) (consA (binE ixP (nmE 0) (cE (.int 1))) nilA)))))
def F_lower_first : Fn := runF 1 1 b_lower_first
theorem sc_lower_first : FnScope ["pair"] ["pair"] (defScope s_lower_first) := ⟨rfl, rfl, rfl, by decide +kernel, rfl, by decide +kernel, by decide +kernel⟩
theorem c_lower_first (T : Tx K mg) : Cl P w K mg base 1 "lower_first" 1 F_lower_first [] :=
  cl_mk T.d_lower_first sc_lower_first rfl rfl fun fa cdv A outer s H E hr => ⟨_, (dss_cons (ds_if (dt_cm cm_lt (de_ix (K := K) (de_nm 0) de_int) (de_ix (K := K) (de_nm 0) de_int)) (dss_one (ds_ret (de_tup (da_cons (de_ix (K := K) (de_nm 0) de_int) (da_cons (de_ix (K := K) (de_nm 0) de_int) da_nil))))) dss_nil) (dss_one (ds_ret (de_tup (da_cons (de_ix (K := K) (de_nm 0) de_int) (da_cons (de_ix (K := K) (de_nm 0) de_int) da_nil))))))⟩
/-! first_wrong_hands: 0 hands, 1 person, 2 many -/
def b_first_wrong_hands : En → Out := (seqO (frzO [0] (forS (enA (nmE 0)) (tupT 2 (consT (nmT 1) (consT (nmT 2) nilT))) (ifO (notT (valT (chainE (intP leI) (intP leI) (cE (.int 1)) (nmE 2) (cE (.int 4))))) (retO (nmE 1)) nextO))) (retO (cE .non)))
def F_first_wrong_hands : Fn := runF 1 3 b_first_wrong_hands
theorem sc_first_wrong_hands : FnScope ["hands", "person", "many"] ["hands"] (defScope s_first_wrong_hands) := ⟨rfl, rfl, rfl, by decide +kernel, rfl, by decide +kernel, by decide +kernel⟩
theorem c_first_wrong_hands (T : Tx K mg) : Cl P w K mg base 1 "first_wrong_hands" 1 F_first_wrong_hands [] :=
  cl_mk T.d_first_wrong_hands sc_first_wrong_hands rfl rfl fun fa cdv A outer s H E hr => ⟨_, (dss_cons (ds_frz [0] (ds_for PassesOwn.never rfl (di_enumA (K := K) T.z_enumerate (de_nm 0)) (dg_tup (K := K) rfl (dgs_cons (dg_nm 1 sc_first_wrong_hands.nd) (dgs_cons (dg_nm 2 sc_first_wrong_hands.nd) dgs_nil))) (dss_one (ds_if (dt_not (dt_ch cm_le cm_le de_int (de_nm 2) (de_glob (d := .int 4) T.g_MOST_HANDS))) (dss_one (ds_ret (de_nm 1))) dss_nil)))) (dss_one (ds_ret de_non)))⟩
/-! first_wrong_tie: 0 people, 1 ties, 2 known, 3 index, 4 tie, 5 pair -/
def b_first_wrong_tie : En → Out := (seqO (setNewO 2 .stt) (seqO (frzO [1] (forS (enA (nmE 1)) (tupT 2 (consT (nmT 3) (consT (nmT 4) nilT))) (seqO (ifO (orT (valT (binE (eqP true) (callE lenC (consA (nmE 4) nilA)) (cE (.int 2)))) (valT (binE (eqP false) (binE ixP (nmE 4) (cE (.int 0))) (binE ixP (nmE 4) (cE (.int 1)))))) (retO (nmE 3)) nextO) (seqO (frzO [4] (setO 5 (callF F_lower_first [] (consA (nmE 4) nilA)))) (seqO (ifO (orT (valT (binE (intP ltI) (binE ixP (nmE 5) (cE (.int 0))) (cE (.int 0)))) (orT (valT (binE (intP geI) (binE ixP (nmE 5) (cE (.int 1))) (nmE 0))) (valT (inSetE 2 false (nmE 5))))) (retO (nmE 3)) nextO) (frzO [5] (addST 2 (nmE 5)))))))) (retO (cE .non))))
def F_first_wrong_tie : Fn := runF 2 6 b_first_wrong_tie
theorem sc_first_wrong_tie : FnScope ["people", "ties", "known", "index", "tie", "pair"] ["people", "ties"] (defScope s_first_wrong_tie) := ⟨rfl, rfl, rfl, by decide +kernel, rfl, by decide +kernel, by decide +kernel⟩
theorem c_first_wrong_tie (T : Tx K mg) : Cl P w K mg base 2 "first_wrong_tie" 2 F_first_wrong_tie [] :=
  cl_mk T.d_first_wrong_tie sc_first_wrong_tie rfl rfl fun fa cdv A outer s H E hr => ⟨_, (dss_cons (ds_setT 2 sc_first_wrong_tie.nd T.z_set) (dss_cons (ds_frz [1] (ds_for PassesOwn.never rfl (di_enumA (K := K) T.z_enumerate (de_nm 1)) (dg_tup (K := K) rfl (dgs_cons (dg_nm 3 sc_first_wrong_tie.nd) (dgs_cons (dg_nm 4 sc_first_wrong_tie.nd) dgs_nil))) (dss_cons (ds_if (dt_w (dw_or (dt_cm (cm_ne (K := K) hr.units) (de_callB (K := K) (ck_len (K := K)) snc_len (by decide +kernel) T.z_len (da_cons (de_nm 4) da_nil)) de_int) (dw_or1 (dt_cm (cm_eq (K := K) hr.units) (de_ix (K := K) (de_nm 4) de_int) (de_ix (K := K) (de_nm 4) de_int))))) (dss_one (ds_ret (de_nm 3))) dss_nil) (dss_cons (ds_frz [4] (ds_set 5 sc_first_wrong_tie.nd (de_c (K := K) (c_lower_first T) hr (da_cons (de_nm 4) da_nil)))) (dss_cons (ds_if (dt_w (dw_or (dt_cm cm_lt (de_ix (K := K) (de_nm 5) de_int) de_int) (dw_or (dt_cm cm_ge (de_ix (K := K) (de_nm 5) de_int) (de_nm 0)) (dw_or1 (dt_inSet 2 hr.units (de_nm 5)))))) (dss_one (ds_ret (de_nm 3))) dss_nil) (dss_one (ds_frz [5] (ds_addT 2 hr.units (de_nm 5))))))))) (dss_one (ds_ret de_non))))⟩
/-! first_cut_off: 0 people, 1 ties, 2 reached, 3 at, 4 first, 5 second, 6 person -/
def b_first_cut_off : En → Out := (seqO (setO 2 (lstE (consA (cE (.int 0)) nilA))) (seqO (setO 3 (cE (.int 0))) (seqO (whileO (valT (binE (intP ltI) (nmE 3) (callE lenC (consA (nmE 2) nilA)))) (seqO (frzO [1] (forS (seqI (nmE 1)) (tupT 2 (consT (nmT 4) (consT (nmT 5) nilT))) (seqO (ifO (andT (valT (binE (eqP false) (nmE 4) (binE ixP (nmE 2) (nmE 3)))) (valT (binE (inAP true) (nmE 5) (nmE 2)))) (frzO [5] (appO 2 (nmE 5))) nextO) (ifO (andT (valT (binE (eqP false) (nmE 5) (binE ixP (nmE 2) (nmE 3)))) (valT (binE (inAP true) (nmE 4) (nmE 2)))) (frzO [4] (appO 2 (nmE 4))) nextO)))) (augO 3 (fun i j => i + j) (cE (.int 1)))) 1000) (seqO (forS (rng1 (nmE 0)) (nmT 6) (ifO (valT (binE (inAP true) (nmE 6) (nmE 2))) (retO (nmE 6)) nextO)) (retO (cE .non))))))
def F_first_cut_off : Fn := runF 2 7 b_first_cut_off
theorem sc_first_cut_off : FnScope ["people", "ties", "reached", "at", "first", "second", "person"] ["people", "ties"] (defScope s_first_cut_off) := ⟨rfl, rfl, rfl, by decide +kernel, rfl, by decide +kernel, by decide +kernel⟩
theorem c_first_cut_off (T : Tx K mg) : Cl P w K mg base 1 "first_cut_off" 2 F_first_cut_off [] :=
  cl_mk T.d_first_cut_off sc_first_cut_off rfl rfl fun fa cdv A outer s H E hr => ⟨_, (dss_cons (ds_set 2 sc_first_cut_off.nd (de_lst (da_cons de_int da_nil))) (dss_cons (ds_set 3 sc_first_cut_off.nd de_int) (dss_cons (ds_while 1000 PassesOwn.never (dt_cm cm_lt (de_nm 3) (de_callB (K := K) (ck_len (K := K)) snc_len (by decide +kernel) T.z_len (da_cons (de_nm 2) da_nil))) (dss_cons (ds_frz [1] (ds_for PassesOwn.never rfl (di_seq (de_nm 1)) (dg_tup (K := K) rfl (dgs_cons (dg_nm 4 sc_first_cut_off.nd) (dgs_cons (dg_nm 5 sc_first_cut_off.nd) dgs_nil))) (dss_cons (ds_if (dt_w (dw_and (dt_cm (cm_eq (K := K) hr.units) (de_nm 4) (de_ix (K := K) (de_nm 2) (de_nm 3))) (dw_and1 (dt_cm (cm_notInA (K := K) hr.u100) (de_nm 5) (de_nm 2))))) (dss_one (ds_frz [5] (ds_app 2 (de_nm 5)))) dss_nil) (dss_one (ds_if (dt_w (dw_and (dt_cm (cm_eq (K := K) hr.units) (de_nm 5) (de_ix (K := K) (de_nm 2) (de_nm 3))) (dw_and1 (dt_cm (cm_notInA (K := K) hr.u100) (de_nm 4) (de_nm 2))))) (dss_one (ds_frz [4] (ds_app 2 (de_nm 4)))) dss_nil))))) (dss_one (ds_augAdd 3 sc_first_cut_off.nd de_int)))) (dss_cons (ds_for PassesOwn.never rfl (di_rng1 T.z_range (de_nm 0)) (dg_nm 6 sc_first_cut_off.nd) (dss_one (ds_if (dt_cm (cm_notInA (K := K) hr.u100) (de_nm 6) (de_nm 2)) (dss_one (ds_ret (de_nm 6))) dss_nil))) (dss_one (ds_ret de_non))))))⟩
/-! is_way: 0 people, 1 pairs, 2 way, 3 index, 4 person -/
def b_is_way : En → Out := (seqO (ifO (valT (binE (intP ltI) (callE lenC (consA (nmE 2) nilA)) (cE (.int 2)))) (retO (cE (.bl false))) nextO) (seqO (frzO [2] (forS (enA (nmE 2)) (tupT 2 (consT (nmT 3) (consT (nmT 4) nilT))) (seqO (ifO (orT (notT (valT (chainE (intP leI) (intP ltI) (cE (.int 0)) (nmE 4) (nmE 0)))) (valT (binE (inAP false) (nmE 4) (slE (nmE 2) noPart (part (nmE 3)))))) (retO (cE (.bl false))) nextO) (frzO [4] (ifO (andT (valT (binE (intP gtI) (nmE 3) (cE (.int 0)))) (valT (binE (inAP true) (callF F_lower_first [] (consA (tupE (consA (binE ixP (nmE 2) (binE (intP subI) (nmE 3) (cE (.int 1)))) (consA (nmE 4) nilA))) nilA)) (nmE 1)))) (retO (cE (.bl false))) nextO))))) (retO (cE (.bl true)))))
def F_is_way : Fn := runF 3 5 b_is_way
theorem sc_is_way : FnScope ["people", "pairs", "way", "index", "person"] ["people", "pairs", "way"] (defScope s_is_way) := ⟨rfl, rfl, rfl, by decide +kernel, rfl, by decide +kernel, by decide +kernel⟩
theorem c_is_way (T : Tx K mg) : Cl P w K mg base 2 "is_way" 3 F_is_way [] :=
  cl_mk T.d_is_way sc_is_way rfl rfl fun fa cdv A outer s H E hr => ⟨_, (dss_cons (ds_if (dt_cm cm_lt (de_callB (K := K) (ck_len (K := K)) snc_len (by decide +kernel) T.z_len (da_cons (de_nm 2) da_nil)) de_int) (dss_one (ds_ret de_bl)) dss_nil) (dss_cons (ds_frz [2] (ds_for PassesOwn.never rfl (di_enumA (K := K) T.z_enumerate (de_nm 2)) (dg_tup (K := K) rfl (dgs_cons (dg_nm 3 sc_is_way.nd) (dgs_cons (dg_nm 4 sc_is_way.nd) dgs_nil))) (dss_cons (ds_if (dt_w (dw_or (dt_not (dt_ch cm_le cm_lt de_int (de_nm 4) (de_nm 0))) (dw_or1 (dt_cm (cm_inA (K := K) hr.u100) (de_nm 4) (de_sl (K := K) (de_nm 2) do_none (do_some (de_nm 3))))))) (dss_one (ds_ret de_bl)) dss_nil) (dss_one (ds_frz [4] (ds_if (dt_w (dw_and (dt_cm cm_gt (de_nm 3) de_int) (dw_and1 (dt_cm (cm_notInA (K := K) hr.u100) (de_c (K := K) (c_lower_first T) hr (da_cons (de_tup (da_cons (de_ix (K := K) (de_nm 2) (de_sub (de_nm 3) de_int)) (da_cons (de_nm 4) da_nil))) da_nil)) (de_nm 1))))) (dss_one (ds_ret de_bl)) dss_nil)))))) (dss_one (ds_ret de_bl))))⟩
/-! first_wrong_kind: 0 people, 1 pairs, 2 kinds, 3 index, 4 way, 5 most -/
def b_first_wrong_kind : En → Out := (seqO (frzO [2] (forS (enA (nmE 2)) (tupT 2 (consT (nmT 3) (consT (tupT 2 (consT (nmT 4) (consT (nmT 5) nilT))) nilT))) (frzO [0, 1, 4] (ifO (orT (valT (binE (intP geI) (nmE 3) (cE (.int 6)))) (orT (notT (truT (callF F_is_way [] (consA (nmE 0) (consA (nmE 1) (consA (nmE 4) nilA)))))) (notT (valT (chainE (intP leI) (intP leI) (cE (.int 0)) (nmE 5) (cE (.int 24))))))) (retO (nmE 3)) nextO)))) (retO (cE .non)))
def F_first_wrong_kind : Fn := runF 3 6 b_first_wrong_kind
theorem sc_first_wrong_kind : FnScope ["people", "pairs", "kinds", "index", "way", "most"] ["people", "pairs", "kinds"] (defScope s_first_wrong_kind) := ⟨rfl, rfl, rfl, by decide +kernel, rfl, by decide +kernel, by decide +kernel⟩
theorem c_first_wrong_kind (T : Tx K mg) : Cl P w K mg base 3 "first_wrong_kind" 3 F_first_wrong_kind [] :=
  cl_mk T.d_first_wrong_kind sc_first_wrong_kind rfl rfl fun fa cdv A outer s H E hr => ⟨_, (dss_cons (ds_frz [2] (ds_for PassesOwn.never rfl (di_enumA (K := K) T.z_enumerate (de_nm 2)) (dg_tup (K := K) rfl (dgs_cons (dg_nm 3 sc_first_wrong_kind.nd) (dgs_cons (dg_tup (K := K) rfl (dgs_cons (dg_nm 4 sc_first_wrong_kind.nd) (dgs_cons (dg_nm 5 sc_first_wrong_kind.nd) dgs_nil))) dgs_nil))) (dss_one (ds_frz [0, 1, 4] (ds_if (dt_w (dw_or (dt_cm cm_ge (de_nm 3) (de_glob (d := .int 6) T.g_MOST_KINDS)) (dw_or (dt_not (dt_tru (K := K) (de_c (K := K) (c_is_way T) hr (da_cons (de_nm 0) (da_cons (de_nm 1) (da_cons (de_nm 4) da_nil)))))) (dw_or1 (dt_not (dt_ch cm_le cm_le de_int (de_nm 5) (de_glob (d := .int 24) T.g_MOST_BOUND))))))) (dss_one (ds_ret (de_nm 3))) dss_nil))))) (dss_one (ds_ret de_non)))⟩
/-! first_wrong_quick: 0 pairs, 1 quick, 2 known, 3 index, 4 tie, 5 pair -/
def b_first_wrong_quick : En → Out := (seqO (setNewO 2 .stt) (seqO (frzO [1] (forS (enA (nmE 1)) (tupT 2 (consT (nmT 3) (consT (nmT 4) nilT))) (seqO (ifO (valT (binE (eqP true) (callE lenC (consA (nmE 4) nilA)) (cE (.int 2)))) (retO (nmE 3)) nextO) (seqO (frzO [4] (setO 5 (callF F_lower_first [] (consA (nmE 4) nilA)))) (seqO (ifO (orT (valT (binE (inAP true) (nmE 5) (nmE 0))) (valT (inSetE 2 false (nmE 5)))) (retO (nmE 3)) nextO) (frzO [5] (addST 2 (nmE 5)))))))) (retO (cE .non))))
def F_first_wrong_quick : Fn := runF 2 6 b_first_wrong_quick
theorem sc_first_wrong_quick : FnScope ["pairs", "quick", "known", "index", "tie", "pair"] ["pairs", "quick"] (defScope s_first_wrong_quick) := ⟨rfl, rfl, rfl, by decide +kernel, rfl, by decide +kernel, by decide +kernel⟩
theorem c_first_wrong_quick (T : Tx K mg) : Cl P w K mg base 2 "first_wrong_quick" 2 F_first_wrong_quick [] :=
  cl_mk T.d_first_wrong_quick sc_first_wrong_quick rfl rfl fun fa cdv A outer s H E hr => ⟨_, (dss_cons (ds_setT 2 sc_first_wrong_quick.nd T.z_set) (dss_cons (ds_frz [1] (ds_for PassesOwn.never rfl (di_enumA (K := K) T.z_enumerate (de_nm 1)) (dg_tup (K := K) rfl (dgs_cons (dg_nm 3 sc_first_wrong_quick.nd) (dgs_cons (dg_nm 4 sc_first_wrong_quick.nd) dgs_nil))) (dss_cons (ds_if (dt_cm (cm_ne (K := K) hr.units) (de_callB (K := K) (ck_len (K := K)) snc_len (by decide +kernel) T.z_len (da_cons (de_nm 4) da_nil)) de_int) (dss_one (ds_ret (de_nm 3))) dss_nil) (dss_cons (ds_frz [4] (ds_set 5 sc_first_wrong_quick.nd (de_c (K := K) (c_lower_first T) hr (da_cons (de_nm 4) da_nil)))) (dss_cons (ds_if (dt_w (dw_or (dt_cm (cm_notInA (K := K) hr.u100) (de_nm 5) (de_nm 0)) (dw_or1 (dt_inSet 2 hr.units (de_nm 5))))) (dss_one (ds_ret (de_nm 3))) dss_nil) (dss_one (ds_frz [5] (ds_addT 2 hr.units (de_nm 5))))))))) (dss_one (ds_ret de_non))))⟩
/-! first_wrong_share: 0 many_kinds, 1 shares, 2 taken, 3 index, 4 kinds, 5 bound, 6 kind -/
def b_first_wrong_share : En → Out := (seqO (setNewO 2 .sti) (seqO (frzO [1] (forS (enA (nmE 1)) (tupT 2 (consT (nmT 3) (consT (tupT 2 (consT (nmT 4) (consT (nmT 5) nilT))) nilT))) (seqO (ifO (orT (valT (binE (intP geI) (nmE 3) (cE (.int 3)))) (orT (valT (binE (eqP false) (callE lenC (consA (nmE 4) nilA)) (cE (.int 0)))) (notT (valT (chainE (intP leI) (intP leI) (cE (.int 0)) (nmE 5) (cE (.int 24))))))) (retO (nmE 3)) nextO) (frzO [4] (forS (seqI (nmE 4)) (nmT 6) (seqO (ifO (orT (notT (valT (chainE (intP leI) (intP ltI) (cE (.int 0)) (nmE 6) (nmE 0)))) (valT (inSetE 2 false (nmE 6)))) (retO (nmE 3)) nextO) (frzO [6] (addSI 2 (nmE 6))))))))) (retO (cE .non))))
def F_first_wrong_share : Fn := runF 2 7 b_first_wrong_share
theorem sc_first_wrong_share : FnScope ["many_kinds", "shares", "taken", "index", "kinds", "bound", "kind"] ["many_kinds", "shares"] (defScope s_first_wrong_share) := ⟨rfl, rfl, rfl, by decide +kernel, rfl, by decide +kernel, by decide +kernel⟩
theorem c_first_wrong_share (T : Tx K mg) : Cl P w K mg base 1 "first_wrong_share" 2 F_first_wrong_share [] :=
  cl_mk T.d_first_wrong_share sc_first_wrong_share rfl rfl fun fa cdv A outer s H E hr => ⟨_, (dss_cons (ds_setI 2 sc_first_wrong_share.nd T.z_set) (dss_cons (ds_frz [1] (ds_for PassesOwn.never rfl (di_enumA (K := K) T.z_enumerate (de_nm 1)) (dg_tup (K := K) rfl (dgs_cons (dg_nm 3 sc_first_wrong_share.nd) (dgs_cons (dg_tup (K := K) rfl (dgs_cons (dg_nm 4 sc_first_wrong_share.nd) (dgs_cons (dg_nm 5 sc_first_wrong_share.nd) dgs_nil))) dgs_nil))) (dss_cons (ds_if (dt_w (dw_or (dt_cm cm_ge (de_nm 3) (de_glob (d := .int 3) T.g_MOST_SHARES)) (dw_or (dt_cm (cm_eq (K := K) hr.units) (de_callB (K := K) (ck_len (K := K)) snc_len (by decide +kernel) T.z_len (da_cons (de_nm 4) da_nil)) de_int) (dw_or1 (dt_not (dt_ch cm_le cm_le de_int (de_nm 5) (de_glob (d := .int 24) T.g_MOST_BOUND))))))) (dss_one (ds_ret (de_nm 3))) dss_nil) (dss_one (ds_frz [4] (ds_for PassesOwn.never rfl (di_seq (de_nm 4)) (dg_nm 6 sc_first_wrong_share.nd) (dss_cons (ds_if (dt_w (dw_or (dt_not (dt_ch cm_le cm_lt de_int (de_nm 6) (de_nm 0))) (dw_or1 (dt_inSet 2 hr.units (de_nm 6))))) (dss_one (ds_ret (de_nm 3))) dss_nil) (dss_one (ds_frz [6] (ds_addI 2 (de_nm 6))))))))))) (dss_one (ds_ret de_non))))⟩
/-! broken_rule: 0 hands, 1 ties, 2 kinds, 3 quick, 4 shares, 5 people, 6 person, 7 index, 8 tie, 9 pairs -/
def b_broken_rule : En → Out := (seqO (setO 5 (callE lenC (consA (nmE 0) nilA))) (seqO (ifO (notT (valT (chainE (intP leI) (intP leI) (cE (.int 1)) (nmE 5) (cE (.int 6))))) (frzO [5] (retO (tupE (consA (cE (.str "people")) (consA (nmE 5) nilA))))) nextO) (seqO (frzO [0] (setO 6 (callF F_first_wrong_hands [] (consA (nmE 0) nilA)))) (seqO (ifO (valT (binE (isP true) (nmE 6) (cE .non))) (frzO [6] (retO (tupE (consA (cE (.str "hands")) (consA (nmE 6) nilA))))) nextO) (seqO (frzO [5, 1] (setO 7 (callF F_first_wrong_tie [] (consA (nmE 5) (consA (nmE 1) nilA))))) (seqO (ifO (valT (binE (isP true) (nmE 7) (cE .non))) (frzO [7] (retO (tupE (consA (cE (.str "ties")) (consA (nmE 7) nilA))))) nextO) (seqO (frzO [5, 1] (setO 6 (callF F_first_cut_off [] (consA (nmE 5) (consA (nmE 1) nilA))))) (seqO (ifO (valT (binE (isP true) (nmE 6) (cE .non))) (frzO [6] (retO (tupE (consA (cE (.str "web")) (consA (nmE 6) nilA))))) nextO) (seqO (frzO [1, 8] (setO 9 (lcE (seqI (nmE 1)) (nmT 8) yesT (callF F_lower_first [] (consA (nmE 8) nilA)) [8]))) (seqO (frzO [5, 9, 2] (setO 7 (callF F_first_wrong_kind [] (consA (nmE 5) (consA (nmE 9) (consA (nmE 2) nilA)))))) (seqO (ifO (valT (binE (isP true) (nmE 7) (cE .non))) (frzO [7] (retO (tupE (consA (cE (.str "kinds")) (consA (nmE 7) nilA))))) nextO) (seqO (frzO [9, 3] (setO 7 (callF F_first_wrong_quick [] (consA (nmE 9) (consA (nmE 3) nilA))))) (seqO (ifO (valT (binE (isP true) (nmE 7) (cE .non))) (frzO [7] (retO (tupE (consA (cE (.str "quick")) (consA (nmE 7) nilA))))) nextO) (seqO (frzO [4] (setO 7 (callF F_first_wrong_share [] (consA (callE lenC (consA (nmE 2) nilA)) (consA (nmE 4) nilA))))) (seqO (ifO (valT (binE (isP true) (nmE 7) (cE .non))) (frzO [7] (retO (tupE (consA (cE (.str "shares")) (consA (nmE 7) nilA))))) nextO) (retO (cE .non)))))))))))))))))
def F_broken_rule : Fn := runF 5 10 b_broken_rule
theorem sc_broken_rule : FnScope ["hands", "ties", "kinds", "quick", "shares", "people", "person", "index", "tie", "pairs"] ["hands", "ties", "kinds", "quick", "shares"] (defScope s_broken_rule) := ⟨rfl, rfl, rfl, by decide +kernel, rfl, by decide +kernel, by decide +kernel⟩
theorem c_broken_rule (T : Tx K mg) : Cl P w K mg base 4 "broken_rule" 5 F_broken_rule [] :=
  cl_mk T.d_broken_rule sc_broken_rule rfl rfl fun fa cdv A outer s H E hr => ⟨_, (dss_cons (ds_set 5 sc_broken_rule.nd (de_callB (K := K) (ck_len (K := K)) snc_len (by decide +kernel) T.z_len (da_cons (de_nm 0) da_nil))) (dss_cons (ds_if (dt_not (dt_ch cm_le cm_le de_int (de_nm 5) (de_glob (d := .int 6) T.g_MOST_PEOPLE))) (dss_one (ds_frz [5] (ds_ret (de_tup (da_cons de_str (da_cons (de_nm 5) da_nil)))))) dss_nil) (dss_cons (ds_frz [0] (ds_set 6 sc_broken_rule.nd (de_c (K := K) (c_first_wrong_hands T) hr (da_cons (de_nm 0) da_nil)))) (dss_cons (ds_if (dt_cm cm_isNot (de_nm 6) de_non) (dss_one (ds_frz [6] (ds_ret (de_tup (da_cons de_str (da_cons (de_nm 6) da_nil)))))) dss_nil) (dss_cons (ds_frz [5, 1] (ds_set 7 sc_broken_rule.nd (de_c (K := K) (c_first_wrong_tie T) hr (da_cons (de_nm 5) (da_cons (de_nm 1) da_nil))))) (dss_cons (ds_if (dt_cm cm_isNot (de_nm 7) de_non) (dss_one (ds_frz [7] (ds_ret (de_tup (da_cons de_str (da_cons (de_nm 7) da_nil)))))) dss_nil) (dss_cons (ds_frz [5, 1] (ds_set 6 sc_broken_rule.nd (de_c (K := K) (c_first_cut_off T) hr (da_cons (de_nm 5) (da_cons (de_nm 1) da_nil))))) (dss_cons (ds_if (dt_cm cm_isNot (de_nm 6) de_non) (dss_one (ds_frz [6] (ds_ret (de_tup (da_cons de_str (da_cons (de_nm 6) da_nil)))))) dss_nil) (dss_cons (ds_frz [1, 8] (ds_setLc (own := [("tie", 8)]) (ws := [8]) 9 rfl sc_broken_rule.nd (di_seq (de_nm 1)) (blkOk_by (N := ["hands", "ties", "kinds", "quick", "shares", "people", "person", "index", "tie", "pairs"]) (sc := defScope s_broken_rule) (by decide +kernel)) (fun _ _ _ _ _ => (dg_nm 8 sc_broken_rule.nd)) (fun _ _ _ _ _ => dts_nil) (fun _ _ _ _ _ => (de_c (K := K) (c_lower_first T) hr (da_cons (de_nm 8) da_nil))) s H (sw_true rfl rfl rfl (by decide +kernel)))) (dss_cons (ds_frz [5, 9, 2] (ds_set 7 sc_broken_rule.nd (de_c (K := K) (c_first_wrong_kind T) hr (da_cons (de_nm 5) (da_cons (de_nm 9) (da_cons (de_nm 2) da_nil)))))) (dss_cons (ds_if (dt_cm cm_isNot (de_nm 7) de_non) (dss_one (ds_frz [7] (ds_ret (de_tup (da_cons de_str (da_cons (de_nm 7) da_nil)))))) dss_nil) (dss_cons (ds_frz [9, 3] (ds_set 7 sc_broken_rule.nd (de_c (K := K) (c_first_wrong_quick T) hr (da_cons (de_nm 9) (da_cons (de_nm 3) da_nil))))) (dss_cons (ds_if (dt_cm cm_isNot (de_nm 7) de_non) (dss_one (ds_frz [7] (ds_ret (de_tup (da_cons de_str (da_cons (de_nm 7) da_nil)))))) dss_nil) (dss_cons (ds_frz [4] (ds_set 7 sc_broken_rule.nd (de_c (K := K) (c_first_wrong_share T) hr (da_cons (de_callB (K := K) (ck_len (K := K)) snc_len (by decide +kernel) T.z_len (da_cons (de_nm 2) da_nil)) (da_cons (de_nm 4) da_nil))))) (dss_cons (ds_if (dt_cm cm_isNot (de_nm 7) de_non) (dss_one (ds_frz [7] (ds_ret (de_tup (da_cons de_str (da_cons (de_nm 7) da_nil)))))) dss_nil) (dss_one (ds_ret de_non)))))))))))))))))⟩
/-! check_person: 0 table, 1 person -/
def b_check_person : En → Out := (ifO (notT (valT (chainE (intP leI) (intP ltI) (cE (.int 0)) (nmE 1) (callE lenC (consA (unE (fldP "hands" oc_hands) (nmE 0)) nilA))))) (raiseO (mkE "NoSuch" ["what"] (consA (cE (.str "person")) nilA))) nextO)
def F_check_person : Fn := runF 2 2 b_check_person
theorem sc_check_person : FnScope ["table", "person"] ["table", "person"] (defScope s_check_person) := ⟨rfl, rfl, rfl, by decide +kernel, rfl, by decide +kernel, by decide +kernel⟩
theorem c_check_person (T : Tx K mg) : ClX P w K mg base 3 "check_person" 2 F_check_person :=
  clX_mk T.d_check_person sc_check_person rfl rfl fun fa cdv A outer s H E hr tk => ⟨_, (dss_one (ds_if (dt_not (dt_ch cm_le cm_lt de_int (de_nm 1) (de_callB (K := K) (ck_len (K := K)) snc_len (by decide +kernel) T.z_len (da_cons (de_fld (K := K) oc_hands (fun c h => objAll_c T.o_all c (cf_sub (a := oc_hands) (by decide +kernel) c h)) (noAll_c T.of_hands) (de_nm 0)) da_nil)))) (dss_one (ds_raise rfl tk (dm_mk (K := K) (x_NoSuch T) hr (da_cons de_str da_nil)))) dss_nil))⟩
/-! check_kind: 0 table, 1 kind -/
def b_check_kind : En → Out := (ifO (notT (valT (chainE (intP leI) (intP ltI) (cE (.int 0)) (nmE 1) (callE lenC (consA (unE (fldP "kinds" oc_kinds) (nmE 0)) nilA))))) (raiseO (mkE "NoSuch" ["what"] (consA (cE (.str "kind")) nilA))) nextO)
def F_check_kind : Fn := runF 2 2 b_check_kind
theorem sc_check_kind : FnScope ["table", "kind"] ["table", "kind"] (defScope s_check_kind) := ⟨rfl, rfl, rfl, by decide +kernel, rfl, by decide +kernel, by decide +kernel⟩
theorem c_check_kind (T : Tx K mg) : ClX P w K mg base 3 "check_kind" 2 F_check_kind :=
  clX_mk T.d_check_kind sc_check_kind rfl rfl fun fa cdv A outer s H E hr tk => ⟨_, (dss_one (ds_if (dt_not (dt_ch cm_le cm_lt de_int (de_nm 1) (de_callB (K := K) (ck_len (K := K)) snc_len (by decide +kernel) T.z_len (da_cons (de_fld (K := K) oc_kinds (fun c h => objAll_c T.o_all c (cf_sub (a := oc_kinds) (by decide +kernel) c h)) (noAll_c T.of_kinds) (de_nm 0)) da_nil)))) (dss_one (ds_raise rfl tk (dm_mk (K := K) (x_NoSuch T) hr (da_cons de_str da_nil)))) dss_nil))⟩
/-! neighbours_of: 0 person, 1 ties, 2 found, 3 first, 4 second -/
def b_neighbours_of : En → Out := (seqO (setO 2 (lstE nilA)) (seqO (frzO [1] (forS (seqI (nmE 1)) (tupT 2 (consT (nmT 3) (consT (nmT 4) nilT))) (seqO (ifO (valT (binE (eqP false) (nmE 3) (nmE 0))) (frzO [4] (appO 2 (nmE 4))) nextO) (ifO (valT (binE (eqP false) (nmE 4) (nmE 0))) (frzO [3] (appO 2 (nmE 3))) nextO)))) (retO (callE tupleC (consA (callE sortAC (consA (nmE 2) nilA)) nilA)))))
def F_neighbours_of : Fn := runF 2 5 b_neighbours_of
theorem sc_neighbours_of : FnScope ["person", "ties", "found", "first", "second"] ["person", "ties"] (defScope s_neighbours_of) := ⟨rfl, rfl, rfl, by decide +kernel, rfl, by decide +kernel, by decide +kernel⟩
theorem c_neighbours_of (T : Tx K mg) : Cl P w K mg base 1 "neighbours_of" 2 F_neighbours_of [] :=
  cl_mk T.d_neighbours_of sc_neighbours_of rfl rfl fun fa cdv A outer s H E hr => ⟨_, (dss_cons (ds_set 2 sc_neighbours_of.nd (de_lst da_nil)) (dss_cons (ds_frz [1] (ds_for PassesOwn.never rfl (di_seq (de_nm 1)) (dg_tup (K := K) rfl (dgs_cons (dg_nm 3 sc_neighbours_of.nd) (dgs_cons (dg_nm 4 sc_neighbours_of.nd) dgs_nil))) (dss_cons (ds_if (dt_cm (cm_eq (K := K) hr.units) (de_nm 3) (de_nm 0)) (dss_one (ds_frz [4] (ds_app 2 (de_nm 4)))) dss_nil) (dss_one (ds_if (dt_cm (cm_eq (K := K) hr.units) (de_nm 4) (de_nm 0)) (dss_one (ds_frz [3] (ds_app 2 (de_nm 3)))) dss_nil))))) (dss_one (ds_ret (de_callTy (K := K) (ck_tuple (K := K)) snc_tuple (by decide +kernel) T.z_tuple (da_cons (de_callB (K := K) (ck_sortA (K := K) hr.u100) snc_sortA (by decide +kernel) T.z_sorted (da_cons (de_nm 2) da_nil)) da_nil))))))⟩
/-! wants_along: 0 people, 1 way, 2 row, 3 index -/
def b_wants_along : En → Out := (seqO (setO 2 (binE repP (lstE (consA (cE .non) nilA)) (nmE 0))) (seqO (forS (rng1 (binE (intP subI) (callE lenC (consA (nmE 1) nilA)) (cE (.int 1)))) (nmT 3) (putO 2 (binE ixP (nmE 1) (binE (addP) (nmE 3) (cE (.int 1)))) (binE ixP (nmE 1) (nmE 3)))) (retO (callE tupleC (consA (nmE 2) nilA)))))
def F_wants_along : Fn := runF 2 4 b_wants_along
theorem sc_wants_along : FnScope ["people", "way", "row", "index"] ["people", "way"] (defScope s_wants_along) := ⟨rfl, rfl, rfl, by decide +kernel, rfl, by decide +kernel, by decide +kernel⟩
theorem c_wants_along (T : Tx K mg) : Cl P w K mg base 1 "wants_along" 2 F_wants_along [] :=
  cl_mk T.d_wants_along sc_wants_along rfl rfl fun fa cdv A outer s H E hr => ⟨_, (dss_cons (ds_set 2 sc_wants_along.nd (de_rep (de_lst (da_cons de_non da_nil)) (de_nm 0))) (dss_cons (ds_for PassesOwn.never rfl (di_rng1 T.z_range (de_sub (de_callB (K := K) (ck_len (K := K)) snc_len (by decide +kernel) T.z_len (da_cons (de_nm 1) da_nil)) de_int)) (dg_nm 3 sc_wants_along.nd) (dss_one (ds_put 2 (de_ix (K := K) (de_nm 1) (de_add (de_nm 3) de_int)) (de_ix (K := K) (de_nm 1) (de_nm 3))))) (dss_one (ds_ret (de_callTy (K := K) (ck_tuple (K := K)) snc_tuple (by decide +kernel) T.z_tuple (da_cons (de_nm 2) da_nil))))))⟩
/-! steps_along: 0 people, 1 way, 2 row, 3 index, 4 person -/
def b_steps_along : En → Out := (seqO (setO 2 (binE repP (lstE (consA (cE .non) nilA)) (nmE 0))) (seqO (frzO [1] (forS (enA (nmE 1)) (tupT 2 (consT (nmT 3) (consT (nmT 4) nilT))) (frzO [3] (putO 2 (nmE 3) (nmE 4))))) (retO (callE tupleC (consA (nmE 2) nilA)))))
def F_steps_along : Fn := runF 2 5 b_steps_along
theorem sc_steps_along : FnScope ["people", "way", "row", "index", "person"] ["people", "way"] (defScope s_steps_along) := ⟨rfl, rfl, rfl, by decide +kernel, rfl, by decide +kernel, by decide +kernel⟩
theorem c_steps_along (T : Tx K mg) : Cl P w K mg base 1 "steps_along" 2 F_steps_along [] :=
  cl_mk T.d_steps_along sc_steps_along rfl rfl fun fa cdv A outer s H E hr => ⟨_, (dss_cons (ds_set 2 sc_steps_along.nd (de_rep (de_lst (da_cons de_non da_nil)) (de_nm 0))) (dss_cons (ds_frz [1] (ds_for PassesOwn.never rfl (di_enumA (K := K) T.z_enumerate (de_nm 1)) (dg_tup (K := K) rfl (dgs_cons (dg_nm 3 sc_steps_along.nd) (dgs_cons (dg_nm 4 sc_steps_along.nd) dgs_nil))) (dss_one (ds_frz [3] (ds_put 2 (de_nm 3) (de_nm 4)))))) (dss_one (ds_ret (de_callTy (K := K) (ck_tuple (K := K)) snc_tuple (by decide +kernel) T.z_tuple (da_cons (de_nm 2) da_nil))))))⟩
/-! share_with: 0 kind, 1 shares, 2 index, 3 kinds, 4 _ -/
def b_share_with : En → Out := (seqO (frzO [1] (forS (enA (nmE 1)) (tupT 2 (consT (nmT 2) (consT (tupT 2 (consT (nmT 3) (consT (nmT 4) nilT))) nilT))) (ifO (valT (binE (inAP false) (nmE 0) (nmE 3))) (retO (nmE 2)) nextO))) (retO (cE .non)))
def F_share_with : Fn := runF 2 5 b_share_with
theorem sc_share_with : FnScope ["kind", "shares", "index", "kinds", "_"] ["kind", "shares"] (defScope s_share_with) := ⟨rfl, rfl, rfl, by decide +kernel, rfl, by decide +kernel, by decide +kernel⟩
theorem c_share_with (T : Tx K mg) : Cl P w K mg base 1 "share_with" 2 F_share_with [] :=
  cl_mk T.d_share_with sc_share_with rfl rfl fun fa cdv A outer s H E hr => ⟨_, (dss_cons (ds_frz [1] (ds_for PassesOwn.never rfl (di_enumA (K := K) T.z_enumerate (de_nm 1)) (dg_tup (K := K) rfl (dgs_cons (dg_nm 2 sc_share_with.nd) (dgs_cons (dg_tup (K := K) rfl (dgs_cons (dg_nm 3 sc_share_with.nd) (dgs_cons (dg_nm 4 sc_share_with.nd) dgs_nil))) dgs_nil))) (dss_one (ds_if (dt_cm (cm_inA (K := K) hr.u100) (de_nm 0) (de_nm 3)) (dss_one (ds_ret (de_nm 2))) dss_nil)))) (dss_one (ds_ret de_non)))⟩
/-! _law_mixed: 0 number, 1 turn, 2 first, 3 second -/
def b_law_mixed : En → Out := (seqO (setO 2 (binE (intP modI) (callE intC (consA (binE (addP) (binE (addP) (binE (intP mulI) (nmE 0) (cE (.int 48271))) (binE (intP mulI) (nmE 1) (cE (.int 69621)))) (cE (.int 11))) nilA)) (cE (.int 2147483647)))) (seqO (setO 3 (binE (intP modI) (callE intC (consA (binE (addP) (binE (addP) (binE (intP mulI) (nmE 2) (nmE 2)) (binE (intP mulI) (nmE 1) (cE (.int 40692)))) (cE (.int 7))) nilA)) (cE (.int 2147483399)))) (retO (binE (intP modI) (callE intC (consA (binE (intP divI) (nmE 3) (cE (.int 7))) nilA)) (cE (.int 1000))))))
def F_law_mixed : Fn := runF 2 4 b_law_mixed
theorem sc_law_mixed : FnScope ["number", "turn", "first", "second"] ["number", "turn"] (defScope s_law_mixed) := ⟨rfl, rfl, rfl, by decide +kernel, rfl, by decide +kernel, by decide +kernel⟩
theorem c_law_mixed (T : Tx K mg) : Cl P w K mg base 1 "_law_mixed" 2 F_law_mixed [] :=
  cl_mk T.d_law_mixed sc_law_mixed rfl rfl fun fa cdv A outer s H E hr => ⟨_, (dss_cons (ds_set 2 sc_law_mixed.nd (de_mod (de_callTy (K := K) call_int1 snc_int (by decide +kernel) T.z_int (da_cons (de_add (de_add (de_mul (de_nm 0) de_int) (de_mul (de_nm 1) de_int)) de_int) da_nil)) de_int)) (dss_cons (ds_set 3 sc_law_mixed.nd (de_mod (de_callTy (K := K) call_int1 snc_int (by decide +kernel) T.z_int (da_cons (de_add (de_add (de_mul (de_nm 2) (de_nm 2)) (de_mul (de_nm 1) de_int)) de_int) da_nil)) de_int)) (dss_one (ds_ret (de_mod (de_callTy (K := K) call_int1 snc_int (by decide +kernel) T.z_int (da_cons (de_div (de_nm 3) de_int) da_nil)) de_int)))))⟩
/-! _law_pool: 0 script, 1 many, 2 cell, 3 cells, 4 digits, 5 row, 6 rest, 7 turn, 8 pool, 9 k, 10 at -/
def b_law_pool : En → Out := (seqO (setO 3 (lcE (seqI (slE (nmE 0) noPart (part (cE (.int 63))))) (nmT 2) yesT (callE absC (consA (callE intC (consA (nmE 2) nilA)) nilA)) [2])) (seqO (ifO (valT (binE (eqP false) (nmE 3) (lstE nilA))) (setO 3 (lstE (consA (cE (.int 0)) nilA))) nextO) (seqO (setO 4 (lstE nilA)) (seqO (frzO [3] (forS (seqI (nmE 3)) (nmT 2) (seqO (setO 5 (lstE nilA)) (seqO (frzO [2] (setO 6 (nmE 2))) (seqO (ifO (valT (binE (intP geI) (nmE 2) (binE (intP powI) (cE (.int 10)) (cE (.int 18))))) (forS (rng1 (cE (.int 90))) (nmT 7) (ifO (valT (binE (intP gtI) (nmE 6) (cE (.int 0)))) (seqO (appO 5 (binE (intP modI) (callE intC (consA (nmE 6) nilA)) (cE (.int 1000)))) (setO 6 (binE (intP divI) (nmE 6) (cE (.int 1000))))) nextO)) nextO) (frzO [5] (appO 4 (nmE 5)))))))) (seqO (setO 8 (lstE nilA)) (seqO (forS (rng1 (nmE 1)) (nmT 9) (seqO (setO 10 (binE (intP modI) (callE intC (consA (nmE 9) nilA)) (callE lenC (consA (nmE 3) nilA)))) (seqO (setO 7 (binE (intP divI) (nmE 9) (callE lenC (consA (nmE 3) nilA)))) (ifO (valT (binE (intP ltI) (nmE 7) (callE lenC (consA (binE ixP (nmE 4) (nmE 10)) nilA)))) (appO 8 (binE ixP (binE ixP (nmE 4) (nmE 10)) (nmE 7))) (appO 8 (callF F_law_mixed [] (consA (binE (addP) (binE (intP modI) (callE intC (consA (binE ixP (nmE 3) (nmE 10)) nilA)) (cE (.int 1000003))) (binE (intP mulI) (cE (.int 7919)) (nmE 10))) (consA (binE (addP) (nmE 7) (cE (.int 1))) nilA)))))))) (retO (nmE 8))))))))
def F_law_pool : Fn := runF 2 11 b_law_pool
theorem sc_law_pool : FnScope ["script", "many", "cell", "cells", "digits", "row", "rest", "turn", "pool", "k", "at"] ["script", "many"] (defScope s_law_pool) := ⟨rfl, rfl, rfl, by decide +kernel, rfl, by decide +kernel, by decide +kernel⟩
theorem c_law_pool (T : Tx K mg) : Cl P w K mg base 2 "_law_pool" 2 F_law_pool [] :=
  cl_mk T.d_law_pool sc_law_pool rfl rfl fun fa cdv A outer s H E hr => ⟨_, (dss_cons (ds_setLc (own := [("cell", 2)]) (ws := [2]) 3 rfl sc_law_pool.nd (di_seq (de_sl (K := K) (de_nm 0) do_none (do_some de_int))) (blkOk_by (N := ["script", "many", "cell", "cells", "digits", "row", "rest", "turn", "pool", "k", "at"]) (sc := defScope s_law_pool) (by decide +kernel)) (fun _ _ _ _ _ => (dg_nm 2 sc_law_pool.nd)) (fun _ _ _ _ _ => dts_nil) (fun _ _ _ _ _ => (de_callB (K := K) call_abs snc_abs (by decide +kernel) T.z_abs (da_cons (de_callTy (K := K) call_int1 snc_int (by decide +kernel) T.z_int (da_cons (de_nm 2) da_nil)) da_nil))) s H (sw_true rfl rfl rfl (by decide +kernel))) (dss_cons (ds_if (dt_cm (cm_eq (K := K) hr.units) (de_nm 3) (de_lst da_nil)) (dss_one (ds_set 3 sc_law_pool.nd (de_lst (da_cons de_int da_nil)))) dss_nil) (dss_cons (ds_set 4 sc_law_pool.nd (de_lst da_nil)) (dss_cons (ds_frz [3] (ds_for PassesOwn.never rfl (di_seq (de_nm 3)) (dg_nm 2 sc_law_pool.nd) (dss_cons (ds_set 5 sc_law_pool.nd (de_lst da_nil)) (dss_cons (ds_frz [2] (ds_set 6 sc_law_pool.nd (de_nm 2))) (dss_cons (ds_if (dt_cm cm_ge (de_nm 2) (de_pow de_int de_int)) (dss_one (ds_for PassesOwn.never rfl (di_rng1 T.z_range de_int) (dg_nm 7 sc_law_pool.nd) (dss_one (ds_if (dt_cm cm_gt (de_nm 6) de_int) (dss_cons (ds_app 5 (de_mod (de_callTy (K := K) call_int1 snc_int (by decide +kernel) T.z_int (da_cons (de_nm 6) da_nil)) de_int)) (dss_one (ds_set 6 sc_law_pool.nd (de_div (de_nm 6) de_int)))) dss_nil)))) dss_nil) (dss_one (ds_frz [5] (ds_app 4 (de_nm 5))))))))) (dss_cons (ds_set 8 sc_law_pool.nd (de_lst da_nil)) (dss_cons (ds_for PassesOwn.never rfl (di_rng1 T.z_range (de_nm 1)) (dg_nm 9 sc_law_pool.nd) (dss_cons (ds_set 10 sc_law_pool.nd (de_mod (de_callTy (K := K) call_int1 snc_int (by decide +kernel) T.z_int (da_cons (de_nm 9) da_nil)) (de_callB (K := K) (ck_len (K := K)) snc_len (by decide +kernel) T.z_len (da_cons (de_nm 3) da_nil)))) (dss_cons (ds_set 7 sc_law_pool.nd (de_div (de_nm 9) (de_callB (K := K) (ck_len (K := K)) snc_len (by decide +kernel) T.z_len (da_cons (de_nm 3) da_nil)))) (dss_one (ds_if (dt_cm cm_lt (de_nm 7) (de_callB (K := K) (ck_len (K := K)) snc_len (by decide +kernel) T.z_len (da_cons (de_ix (K := K) (de_nm 4) (de_nm 10)) da_nil))) (dss_one (ds_app 8 (de_ix (K := K) (de_ix (K := K) (de_nm 4) (de_nm 10)) (de_nm 7)))) (dss_one (ds_app 8 (de_c (K := K) (c_law_mixed T) hr (da_cons (de_add (de_mod (de_callTy (K := K) call_int1 snc_int (by decide +kernel) T.z_int (da_cons (de_ix (K := K) (de_nm 3) (de_nm 10)) da_nil)) de_int) (de_mul de_int (de_nm 10))) (da_cons (de_add (de_nm 7) de_int) da_nil)))))))))) (dss_one (ds_ret (de_nm 8)))))))))⟩
/-! _law_same: 0 actual, 1 due, 2 k -/
def b_law_same (F : Fn) : En → Out := (seqO (ifO (valT (binE (isP false) (nmE 1) (cE .non))) (retO (binE (isP false) (nmE 0) (cE .non))) nextO) (seqO (ifO (valT (binE (isP false) (nmE 1) (cE (.bl true)))) (retO (binE (isP false) (nmE 0) (cE (.bl true)))) nextO) (seqO (ifO (valT (binE (isP false) (nmE 1) (cE (.bl false)))) (retO (binE (isP false) (nmE 0) (cE (.bl false)))) nextO) (seqO (ifO (truT (isiE "int" (nmE 1))) (retO (andE (isiE "int" (nmE 0)) (andE (notE (isiE "bool" (nmE 0))) (binE (eqP false) (nmE 0) (nmE 1))))) nextO) (seqO (ifO (truT (isiE "str" (nmE 1))) (retO (andE (isiE "str" (nmE 0)) (binE (eqP false) (nmE 0) (nmE 1)))) nextO) (seqO (ifO (truT (isiE "tuple" (nmE 1))) (ifO (orT (notT (truT (isiE "tuple" (nmE 0)))) (valT (binE (eqP true) (callE lenC (consA (nmE 0) nilA)) (callE lenC (consA (nmE 1) nilA))))) (retO (cE (.bl false))) nextO) (ifO (orT (notT (truT (isiE "list" (nmE 0)))) (valT (binE (eqP true) (callE lenC (consA (nmE 0) nilA)) (callE lenC (consA (nmE 1) nilA))))) (retO (cE (.bl false))) nextO)) (seqO (forS (rng1 (callE lenC (consA (nmE 1) nilA))) (nmT 2) (ifO (notT (truT (callF F [] (consA (binE ixP (nmE 0) (nmE 2)) (consA (binE ixP (nmE 1) (nmE 2)) nilA))))) (retO (cE (.bl false))) nextO)) (retO (cE (.bl true))))))))))
def F_law_same : Nat → Fn
  | 0 => fun _ => .no
  | j + 1 => runF 2 3 (b_law_same (F_law_same j))
theorem sc_law_same : FnScope ["actual", "due", "k"] ["actual", "due"] (defScope s_law_same) := ⟨rfl, rfl, rfl, by decide +kernel, rfl, by decide +kernel, by decide +kernel⟩
theorem c_law_same (T : Tx K mg) : ∀ j : Nat, Cl P w K mg base (j + 1) "_law_same" 2 (F_law_same j) []
  | 0 => cl_no T.d_law_same
  | j + 1 => by
    have ih : Cl P w K mg base (j + 1) "_law_same" 2 (F_law_same j) [] := c_law_same T j
    exact cl_mk T.d_law_same sc_law_same rfl rfl fun fa cdv A outer s H E hr => ⟨_, (dss_cons (ds_if (dt_cm cm_is (de_nm 1) de_non) (dss_one (ds_ret (de_cm cm_is (de_nm 0) de_non))) dss_nil) (dss_cons (ds_if (dt_cm cm_is (de_nm 1) de_bl) (dss_one (ds_ret (de_cm cm_is (de_nm 0) de_bl))) dss_nil) (dss_cons (ds_if (dt_cm cm_is (de_nm 1) de_bl) (dss_one (ds_ret (de_cm cm_is (de_nm 0) de_bl))) dss_nil) (dss_cons (ds_if (dt_tru (K := K) (de_isi (K := K) (Ts := "int") rfl (by decide +kernel) T.z_isinstance T.z_int (de_nm 1))) (dss_one (ds_ret (de_and (de_isi (K := K) (Ts := "int") rfl (by decide +kernel) T.z_isinstance T.z_int (de_nm 0)) (de_and (de_not (de_isi (K := K) (Ts := "bool") rfl (by decide +kernel) T.z_isinstance T.z_bool (de_nm 0))) (de_one (de_cm (cm_eq (K := K) hr.units) (de_nm 0) (de_nm 1))))))) dss_nil) (dss_cons (ds_if (dt_tru (K := K) (de_isi (K := K) (Ts := "str") rfl (by decide +kernel) T.z_isinstance T.z_str (de_nm 1))) (dss_one (ds_ret (de_and (de_isi (K := K) (Ts := "str") rfl (by decide +kernel) T.z_isinstance T.z_str (de_nm 0)) (de_one (de_cm (cm_eq (K := K) hr.units) (de_nm 0) (de_nm 1)))))) dss_nil) (dss_cons (ds_if (dt_tru (K := K) (de_isi (K := K) (Ts := "tuple") rfl (by decide +kernel) T.z_isinstance T.z_tuple (de_nm 1))) (dss_one (ds_if (dt_w (dw_or (dt_not (dt_tru (K := K) (de_isi (K := K) (Ts := "tuple") rfl (by decide +kernel) T.z_isinstance T.z_tuple (de_nm 0)))) (dw_or1 (dt_cm (cm_ne (K := K) hr.units) (de_callB (K := K) (ck_len (K := K)) snc_len (by decide +kernel) T.z_len (da_cons (de_nm 0) da_nil)) (de_callB (K := K) (ck_len (K := K)) snc_len (by decide +kernel) T.z_len (da_cons (de_nm 1) da_nil)))))) (dss_one (ds_ret de_bl)) dss_nil)) (dss_one (ds_if (dt_w (dw_or (dt_not (dt_tru (K := K) (de_isi (K := K) (Ts := "list") rfl (by decide +kernel) T.z_isinstance T.z_list (de_nm 0)))) (dw_or1 (dt_cm (cm_ne (K := K) hr.units) (de_callB (K := K) (ck_len (K := K)) snc_len (by decide +kernel) T.z_len (da_cons (de_nm 0) da_nil)) (de_callB (K := K) (ck_len (K := K)) snc_len (by decide +kernel) T.z_len (da_cons (de_nm 1) da_nil)))))) (dss_one (ds_ret de_bl)) dss_nil))) (dss_cons (ds_for PassesOwn.never rfl (di_rng1 T.z_range (de_callB (K := K) (ck_len (K := K)) snc_len (by decide +kernel) T.z_len (da_cons (de_nm 1) da_nil))) (dg_nm 2 sc_law_same.nd) (dss_one (ds_if (dt_not (dt_tru (K := K) (de_c (K := K) ih hr (da_cons (de_ix (K := K) (de_nm 0) (de_nm 2)) (da_cons (de_ix (K := K) (de_nm 1) (de_nm 2)) da_nil)) (Nat.le_refl _)))) (dss_one (ds_ret de_bl)) dss_nil))) (dss_one (ds_ret de_bl)))))))))⟩
/-! _law_order: 0 pool, 1 start, 2 many, 3 order, 4 p -/
def b_law_order : En → Out := (seqO (setO 3 (lstE nilA)) (seqO (forS (rng1 (nmE 2)) (nmT 4) (frzO [4] (insO 3 (binE (intP modI) (callE intC (consA (binE ixP (nmE 0) (binE (addP) (nmE 1) (nmE 4))) nilA)) (binE (addP) (nmE 4) (cE (.int 1)))) (nmE 4)))) (retO (nmE 3))))
def F_law_order : Fn := runF 3 5 b_law_order
theorem sc_law_order : FnScope ["pool", "start", "many", "order", "p"] ["pool", "start", "many"] (defScope s_law_order) := ⟨rfl, rfl, rfl, by decide +kernel, rfl, by decide +kernel, by decide +kernel⟩
theorem c_law_order (T : Tx K mg) : Cl P w K mg base 1 "_law_order" 3 F_law_order [] :=
  cl_mk T.d_law_order sc_law_order rfl rfl fun fa cdv A outer s H E hr => ⟨_, (dss_cons (ds_set 3 sc_law_order.nd (de_lst da_nil)) (dss_cons (ds_for PassesOwn.never rfl (di_rng1 T.z_range (de_nm 2)) (dg_nm 4 sc_law_order.nd) (dss_one (ds_frz [4] (ds_ins 3 (de_mod (de_callTy (K := K) call_int1 snc_int (by decide +kernel) T.z_int (da_cons (de_ix (K := K) (de_nm 0) (de_add (de_nm 1) (de_nm 4))) da_nil)) (de_add (de_nm 4) de_int)) (de_nm 4))))) (dss_one (ds_ret (de_nm 3)))))⟩
/-! _law_climb: 0 parents, 1 person, 2 row, 3 turn -/
def b_law_climb : En → Out := (seqO (frzO [1] (setO 2 (lstE (consA (nmE 1) nilA)))) (seqO (forS (rng1 (cE (.int 6))) (nmT 3) (ifO (valT (binE (eqP true) (binE ixP (nmE 2) (unE negP (cE (.int 1)))) (cE (.int 0)))) (appO 2 (binE ixP (nmE 0) (binE ixP (nmE 2) (unE negP (cE (.int 1)))))) nextO)) (retO (nmE 2))))
def F_law_climb : Fn := runF 2 4 b_law_climb
theorem sc_law_climb : FnScope ["parents", "person", "row", "turn"] ["parents", "person"] (defScope s_law_climb) := ⟨rfl, rfl, rfl, by decide +kernel, rfl, by decide +kernel, by decide +kernel⟩
theorem c_law_climb (T : Tx K mg) : Cl P w K mg base 1 "_law_climb" 2 F_law_climb [] :=
  cl_mk T.d_law_climb sc_law_climb rfl rfl fun fa cdv A outer s H E hr => ⟨_, (dss_cons (ds_frz [1] (ds_set 2 sc_law_climb.nd (de_lst (da_cons (de_nm 1) da_nil)))) (dss_cons (ds_for PassesOwn.never rfl (di_rng1 T.z_range de_int) (dg_nm 3 sc_law_climb.nd) (dss_one (ds_if (dt_cm (cm_ne (K := K) hr.units) (de_ix (K := K) (de_nm 2) (de_neg de_int)) de_int) (dss_one (ds_app 2 (de_ix (K := K) (de_nm 0) (de_ix (K := K) (de_nm 2) (de_neg de_int))))) dss_nil))) (dss_one (ds_ret (de_nm 2)))))⟩
/-! _law_way: 0 parents, 1 start, 2 end, 3 up, 4 down, 5 person, 6 meet, 7 k, 8 back_down -/
def b_law_way : En → Out := (seqO (frzO [0, 1] (setO 3 (callF F_law_climb [] (consA (nmE 0) (consA (nmE 1) nilA))))) (seqO (frzO [0, 2] (setO 4 (callF F_law_climb [] (consA (nmE 0) (consA (nmE 2) nilA))))) (seqO (frzO [5, 3] (setO 6 (binE ixP (lcE (seqI (nmE 3)) (nmT 5) (valT (binE (inAP false) (nmE 5) (nmE 4))) (nmE 5) [5]) (cE (.int 0))))) (seqO (setO 8 (lcE (rng3 (binE (intP subI) (idxE (nmE 4) (nmE 6)) (cE (.int 1))) (unE negP (cE (.int 1))) (unE negP (cE (.int 1)))) (nmT 7) yesT (binE ixP (nmE 4) (nmE 7)) [7])) (retO (binE (addP) (slE (nmE 3) noPart (part (binE (addP) (idxE (nmE 3) (nmE 6)) (cE (.int 1))))) (nmE 8)))))))
def F_law_way : Fn := runF 3 9 b_law_way
theorem sc_law_way : FnScope ["parents", "start", "end", "up", "down", "person", "meet", "k", "back_down"] ["parents", "start", "end"] (defScope s_law_way) := ⟨rfl, rfl, rfl, by decide +kernel, rfl, by decide +kernel, by decide +kernel⟩
theorem c_law_way (T : Tx K mg) : Cl P w K mg base 2 "_law_way" 3 F_law_way [] :=
  cl_mk T.d_law_way sc_law_way rfl rfl fun fa cdv A outer s H E hr => ⟨_, (dss_cons (ds_frz [0, 1] (ds_set 3 sc_law_way.nd (de_c (K := K) (c_law_climb T) hr (da_cons (de_nm 0) (da_cons (de_nm 1) da_nil))))) (dss_cons (ds_frz [0, 2] (ds_set 4 sc_law_way.nd (de_c (K := K) (c_law_climb T) hr (da_cons (de_nm 0) (da_cons (de_nm 2) da_nil))))) (dss_cons (ds_frz [5, 3] (ds_set 6 sc_law_way.nd (de_ix (K := K) (de_lc (own := [("person", 5)]) (ws := [5]) rfl sc_law_way.nd (di_seq (de_nm 3)) (blkOk_by (N := ["parents", "start", "end", "up", "down", "person", "meet", "k", "back_down"]) (sc := defScope s_law_way) (by decide +kernel)) (fun _ _ _ _ _ => (dg_nm 5 sc_law_way.nd)) (fun _ _ _ _ _ => (dts_one (dt_cm (cm_inA (K := K) hr.u100) (de_nm 5) (de_nm 4)))) (fun _ _ _ _ _ => (de_nm 5)) (z1 := s) (z2 := H)) de_int))) (dss_cons (ds_setLc (own := [("k", 7)]) (ws := [7]) 8 rfl sc_law_way.nd (di_rng3 T.z_range (de_sub (de_index (K := K) (de_nm 4) (de_nm 6)) de_int) (de_neg de_int) (de_neg de_int)) (blkOk_by (N := ["parents", "start", "end", "up", "down", "person", "meet", "k", "back_down"]) (sc := defScope s_law_way) (by decide +kernel)) (fun _ _ _ _ _ => (dg_nm 7 sc_law_way.nd)) (fun _ _ _ _ _ => dts_nil) (fun _ _ _ _ _ => (de_ix (K := K) (de_nm 4) (de_nm 7))) s H (sw_true rfl rfl rfl (by decide +kernel))) (dss_one (ds_ret (de_add (de_sl (K := K) (de_nm 3) do_none (do_some (de_add (de_index (K := K) (de_nm 3) (de_nm 6)) de_int))) (de_nm 8))))))))⟩
/-! _law_shape: 0 pool, 1 start, 2 many, 3 kinds, 4 hands, 5 most, 6 p, 7 parents, 8 order, 9 hand_row, 10 tie_row, 11 kind_row, 12 k, 13 a, 14 b, 15 way -/
def b_law_shape : En → Out := (seqO (setO 7 (binE (addP) (lstE (consA (cE (.int 0)) nilA)) (lcE (rng2 (cE (.int 1)) (nmE 2)) (nmT 6) yesT (binE (intP modI) (callE intC (consA (binE ixP (nmE 0) (binE (addP) (nmE 1) (nmE 6))) nilA)) (nmE 6)) [6]))) (seqO (frzO [0, 2] (setO 8 (callF F_law_order [] (consA (nmE 0) (consA (binE (addP) (nmE 1) (cE (.int 6))) (consA (nmE 2) nilA)))))) (seqO (setO 9 (lcE (rng1 (nmE 2)) (nmT 6) yesT (binE (addP) (cE (.int 1)) (binE (intP modI) (callE intC (consA (binE ixP (nmE 0) (binE (addP) (binE (addP) (nmE 1) (cE (.int 12))) (nmE 6))) nilA)) (nmE 4))) [6])) (seqO (setO 10 (lcE (rng2 (cE (.int 1)) (nmE 2)) (nmT 6) yesT (tupE (consA (binE ixP (nmE 8) (binE ixP (nmE 7) (nmE 6))) (consA (binE ixP (nmE 8) (nmE 6)) nilA))) [6])) (seqO (setO 11 (lstE nilA)) (seqO (ifO (valT (binE (intP gtI) (nmE 2) (cE (.int 1)))) (forS (rng1 (nmE 3)) (nmT 12) (seqO (setO 13 (binE (intP modI) (callE intC (consA (binE ixP (nmE 0) (binE (addP) (binE (addP) (nmE 1) (cE (.int 18))) (binE (intP mulI) (cE (.int 3)) (nmE 12)))) nilA)) (nmE 2))) (seqO (setO 14 (binE (intP modI) (callE intC (consA (binE (addP) (binE (addP) (nmE 13) (cE (.int 1))) (binE (intP modI) (callE intC (consA (binE ixP (nmE 0) (binE (addP) (binE (addP) (nmE 1) (cE (.int 19))) (binE (intP mulI) (cE (.int 3)) (nmE 12)))) nilA)) (binE (intP subI) (nmE 2) (cE (.int 1))))) nilA)) (nmE 2))) (seqO (frzO [7, 13, 14] (setO 15 (callE tupleC (consA (lcE (seqI (callF F_law_way [] (consA (nmE 7) (consA (nmE 13) (consA (nmE 14) nilA))))) (nmT 6) yesT (binE ixP (nmE 8) (nmE 6)) [6]) nilA)))) (frzO [15] (appO 11 (tupE (consA (nmE 15) (consA (binE (intP modI) (callE intC (consA (binE ixP (nmE 0) (binE (addP) (binE (addP) (nmE 1) (cE (.int 20))) (binE (intP mulI) (cE (.int 3)) (nmE 12)))) nilA)) (binE (addP) (nmE 5) (cE (.int 1)))) nilA))))))))) nextO) (frzO [9, 10, 11] (retO (tupE (consA (nmE 9) (consA (nmE 10) (consA (nmE 11) nilA))))))))))))
def F_law_shape : Fn := runF 6 16 b_law_shape
theorem sc_law_shape : FnScope ["pool", "start", "many", "kinds", "hands", "most", "p", "parents", "order", "hand_row", "tie_row", "kind_row", "k", "a", "b", "way"] ["pool", "start", "many", "kinds", "hands", "most"] (defScope s_law_shape) := ⟨rfl, rfl, rfl, by decide +kernel, rfl, by decide +kernel, by decide +kernel⟩
theorem c_law_shape (T : Tx K mg) : Cl P w K mg base 3 "_law_shape" 6 F_law_shape [] :=
  cl_mk T.d_law_shape sc_law_shape rfl rfl fun fa cdv A outer s H E hr => ⟨_, (dss_cons (ds_set 7 sc_law_shape.nd (de_add (de_lst (da_cons de_int da_nil)) (de_lc (own := [("p", 6)]) (ws := [6]) rfl sc_law_shape.nd (di_rng2 T.z_range de_int (de_nm 2)) (blkOk_by (N := ["pool", "start", "many", "kinds", "hands", "most", "p", "parents", "order", "hand_row", "tie_row", "kind_row", "k", "a", "b", "way"]) (sc := defScope s_law_shape) (by decide +kernel)) (fun _ _ _ _ _ => (dg_nm 6 sc_law_shape.nd)) (fun _ _ _ _ _ => dts_nil) (fun _ _ _ _ _ => (de_mod (de_callTy (K := K) call_int1 snc_int (by decide +kernel) T.z_int (da_cons (de_ix (K := K) (de_nm 0) (de_add (de_nm 1) (de_nm 6))) da_nil)) (de_nm 6))) (z1 := s) (z2 := H)))) (dss_cons (ds_frz [0, 2] (ds_set 8 sc_law_shape.nd (de_c (K := K) (c_law_order T) hr (da_cons (de_nm 0) (da_cons (de_add (de_nm 1) de_int) (da_cons (de_nm 2) da_nil)))))) (dss_cons (ds_setLc (own := [("p", 6)]) (ws := [6]) 9 rfl sc_law_shape.nd (di_rng1 T.z_range (de_nm 2)) (blkOk_by (N := ["pool", "start", "many", "kinds", "hands", "most", "p", "parents", "order", "hand_row", "tie_row", "kind_row", "k", "a", "b", "way"]) (sc := defScope s_law_shape) (by decide +kernel)) (fun _ _ _ _ _ => (dg_nm 6 sc_law_shape.nd)) (fun _ _ _ _ _ => dts_nil) (fun _ _ _ _ _ => (de_add de_int (de_mod (de_callTy (K := K) call_int1 snc_int (by decide +kernel) T.z_int (da_cons (de_ix (K := K) (de_nm 0) (de_add (de_add (de_nm 1) de_int) (de_nm 6))) da_nil)) (de_nm 4)))) s H (sw_true rfl rfl rfl (by decide +kernel))) (dss_cons (ds_setLc (own := [("p", 6)]) (ws := [6]) 10 rfl sc_law_shape.nd (di_rng2 T.z_range de_int (de_nm 2)) (blkOk_by (N := ["pool", "start", "many", "kinds", "hands", "most", "p", "parents", "order", "hand_row", "tie_row", "kind_row", "k", "a", "b", "way"]) (sc := defScope s_law_shape) (by decide +kernel)) (fun _ _ _ _ _ => (dg_nm 6 sc_law_shape.nd)) (fun _ _ _ _ _ => dts_nil) (fun _ _ _ _ _ => (de_tup (da_cons (de_ix (K := K) (de_nm 8) (de_ix (K := K) (de_nm 7) (de_nm 6))) (da_cons (de_ix (K := K) (de_nm 8) (de_nm 6)) da_nil)))) s H (sw_true rfl rfl rfl (by decide +kernel))) (dss_cons (ds_set 11 sc_law_shape.nd (de_lst da_nil)) (dss_cons (ds_if (dt_cm cm_gt (de_nm 2) de_int) (dss_one (ds_for PassesOwn.never rfl (di_rng1 T.z_range (de_nm 3)) (dg_nm 12 sc_law_shape.nd) (dss_cons (ds_set 13 sc_law_shape.nd (de_mod (de_callTy (K := K) call_int1 snc_int (by decide +kernel) T.z_int (da_cons (de_ix (K := K) (de_nm 0) (de_add (de_add (de_nm 1) de_int) (de_mul de_int (de_nm 12)))) da_nil)) (de_nm 2))) (dss_cons (ds_set 14 sc_law_shape.nd (de_mod (de_callTy (K := K) call_int1 snc_int (by decide +kernel) T.z_int (da_cons (de_add (de_add (de_nm 13) de_int) (de_mod (de_callTy (K := K) call_int1 snc_int (by decide +kernel) T.z_int (da_cons (de_ix (K := K) (de_nm 0) (de_add (de_add (de_nm 1) de_int) (de_mul de_int (de_nm 12)))) da_nil)) (de_sub (de_nm 2) de_int))) da_nil)) (de_nm 2))) (dss_cons (ds_frz [7, 13, 14] (ds_set 15 sc_law_shape.nd (de_callTy (K := K) (ck_tuple (K := K)) snc_tuple (by decide +kernel) T.z_tuple (da_cons (de_lc (own := [("p", 6)]) (ws := [6]) rfl sc_law_shape.nd (di_seq (de_c (K := K) (c_law_way T) hr (da_cons (de_nm 7) (da_cons (de_nm 13) (da_cons (de_nm 14) da_nil))))) (blkOk_by (N := ["pool", "start", "many", "kinds", "hands", "most", "p", "parents", "order", "hand_row", "tie_row", "kind_row", "k", "a", "b", "way"]) (sc := defScope s_law_shape) (by decide +kernel)) (fun _ _ _ _ _ => (dg_nm 6 sc_law_shape.nd)) (fun _ _ _ _ _ => dts_nil) (fun _ _ _ _ _ => (de_ix (K := K) (de_nm 8) (de_nm 6))) (z1 := s) (z2 := H)) da_nil)))) (dss_one (ds_frz [15] (ds_app 11 (de_tup (da_cons (de_nm 15) (da_cons (de_mod (de_callTy (K := K) call_int1 snc_int (by decide +kernel) T.z_int (da_cons (de_ix (K := K) (de_nm 0) (de_add (de_add (de_nm 1) de_int) (de_mul de_int (de_nm 12)))) da_nil)) (de_add (de_nm 5) de_int)) da_nil))))))))))) dss_nil) (dss_one (ds_frz [9, 10, 11] (ds_ret (de_tup (da_cons (de_nm 9) (da_cons (de_nm 10) (da_cons (de_nm 11) da_nil)))))))))))))⟩
/-! _law_normal: 0 shape, 1 share_rows, 2 quick_row, 3 pair, 4 tie_row, 5 fast_row, 6 groups, 7 kind, 8 kind_row -/
def b_law_normal : En → Out := (seqO (setO 4 (callE sortAC (consA (lcE (seqI (binE ixP (nmE 0) (cE (.int 1)))) (nmT 3) yesT (tupE (consA (callE minAC (consA (nmE 3) nilA)) (consA (callE maxAC (consA (nmE 3) nilA)) nilA))) [3]) nilA))) (seqO (frzO [2] (setO 5 (callE sortAC (consA (lcE (seqI (nmE 2)) (nmT 3) yesT (tupE (consA (callE minAC (consA (nmE 3) nilA)) (consA (callE maxAC (consA (nmE 3) nilA)) nilA))) [3]) nilA)))) (seqO (frzO [1] (setO 6 (callE sortAC (consA (lcE (seqI (nmE 1)) (nmT 3) yesT (tupE (consA (callE tupleC (consA (callE sortAC (consA (binE ixP (nmE 3) (cE (.int 0))) nilA)) nilA)) (consA (binE ixP (nmE 3) (cE (.int 1))) nilA))) [3]) nilA)))) (seqO (setO 8 (callE tupleC (consA (lcE (seqI (binE ixP (nmE 0) (cE (.int 2)))) (nmT 7) yesT (tupE (consA (callE tupleC (consA (binE ixP (nmE 7) (cE (.int 0))) nilA)) (consA (binE ixP (nmE 7) (cE (.int 1))) nilA))) [7]) nilA))) (frzO [8] (retO (tupE (consA (callE tupleC (consA (binE ixP (nmE 0) (cE (.int 0))) nilA)) (consA (callE tupleC (consA (nmE 4) nilA)) (consA (nmE 8) (consA (callE tupleC (consA (nmE 5) nilA)) (consA (callE tupleC (consA (nmE 6) nilA)) nilA))))))))))))
def F_law_normal : Fn := runF 3 9 b_law_normal
theorem sc_law_normal : FnScope ["shape", "share_rows", "quick_row", "pair", "tie_row", "fast_row", "groups", "kind", "kind_row"] ["shape", "share_rows", "quick_row"] (defScope s_law_normal) := ⟨rfl, rfl, rfl, by decide +kernel, rfl, by decide +kernel, by decide +kernel⟩
theorem c_law_normal (T : Tx K mg) : Cl P w K mg base 1 "_law_normal" 3 F_law_normal [] :=
  cl_mk T.d_law_normal sc_law_normal rfl rfl fun fa cdv A outer s H E hr => ⟨_, (dss_cons (ds_set 4 sc_law_normal.nd (de_callB (K := K) (ck_sortA (K := K) hr.u100) snc_sortA (by decide +kernel) T.z_sorted (da_cons (de_lc (own := [("pair", 3)]) (ws := [3]) rfl sc_law_normal.nd (di_seq (de_ix (K := K) (de_nm 0) de_int)) (blkOk_by (N := ["shape", "share_rows", "quick_row", "pair", "tie_row", "fast_row", "groups", "kind", "kind_row"]) (sc := defScope s_law_normal) (by decide +kernel)) (fun _ _ _ _ _ => (dg_nm 3 sc_law_normal.nd)) (fun _ _ _ _ _ => dts_nil) (fun _ _ _ _ _ => (de_tup (da_cons (de_callB (K := K) (ck_minA (K := K) rfl hr.u100) snc_minA (by decide +kernel) T.z_min (da_cons (de_nm 3) da_nil)) (da_cons (de_callB (K := K) (ck_maxA (K := K) rfl hr.u100) snc_maxA (by decide +kernel) T.z_max (da_cons (de_nm 3) da_nil)) da_nil)))) (z1 := s) (z2 := H)) da_nil))) (dss_cons (ds_frz [2] (ds_set 5 sc_law_normal.nd (de_callB (K := K) (ck_sortA (K := K) hr.u100) snc_sortA (by decide +kernel) T.z_sorted (da_cons (de_lc (own := [("pair", 3)]) (ws := [3]) rfl sc_law_normal.nd (di_seq (de_nm 2)) (blkOk_by (N := ["shape", "share_rows", "quick_row", "pair", "tie_row", "fast_row", "groups", "kind", "kind_row"]) (sc := defScope s_law_normal) (by decide +kernel)) (fun _ _ _ _ _ => (dg_nm 3 sc_law_normal.nd)) (fun _ _ _ _ _ => dts_nil) (fun _ _ _ _ _ => (de_tup (da_cons (de_callB (K := K) (ck_minA (K := K) rfl hr.u100) snc_minA (by decide +kernel) T.z_min (da_cons (de_nm 3) da_nil)) (da_cons (de_callB (K := K) (ck_maxA (K := K) rfl hr.u100) snc_maxA (by decide +kernel) T.z_max (da_cons (de_nm 3) da_nil)) da_nil)))) (z1 := s) (z2 := H)) da_nil)))) (dss_cons (ds_frz [1] (ds_set 6 sc_law_normal.nd (de_callB (K := K) (ck_sortA (K := K) hr.u100) snc_sortA (by decide +kernel) T.z_sorted (da_cons (de_lc (own := [("pair", 3)]) (ws := [3]) rfl sc_law_normal.nd (di_seq (de_nm 1)) (blkOk_by (N := ["shape", "share_rows", "quick_row", "pair", "tie_row", "fast_row", "groups", "kind", "kind_row"]) (sc := defScope s_law_normal) (by decide +kernel)) (fun _ _ _ _ _ => (dg_nm 3 sc_law_normal.nd)) (fun _ _ _ _ _ => dts_nil) (fun _ _ _ _ _ => (de_tup (da_cons (de_callTy (K := K) (ck_tuple (K := K)) snc_tuple (by decide +kernel) T.z_tuple (da_cons (de_callB (K := K) (ck_sortA (K := K) hr.u100) snc_sortA (by decide +kernel) T.z_sorted (da_cons (de_ix (K := K) (de_nm 3) de_int) da_nil)) da_nil)) (da_cons (de_ix (K := K) (de_nm 3) de_int) da_nil)))) (z1 := s) (z2 := H)) da_nil)))) (dss_cons (ds_set 8 sc_law_normal.nd (de_callTy (K := K) (ck_tuple (K := K)) snc_tuple (by decide +kernel) T.z_tuple (da_cons (de_lc (own := [("kind", 7)]) (ws := [7]) rfl sc_law_normal.nd (di_seq (de_ix (K := K) (de_nm 0) de_int)) (blkOk_by (N := ["shape", "share_rows", "quick_row", "pair", "tie_row", "fast_row", "groups", "kind", "kind_row"]) (sc := defScope s_law_normal) (by decide +kernel)) (fun _ _ _ _ _ => (dg_nm 7 sc_law_normal.nd)) (fun _ _ _ _ _ => dts_nil) (fun _ _ _ _ _ => (de_tup (da_cons (de_callTy (K := K) (ck_tuple (K := K)) snc_tuple (by decide +kernel) T.z_tuple (da_cons (de_ix (K := K) (de_nm 7) de_int) da_nil)) (da_cons (de_ix (K := K) (de_nm 7) de_int) da_nil)))) (z1 := s) (z2 := H)) da_nil))) (dss_one (ds_frz [8] (ds_ret (de_tup (da_cons (de_callTy (K := K) (ck_tuple (K := K)) snc_tuple (by decide +kernel) T.z_tuple (da_cons (de_ix (K := K) (de_nm 0) de_int) da_nil)) (da_cons (de_callTy (K := K) (ck_tuple (K := K)) snc_tuple (by decide +kernel) T.z_tuple (da_cons (de_nm 4) da_nil)) (da_cons (de_nm 8) (da_cons (de_callTy (K := K) (ck_tuple (K := K)) snc_tuple (by decide +kernel) T.z_tuple (da_cons (de_nm 5) da_nil)) (da_cons (de_callTy (K := K) (ck_tuple (K := K)) snc_tuple (by decide +kernel) T.z_tuple (da_cons (de_nm 6) da_nil)) da_nil)))))))))))))⟩
/-! _law_fields: 0 table, 1 due -/
def b_law_fields : En → Out := (frzO [1] (retO (callF (F_law_same 12) [] (consA (tupE (consA (unE (fldP "hands" oc_hands) (nmE 0)) (consA (unE (fldP "ties" oc_ties) (nmE 0)) (consA (unE (fldP "kinds" oc_kinds) (nmE 0)) (consA (unE (fldP "quick" oc_quick) (nmE 0)) (consA (unE (fldP "shares" oc_shares) (nmE 0)) nilA)))))) (consA (nmE 1) nilA)))))
def F_law_fields : Fn := runF 2 2 b_law_fields
theorem sc_law_fields : FnScope ["table", "due"] ["table", "due"] (defScope s_law_fields) := ⟨rfl, rfl, rfl, by decide +kernel, rfl, by decide +kernel, by decide +kernel⟩
theorem c_law_fields (T : Tx K mg) : Cl P w K mg base 14 "_law_fields" 2 F_law_fields [] :=
  cl_mk T.d_law_fields sc_law_fields rfl rfl fun fa cdv A outer s H E hr => ⟨_, (dss_one (ds_frz [1] (ds_ret (de_c (K := K) (c_law_same T 12) hr (da_cons (de_tup (da_cons (de_fld (K := K) oc_hands (fun c h => objAll_c T.o_all c (cf_sub (a := oc_hands) (by decide +kernel) c h)) (noAll_c T.of_hands) (de_nm 0)) (da_cons (de_fld (K := K) oc_ties (fun c h => objAll_c T.o_all c (cf_sub (a := oc_ties) (by decide +kernel) c h)) (noAll_c T.of_ties) (de_nm 0)) (da_cons (de_fld (K := K) oc_kinds (fun c h => objAll_c T.o_all c (cf_sub (a := oc_kinds) (by decide +kernel) c h)) (noAll_c T.of_kinds) (de_nm 0)) (da_cons (de_fld (K := K) oc_quick (fun c h => objAll_c T.o_all c (cf_sub (a := oc_quick) (by decide +kernel) c h)) (noAll_c T.of_quick) (de_nm 0)) (da_cons (de_fld (K := K) oc_shares (fun c h => objAll_c T.o_all c (cf_sub (a := oc_shares) (by decide +kernel) c h)) (noAll_c T.of_shares) (de_nm 0)) da_nil)))))) (da_cons (de_nm 1) da_nil))))))⟩
/-! _law_web: 0 pool, 1 start, 2 many, 3 extra, 4 p, 5 ties, 6 k, 7 a, 8 b -/
def b_law_web : En → Out := (seqO (frzO [4] (setO 5 (lcE (rng2 (cE (.int 1)) (nmE 2)) (nmT 4) yesT (tupE (consA (binE (intP modI) (callE intC (consA (binE ixP (nmE 0) (binE (addP) (nmE 1) (nmE 4))) nilA)) (nmE 4)) (consA (nmE 4) nilA))) [4]))) (seqO (forS (rng1 (nmE 3)) (nmT 6) (seqO (setO 7 (binE (intP modI) (callE intC (consA (binE ixP (nmE 0) (binE (addP) (binE (addP) (nmE 1) (cE (.int 6))) (binE (intP mulI) (cE (.int 2)) (nmE 6)))) nilA)) (nmE 2))) (seqO (setO 8 (binE (intP modI) (callE intC (consA (binE ixP (nmE 0) (binE (addP) (binE (addP) (nmE 1) (cE (.int 7))) (binE (intP mulI) (cE (.int 2)) (nmE 6)))) nilA)) (nmE 2))) (ifO (andT (valT (binE (eqP true) (nmE 7) (nmE 8))) (valT (binE (inAP true) (tupE (consA (callE min2C (consA (nmE 7) (consA (nmE 8) nilA))) (consA (callE max2C (consA (nmE 7) (consA (nmE 8) nilA))) nilA))) (nmE 5)))) (appO 5 (tupE (consA (callE min2C (consA (nmE 7) (consA (nmE 8) nilA))) (consA (callE max2C (consA (nmE 7) (consA (nmE 8) nilA))) nilA)))) nextO)))) (retO (nmE 5))))
def F_law_web : Fn := runF 4 9 b_law_web
theorem sc_law_web : FnScope ["pool", "start", "many", "extra", "p", "ties", "k", "a", "b"] ["pool", "start", "many", "extra"] (defScope s_law_web) := ⟨rfl, rfl, rfl, by decide +kernel, rfl, by decide +kernel, by decide +kernel⟩
theorem c_law_web (T : Tx K mg) : Cl P w K mg base 1 "_law_web" 4 F_law_web [] :=
  cl_mk T.d_law_web sc_law_web rfl rfl fun fa cdv A outer s H E hr => ⟨_, (dss_cons (ds_frz [4] (ds_setLc (own := [("p", 4)]) (ws := [4]) 5 rfl sc_law_web.nd (di_rng2 T.z_range de_int (de_nm 2)) (blkOk_by (N := ["pool", "start", "many", "extra", "p", "ties", "k", "a", "b"]) (sc := defScope s_law_web) (by decide +kernel)) (fun _ _ _ _ _ => (dg_nm 4 sc_law_web.nd)) (fun _ _ _ _ _ => dts_nil) (fun _ _ _ _ _ => (de_tup (da_cons (de_mod (de_callTy (K := K) call_int1 snc_int (by decide +kernel) T.z_int (da_cons (de_ix (K := K) (de_nm 0) (de_add (de_nm 1) (de_nm 4))) da_nil)) (de_nm 4)) (da_cons (de_nm 4) da_nil)))) s H (sw_true rfl rfl rfl (by decide +kernel)))) (dss_cons (ds_for PassesOwn.never rfl (di_rng1 T.z_range (de_nm 3)) (dg_nm 6 sc_law_web.nd) (dss_cons (ds_set 7 sc_law_web.nd (de_mod (de_callTy (K := K) call_int1 snc_int (by decide +kernel) T.z_int (da_cons (de_ix (K := K) (de_nm 0) (de_add (de_add (de_nm 1) de_int) (de_mul de_int (de_nm 6)))) da_nil)) (de_nm 2))) (dss_cons (ds_set 8 sc_law_web.nd (de_mod (de_callTy (K := K) call_int1 snc_int (by decide +kernel) T.z_int (da_cons (de_ix (K := K) (de_nm 0) (de_add (de_add (de_nm 1) de_int) (de_mul de_int (de_nm 6)))) da_nil)) (de_nm 2))) (dss_one (ds_if (dt_w (dw_and (dt_cm (cm_ne (K := K) hr.units) (de_nm 7) (de_nm 8)) (dw_and1 (dt_cm (cm_notInA (K := K) hr.u100) (de_tup (da_cons (de_callB (K := K) (call_min2 rfl) snc_min2 (by decide +kernel) T.z_min (da_cons (de_nm 7) (da_cons (de_nm 8) da_nil))) (da_cons (de_callB (K := K) (call_max2 rfl) snc_max2 (by decide +kernel) T.z_max (da_cons (de_nm 7) (da_cons (de_nm 8) da_nil))) da_nil))) (de_nm 5))))) (dss_one (ds_app 5 (de_tup (da_cons (de_callB (K := K) (call_min2 rfl) snc_min2 (by decide +kernel) T.z_min (da_cons (de_nm 7) (da_cons (de_nm 8) da_nil))) (da_cons (de_callB (K := K) (call_max2 rfl) snc_max2 (by decide +kernel) T.z_max (da_cons (de_nm 7) (da_cons (de_nm 8) da_nil))) da_nil))))) dss_nil))))) (dss_one (ds_ret (de_nm 5)))))⟩
/-! _law_roam: 0 pool, 1 start, 2 many, 3 ties, 4 steps, 5 row, 6 k, 7 q, 8 near -/
def b_law_roam : En → Out := (seqO (setO 5 (lstE (consA (binE (intP modI) (callE intC (consA (binE ixP (nmE 0) (nmE 1)) nilA)) (nmE 2)) nilA))) (seqO (forS (rng1 (nmE 4)) (nmT 6) (seqO (frzO [7] (setO 8 (lcE (rng1 (nmE 2)) (nmT 7) (andT (valT (binE (inAP true) (nmE 7) (nmE 5))) (valT (binE (inAP false) (tupE (consA (callE min2C (consA (nmE 7) (consA (binE ixP (nmE 5) (unE negP (cE (.int 1)))) nilA))) (consA (callE max2C (consA (nmE 7) (consA (binE ixP (nmE 5) (unE negP (cE (.int 1)))) nilA))) nilA))) (nmE 3)))) (nmE 7) [7]))) (ifO (valT (binE (eqP true) (nmE 8) (lstE nilA))) (appO 5 (binE ixP (nmE 8) (binE (intP modI) (callE intC (consA (binE ixP (nmE 0) (binE (addP) (binE (addP) (nmE 1) (cE (.int 1))) (nmE 6))) nilA)) (callE lenC (consA (nmE 8) nilA))))) nextO))) (retO (callE tupleC (consA (nmE 5) nilA)))))
def F_law_roam : Fn := runF 5 9 b_law_roam
theorem sc_law_roam : FnScope ["pool", "start", "many", "ties", "steps", "row", "k", "q", "near"] ["pool", "start", "many", "ties", "steps"] (defScope s_law_roam) := ⟨rfl, rfl, rfl, by decide +kernel, rfl, by decide +kernel, by decide +kernel⟩
theorem c_law_roam (T : Tx K mg) : Cl P w K mg base 1 "_law_roam" 5 F_law_roam [] :=
  cl_mk T.d_law_roam sc_law_roam rfl rfl fun fa cdv A outer s H E hr => ⟨_, (dss_cons (ds_set 5 sc_law_roam.nd (de_lst (da_cons (de_mod (de_callTy (K := K) call_int1 snc_int (by decide +kernel) T.z_int (da_cons (de_ix (K := K) (de_nm 0) (de_nm 1)) da_nil)) (de_nm 2)) da_nil))) (dss_cons (ds_for PassesOwn.never rfl (di_rng1 T.z_range (de_nm 4)) (dg_nm 6 sc_law_roam.nd) (dss_cons (ds_frz [7] (ds_setLc (own := [("q", 7)]) (ws := [7]) 8 rfl sc_law_roam.nd (di_rng1 T.z_range (de_nm 2)) (blkOk_by (N := ["pool", "start", "many", "ties", "steps", "row", "k", "q", "near"]) (sc := defScope s_law_roam) (by decide +kernel)) (fun _ _ _ _ _ => (dg_nm 7 sc_law_roam.nd)) (fun _ _ _ _ _ => (dts_one (dt_w (dw_and (dt_cm (cm_notInA (K := K) hr.u100) (de_nm 7) (de_nm 5)) (dw_and1 (dt_cm (cm_inA (K := K) hr.u100) (de_tup (da_cons (de_callB (K := K) (call_min2 rfl) snc_min2 (by decide +kernel) T.z_min (da_cons (de_nm 7) (da_cons (de_ix (K := K) (de_nm 5) (de_neg de_int)) da_nil))) (da_cons (de_callB (K := K) (call_max2 rfl) snc_max2 (by decide +kernel) T.z_max (da_cons (de_nm 7) (da_cons (de_ix (K := K) (de_nm 5) (de_neg de_int)) da_nil))) da_nil))) (de_nm 3))))))) (fun _ _ _ _ _ => (de_nm 7)) s H (sw_true rfl rfl rfl (by decide +kernel)))) (dss_one (ds_if (dt_cm (cm_ne (K := K) hr.units) (de_nm 8) (de_lst da_nil)) (dss_one (ds_app 5 (de_ix (K := K) (de_nm 8) (de_mod (de_callTy (K := K) call_int1 snc_int (by decide +kernel) T.z_int (da_cons (de_ix (K := K) (de_nm 0) (de_add (de_add (de_nm 1) de_int) (de_nm 6))) da_nil)) (de_callB (K := K) (ck_len (K := K)) snc_len (by decide +kernel) T.z_len (da_cons (de_nm 8) da_nil)))))) dss_nil)))) (dss_one (ds_ret (de_callTy (K := K) (ck_tuple (K := K)) snc_tuple (by decide +kernel) T.z_tuple (da_cons (de_nm 5) da_nil))))))⟩
/-! _law_web_kinds: 0 pool, 1 start, 2 many, 3 ties, 4 kinds, 5 most, 6 found, 7 k, 8 at, 9 way -/
def b_law_web_kinds : En → Out := (seqO (setO 6 (lstE nilA)) (seqO (forS (rng1 (nmE 4)) (nmT 7) (seqO (setO 8 (binE (addP) (nmE 1) (binE (intP mulI) (cE (.int 8)) (nmE 7)))) (seqO (frzO [0, 8, 2, 3] (setO 9 (callF F_law_roam [] (consA (nmE 0) (consA (nmE 8) (consA (nmE 2) (consA (nmE 3) (consA (binE (addP) (cE (.int 1)) (binE (intP modI) (callE intC (consA (binE ixP (nmE 0) (binE (addP) (nmE 8) (cE (.int 6)))) nilA)) (binE (intP subI) (nmE 2) (cE (.int 1))))) nilA)))))))) (frzO [9] (appO 6 (tupE (consA (nmE 9) (consA (binE (intP modI) (callE intC (consA (binE ixP (nmE 0) (binE (addP) (nmE 8) (cE (.int 7)))) nilA)) (binE (addP) (nmE 5) (cE (.int 1)))) nilA)))))))) (retO (nmE 6))))
def F_law_web_kinds : Fn := runF 6 10 b_law_web_kinds
theorem sc_law_web_kinds : FnScope ["pool", "start", "many", "ties", "kinds", "most", "found", "k", "at", "way"] ["pool", "start", "many", "ties", "kinds", "most"] (defScope s_law_web_kinds) := ⟨rfl, rfl, rfl, by decide +kernel, rfl, by decide +kernel, by decide +kernel⟩
theorem c_law_web_kinds (T : Tx K mg) : Cl P w K mg base 2 "_law_web_kinds" 6 F_law_web_kinds [] :=
  cl_mk T.d_law_web_kinds sc_law_web_kinds rfl rfl fun fa cdv A outer s H E hr => ⟨_, (dss_cons (ds_set 6 sc_law_web_kinds.nd (de_lst da_nil)) (dss_cons (ds_for PassesOwn.never rfl (di_rng1 T.z_range (de_nm 4)) (dg_nm 7 sc_law_web_kinds.nd) (dss_cons (ds_set 8 sc_law_web_kinds.nd (de_add (de_nm 1) (de_mul de_int (de_nm 7)))) (dss_cons (ds_frz [0, 8, 2, 3] (ds_set 9 sc_law_web_kinds.nd (de_c (K := K) (c_law_roam T) hr (da_cons (de_nm 0) (da_cons (de_nm 8) (da_cons (de_nm 2) (da_cons (de_nm 3) (da_cons (de_add de_int (de_mod (de_callTy (K := K) call_int1 snc_int (by decide +kernel) T.z_int (da_cons (de_ix (K := K) (de_nm 0) (de_add (de_nm 8) de_int)) da_nil)) (de_sub (de_nm 2) de_int))) da_nil)))))))) (dss_one (ds_frz [9] (ds_app 6 (de_tup (da_cons (de_nm 9) (da_cons (de_mod (de_callTy (K := K) call_int1 snc_int (by decide +kernel) T.z_int (da_cons (de_ix (K := K) (de_nm 0) (de_add (de_nm 8) de_int)) da_nil)) (de_add (de_nm 5) de_int)) da_nil))))))))) (dss_one (ds_ret (de_nm 6)))))⟩
/-! _law_turned: 0 order, 1 ties, 2 kinds, 3 pair, 4 tie_row, 5 p, 6 kind, 7 kind_row -/
def b_law_turned : En → Out := (seqO (frzO [1] (setO 4 (lcE (seqI (nmE 1)) (nmT 3) yesT (tupE (consA (binE ixP (nmE 0) (binE ixP (nmE 3) (cE (.int 0)))) (consA (binE ixP (nmE 0) (binE ixP (nmE 3) (cE (.int 1)))) nilA))) [3]))) (seqO (frzO [2] (setO 7 (lcE (seqI (nmE 2)) (nmT 6) yesT (tupE (consA (callE tupleC (consA (lcE (seqI (binE ixP (nmE 6) (cE (.int 0)))) (nmT 5) yesT (binE ixP (nmE 0) (nmE 5)) [5]) nilA)) (consA (binE ixP (nmE 6) (cE (.int 1))) nilA))) [6]))) (frzO [4, 7] (retO (tupE (consA (nmE 4) (consA (nmE 7) nilA)))))))
def F_law_turned : Fn := runF 3 8 b_law_turned
theorem sc_law_turned : FnScope ["order", "ties", "kinds", "pair", "tie_row", "p", "kind", "kind_row"] ["order", "ties", "kinds"] (defScope s_law_turned) := ⟨rfl, rfl, rfl, by decide +kernel, rfl, by decide +kernel, by decide +kernel⟩
theorem c_law_turned (T : Tx K mg) : Cl P w K mg base 1 "_law_turned" 3 F_law_turned [] :=
  cl_mk T.d_law_turned sc_law_turned rfl rfl fun fa cdv A outer s H E hr => ⟨_, (dss_cons (ds_frz [1] (ds_setLc (own := [("pair", 3)]) (ws := [3]) 4 rfl sc_law_turned.nd (di_seq (de_nm 1)) (blkOk_by (N := ["order", "ties", "kinds", "pair", "tie_row", "p", "kind", "kind_row"]) (sc := defScope s_law_turned) (by decide +kernel)) (fun _ _ _ _ _ => (dg_nm 3 sc_law_turned.nd)) (fun _ _ _ _ _ => dts_nil) (fun _ _ _ _ _ => (de_tup (da_cons (de_ix (K := K) (de_nm 0) (de_ix (K := K) (de_nm 3) de_int)) (da_cons (de_ix (K := K) (de_nm 0) (de_ix (K := K) (de_nm 3) de_int)) da_nil)))) s H (sw_true rfl rfl rfl (by decide +kernel)))) (dss_cons (ds_frz [2] (ds_setLc (own := [("kind", 6)]) (ws := [6]) 7 rfl sc_law_turned.nd (di_seq (de_nm 2)) (blkOk_by (N := ["order", "ties", "kinds", "pair", "tie_row", "p", "kind", "kind_row"]) (sc := defScope s_law_turned) (by decide +kernel)) (fun _ _ _ _ _ => (dg_nm 6 sc_law_turned.nd)) (fun _ _ _ _ _ => dts_nil) (fun _ _ _ _ _ => (de_tup (da_cons (de_callTy (K := K) (ck_tuple (K := K)) snc_tuple (by decide +kernel) T.z_tuple (da_cons (de_lc (own := [("p", 5)]) (ws := [5]) rfl sc_law_turned.nd (di_seqK (K := K) (de_ix (K := K) (de_nm 6) de_int)) (blkOk_nest (N := ["order", "ties", "kinds", "pair", "tie_row", "p", "kind", "kind_row"]) (defScope s_law_turned) rfl (by decide +kernel)) (fun _ _ _ _ _ => (dg_nm 5 sc_law_turned.nd)) (fun _ _ _ _ _ => dts_nil) (fun _ _ _ _ _ => (de_ix (K := K) (de_nm 0) (de_nm 5))) (z1 := s) (z2 := H)) da_nil)) (da_cons (de_ix (K := K) (de_nm 6) de_int) da_nil)))) s H (sw_true rfl rfl rfl (by decide +kernel)))) (dss_one (ds_frz [4, 7] (ds_ret (de_tup (da_cons (de_nm 4) (da_cons (de_nm 7) da_nil))))))))⟩
/-! _law_round: 0 pool, 1 start, 2 many, 3 kinds, 4 hands, 5 most, 6 order, 7 k, 8 tie_row, 9 p, 10 hand_row, 11 kind_row, 12 a, 13 step, 14 size, 15 j, 16 way -/
def b_law_round : En → Out := (seqO (frzO [0, 1, 2] (setO 6 (callF F_law_order [] (consA (nmE 0) (consA (nmE 1) (consA (nmE 2) nilA)))))) (seqO (setO 8 (lcE (rng1 (nmE 2)) (nmT 7) yesT (tupE (consA (binE ixP (nmE 6) (nmE 7)) (consA (binE ixP (nmE 6) (binE (intP modI) (callE intC (consA (binE (addP) (nmE 7) (cE (.int 1))) nilA)) (nmE 2))) nilA))) [7])) (seqO (setO 10 (lcE (rng1 (nmE 2)) (nmT 9) yesT (binE (addP) (cE (.int 1)) (binE (intP modI) (callE intC (consA (binE ixP (nmE 0) (binE (addP) (binE (addP) (nmE 1) (cE (.int 6))) (nmE 9))) nilA)) (nmE 4))) [9])) (seqO (setO 11 (lstE nilA)) (seqO (forS (rng1 (nmE 3)) (nmT 7) (seqO (setO 12 (binE (intP modI) (callE intC (consA (binE ixP (nmE 0) (binE (addP) (binE (addP) (nmE 1) (cE (.int 12))) (binE (intP mulI) (cE (.int 3)) (nmE 7)))) nilA)) (nmE 2))) (seqO (setO 13 (binE (intP subI) (cE (.int 1)) (binE (intP mulI) (cE (.int 2)) (binE (intP modI) (callE intC (consA (binE ixP (nmE 0) (binE (addP) (binE (addP) (nmE 1) (cE (.int 13))) (binE (intP mulI) (cE (.int 3)) (nmE 7)))) nilA)) (cE (.int 2)))))) (seqO (setO 14 (binE (addP) (cE (.int 2)) (binE (intP modI) (callE intC (consA (binE (intP divI) (binE ixP (nmE 0) (binE (addP) (binE (addP) (nmE 1) (cE (.int 13))) (binE (intP mulI) (cE (.int 3)) (nmE 7)))) (cE (.int 2))) nilA)) (binE (intP subI) (nmE 2) (cE (.int 1)))))) (seqO (setO 16 (callE tupleC (consA (lcE (rng1 (nmE 14)) (nmT 15) yesT (binE ixP (nmE 6) (binE (intP modI) (callE intC (consA (binE (addP) (nmE 12) (binE (intP mulI) (nmE 13) (nmE 15))) nilA)) (nmE 2))) [15]) nilA))) (frzO [16] (appO 11 (tupE (consA (nmE 16) (consA (binE (intP modI) (callE intC (consA (binE ixP (nmE 0) (binE (addP) (binE (addP) (nmE 1) (cE (.int 14))) (binE (intP mulI) (cE (.int 3)) (nmE 7)))) nilA)) (binE (addP) (nmE 5) (cE (.int 1)))) nilA)))))))))) (frzO [10, 8, 11] (retO (tupE (consA (nmE 10) (consA (nmE 8) (consA (nmE 11) nilA)))))))))))
def F_law_round : Fn := runF 6 17 b_law_round
theorem sc_law_round : FnScope ["pool", "start", "many", "kinds", "hands", "most", "order", "k", "tie_row", "p", "hand_row", "kind_row", "a", "step", "size", "j", "way"] ["pool", "start", "many", "kinds", "hands", "most"] (defScope s_law_round) := ⟨rfl, rfl, rfl, by decide +kernel, rfl, by decide +kernel, by decide +kernel⟩
theorem c_law_round (T : Tx K mg) : Cl P w K mg base 2 "_law_round" 6 F_law_round [] :=
  cl_mk T.d_law_round sc_law_round rfl rfl fun fa cdv A outer s H E hr => ⟨_, (dss_cons (ds_frz [0, 1, 2] (ds_set 6 sc_law_round.nd (de_c (K := K) (c_law_order T) hr (da_cons (de_nm 0) (da_cons (de_nm 1) (da_cons (de_nm 2) da_nil)))))) (dss_cons (ds_setLc (own := [("k", 7)]) (ws := [7]) 8 rfl sc_law_round.nd (di_rng1 T.z_range (de_nm 2)) (blkOk_by (N := ["pool", "start", "many", "kinds", "hands", "most", "order", "k", "tie_row", "p", "hand_row", "kind_row", "a", "step", "size", "j", "way"]) (sc := defScope s_law_round) (by decide +kernel)) (fun _ _ _ _ _ => (dg_nm 7 sc_law_round.nd)) (fun _ _ _ _ _ => dts_nil) (fun _ _ _ _ _ => (de_tup (da_cons (de_ix (K := K) (de_nm 6) (de_nm 7)) (da_cons (de_ix (K := K) (de_nm 6) (de_mod (de_callTy (K := K) call_int1 snc_int (by decide +kernel) T.z_int (da_cons (de_add (de_nm 7) de_int) da_nil)) (de_nm 2))) da_nil)))) s H (sw_true rfl rfl rfl (by decide +kernel))) (dss_cons (ds_setLc (own := [("p", 9)]) (ws := [9]) 10 rfl sc_law_round.nd (di_rng1 T.z_range (de_nm 2)) (blkOk_by (N := ["pool", "start", "many", "kinds", "hands", "most", "order", "k", "tie_row", "p", "hand_row", "kind_row", "a", "step", "size", "j", "way"]) (sc := defScope s_law_round) (by decide +kernel)) (fun _ _ _ _ _ => (dg_nm 9 sc_law_round.nd)) (fun _ _ _ _ _ => dts_nil) (fun _ _ _ _ _ => (de_add de_int (de_mod (de_callTy (K := K) call_int1 snc_int (by decide +kernel) T.z_int (da_cons (de_ix (K := K) (de_nm 0) (de_add (de_add (de_nm 1) de_int) (de_nm 9))) da_nil)) (de_nm 4)))) s H (sw_true rfl rfl rfl (by decide +kernel))) (dss_cons (ds_set 11 sc_law_round.nd (de_lst da_nil)) (dss_cons (ds_for PassesOwn.never rfl (di_rng1 T.z_range (de_nm 3)) (dg_nm 7 sc_law_round.nd) (dss_cons (ds_set 12 sc_law_round.nd (de_mod (de_callTy (K := K) call_int1 snc_int (by decide +kernel) T.z_int (da_cons (de_ix (K := K) (de_nm 0) (de_add (de_add (de_nm 1) de_int) (de_mul de_int (de_nm 7)))) da_nil)) (de_nm 2))) (dss_cons (ds_set 13 sc_law_round.nd (de_sub de_int (de_mul de_int (de_mod (de_callTy (K := K) call_int1 snc_int (by decide +kernel) T.z_int (da_cons (de_ix (K := K) (de_nm 0) (de_add (de_add (de_nm 1) de_int) (de_mul de_int (de_nm 7)))) da_nil)) de_int)))) (dss_cons (ds_set 14 sc_law_round.nd (de_add de_int (de_mod (de_callTy (K := K) call_int1 snc_int (by decide +kernel) T.z_int (da_cons (de_div (de_ix (K := K) (de_nm 0) (de_add (de_add (de_nm 1) de_int) (de_mul de_int (de_nm 7)))) de_int) da_nil)) (de_sub (de_nm 2) de_int)))) (dss_cons (ds_set 16 sc_law_round.nd (de_callTy (K := K) (ck_tuple (K := K)) snc_tuple (by decide +kernel) T.z_tuple (da_cons (de_lc (own := [("j", 15)]) (ws := [15]) rfl sc_law_round.nd (di_rng1 T.z_range (de_nm 14)) (blkOk_by (N := ["pool", "start", "many", "kinds", "hands", "most", "order", "k", "tie_row", "p", "hand_row", "kind_row", "a", "step", "size", "j", "way"]) (sc := defScope s_law_round) (by decide +kernel)) (fun _ _ _ _ _ => (dg_nm 15 sc_law_round.nd)) (fun _ _ _ _ _ => dts_nil) (fun _ _ _ _ _ => (de_ix (K := K) (de_nm 6) (de_mod (de_callTy (K := K) call_int1 snc_int (by decide +kernel) T.z_int (da_cons (de_add (de_nm 12) (de_mul (de_nm 13) (de_nm 15))) da_nil)) (de_nm 2)))) (z1 := s) (z2 := H)) da_nil))) (dss_one (ds_frz [16] (ds_app 11 (de_tup (da_cons (de_nm 16) (da_cons (de_mod (de_callTy (K := K) call_int1 snc_int (by decide +kernel) T.z_int (da_cons (de_ix (K := K) (de_nm 0) (de_add (de_add (de_nm 1) de_int) (de_mul de_int (de_nm 7)))) da_nil)) (de_add (de_nm 5) de_int)) da_nil))))))))))) (dss_one (ds_frz [10, 8, 11] (ds_ret (de_tup (da_cons (de_nm 10) (da_cons (de_nm 8) (da_cons (de_nm 11) da_nil))))))))))))⟩
/-! _law_quick: 0 pool, 1 start, 2 ties, 3 share, 4 k -/
def b_law_quick : En → Out := (retO (lcE (rng1 (callE lenC (consA (nmE 2) nilA))) (nmT 4) (valT (binE (eqP false) (binE (intP modI) (callE intC (consA (binE ixP (nmE 0) (binE (addP) (nmE 1) (nmE 4))) nilA)) (nmE 3)) (cE (.int 0)))) (binE ixP (nmE 2) (nmE 4)) [4]))
def F_law_quick : Fn := runF 4 5 b_law_quick
theorem sc_law_quick : FnScope ["pool", "start", "ties", "share", "k"] ["pool", "start", "ties", "share"] (defScope s_law_quick) := ⟨rfl, rfl, rfl, by decide +kernel, rfl, by decide +kernel, by decide +kernel⟩
theorem c_law_quick (T : Tx K mg) : Cl P w K mg base 1 "_law_quick" 4 F_law_quick [] :=
  cl_mk T.d_law_quick sc_law_quick rfl rfl fun fa cdv A outer s H E hr => ⟨_, (dss_one (ds_ret (de_lc (own := [("k", 4)]) (ws := [4]) rfl sc_law_quick.nd (di_rng1 T.z_range (de_callB (K := K) (ck_len (K := K)) snc_len (by decide +kernel) T.z_len (da_cons (de_nm 2) da_nil))) (blkOk_by (N := ["pool", "start", "ties", "share", "k"]) (sc := defScope s_law_quick) (by decide +kernel)) (fun _ _ _ _ _ => (dg_nm 4 sc_law_quick.nd)) (fun _ _ _ _ _ => (dts_one (dt_cm (cm_eq (K := K) hr.units) (de_mod (de_callTy (K := K) call_int1 snc_int (by decide +kernel) T.z_int (da_cons (de_ix (K := K) (de_nm 0) (de_add (de_nm 1) (de_nm 4))) da_nil)) (de_nm 3)) de_int))) (fun _ _ _ _ _ => (de_ix (K := K) (de_nm 2) (de_nm 4))) (z1 := s) (z2 := H))))⟩
/-! _law_groups: 0 pool, 1 start, 2 kinds, 3 bound, 4 found, 5 mark, 6 k, 7 members -/
def b_law_groups : En → Out := (seqO (setO 4 (lstE nilA)) (seqO (forS (rng1 (cE (.int 3))) (nmT 5) (seqO (frzO [6] (setO 7 (lcE (rng1 (nmE 2)) (nmT 6) (valT (binE (eqP false) (binE (intP modI) (callE intC (consA (binE ixP (nmE 0) (binE (addP) (nmE 1) (nmE 6))) nilA)) (cE (.int 4))) (nmE 5))) (nmE 6) [6]))) (ifO (valT (binE (eqP true) (nmE 7) (lstE nilA))) (appO 4 (tupE (consA (callE tupleC (consA (nmE 7) nilA)) (consA (binE (intP modI) (callE intC (consA (binE ixP (nmE 0) (binE (addP) (binE (addP) (nmE 1) (cE (.int 6))) (nmE 5))) nilA)) (binE (addP) (nmE 3) (cE (.int 1)))) nilA)))) nextO))) (retO (nmE 4))))
def F_law_groups : Fn := runF 4 8 b_law_groups
theorem sc_law_groups : FnScope ["pool", "start", "kinds", "bound", "found", "mark", "k", "members"] ["pool", "start", "kinds", "bound"] (defScope s_law_groups) := ⟨rfl, rfl, rfl, by decide +kernel, rfl, by decide +kernel, by decide +kernel⟩
theorem c_law_groups (T : Tx K mg) : Cl P w K mg base 1 "_law_groups" 4 F_law_groups [] :=
  cl_mk T.d_law_groups sc_law_groups rfl rfl fun fa cdv A outer s H E hr => ⟨_, (dss_cons (ds_set 4 sc_law_groups.nd (de_lst da_nil)) (dss_cons (ds_for PassesOwn.never rfl (di_rng1 T.z_range de_int) (dg_nm 5 sc_law_groups.nd) (dss_cons (ds_frz [6] (ds_setLc (own := [("k", 6)]) (ws := [6]) 7 rfl sc_law_groups.nd (di_rng1 T.z_range (de_nm 2)) (blkOk_by (N := ["pool", "start", "kinds", "bound", "found", "mark", "k", "members"]) (sc := defScope s_law_groups) (by decide +kernel)) (fun _ _ _ _ _ => (dg_nm 6 sc_law_groups.nd)) (fun _ _ _ _ _ => (dts_one (dt_cm (cm_eq (K := K) hr.units) (de_mod (de_callTy (K := K) call_int1 snc_int (by decide +kernel) T.z_int (da_cons (de_ix (K := K) (de_nm 0) (de_add (de_nm 1) (de_nm 6))) da_nil)) de_int) (de_nm 5)))) (fun _ _ _ _ _ => (de_nm 6)) s H (sw_true rfl rfl rfl (by decide +kernel)))) (dss_one (ds_if (dt_cm (cm_ne (K := K) hr.units) (de_nm 7) (de_lst da_nil)) (dss_one (ds_app 4 (de_tup (da_cons (de_callTy (K := K) (ck_tuple (K := K)) snc_tuple (by decide +kernel) T.z_tuple (da_cons (de_nm 7) da_nil)) (da_cons (de_mod (de_callTy (K := K) call_int1 snc_int (by decide +kernel) T.z_int (da_cons (de_ix (K := K) (de_nm 0) (de_add (de_add (de_nm 1) de_int) (de_nm 5))) da_nil)) (de_add (de_nm 3) de_int)) da_nil))))) dss_nil)))) (dss_one (ds_ret (de_nm 4)))))⟩
/-! _law_web_shape: 0 pool, 1 many, 2 kinds, 3 hands, 4 most, 5 ties, 6 rows, 7 turned, 8 p -/
def b_law_web_shape : En → Out := (seqO (frzO [0, 1] (setO 5 (callF F_law_web [] (consA (nmE 0) (consA (cE (.int 10)) (consA (nmE 1) (consA (binE (intP modI) (callE intC (consA (binE ixP (nmE 0) (cE (.int 9))) nilA)) (cE (.int 11))) nilA))))))) (seqO (frzO [0, 1, 5, 2, 4] (setO 6 (callF F_law_web_kinds [] (consA (nmE 0) (consA (cE (.int 50)) (consA (nmE 1) (consA (nmE 5) (consA (nmE 2) (consA (nmE 4) nilA))))))))) (seqO (frzO [5, 6, 0, 1] (setO 7 (callF F_law_turned [] (consA (callF F_law_order [] (consA (nmE 0) (consA (cE (.int 42)) (consA (nmE 1) nilA)))) (consA (nmE 5) (consA (nmE 6) nilA)))))) (retO (tupE (consA (lcE (rng1 (nmE 1)) (nmT 8) yesT (binE (addP) (cE (.int 1)) (binE (intP modI) (callE intC (consA (binE ixP (nmE 0) (binE (addP) (cE (.int 36)) (nmE 8))) nilA)) (nmE 3))) [8]) (consA (binE ixP (nmE 7) (cE (.int 0))) (consA (binE ixP (nmE 7) (cE (.int 1))) nilA))))))))
def F_law_web_shape : Fn := runF 5 9 b_law_web_shape
theorem sc_law_web_shape : FnScope ["pool", "many", "kinds", "hands", "most", "ties", "rows", "turned", "p"] ["pool", "many", "kinds", "hands", "most"] (defScope s_law_web_shape) := ⟨rfl, rfl, rfl, by decide +kernel, rfl, by decide +kernel, by decide +kernel⟩
theorem c_law_web_shape (T : Tx K mg) : Cl P w K mg base 3 "_law_web_shape" 5 F_law_web_shape [] :=
  cl_mk T.d_law_web_shape sc_law_web_shape rfl rfl fun fa cdv A outer s H E hr => ⟨_, (dss_cons (ds_frz [0, 1] (ds_set 5 sc_law_web_shape.nd (de_c (K := K) (c_law_web T) hr (da_cons (de_nm 0) (da_cons de_int (da_cons (de_nm 1) (da_cons (de_mod (de_callTy (K := K) call_int1 snc_int (by decide +kernel) T.z_int (da_cons (de_ix (K := K) (de_nm 0) de_int) da_nil)) de_int) da_nil))))))) (dss_cons (ds_frz [0, 1, 5, 2, 4] (ds_set 6 sc_law_web_shape.nd (de_c (K := K) (c_law_web_kinds T) hr (da_cons (de_nm 0) (da_cons de_int (da_cons (de_nm 1) (da_cons (de_nm 5) (da_cons (de_nm 2) (da_cons (de_nm 4) da_nil))))))))) (dss_cons (ds_frz [5, 6, 0, 1] (ds_set 7 sc_law_web_shape.nd (de_c (K := K) (c_law_turned T) hr (da_cons (de_c (K := K) (c_law_order T) hr (da_cons (de_nm 0) (da_cons de_int (da_cons (de_nm 1) da_nil)))) (da_cons (de_nm 5) (da_cons (de_nm 6) da_nil)))))) (dss_one (ds_ret (de_tup (da_cons (de_lc (own := [("p", 8)]) (ws := [8]) rfl sc_law_web_shape.nd (di_rng1 T.z_range (de_nm 1)) (blkOk_by (N := ["pool", "many", "kinds", "hands", "most", "ties", "rows", "turned", "p"]) (sc := defScope s_law_web_shape) (by decide +kernel)) (fun _ _ _ _ _ => (dg_nm 8 sc_law_web_shape.nd)) (fun _ _ _ _ _ => dts_nil) (fun _ _ _ _ _ => (de_add de_int (de_mod (de_callTy (K := K) call_int1 snc_int (by decide +kernel) T.z_int (da_cons (de_ix (K := K) (de_nm 0) (de_add de_int (de_nm 8))) da_nil)) (de_nm 3)))) (z1 := s) (z2 := H)) (da_cons (de_ix (K := K) (de_nm 7) de_int) (da_cons (de_ix (K := K) (de_nm 7) de_int) da_nil)))))))))⟩
/-! _law_drawn: 0 pool, 1 form, 2 kinds -/
def b_law_drawn : En → Out := (seqO (setO 1 (binE (intP modI) (callE intC (consA (binE ixP (nmE 0) (cE (.int 0))) nilA)) (cE (.int 4)))) (seqO (setO 2 (binE (intP modI) (callE intC (consA (binE ixP (nmE 0) (cE (.int 8))) nilA)) (cE (.int 7)))) (seqO (ifO (valT (binE (eqP false) (nmE 1) (cE (.int 0)))) (frzO [0, 2] (retO (callF F_law_round [] (consA (nmE 0) (consA (cE (.int 10)) (consA (binE (addP) (cE (.int 3)) (binE (intP modI) (callE intC (consA (binE ixP (nmE 0) (cE (.int 2))) nilA)) (cE (.int 4)))) (consA (nmE 2) (consA (binE (addP) (cE (.int 1)) (binE (intP modI) (callE intC (consA (binE ixP (nmE 0) (cE (.int 6))) nilA)) (cE (.int 4)))) (consA (cE (.int 24)) nilA))))))))) nextO) (seqO (ifO (valT (binE (eqP false) (nmE 1) (cE (.int 1)))) (frzO [0, 2] (retO (callF F_law_web_shape [] (consA (nmE 0) (consA (binE (addP) (cE (.int 2)) (binE (intP modI) (callE intC (consA (binE ixP (nmE 0) (cE (.int 2))) nilA)) (cE (.int 5)))) (consA (nmE 2) (consA (binE (addP) (cE (.int 1)) (binE (intP modI) (callE intC (consA (binE ixP (nmE 0) (cE (.int 6))) nilA)) (cE (.int 4)))) (consA (cE (.int 24)) nilA)))))))) nextO) (frzO [0, 2] (retO (callF F_law_shape [] (consA (nmE 0) (consA (cE (.int 10)) (consA (binE (addP) (cE (.int 1)) (binE (intP modI) (callE intC (consA (binE ixP (nmE 0) (cE (.int 2))) nilA)) (cE (.int 6)))) (consA (nmE 2) (consA (binE (addP) (cE (.int 1)) (binE (intP modI) (callE intC (consA (binE ixP (nmE 0) (cE (.int 6))) nilA)) (cE (.int 4)))) (consA (cE (.int 24)) nilA)))))))))))))
def F_law_drawn : Fn := runF 1 3 b_law_drawn
theorem sc_law_drawn : FnScope ["pool", "form", "kinds"] ["pool"] (defScope s_law_drawn) := ⟨rfl, rfl, rfl, by decide +kernel, rfl, by decide +kernel, by decide +kernel⟩
theorem c_law_drawn (T : Tx K mg) : Cl P w K mg base 4 "_law_drawn" 1 F_law_drawn [] :=
  cl_mk T.d_law_drawn sc_law_drawn rfl rfl fun fa cdv A outer s H E hr => ⟨_, (dss_cons (ds_set 1 sc_law_drawn.nd (de_mod (de_callTy (K := K) call_int1 snc_int (by decide +kernel) T.z_int (da_cons (de_ix (K := K) (de_nm 0) de_int) da_nil)) de_int)) (dss_cons (ds_set 2 sc_law_drawn.nd (de_mod (de_callTy (K := K) call_int1 snc_int (by decide +kernel) T.z_int (da_cons (de_ix (K := K) (de_nm 0) de_int) da_nil)) de_int)) (dss_cons (ds_if (dt_cm (cm_eq (K := K) hr.units) (de_nm 1) de_int) (dss_one (ds_frz [0, 2] (ds_ret (de_c (K := K) (c_law_round T) hr (da_cons (de_nm 0) (da_cons de_int (da_cons (de_add de_int (de_mod (de_callTy (K := K) call_int1 snc_int (by decide +kernel) T.z_int (da_cons (de_ix (K := K) (de_nm 0) de_int) da_nil)) de_int)) (da_cons (de_nm 2) (da_cons (de_add de_int (de_mod (de_callTy (K := K) call_int1 snc_int (by decide +kernel) T.z_int (da_cons (de_ix (K := K) (de_nm 0) de_int) da_nil)) de_int)) (da_cons de_int da_nil)))))))))) dss_nil) (dss_cons (ds_if (dt_cm (cm_eq (K := K) hr.units) (de_nm 1) de_int) (dss_one (ds_frz [0, 2] (ds_ret (de_c (K := K) (c_law_web_shape T) hr (da_cons (de_nm 0) (da_cons (de_add de_int (de_mod (de_callTy (K := K) call_int1 snc_int (by decide +kernel) T.z_int (da_cons (de_ix (K := K) (de_nm 0) de_int) da_nil)) de_int)) (da_cons (de_nm 2) (da_cons (de_add de_int (de_mod (de_callTy (K := K) call_int1 snc_int (by decide +kernel) T.z_int (da_cons (de_ix (K := K) (de_nm 0) de_int) da_nil)) de_int)) (da_cons de_int da_nil))))))))) dss_nil) (dss_one (ds_frz [0, 2] (ds_ret (de_c (K := K) (c_law_shape T) hr (da_cons (de_nm 0) (da_cons de_int (da_cons (de_add de_int (de_mod (de_callTy (K := K) call_int1 snc_int (by decide +kernel) T.z_int (da_cons (de_ix (K := K) (de_nm 0) de_int) da_nil)) de_int)) (da_cons (de_nm 2) (da_cons (de_add de_int (de_mod (de_callTy (K := K) call_int1 snc_int (by decide +kernel) T.z_int (da_cons (de_ix (K := K) (de_nm 0) de_int) da_nil)) de_int)) (da_cons de_int da_nil))))))))))))))⟩
/-! _law_due: 0 normal, 1 which, 2 one, 3 two, 4 many, 5 of_kind, 6 k, 7 found, 8 q, 9 way -/
def b_law_due : En → Out := (seqO (setO 4 (callE lenC (consA (binE ixP (nmE 0) (cE (.int 0))) nilA))) (seqO (setO 5 (binE (intP ltI) (nmE 1) (cE (.int 3)))) (seqO (ifO (andT (truT (nmE 5)) (orT (valT (binE (intP ltI) (nmE 2) (cE (.int 0)))) (valT (binE (intP geI) (nmE 2) (callE lenC (consA (binE ixP (nmE 0) (cE (.int 2))) nilA)))))) (retO (tupE (consA (cE (.str "refused")) (consA (cE (.str "kind")) (consA (cE (.bl true)) nilA))))) nextO) (seqO (ifO (valT (binE (eqP false) (nmE 1) (cE (.int 2)))) (seqO (frzO [6] (setO 7 (lcE (rng1 (callE lenC (consA (binE ixP (nmE 0) (cE (.int 4))) nilA))) (nmT 6) (valT (binE (inAP false) (nmE 2) (binE ixP (binE ixP (binE ixP (nmE 0) (cE (.int 4))) (nmE 6)) (cE (.int 0))))) (nmE 6) [6]))) (seqO (ifO (valT (binE (eqP false) (nmE 7) (lstE nilA))) (retO (tupE (consA (cE (.str "told")) (consA (cE .non) nilA)))) nextO) (retO (tupE (consA (cE (.str "told")) (consA (binE ixP (nmE 7) (cE (.int 0))) nilA)))))) nextO) (seqO (ifO (andT (notT (truT (nmE 5))) (orT (valT (binE (intP ltI) (nmE 2) (cE (.int 0)))) (valT (binE (intP geI) (nmE 2) (nmE 4))))) (retO (tupE (consA (cE (.str "refused")) (consA (cE (.str "person")) (consA (cE (.bl true)) nilA))))) nextO) (seqO (ifO (valT (binE (eqP false) (nmE 1) (cE (.int 3)))) (frzO [8] (retO (tupE (consA (cE (.str "told")) (consA (callE tupleC (consA (lcE (rng1 (nmE 4)) (nmT 8) (valT (binE (inAP false) (tupE (consA (callE min2C (consA (nmE 2) (consA (nmE 8) nilA))) (consA (callE max2C (consA (nmE 2) (consA (nmE 8) nilA))) nilA))) (binE ixP (nmE 0) (cE (.int 1))))) (nmE 8) [8]) nilA)) nilA))))) nextO) (seqO (ifO (orT (valT (binE (intP ltI) (nmE 3) (cE (.int 0)))) (valT (binE (intP geI) (nmE 3) (nmE 4)))) (retO (tupE (consA (cE (.str "refused")) (consA (cE (.str "person")) (consA (cE (.bl true)) nilA))))) nextO) (seqO (ifO (valT (binE (eqP false) (nmE 1) (cE (.int 4)))) (retO (tupE (consA (cE (.str "told")) (consA (binE (inAP false) (tupE (consA (callE min2C (consA (nmE 2) (consA (nmE 3) nilA))) (consA (callE max2C (consA (nmE 2) (consA (nmE 3) nilA))) nilA))) (binE ixP (nmE 0) (cE (.int 1)))) nilA)))) nextO) (seqO (ifO (valT (binE (eqP false) (nmE 1) (cE (.int 5)))) (retO (tupE (consA (cE (.str "told")) (consA (binE (inAP false) (tupE (consA (callE min2C (consA (nmE 2) (consA (nmE 3) nilA))) (consA (callE max2C (consA (nmE 2) (consA (nmE 3) nilA))) nilA))) (binE ixP (nmE 0) (cE (.int 3)))) nilA)))) nextO) (seqO (setO 9 (binE ixP (binE ixP (binE ixP (nmE 0) (cE (.int 2))) (nmE 2)) (cE (.int 0)))) (seqO (ifO (orT (valT (binE (inAP true) (nmE 3) (nmE 9))) (andT (valT (binE (eqP false) (nmE 1) (cE (.int 0)))) (valT (binE (eqP false) (nmE 3) (binE ixP (nmE 9) (unE negP (cE (.int 1)))))))) (retO (tupE (consA (cE (.str "told")) (consA (cE .non) nilA)))) nextO) (seqO (ifO (valT (binE (eqP false) (nmE 1) (cE (.int 1)))) (retO (tupE (consA (cE (.str "told")) (consA (idxE (nmE 9) (nmE 3)) nilA)))) nextO) (retO (tupE (consA (cE (.str "told")) (consA (binE ixP (nmE 9) (binE (addP) (idxE (nmE 9) (nmE 3)) (cE (.int 1)))) nilA))))))))))))))))
def F_law_due : Fn := runF 4 10 b_law_due
theorem sc_law_due : FnScope ["normal", "which", "one", "two", "many", "of_kind", "k", "found", "q", "way"] ["normal", "which", "one", "two"] (defScope s_law_due) := ⟨rfl, rfl, rfl, by decide +kernel, rfl, by decide +kernel, by decide +kernel⟩
theorem c_law_due (T : Tx K mg) : Cl P w K mg base 1 "_law_due" 4 F_law_due [] :=
  cl_mk T.d_law_due sc_law_due rfl rfl fun fa cdv A outer s H E hr => ⟨_, (dss_cons (ds_set 4 sc_law_due.nd (de_callB (K := K) (ck_len (K := K)) snc_len (by decide +kernel) T.z_len (da_cons (de_ix (K := K) (de_nm 0) de_int) da_nil))) (dss_cons (ds_set 5 sc_law_due.nd (de_cm cm_lt (de_nm 1) de_int)) (dss_cons (ds_if (dt_w (dw_and (dt_tru (K := K) (de_nm 5)) (dw_and1 (dt_w (dw_or (dt_cm cm_lt (de_nm 2) de_int) (dw_or1 (dt_cm cm_ge (de_nm 2) (de_callB (K := K) (ck_len (K := K)) snc_len (by decide +kernel) T.z_len (da_cons (de_ix (K := K) (de_nm 0) de_int) da_nil))))))))) (dss_one (ds_ret (de_tup (da_cons de_str (da_cons de_str (da_cons de_bl da_nil)))))) dss_nil) (dss_cons (ds_if (dt_cm (cm_eq (K := K) hr.units) (de_nm 1) de_int) (dss_cons (ds_frz [6] (ds_setLc (own := [("k", 6)]) (ws := [6]) 7 rfl sc_law_due.nd (di_rng1 T.z_range (de_callB (K := K) (ck_len (K := K)) snc_len (by decide +kernel) T.z_len (da_cons (de_ix (K := K) (de_nm 0) de_int) da_nil))) (blkOk_by (N := ["normal", "which", "one", "two", "many", "of_kind", "k", "found", "q", "way"]) (sc := defScope s_law_due) (by decide +kernel)) (fun _ _ _ _ _ => (dg_nm 6 sc_law_due.nd)) (fun _ _ _ _ _ => (dts_one (dt_cm (cm_inA (K := K) hr.u100) (de_nm 2) (de_ix (K := K) (de_ix (K := K) (de_ix (K := K) (de_nm 0) de_int) (de_nm 6)) de_int)))) (fun _ _ _ _ _ => (de_nm 6)) s H (sw_true rfl rfl rfl (by decide +kernel)))) (dss_cons (ds_if (dt_cm (cm_eq (K := K) hr.units) (de_nm 7) (de_lst da_nil)) (dss_one (ds_ret (de_tup (da_cons de_str (da_cons de_non da_nil))))) dss_nil) (dss_one (ds_ret (de_tup (da_cons de_str (da_cons (de_ix (K := K) (de_nm 7) de_int) da_nil))))))) dss_nil) (dss_cons (ds_if (dt_w (dw_and (dt_not (dt_tru (K := K) (de_nm 5))) (dw_and1 (dt_w (dw_or (dt_cm cm_lt (de_nm 2) de_int) (dw_or1 (dt_cm cm_ge (de_nm 2) (de_nm 4)))))))) (dss_one (ds_ret (de_tup (da_cons de_str (da_cons de_str (da_cons de_bl da_nil)))))) dss_nil) (dss_cons (ds_if (dt_cm (cm_eq (K := K) hr.units) (de_nm 1) de_int) (dss_one (ds_frz [8] (ds_ret (de_tup (da_cons de_str (da_cons (de_callTy (K := K) (ck_tuple (K := K)) snc_tuple (by decide +kernel) T.z_tuple (da_cons (de_lc (own := [("q", 8)]) (ws := [8]) rfl sc_law_due.nd (di_rng1 T.z_range (de_nm 4)) (blkOk_by (N := ["normal", "which", "one", "two", "many", "of_kind", "k", "found", "q", "way"]) (sc := defScope s_law_due) (by decide +kernel)) (fun _ _ _ _ _ => (dg_nm 8 sc_law_due.nd)) (fun _ _ _ _ _ => (dts_one (dt_cm (cm_inA (K := K) hr.u100) (de_tup (da_cons (de_callB (K := K) (call_min2 rfl) snc_min2 (by decide +kernel) T.z_min (da_cons (de_nm 2) (da_cons (de_nm 8) da_nil))) (da_cons (de_callB (K := K) (call_max2 rfl) snc_max2 (by decide +kernel) T.z_max (da_cons (de_nm 2) (da_cons (de_nm 8) da_nil))) da_nil))) (de_ix (K := K) (de_nm 0) de_int)))) (fun _ _ _ _ _ => (de_nm 8)) (z1 := s) (z2 := H)) da_nil)) da_nil)))))) dss_nil) (dss_cons (ds_if (dt_w (dw_or (dt_cm cm_lt (de_nm 3) de_int) (dw_or1 (dt_cm cm_ge (de_nm 3) (de_nm 4))))) (dss_one (ds_ret (de_tup (da_cons de_str (da_cons de_str (da_cons de_bl da_nil)))))) dss_nil) (dss_cons (ds_if (dt_cm (cm_eq (K := K) hr.units) (de_nm 1) de_int) (dss_one (ds_ret (de_tup (da_cons de_str (da_cons (de_cm (cm_inA (K := K) hr.u100) (de_tup (da_cons (de_callB (K := K) (call_min2 rfl) snc_min2 (by decide +kernel) T.z_min (da_cons (de_nm 2) (da_cons (de_nm 3) da_nil))) (da_cons (de_callB (K := K) (call_max2 rfl) snc_max2 (by decide +kernel) T.z_max (da_cons (de_nm 2) (da_cons (de_nm 3) da_nil))) da_nil))) (de_ix (K := K) (de_nm 0) de_int)) da_nil))))) dss_nil) (dss_cons (ds_if (dt_cm (cm_eq (K := K) hr.units) (de_nm 1) de_int) (dss_one (ds_ret (de_tup (da_cons de_str (da_cons (de_cm (cm_inA (K := K) hr.u100) (de_tup (da_cons (de_callB (K := K) (call_min2 rfl) snc_min2 (by decide +kernel) T.z_min (da_cons (de_nm 2) (da_cons (de_nm 3) da_nil))) (da_cons (de_callB (K := K) (call_max2 rfl) snc_max2 (by decide +kernel) T.z_max (da_cons (de_nm 2) (da_cons (de_nm 3) da_nil))) da_nil))) (de_ix (K := K) (de_nm 0) de_int)) da_nil))))) dss_nil) (dss_cons (ds_set 9 sc_law_due.nd (de_ix (K := K) (de_ix (K := K) (de_ix (K := K) (de_nm 0) de_int) (de_nm 2)) de_int)) (dss_cons (ds_if (dt_w (dw_or (dt_cm (cm_notInA (K := K) hr.u100) (de_nm 3) (de_nm 9)) (dw_or1 (dt_w (dw_and (dt_cm (cm_eq (K := K) hr.units) (de_nm 1) de_int) (dw_and1 (dt_cm (cm_eq (K := K) hr.units) (de_nm 3) (de_ix (K := K) (de_nm 9) (de_neg de_int))))))))) (dss_one (ds_ret (de_tup (da_cons de_str (da_cons de_non da_nil))))) dss_nil) (dss_cons (ds_if (dt_cm (cm_eq (K := K) hr.units) (de_nm 1) de_int) (dss_one (ds_ret (de_tup (da_cons de_str (da_cons (de_index (K := K) (de_nm 9) (de_nm 3)) da_nil))))) dss_nil) (dss_one (ds_ret (de_tup (da_cons de_str (da_cons (de_ix (K := K) (de_nm 9) (de_add (de_index (K := K) (de_nm 9) (de_nm 3)) de_int)) da_nil)))))))))))))))))⟩
/-! Table.is_quick: 0 self, 1 person, 2 other -/
def b_Table_is_quick : En → Out := (seqO (frzO [0, 1] (dropO (callX F_check_person [] (consA (nmE 0) (consA (nmE 1) nilA))))) (seqO (frzO [0, 2] (dropO (callX F_check_person [] (consA (nmE 0) (consA (nmE 2) nilA))))) (frzO [1, 2] (retO (binE (inAP false) (callF F_lower_first [] (consA (tupE (consA (nmE 1) (consA (nmE 2) nilA))) nilA)) (unE (fldP "quick" oc_quick) (nmE 0)))))))
def F_Table_is_quick : Fn := runF 3 3 b_Table_is_quick
theorem sc_Table_is_quick : FnScope ["self", "person", "other"] ["self", "person", "other"] (defScope s_Table_is_quick) := ⟨rfl, rfl, rfl, by decide +kernel, rfl, by decide +kernel, by decide +kernel⟩
theorem c_Table_is_quick (T : Tx K mg) : ClMX P w K mg base 4 "Table" "is_quick" 3 F_Table_is_quick :=
  clMX_mk T.d_Table_is_quick sc_Table_is_quick rfl rfl fun fa qual cdv A outer s H E hr tk => ⟨_, (dss_cons (ds_frz [0, 1] (ds_expr (de_cx (K := K) (c_check_person T) tk hr (da_cons (de_nm 0) (da_cons (de_nm 1) da_nil))))) (dss_cons (ds_frz [0, 2] (ds_expr (de_cx (K := K) (c_check_person T) tk hr (da_cons (de_nm 0) (da_cons (de_nm 2) da_nil))))) (dss_one (ds_frz [1, 2] (ds_ret (de_cm (cm_inA (K := K) hr.u100) (de_c (K := K) (c_lower_first T) hr (da_cons (de_tup (da_cons (de_nm 1) (da_cons (de_nm 2) da_nil))) da_nil)) (de_fld (K := K) oc_quick (fun c h => objAll_c T.o_all c (cf_sub (a := oc_quick) (by decide +kernel) c h)) (noAll_c T.of_quick) (de_nm 0))))))))⟩
/-! Table.wants: 0 self, 1 kind, 2 person -/
def b_Table_wants : En → Out := (seqO (frzO [0, 1] (dropO (callX F_check_kind [] (consA (nmE 0) (consA (nmE 1) nilA))))) (seqO (frzO [0, 2] (dropO (callX F_check_person [] (consA (nmE 0) (consA (nmE 2) nilA))))) (retO (binE ixP (binE ixP (unE (fldP "_wants" oc_wants_u) (nmE 0)) (nmE 1)) (nmE 2)))))
def F_Table_wants : Fn := runF 3 3 b_Table_wants
theorem sc_Table_wants : FnScope ["self", "kind", "person"] ["self", "kind", "person"] (defScope s_Table_wants) := ⟨rfl, rfl, rfl, by decide +kernel, rfl, by decide +kernel, by decide +kernel⟩
theorem c_Table_wants (T : Tx K mg) : ClMX P w K mg base 4 "Table" "wants" 3 F_Table_wants :=
  clMX_mk T.d_Table_wants sc_Table_wants rfl rfl fun fa qual cdv A outer s H E hr tk => ⟨_, (dss_cons (ds_frz [0, 1] (ds_expr (de_cx (K := K) (c_check_kind T) tk hr (da_cons (de_nm 0) (da_cons (de_nm 1) da_nil))))) (dss_cons (ds_frz [0, 2] (ds_expr (de_cx (K := K) (c_check_person T) tk hr (da_cons (de_nm 0) (da_cons (de_nm 2) da_nil))))) (dss_one (ds_ret (de_ix (K := K) (de_ix (K := K) (de_fld (K := K) oc_wants_u (fun c h => objAll_c T.o_all c (cf_sub (a := oc_wants_u) (by decide +kernel) c h)) (noAll_c T.of_wants_u) (de_nm 0)) (de_nm 1)) (de_nm 2))))))⟩
/-! Table.steps_to: 0 self, 1 kind, 2 person -/
def b_Table_steps_to : En → Out := (seqO (frzO [0, 1] (dropO (callX F_check_kind [] (consA (nmE 0) (consA (nmE 1) nilA))))) (seqO (frzO [0, 2] (dropO (callX F_check_person [] (consA (nmE 0) (consA (nmE 2) nilA))))) (retO (binE ixP (binE ixP (unE (fldP "_steps" oc_steps_u) (nmE 0)) (nmE 1)) (nmE 2)))))
def F_Table_steps_to : Fn := runF 3 3 b_Table_steps_to
theorem sc_Table_steps_to : FnScope ["self", "kind", "person"] ["self", "kind", "person"] (defScope s_Table_steps_to) := ⟨rfl, rfl, rfl, by decide +kernel, rfl, by decide +kernel, by decide +kernel⟩
theorem c_Table_steps_to (T : Tx K mg) : ClMX P w K mg base 4 "Table" "steps_to" 3 F_Table_steps_to :=
  clMX_mk T.d_Table_steps_to sc_Table_steps_to rfl rfl fun fa qual cdv A outer s H E hr tk => ⟨_, (dss_cons (ds_frz [0, 1] (ds_expr (de_cx (K := K) (c_check_kind T) tk hr (da_cons (de_nm 0) (da_cons (de_nm 1) da_nil))))) (dss_cons (ds_frz [0, 2] (ds_expr (de_cx (K := K) (c_check_person T) tk hr (da_cons (de_nm 0) (da_cons (de_nm 2) da_nil))))) (dss_one (ds_ret (de_ix (K := K) (de_ix (K := K) (de_fld (K := K) oc_steps_u (fun c h => objAll_c T.o_all c (cf_sub (a := oc_steps_u) (by decide +kernel) c h)) (noAll_c T.of_steps_u) (de_nm 0)) (de_nm 1)) (de_nm 2))))))⟩
/-! Table.share_of: 0 self, 1 kind -/
def b_Table_share_of : En → Out := (seqO (frzO [0, 1] (dropO (callX F_check_kind [] (consA (nmE 0) (consA (nmE 1) nilA))))) (retO (binE ixP (unE (fldP "_share" oc_share_u) (nmE 0)) (nmE 1))))
def F_Table_share_of : Fn := runF 2 2 b_Table_share_of
theorem sc_Table_share_of : FnScope ["self", "kind"] ["self", "kind"] (defScope s_Table_share_of) := ⟨rfl, rfl, rfl, by decide +kernel, rfl, by decide +kernel, by decide +kernel⟩
theorem c_Table_share_of (T : Tx K mg) : ClMX P w K mg base 4 "Table" "share_of" 2 F_Table_share_of :=
  clMX_mk T.d_Table_share_of sc_Table_share_of rfl rfl fun fa qual cdv A outer s H E hr tk => ⟨_, (dss_cons (ds_frz [0, 1] (ds_expr (de_cx (K := K) (c_check_kind T) tk hr (da_cons (de_nm 0) (da_cons (de_nm 1) da_nil))))) (dss_one (ds_ret (de_ix (K := K) (de_fld (K := K) oc_share_u (fun c h => objAll_c T.o_all c (cf_sub (a := oc_share_u) (by decide +kernel) c h)) (noAll_c T.of_share_u) (de_nm 0)) (de_nm 1)))))⟩
/-! Table.neighbours: 0 self, 1 person -/
def b_Table_neighbours : En → Out := (seqO (frzO [0, 1] (dropO (callX F_check_person [] (consA (nmE 0) (consA (nmE 1) nilA))))) (retO (binE ixP (unE (fldP "_neighbours" oc_neighbours_u) (nmE 0)) (nmE 1))))
def F_Table_neighbours : Fn := runF 2 2 b_Table_neighbours
theorem sc_Table_neighbours : FnScope ["self", "person"] ["self", "person"] (defScope s_Table_neighbours) := ⟨rfl, rfl, rfl, by decide +kernel, rfl, by decide +kernel, by decide +kernel⟩
theorem c_Table_neighbours (T : Tx K mg) : ClMX P w K mg base 4 "Table" "neighbours" 2 F_Table_neighbours :=
  clMX_mk T.d_Table_neighbours sc_Table_neighbours rfl rfl fun fa qual cdv A outer s H E hr tk => ⟨_, (dss_cons (ds_frz [0, 1] (ds_expr (de_cx (K := K) (c_check_person T) tk hr (da_cons (de_nm 0) (da_cons (de_nm 1) da_nil))))) (dss_one (ds_ret (de_ix (K := K) (de_fld (K := K) oc_neighbours_u (fun c h => objAll_c T.o_all c (cf_sub (a := oc_neighbours_u) (by decide +kernel) c h)) (noAll_c T.of_neighbours_u) (de_nm 0)) (de_nm 1)))))⟩
/-! Table.is_tied: 0 self, 1 person, 2 other -/
def b_Table_is_tied : En → Out := (seqO (frzO [0, 1] (dropO (callX F_check_person [] (consA (nmE 0) (consA (nmE 1) nilA))))) (seqO (frzO [0, 2] (dropO (callX F_check_person [] (consA (nmE 0) (consA (nmE 2) nilA))))) (retO (binE (inAP false) (nmE 2) (binE ixP (unE (fldP "_neighbours" oc_neighbours_u) (nmE 0)) (nmE 1))))))
def F_Table_is_tied : Fn := runF 3 3 b_Table_is_tied
theorem sc_Table_is_tied : FnScope ["self", "person", "other"] ["self", "person", "other"] (defScope s_Table_is_tied) := ⟨rfl, rfl, rfl, by decide +kernel, rfl, by decide +kernel, by decide +kernel⟩
theorem c_Table_is_tied (T : Tx K mg) : ClMX P w K mg base 4 "Table" "is_tied" 3 F_Table_is_tied :=
  clMX_mk T.d_Table_is_tied sc_Table_is_tied rfl rfl fun fa qual cdv A outer s H E hr tk => ⟨_, (dss_cons (ds_frz [0, 1] (ds_expr (de_cx (K := K) (c_check_person T) tk hr (da_cons (de_nm 0) (da_cons (de_nm 1) da_nil))))) (dss_cons (ds_frz [0, 2] (ds_expr (de_cx (K := K) (c_check_person T) tk hr (da_cons (de_nm 0) (da_cons (de_nm 2) da_nil))))) (dss_one (ds_ret (de_cm (cm_inA (K := K) hr.u100) (de_nm 2) (de_ix (K := K) (de_fld (K := K) oc_neighbours_u (fun c h => objAll_c T.o_all c (cf_sub (a := oc_neighbours_u) (by decide +kernel) c h)) (noAll_c T.of_neighbours_u) (de_nm 0)) (de_nm 1)))))))⟩
/-! _law_told: 0 table, 1 which, 2 one, 3 two, 4 e, 5 above -/
def b_law_told : En → Out := (tryO 4 (cmOf cs_all ys_NoSuch) (seqO (ifO (valT (binE (eqP false) (nmE 1) (cE (.int 0)))) (frzO [2, 3] (retO (tupE (consA (cE (.str "told")) (consA (callMX "Table" "wants" F_Table_wants (nmE 0) (consA (nmE 2) (consA (nmE 3) nilA))) nilA))))) nextO) (seqO (ifO (valT (binE (eqP false) (nmE 1) (cE (.int 1)))) (frzO [2, 3] (retO (tupE (consA (cE (.str "told")) (consA (callMX "Table" "steps_to" F_Table_steps_to (nmE 0) (consA (nmE 2) (consA (nmE 3) nilA))) nilA))))) nextO) (seqO (ifO (valT (binE (eqP false) (nmE 1) (cE (.int 2)))) (frzO [2] (retO (tupE (consA (cE (.str "told")) (consA (callMX "Table" "share_of" F_Table_share_of (nmE 0) (consA (nmE 2) nilA)) nilA))))) nextO) (seqO (ifO (valT (binE (eqP false) (nmE 1) (cE (.int 3)))) (frzO [2] (retO (tupE (consA (cE (.str "told")) (consA (callMX "Table" "neighbours" F_Table_neighbours (nmE 0) (consA (nmE 2) nilA)) nilA))))) nextO) (seqO (ifO (valT (binE (eqP false) (nmE 1) (cE (.int 4)))) (frzO [2, 3] (retO (tupE (consA (cE (.str "told")) (consA (callMX "Table" "is_tied" F_Table_is_tied (nmE 0) (consA (nmE 2) (consA (nmE 3) nilA))) nilA))))) nextO) (frzO [2, 3] (retO (tupE (consA (cE (.str "told")) (consA (callMX "Table" "is_quick" F_Table_is_quick (nmE 0) (consA (nmE 2) (consA (nmE 3) nilA))) nilA)))))))))) (seqO (setO 5 (andE (isXT 4 cs_all ys_HandsatworkError) (isXT 4 cs_all ys_ValueError))) (retO (tupE (consA (cE (.str "refused")) (consA (xfE 4 "NoSuch" "what") (consA (andE (nmE 5) (notE (isXT 4 cs_all ys_BadTable))) nilA)))))))
def F_law_told : Fn := runF 4 6 b_law_told
theorem sc_law_told : FnScope ["table", "which", "one", "two", "e", "above"] ["table", "which", "one", "two"] (defScope s_law_told) := ⟨rfl, rfl, rfl, by decide +kernel, rfl, by decide +kernel, by decide +kernel⟩
theorem c_law_told (T : Tx K mg) : Cl P w K mg base 5 "_law_told" 4 F_law_told [] :=
  cl_mk T.d_law_told sc_law_told rfl rfl fun fa cdv A outer s H E hr => ⟨_, (dss_one (ds_try (i := 4) (cm := cmOf cs_all ys_NoSuch) (c := .ref (adr K "NoSuch")) (exmAll_c T.m_NoSuch) rfl rfl sc_law_told.nd ⟨rfl, by decide, .inl T.gc_NoSuch⟩ takesNo (fun w pn xe tk => (dss_cons (ds_if (dt_cm (cm_eq (K := K) hr.units) (de_nm 1) de_int) (dss_one (ds_frz [2, 3] (ds_ret (de_tup (da_cons de_str (da_cons (de_mx (K := K) (c_Table_wants T) tk (objAll_c T.o_all "Table" (by decide +kernel)) hr (de_nm 0) (da_cons (de_nm 2) (da_cons (de_nm 3) da_nil))) da_nil)))))) dss_nil) (dss_cons (ds_if (dt_cm (cm_eq (K := K) hr.units) (de_nm 1) de_int) (dss_one (ds_frz [2, 3] (ds_ret (de_tup (da_cons de_str (da_cons (de_mx (K := K) (c_Table_steps_to T) tk (objAll_c T.o_all "Table" (by decide +kernel)) hr (de_nm 0) (da_cons (de_nm 2) (da_cons (de_nm 3) da_nil))) da_nil)))))) dss_nil) (dss_cons (ds_if (dt_cm (cm_eq (K := K) hr.units) (de_nm 1) de_int) (dss_one (ds_frz [2] (ds_ret (de_tup (da_cons de_str (da_cons (de_mx (K := K) (c_Table_share_of T) tk (objAll_c T.o_all "Table" (by decide +kernel)) hr (de_nm 0) (da_cons (de_nm 2) da_nil)) da_nil)))))) dss_nil) (dss_cons (ds_if (dt_cm (cm_eq (K := K) hr.units) (de_nm 1) de_int) (dss_one (ds_frz [2] (ds_ret (de_tup (da_cons de_str (da_cons (de_mx (K := K) (c_Table_neighbours T) tk (objAll_c T.o_all "Table" (by decide +kernel)) hr (de_nm 0) (da_cons (de_nm 2) da_nil)) da_nil)))))) dss_nil) (dss_cons (ds_if (dt_cm (cm_eq (K := K) hr.units) (de_nm 1) de_int) (dss_one (ds_frz [2, 3] (ds_ret (de_tup (da_cons de_str (da_cons (de_mx (K := K) (c_Table_is_tied T) tk (objAll_c T.o_all "Table" (by decide +kernel)) hr (de_nm 0) (da_cons (de_nm 2) (da_cons (de_nm 3) da_nil))) da_nil)))))) dss_nil) (dss_one (ds_frz [2, 3] (ds_ret (de_tup (da_cons de_str (da_cons (de_mx (K := K) (c_Table_is_quick T) tk (objAll_c T.o_all "Table" (by decide +kernel)) hr (de_nm 0) (da_cons (de_nm 2) (da_cons (de_nm 3) da_nil))) da_nil)))))))))))) (fun a oe cls d pn hz hf => (dss_cons (ds_set 5 sc_law_told.nd (de_and (de_isX (K := K) cs_all ys_HandsatworkError hz hf (exAll_c T.e_all) T.gc_HandsatworkError (kitAll_c T.k_HandsatworkError) T.z_isinstance 4) (de_one (de_isXb (K := K) (Ts := "ValueError") cs_all ys_ValueError hz hf (exAll_c T.e_all) (by decide +kernel) T.z_ValueError (kitAll_c T.k_ValueError) T.z_isinstance 4)))) (dss_one (ds_ret (de_tup (da_cons de_str (da_cons (de_xf "NoSuch" (exAll_x T.e_all _ (by decide +kernel)) (noAll_c T.n_what _ (by decide +kernel)) hz hf 4) (da_cons (de_and (de_nm 5) (de_one (de_not (de_isX (K := K) cs_all ys_BadTable hz hf (exAll_c T.e_all) T.gc_BadTable (kitAll_c T.k_BadTable) T.z_isinstance 4)))) da_nil))))))))))⟩
/-! _law_grounds: 0 normal, 1 many, 2 pair, 3 p, 4 counts, 5 number, 6 is_round -/
def b_law_grounds : En → Out := (seqO (setO 1 (callE lenC (consA (binE ixP (nmE 0) (cE (.int 0))) nilA))) (seqO (frzO [2] (setO 4 (lcE (rng1 (nmE 1)) (nmT 3) yesT (callE lenC (consA (lcE (seqI (binE ixP (nmE 0) (cE (.int 1)))) (nmT 2) (valT (binE (inAP false) (nmE 3) (nmE 2))) (nmE 2) [2]) nilA)) [3]))) (seqO (frzO [5, 4] (setO 6 (andE (binE (intP gtI) (nmE 1) (cE (.int 2))) (binE (eqP false) (callE lenC (consA (lcE (seqI (nmE 4)) (nmT 5) (valT (binE (eqP true) (nmE 5) (cE (.int 2)))) (nmE 5) [5]) nilA)) (cE (.int 0)))))) (frzO [6, 5] (retO (tupE (consA (binE (eqP false) (callE lenC (consA (binE ixP (nmE 0) (cE (.int 1))) nilA)) (binE (intP subI) (nmE 1) (cE (.int 1)))) (consA (nmE 6) (consA (binE (eqP false) (callE lenC (consA (lcE (seqI (binE ixP (nmE 0) (cE (.int 0)))) (nmT 5) (valT (binE (eqP true) (nmE 5) (cE (.int 1)))) (nmE 5) [5]) nilA)) (cE (.int 0))) nilA)))))))))
def F_law_grounds : Fn := runF 1 7 b_law_grounds
theorem sc_law_grounds : FnScope ["normal", "many", "pair", "p", "counts", "number", "is_round"] ["normal"] (defScope s_law_grounds) := ⟨rfl, rfl, rfl, by decide +kernel, rfl, by decide +kernel, by decide +kernel⟩
theorem c_law_grounds (T : Tx K mg) : Cl P w K mg base 1 "_law_grounds" 1 F_law_grounds [] :=
  cl_mk T.d_law_grounds sc_law_grounds rfl rfl fun fa cdv A outer s H E hr => ⟨_, (dss_cons (ds_set 1 sc_law_grounds.nd (de_callB (K := K) (ck_len (K := K)) snc_len (by decide +kernel) T.z_len (da_cons (de_ix (K := K) (de_nm 0) de_int) da_nil))) (dss_cons (ds_frz [2] (ds_setLc (own := [("p", 3)]) (ws := [3]) 4 rfl sc_law_grounds.nd (di_rng1 T.z_range (de_nm 1)) (blkOk_by (N := ["normal", "many", "pair", "p", "counts", "number", "is_round"]) (sc := defScope s_law_grounds) (by decide +kernel)) (fun _ _ _ _ _ => (dg_nm 3 sc_law_grounds.nd)) (fun _ _ _ _ _ => dts_nil) (fun _ _ _ _ _ => (de_callB (K := K) (ck_len (K := K)) snc_len (by decide +kernel) T.z_len (da_cons (de_lc (own := [("pair", 2)]) (ws := [2]) rfl sc_law_grounds.nd (di_seqK (K := K) (de_ix (K := K) (de_nm 0) de_int)) (blkOk_nest (N := ["normal", "many", "pair", "p", "counts", "number", "is_round"]) (defScope s_law_grounds) rfl (by decide +kernel)) (fun _ _ _ _ _ => (dg_nm 2 sc_law_grounds.nd)) (fun _ _ _ _ _ => (dts_one (dt_cm (cm_inA (K := K) hr.u100) (de_nm 3) (de_nm 2)))) (fun _ _ _ _ _ => (de_nm 2)) (z1 := s) (z2 := H)) da_nil))) s H (sw_true rfl rfl rfl (by decide +kernel)))) (dss_cons (ds_frz [5, 4] (ds_set 6 sc_law_grounds.nd (de_and (de_cm cm_gt (de_nm 1) de_int) (de_one (de_cm (cm_eq (K := K) hr.units) (de_callB (K := K) (ck_len (K := K)) snc_len (by decide +kernel) T.z_len (da_cons (de_lc (own := [("number", 5)]) (ws := [5]) rfl sc_law_grounds.nd (di_seq (de_nm 4)) (blkOk_by (N := ["normal", "many", "pair", "p", "counts", "number", "is_round"]) (sc := defScope s_law_grounds) (by decide +kernel)) (fun _ _ _ _ _ => (dg_nm 5 sc_law_grounds.nd)) (fun _ _ _ _ _ => (dts_one (dt_cm (cm_ne (K := K) hr.units) (de_nm 5) de_int))) (fun _ _ _ _ _ => (de_nm 5)) (z1 := s) (z2 := H)) da_nil)) de_int))))) (dss_one (ds_frz [6, 5] (ds_ret (de_tup (da_cons (de_cm (cm_eq (K := K) hr.units) (de_callB (K := K) (ck_len (K := K)) snc_len (by decide +kernel) T.z_len (da_cons (de_ix (K := K) (de_nm 0) de_int) da_nil)) (de_sub (de_nm 1) de_int)) (da_cons (de_nm 6) (da_cons (de_cm (cm_eq (K := K) hr.units) (de_callB (K := K) (ck_len (K := K)) snc_len (by decide +kernel) T.z_len (da_cons (de_lc (own := [("number", 5)]) (ws := [5]) rfl sc_law_grounds.nd (di_seq (de_ix (K := K) (de_nm 0) de_int)) (blkOk_by (N := ["normal", "many", "pair", "p", "counts", "number", "is_round"]) (sc := defScope s_law_grounds) (by decide +kernel)) (fun _ _ _ _ _ => (dg_nm 5 sc_law_grounds.nd)) (fun _ _ _ _ _ => (dts_one (dt_cm (cm_ne (K := K) hr.units) (de_nm 5) de_int))) (fun _ _ _ _ _ => (de_nm 5)) (z1 := s) (z2 := H)) da_nil)) de_int) da_nil))))))))))⟩
/-! Table.__init__: 0 self, 1 hands, 2 ties, 3 kinds, 4 quick, 5 shares, 6 broken, 7 tie, 8 way, 9 most, 10 row, 11 bound, 12 people, 13 person, 14 _, 15 kind -/
def b_Table_init : En → Out := (seqO (frzO [1, 2, 3, 4, 5] (setO 6 (callF F_broken_rule [] (consA (nmE 1) (consA (nmE 2) (consA (nmE 3) (consA (nmE 4) (consA (nmE 5) nilA)))))))) (seqO (ifO (valT (binE (isP true) (nmE 6) (cE .non))) (raiseO (mkE "BadTable" ["place", "index"] (consA (binE ixP (nmE 6) (cE (.int 0))) (consA (binE ixP (nmE 6) (cE (.int 1))) nilA)))) nextO) (seqO (stoO 0 "hands" oc_hands (callE tupleC (consA (nmE 1) nilA))) (seqO (frzO [2, 7] (stoO 0 "ties" oc_ties (callE tupleC (consA (callE sortAC (consA (lcE (seqI (nmE 2)) (nmT 7) yesT (callF F_lower_first [] (consA (nmE 7) nilA)) [7]) nilA)) nilA)))) (seqO (frzO [3, 9] (stoO 0 "kinds" oc_kinds (callE tupleC (consA (lcE (seqI (nmE 3)) (tupT 2 (consT (nmT 8) (consT (nmT 9) nilT))) yesT (tupE (consA (callE tupleC (consA (nmE 8) nilA)) (consA (nmE 9) nilA))) [8, 9]) nilA)))) (seqO (frzO [4, 7] (stoO 0 "quick" oc_quick (callE tupleC (consA (callE sortAC (consA (lcE (seqI (nmE 4)) (nmT 7) yesT (callF F_lower_first [] (consA (nmE 7) nilA)) [7]) nilA)) nilA)))) (seqO (frzO [5, 11] (stoO 0 "shares" oc_shares (callE tupleC (consA (callE sortAC (consA (lcE (seqI (nmE 5)) (tupT 2 (consT (nmT 10) (consT (nmT 11) nilT))) yesT (tupE (consA (callE tupleC (consA (callE sortAC (consA (nmE 10) nilA)) nilA)) (consA (nmE 11) nilA))) [10, 11]) nilA)) nilA)))) (seqO (setO 12 (callE lenC (consA (omF 0 "hands" oc_hands) nilA))) (seqO (frzO [13] (stoO 0 "_neighbours" oc_neighbours_u (callE tupleC (consA (lcE (rng1 (nmE 12)) (nmT 13) yesT (callF F_neighbours_of [] (consA (nmE 13) (consA (omF 0 "ties" oc_ties) nilA))) [13]) nilA)))) (seqO (frzO [12, 8] (stoO 0 "_wants" oc_wants_u (callE tupleC (consA (lcE (seqI (omF 0 "kinds" oc_kinds)) (tupT 2 (consT (nmT 8) (consT (nmT 14) nilT))) yesT (callF F_wants_along [] (consA (nmE 12) (consA (nmE 8) nilA))) [8, 14]) nilA)))) (seqO (frzO [12, 8] (stoO 0 "_steps" oc_steps_u (callE tupleC (consA (lcE (seqI (omF 0 "kinds" oc_kinds)) (tupT 2 (consT (nmT 8) (consT (nmT 14) nilT))) yesT (callF F_steps_along [] (consA (nmE 12) (consA (nmE 8) nilA))) [8, 14]) nilA)))) (frzO [15] (stoO 0 "_share" oc_share_u (callE tupleC (consA (lcE (rng1 (callE lenC (consA (omF 0 "kinds" oc_kinds) nilA))) (nmT 15) yesT (callF F_share_with [] (consA (nmE 15) (consA (omF 0 "shares" oc_shares) nilA))) [15]) nilA)))))))))))))))
def F_Table_init : Fn := runI "Table" 5 15 b_Table_init
theorem sc_Table_init : FnScope ["self", "hands", "ties", "kinds", "quick", "shares", "broken", "tie", "way", "most", "row", "bound", "people", "person", "_", "kind"] ["self", "hands", "ties", "kinds", "quick", "shares"] (defScope s_Table_init) := ⟨rfl, rfl, rfl, by decide +kernel, rfl, by decide +kernel, by decide +kernel⟩
theorem i_Table (T : Tx K mg) : Ini P w K mg base 5 "Table" s_Table_init ["hands", "ties", "kinds", "quick", "shares"] F_Table_init :=
  ini_mk T.d_Table_init sc_Table_init rfl rfl fun fa qual cdv A outer s H E me hr tk => ⟨_, (dss_cons (ds_frz [1, 2, 3, 4, 5] (ds_set 6 sc_Table_init.nd (de_c (K := K) (c_broken_rule T) hr (da_cons (de_nm 1) (da_cons (de_nm 2) (da_cons (de_nm 3) (da_cons (de_nm 4) (da_cons (de_nm 5) da_nil)))))))) (dss_cons (ds_if (dt_cm cm_isNot (de_nm 6) de_non) (dss_one (ds_raise rfl tk (dm_mk (K := K) (x_BadTable T) hr (da_cons (de_ix (K := K) (de_nm 6) de_int) (da_cons (de_ix (K := K) (de_nm 6) de_int) da_nil))))) dss_nil) (dss_cons (ds_sto (K := K) 0 oc_hands (fun c h => objAll_c T.o_all c (cf_sub (a := oc_hands) (by decide +kernel) c h)) (noAll_c T.of_hands) (de_callTy (K := K) (ck_tuple (K := K)) snc_tuple (by decide +kernel) T.z_tuple (da_cons (de_nm 1) da_nil))) (dss_cons (ds_frz [2, 7] (ds_sto (K := K) 0 oc_ties (fun c h => objAll_c T.o_all c (cf_sub (a := oc_ties) (by decide +kernel) c h)) (noAll_c T.of_ties) (de_callTy (K := K) (ck_tuple (K := K)) snc_tuple (by decide +kernel) T.z_tuple (da_cons (de_callB (K := K) (ck_sortA (K := K) hr.u100) snc_sortA (by decide +kernel) T.z_sorted (da_cons (de_lc (own := [("tie", 7)]) (ws := [7]) rfl sc_Table_init.nd (di_seq (de_nm 2)) (blkOk_by (N := ["self", "hands", "ties", "kinds", "quick", "shares", "broken", "tie", "way", "most", "row", "bound", "people", "person", "_", "kind"]) (sc := defScope s_Table_init) (by decide +kernel)) (fun _ _ _ _ _ => (dg_nm 7 sc_Table_init.nd)) (fun _ _ _ _ _ => dts_nil) (fun _ _ _ _ _ => (de_c (K := K) (c_lower_first T) hr (da_cons (de_nm 7) da_nil))) (z1 := s) (z2 := H)) da_nil)) da_nil)))) (dss_cons (ds_frz [3, 9] (ds_sto (K := K) 0 oc_kinds (fun c h => objAll_c T.o_all c (cf_sub (a := oc_kinds) (by decide +kernel) c h)) (noAll_c T.of_kinds) (de_callTy (K := K) (ck_tuple (K := K)) snc_tuple (by decide +kernel) T.z_tuple (da_cons (de_lc (own := [("way", 8), ("most", 9)]) (ws := [8, 9]) rfl sc_Table_init.nd (di_seq (de_nm 3)) (blkOk_by (N := ["self", "hands", "ties", "kinds", "quick", "shares", "broken", "tie", "way", "most", "row", "bound", "people", "person", "_", "kind"]) (sc := defScope s_Table_init) (by decide +kernel)) (fun _ _ _ _ _ => (dg_tup (K := K) rfl (dgs_cons (dg_nm 8 sc_Table_init.nd) (dgs_cons (dg_nm 9 sc_Table_init.nd) dgs_nil)))) (fun _ _ _ _ _ => dts_nil) (fun _ _ _ _ _ => (de_tup (da_cons (de_callTy (K := K) (ck_tuple (K := K)) snc_tuple (by decide +kernel) T.z_tuple (da_cons (de_nm 8) da_nil)) (da_cons (de_nm 9) da_nil)))) (z1 := s) (z2 := H)) da_nil)))) (dss_cons (ds_frz [4, 7] (ds_sto (K := K) 0 oc_quick (fun c h => objAll_c T.o_all c (cf_sub (a := oc_quick) (by decide +kernel) c h)) (noAll_c T.of_quick) (de_callTy (K := K) (ck_tuple (K := K)) snc_tuple (by decide +kernel) T.z_tuple (da_cons (de_callB (K := K) (ck_sortA (K := K) hr.u100) snc_sortA (by decide +kernel) T.z_sorted (da_cons (de_lc (own := [("tie", 7)]) (ws := [7]) rfl sc_Table_init.nd (di_seq (de_nm 4)) (blkOk_by (N := ["self", "hands", "ties", "kinds", "quick", "shares", "broken", "tie", "way", "most", "row", "bound", "people", "person", "_", "kind"]) (sc := defScope s_Table_init) (by decide +kernel)) (fun _ _ _ _ _ => (dg_nm 7 sc_Table_init.nd)) (fun _ _ _ _ _ => dts_nil) (fun _ _ _ _ _ => (de_c (K := K) (c_lower_first T) hr (da_cons (de_nm 7) da_nil))) (z1 := s) (z2 := H)) da_nil)) da_nil)))) (dss_cons (ds_frz [5, 11] (ds_sto (K := K) 0 oc_shares (fun c h => objAll_c T.o_all c (cf_sub (a := oc_shares) (by decide +kernel) c h)) (noAll_c T.of_shares) (de_callTy (K := K) (ck_tuple (K := K)) snc_tuple (by decide +kernel) T.z_tuple (da_cons (de_callB (K := K) (ck_sortA (K := K) hr.u100) snc_sortA (by decide +kernel) T.z_sorted (da_cons (de_lc (own := [("row", 10), ("bound", 11)]) (ws := [10, 11]) rfl sc_Table_init.nd (di_seq (de_nm 5)) (blkOk_by (N := ["self", "hands", "ties", "kinds", "quick", "shares", "broken", "tie", "way", "most", "row", "bound", "people", "person", "_", "kind"]) (sc := defScope s_Table_init) (by decide +kernel)) (fun _ _ _ _ _ => (dg_tup (K := K) rfl (dgs_cons (dg_nm 10 sc_Table_init.nd) (dgs_cons (dg_nm 11 sc_Table_init.nd) dgs_nil)))) (fun _ _ _ _ _ => dts_nil) (fun _ _ _ _ _ => (de_tup (da_cons (de_callTy (K := K) (ck_tuple (K := K)) snc_tuple (by decide +kernel) T.z_tuple (da_cons (de_callB (K := K) (ck_sortA (K := K) hr.u100) snc_sortA (by decide +kernel) T.z_sorted (da_cons (de_nm 10) da_nil)) da_nil)) (da_cons (de_nm 11) da_nil)))) (z1 := s) (z2 := H)) da_nil)) da_nil)))) (dss_cons (ds_set 12 sc_Table_init.nd (de_callB (K := K) (ck_len (K := K)) snc_len (by decide +kernel) T.z_len (da_cons (de_omF 0 oc_hands (fun c h => objAll_c T.o_all c (cf_sub (a := oc_hands) (by decide +kernel) c h)) (noAll_c T.of_hands)) da_nil))) (dss_cons (ds_frz [13] (ds_sto (K := K) 0 oc_neighbours_u (fun c h => objAll_c T.o_all c (cf_sub (a := oc_neighbours_u) (by decide +kernel) c h)) (noAll_c T.of_neighbours_u) (de_callTy (K := K) (ck_tuple (K := K)) snc_tuple (by decide +kernel) T.z_tuple (da_cons (de_lc (own := [("person", 13)]) (ws := [13]) rfl sc_Table_init.nd (di_rng1 T.z_range (de_nm 12)) (blkOk_by (N := ["self", "hands", "ties", "kinds", "quick", "shares", "broken", "tie", "way", "most", "row", "bound", "people", "person", "_", "kind"]) (sc := defScope s_Table_init) (by decide +kernel)) (fun _ _ _ _ _ => (dg_nm 13 sc_Table_init.nd)) (fun _ _ _ _ _ => dts_nil) (fun _ _ _ _ _ => (de_c (K := K) (c_neighbours_of T) hr (da_cons (de_nm 13) (da_cons (de_omF 0 oc_ties (fun c h => objAll_c T.o_all c (cf_sub (a := oc_ties) (by decide +kernel) c h)) (noAll_c T.of_ties)) da_nil)))) (z1 := s) (z2 := H)) da_nil)))) (dss_cons (ds_frz [12, 8] (ds_sto (K := K) 0 oc_wants_u (fun c h => objAll_c T.o_all c (cf_sub (a := oc_wants_u) (by decide +kernel) c h)) (noAll_c T.of_wants_u) (de_callTy (K := K) (ck_tuple (K := K)) snc_tuple (by decide +kernel) T.z_tuple (da_cons (de_lc (own := [("way", 8), ("_", 14)]) (ws := [8, 14]) rfl sc_Table_init.nd (di_seq (de_omF 0 oc_kinds (fun c h => objAll_c T.o_all c (cf_sub (a := oc_kinds) (by decide +kernel) c h)) (noAll_c T.of_kinds))) (blkOk_by (N := ["self", "hands", "ties", "kinds", "quick", "shares", "broken", "tie", "way", "most", "row", "bound", "people", "person", "_", "kind"]) (sc := defScope s_Table_init) (by decide +kernel)) (fun _ _ _ _ _ => (dg_tup (K := K) rfl (dgs_cons (dg_nm 8 sc_Table_init.nd) (dgs_cons (dg_nm 14 sc_Table_init.nd) dgs_nil)))) (fun _ _ _ _ _ => dts_nil) (fun _ _ _ _ _ => (de_c (K := K) (c_wants_along T) hr (da_cons (de_nm 12) (da_cons (de_nm 8) da_nil)))) (z1 := s) (z2 := H)) da_nil)))) (dss_cons (ds_frz [12, 8] (ds_sto (K := K) 0 oc_steps_u (fun c h => objAll_c T.o_all c (cf_sub (a := oc_steps_u) (by decide +kernel) c h)) (noAll_c T.of_steps_u) (de_callTy (K := K) (ck_tuple (K := K)) snc_tuple (by decide +kernel) T.z_tuple (da_cons (de_lc (own := [("way", 8), ("_", 14)]) (ws := [8, 14]) rfl sc_Table_init.nd (di_seq (de_omF 0 oc_kinds (fun c h => objAll_c T.o_all c (cf_sub (a := oc_kinds) (by decide +kernel) c h)) (noAll_c T.of_kinds))) (blkOk_by (N := ["self", "hands", "ties", "kinds", "quick", "shares", "broken", "tie", "way", "most", "row", "bound", "people", "person", "_", "kind"]) (sc := defScope s_Table_init) (by decide +kernel)) (fun _ _ _ _ _ => (dg_tup (K := K) rfl (dgs_cons (dg_nm 8 sc_Table_init.nd) (dgs_cons (dg_nm 14 sc_Table_init.nd) dgs_nil)))) (fun _ _ _ _ _ => dts_nil) (fun _ _ _ _ _ => (de_c (K := K) (c_steps_along T) hr (da_cons (de_nm 12) (da_cons (de_nm 8) da_nil)))) (z1 := s) (z2 := H)) da_nil)))) (dss_one (ds_frz [15] (ds_sto (K := K) 0 oc_share_u (fun c h => objAll_c T.o_all c (cf_sub (a := oc_share_u) (by decide +kernel) c h)) (noAll_c T.of_share_u) (de_callTy (K := K) (ck_tuple (K := K)) snc_tuple (by decide +kernel) T.z_tuple (da_cons (de_lc (own := [("kind", 15)]) (ws := [15]) rfl sc_Table_init.nd (di_rng1 T.z_range (de_callB (K := K) (ck_len (K := K)) snc_len (by decide +kernel) T.z_len (da_cons (de_omF 0 oc_kinds (fun c h => objAll_c T.o_all c (cf_sub (a := oc_kinds) (by decide +kernel) c h)) (noAll_c T.of_kinds)) da_nil))) (blkOk_by (N := ["self", "hands", "ties", "kinds", "quick", "shares", "broken", "tie", "way", "most", "row", "bound", "people", "person", "_", "kind"]) (sc := defScope s_Table_init) (by decide +kernel)) (fun _ _ _ _ _ => (dg_nm 15 sc_Table_init.nd)) (fun _ _ _ _ _ => dts_nil) (fun _ _ _ _ _ => (de_c (K := K) (c_share_with T) hr (da_cons (de_nm 15) (da_cons (de_omF 0 oc_shares (fun c h => objAll_c T.o_all c (cf_sub (a := oc_shares) (by decide +kernel) c h)) (noAll_c T.of_shares)) da_nil)))) (z1 := s) (z2 := H)) da_nil))))))))))))))))⟩
/-! Table.is_tree: 0 self -/
def b_Table_is_tree : En → Out := (retO (binE (eqP false) (callE lenC (consA (unE (fldP "ties" oc_ties) (nmE 0)) nilA)) (binE (intP subI) (callE lenC (consA (unE (fldP "hands" oc_hands) (nmE 0)) nilA)) (cE (.int 1)))))
def F_Table_is_tree : Fn := runF 1 1 b_Table_is_tree
theorem sc_Table_is_tree : FnScope ["self"] ["self"] (defScope s_Table_is_tree) := ⟨rfl, rfl, rfl, by decide +kernel, rfl, by decide +kernel, by decide +kernel⟩
theorem c_Table_is_tree (T : Tx K mg) : ClM P w K mg base 1 "Table" "is_tree" 1 F_Table_is_tree :=
  clM_mk T.d_Table_is_tree sc_Table_is_tree rfl rfl fun fa qual cdv A outer s H E hr => ⟨_, (dss_one (ds_ret (de_cm (cm_eq (K := K) hr.units) (de_callB (K := K) (ck_len (K := K)) snc_len (by decide +kernel) T.z_len (da_cons (de_fld (K := K) oc_ties (fun c h => objAll_c T.o_all c (cf_sub (a := oc_ties) (by decide +kernel) c h)) (noAll_c T.of_ties) (de_nm 0)) da_nil)) (de_sub (de_callB (K := K) (ck_len (K := K)) snc_len (by decide +kernel) T.z_len (da_cons (de_fld (K := K) oc_hands (fun c h => objAll_c T.o_all c (cf_sub (a := oc_hands) (by decide +kernel) c h)) (noAll_c T.of_hands) (de_nm 0)) da_nil)) de_int))))⟩
/-! Table.is_round: 0 self, 1 row -/
def b_Table_is_round : En → Out := (retO (andE (binE (intP geI) (callE lenC (consA (unE (fldP "hands" oc_hands) (nmE 0)) nilA)) (cE (.int 3))) (callE allC (consA (lcE (seqI (unE (fldP "_neighbours" oc_neighbours_u) (nmE 0))) (nmT 1) yesT (binE (eqP false) (callE lenC (consA (nmE 1) nilA)) (cE (.int 2))) [1]) nilA))))
def F_Table_is_round : Fn := runF 1 2 b_Table_is_round
theorem sc_Table_is_round : FnScope ["self", "row"] ["self"] (defScope s_Table_is_round) := ⟨rfl, rfl, rfl, by decide +kernel, rfl, by decide +kernel, by decide +kernel⟩
theorem c_Table_is_round (T : Tx K mg) : ClM P w K mg base 1 "Table" "is_round" 1 F_Table_is_round :=
  clM_mk T.d_Table_is_round sc_Table_is_round rfl rfl fun fa qual cdv A outer s H E hr => ⟨_, (dss_one (ds_ret (de_and (de_cm cm_ge (de_callB (K := K) (ck_len (K := K)) snc_len (by decide +kernel) T.z_len (da_cons (de_fld (K := K) oc_hands (fun c h => objAll_c T.o_all c (cf_sub (a := oc_hands) (by decide +kernel) c h)) (noAll_c T.of_hands) (de_nm 0)) da_nil)) de_int) (de_one (de_callB (K := K) (ck_all (K := K) rfl) snc_all (by decide +kernel) T.z_all (da_cons (de_lc (own := [("row", 1)]) (ws := [1]) rfl sc_Table_is_round.nd (di_seq (de_fld (K := K) oc_neighbours_u (fun c h => objAll_c T.o_all c (cf_sub (a := oc_neighbours_u) (by decide +kernel) c h)) (noAll_c T.of_neighbours_u) (de_nm 0))) (blkOk_by (N := ["self", "row"]) (sc := defScope s_Table_is_round) (by decide +kernel)) (fun _ _ _ _ _ => (dg_nm 1 sc_Table_is_round.nd)) (fun _ _ _ _ _ => dts_nil) (fun _ _ _ _ _ => (de_cm (cm_eq (K := K) hr.units) (de_callB (K := K) (ck_len (K := K)) snc_len (by decide +kernel) T.z_len (da_cons (de_nm 1) da_nil)) de_int)) (z1 := s) (z2 := H)) da_nil))))))⟩
/-! Table.has_one_hand: 0 self, 1 many -/
def b_Table_has_one_hand : En → Out := (retO (callE allC (consA (lcE (seqI (unE (fldP "hands" oc_hands) (nmE 0))) (nmT 1) yesT (binE (eqP false) (nmE 1) (cE (.int 1))) [1]) nilA)))
def F_Table_has_one_hand : Fn := runF 1 2 b_Table_has_one_hand
theorem sc_Table_has_one_hand : FnScope ["self", "many"] ["self"] (defScope s_Table_has_one_hand) := ⟨rfl, rfl, rfl, by decide +kernel, rfl, by decide +kernel, by decide +kernel⟩
theorem c_Table_has_one_hand (T : Tx K mg) : ClM P w K mg base 1 "Table" "has_one_hand" 1 F_Table_has_one_hand :=
  clM_mk T.d_Table_has_one_hand sc_Table_has_one_hand rfl rfl fun fa qual cdv A outer s H E hr => ⟨_, (dss_one (ds_ret (de_callB (K := K) (ck_all (K := K) rfl) snc_all (by decide +kernel) T.z_all (da_cons (de_lc (own := [("many", 1)]) (ws := [1]) rfl sc_Table_has_one_hand.nd (di_seq (de_fld (K := K) oc_hands (fun c h => objAll_c T.o_all c (cf_sub (a := oc_hands) (by decide +kernel) c h)) (noAll_c T.of_hands) (de_nm 0))) (blkOk_by (N := ["self", "many"]) (sc := defScope s_Table_has_one_hand) (by decide +kernel)) (fun _ _ _ _ _ => (dg_nm 1 sc_Table_has_one_hand.nd)) (fun _ _ _ _ _ => dts_nil) (fun _ _ _ _ _ => (de_cm (cm_eq (K := K) hr.units) (de_nm 1) de_int)) (z1 := s) (z2 := H)) da_nil))))⟩
/-! law: 0 script, 1 pool, 2 shape, 3 quick_row, 4 share_rows, 5 normal, 6 many, 7 kinds, 8 table, 9 people_row, 10 kind_row, 11 which, 12 first_row, 13 one, 14 two -/
def b_law : En → Out := (seqO (frzO [0] (setO 1 (callF F_law_pool [] (consA (nmE 0) (consA (cE (.int 130)) nilA))))) (seqO (frzO [1] (setO 2 (callF F_law_drawn [] (consA (nmE 1) nilA)))) (seqO (setO 3 (lstE nilA)) (seqO (ifO (valT (binE (intP gtI) (binE (intP modI) (callE intC (consA (binE ixP (nmE 1) (cE (.int 1))) nilA)) (cE (.int 5))) (cE (.int 0)))) (frzO [1] (setO 3 (callF F_law_quick [] (consA (nmE 1) (consA (cE (.int 100)) (consA (binE ixP (nmE 2) (cE (.int 1))) (consA (binE (intP modI) (callE intC (consA (binE ixP (nmE 1) (cE (.int 1))) nilA)) (cE (.int 5))) nilA))))))) nextO) (seqO (setO 4 (lstE nilA)) (seqO (ifO (valT (binE (intP gtI) (binE (intP modI) (callE intC (consA (binE ixP (nmE 1) (cE (.int 3))) nilA)) (cE (.int 3))) (cE (.int 0)))) (frzO [1] (setO 4 (callF F_law_groups [] (consA (nmE 1) (consA (cE (.int 116)) (consA (callE lenC (consA (binE ixP (nmE 2) (cE (.int 2))) nilA)) (consA (cE (.int 24)) nilA))))))) nextO) (seqO (frzO [2, 4, 3] (setO 5 (callF F_law_normal [] (consA (nmE 2) (consA (nmE 4) (consA (nmE 3) nilA)))))) (seqO (setO 6 (callE lenC (consA (binE ixP (nmE 2) (cE (.int 0))) nilA))) (seqO (setO 7 (callE lenC (consA (binE ixP (nmE 2) (cE (.int 2))) nilA))) (seqO (setO 8 (callIK F_Table_init 3 2 (consA (callE listC (consA (binE ixP (nmE 2) (cE (.int 0))) nilA)) (consA (callE listC (consA (binE ixP (nmE 2) (cE (.int 1))) nilA)) (consA (callE listC (consA (binE ixP (nmE 2) (cE (.int 2))) nilA)) nilA))) (consA (callE listC (consA (nmE 3) nilA)) (consA (callE listC (consA (nmE 4) nilA)) nilA)))) (seqO (frzO [5] (ifO (notT (truT (callF (F_law_same 12) [] (consA (tupE (consA (callM "Table" "is_tree" F_Table_is_tree (nmE 8) nilA) (consA (callM "Table" "is_round" F_Table_is_round (nmE 8) nilA) (consA (callM "Table" "has_one_hand" F_Table_has_one_hand (nmE 8) nilA) nilA)))) (consA (callF F_law_grounds [] (consA (nmE 5) nilA)) nilA))))) (retO (cE (.bl false))) nextO)) (seqO (frzO [6] (setO 9 (binE (addP) (lsR1 (nmE 6)) (lstE (consA (binE ixP (lstE (consA (nmE 6) (consA (binE (addP) (nmE 6) (cE (.int 5))) (consA (unE negP (cE (.int 1))) (consA (binE (intP subI) (cE (.int 0)) (nmE 6)) (consA (binE (intP powI) (cE (.int 10)) (cE (.int 15))) nilA)))))) (binE (intP modI) (callE intC (consA (binE ixP (nmE 1) (cE (.int 4))) nilA)) (cE (.int 5)))) nilA))))) (seqO (frzO [7] (setO 10 (binE (addP) (lsR1 (nmE 7)) (lstE (consA (binE ixP (lstE (consA (nmE 7) (consA (binE (addP) (nmE 7) (cE (.int 5))) (consA (unE negP (cE (.int 1))) (consA (binE (intP subI) (cE (.int 0)) (nmE 7)) (consA (binE (intP powI) (cE (.int 10)) (cE (.int 15))) nilA)))))) (binE (intP modI) (callE intC (consA (binE ixP (nmE 1) (cE (.int 5))) nilA)) (cE (.int 5)))) nilA))))) (seqO (forS (rng1 (cE (.int 6))) (nmT 11) (seqO (frzO [9] (setO 12 (nmE 9))) (seqO (ifO (valT (binE (intP ltI) (nmE 11) (cE (.int 3)))) (frzO [10] (setO 12 (nmE 10))) nextO) (frzO [12] (forS (seqI (nmE 12)) (nmT 13) (frzO [9] (forS (seqI (nmE 9)) (nmT 14) (frzO [8, 11, 13, 14, 5] (ifO (notT (truT (callF (F_law_same 12) [] (consA (callF F_law_told [] (consA (nmE 8) (consA (nmE 11) (consA (nmE 13) (consA (nmE 14) nilA))))) (consA (callF F_law_due [] (consA (nmE 5) (consA (nmE 11) (consA (nmE 13) (consA (nmE 14) nilA))))) nilA))))) (retO (cE (.bl false))) nextO))))))))) (seqO (frzO [5] (ifO (notT (truT (callF (F_law_same 12) [] (consA (tupE (consA (callM "Table" "is_tree" F_Table_is_tree (nmE 8) nilA) (consA (callM "Table" "is_round" F_Table_is_round (nmE 8) nilA) (consA (callM "Table" "has_one_hand" F_Table_has_one_hand (nmE 8) nilA) nilA)))) (consA (callF F_law_grounds [] (consA (nmE 5) nilA)) nilA))))) (retO (cE (.bl false))) nextO)) (frzO [8, 5] (retO (callF F_law_fields [] (consA (nmE 8) (consA (nmE 5) nilA))))))))))))))))))))
def F_law : Fn := runF 1 15 b_law
theorem sc_law : FnScope ["script", "pool", "shape", "quick_row", "share_rows", "normal", "many", "kinds", "table", "people_row", "kind_row", "which", "first_row", "one", "two"] ["script"] (defScope s_law) := ⟨rfl, rfl, rfl, by decide +kernel, rfl, by decide +kernel, by decide +kernel⟩
theorem p_law (T : Tx K mg) : LawOk P w K mg 15 "law" "script" F_law :=
  law_mk T.d_law sc_law rfl fun base fa cdv A outer s H E hr => ⟨_, (dss_cons (ds_frz [0] (ds_set 1 sc_law.nd (de_c (K := K) (c_law_pool T) hr (da_cons (de_nm 0) (da_cons de_int da_nil))))) (dss_cons (ds_frz [1] (ds_set 2 sc_law.nd (de_c (K := K) (c_law_drawn T) hr (da_cons (de_nm 1) da_nil)))) (dss_cons (ds_set 3 sc_law.nd (de_lst da_nil)) (dss_cons (ds_if (dt_cm cm_gt (de_mod (de_callTy (K := K) call_int1 snc_int (by decide +kernel) T.z_int (da_cons (de_ix (K := K) (de_nm 1) de_int) da_nil)) de_int) de_int) (dss_one (ds_frz [1] (ds_set 3 sc_law.nd (de_c (K := K) (c_law_quick T) hr (da_cons (de_nm 1) (da_cons de_int (da_cons (de_ix (K := K) (de_nm 2) de_int) (da_cons (de_mod (de_callTy (K := K) call_int1 snc_int (by decide +kernel) T.z_int (da_cons (de_ix (K := K) (de_nm 1) de_int) da_nil)) de_int) da_nil)))))))) dss_nil) (dss_cons (ds_set 4 sc_law.nd (de_lst da_nil)) (dss_cons (ds_if (dt_cm cm_gt (de_mod (de_callTy (K := K) call_int1 snc_int (by decide +kernel) T.z_int (da_cons (de_ix (K := K) (de_nm 1) de_int) da_nil)) de_int) de_int) (dss_one (ds_frz [1] (ds_set 4 sc_law.nd (de_c (K := K) (c_law_groups T) hr (da_cons (de_nm 1) (da_cons de_int (da_cons (de_callB (K := K) (ck_len (K := K)) snc_len (by decide +kernel) T.z_len (da_cons (de_ix (K := K) (de_nm 2) de_int) da_nil)) (da_cons de_int da_nil)))))))) dss_nil) (dss_cons (ds_frz [2, 4, 3] (ds_set 5 sc_law.nd (de_c (K := K) (c_law_normal T) hr (da_cons (de_nm 2) (da_cons (de_nm 4) (da_cons (de_nm 3) da_nil)))))) (dss_cons (ds_set 6 sc_law.nd (de_callB (K := K) (ck_len (K := K)) snc_len (by decide +kernel) T.z_len (da_cons (de_ix (K := K) (de_nm 2) de_int) da_nil))) (dss_cons (ds_set 7 sc_law.nd (de_callB (K := K) (ck_len (K := K)) snc_len (by decide +kernel) T.z_len (da_cons (de_ix (K := K) (de_nm 2) de_int) da_nil))) (dss_cons (ds_set 8 sc_law.nd (de_mkK (K := K) (ks := ["quick", "shares"]) (i_Table T) takesNo hr (da_cons (de_callTy (K := K) (ck_list (K := K)) snc_list (by decide +kernel) T.z_list (da_cons (de_ix (K := K) (de_nm 2) de_int) da_nil)) (da_cons (de_callTy (K := K) (ck_list (K := K)) snc_list (by decide +kernel) T.z_list (da_cons (de_ix (K := K) (de_nm 2) de_int) da_nil)) (da_cons (de_callTy (K := K) (ck_list (K := K)) snc_list (by decide +kernel) T.z_list (da_cons (de_ix (K := K) (de_nm 2) de_int) da_nil)) da_nil))) (dk_cons (de_callTy (K := K) (ck_list (K := K)) snc_list (by decide +kernel) T.z_list (da_cons (de_nm 3) da_nil)) (dk_cons (de_callTy (K := K) (ck_list (K := K)) snc_list (by decide +kernel) T.z_list (da_cons (de_nm 4) da_nil)) dk_nil)) 3 rfl (fun _ _ _ _ _ _ _ us ws h1 h2 => match us, ws, h1, h2 with | [_, _, _, _], [_, _], _, _ => rfl))) (dss_cons (ds_frz [5] (ds_if (dt_not (dt_tru (K := K) (de_c (K := K) (c_law_same T 12) hr (da_cons (de_tup (da_cons (de_m0 (K := K) (c_Table_is_tree T) (objAll_c T.o_all "Table" (by decide +kernel)) hr (de_nm 8)) (da_cons (de_m0 (K := K) (c_Table_is_round T) (objAll_c T.o_all "Table" (by decide +kernel)) hr (de_nm 8)) (da_cons (de_m0 (K := K) (c_Table_has_one_hand T) (objAll_c T.o_all "Table" (by decide +kernel)) hr (de_nm 8)) da_nil)))) (da_cons (de_c (K := K) (c_law_grounds T) hr (da_cons (de_nm 5) da_nil)) da_nil))))) (dss_one (ds_ret de_bl)) dss_nil)) (dss_cons (ds_frz [6] (ds_set 9 sc_law.nd (de_add (de_lsR1 T.z_list T.z_range (de_nm 6)) (de_lst (da_cons (de_ix (K := K) (de_lst (da_cons (de_nm 6) (da_cons (de_add (de_nm 6) de_int) (da_cons (de_neg de_int) (da_cons (de_sub de_int (de_nm 6)) (da_cons (de_pow de_int de_int) da_nil)))))) (de_mod (de_callTy (K := K) call_int1 snc_int (by decide +kernel) T.z_int (da_cons (de_ix (K := K) (de_nm 1) de_int) da_nil)) de_int)) da_nil))))) (dss_cons (ds_frz [7] (ds_set 10 sc_law.nd (de_add (de_lsR1 T.z_list T.z_range (de_nm 7)) (de_lst (da_cons (de_ix (K := K) (de_lst (da_cons (de_nm 7) (da_cons (de_add (de_nm 7) de_int) (da_cons (de_neg de_int) (da_cons (de_sub de_int (de_nm 7)) (da_cons (de_pow de_int de_int) da_nil)))))) (de_mod (de_callTy (K := K) call_int1 snc_int (by decide +kernel) T.z_int (da_cons (de_ix (K := K) (de_nm 1) de_int) da_nil)) de_int)) da_nil))))) (dss_cons (ds_for PassesOwn.never rfl (di_rng1 T.z_range de_int) (dg_nm 11 sc_law.nd) (dss_cons (ds_frz [9] (ds_set 12 sc_law.nd (de_nm 9))) (dss_cons (ds_if (dt_cm cm_lt (de_nm 11) de_int) (dss_one (ds_frz [10] (ds_set 12 sc_law.nd (de_nm 10)))) dss_nil) (dss_one (ds_frz [12] (ds_for PassesOwn.never rfl (di_seq (de_nm 12)) (dg_nm 13 sc_law.nd) (dss_one (ds_frz [9] (ds_for PassesOwn.never rfl (di_seq (de_nm 9)) (dg_nm 14 sc_law.nd) (dss_one (ds_frz [8, 11, 13, 14, 5] (ds_if (dt_not (dt_tru (K := K) (de_c (K := K) (c_law_same T 12) hr (da_cons (de_c (K := K) (c_law_told T) hr (da_cons (de_nm 8) (da_cons (de_nm 11) (da_cons (de_nm 13) (da_cons (de_nm 14) da_nil))))) (da_cons (de_c (K := K) (c_law_due T) hr (da_cons (de_nm 5) (da_cons (de_nm 11) (da_cons (de_nm 13) (da_cons (de_nm 14) da_nil))))) da_nil))))) (dss_one (ds_ret de_bl)) dss_nil)))))))))))) (dss_cons (ds_frz [5] (ds_if (dt_not (dt_tru (K := K) (de_c (K := K) (c_law_same T 12) hr (da_cons (de_tup (da_cons (de_m0 (K := K) (c_Table_is_tree T) (objAll_c T.o_all "Table" (by decide +kernel)) hr (de_nm 8)) (da_cons (de_m0 (K := K) (c_Table_is_round T) (objAll_c T.o_all "Table" (by decide +kernel)) hr (de_nm 8)) (da_cons (de_m0 (K := K) (c_Table_has_one_hand T) (objAll_c T.o_all "Table" (by decide +kernel)) hr (de_nm 8)) da_nil)))) (da_cons (de_c (K := K) (c_law_grounds T) hr (da_cons (de_nm 5) da_nil)) da_nil))))) (dss_one (ds_ret de_bl)) dss_nil)) (dss_one (ds_frz [8, 5] (ds_ret (de_c (K := K) (c_law_fields T) hr (da_cons (de_nm 8) (da_cons (de_nm 5) da_nil)))))))))))))))))))))⟩
/-! Table.people: 0 self -/
def b_Table_people : En → Out := (retO (callE lenC (consA (unE (fldP "hands" oc_hands) (nmE 0)) nilA)))
def F_Table_people : Fn := runF 1 1 b_Table_people
theorem sc_Table_people : FnScope ["self"] ["self"] (defScope s_Table_people) := ⟨rfl, rfl, rfl, by decide +kernel, rfl, by decide +kernel, by decide +kernel⟩
theorem c_Table_people (T : Tx K mg) : ClP P w K mg base 1 "Table" "people" F_Table_people :=
  clP_mk T.d_Table_people sc_Table_people rfl rfl fun fa qual cdv A outer s H E hr => ⟨_, (dss_one (ds_ret (de_callB (K := K) (ck_len (K := K)) snc_len (by decide +kernel) T.z_len (da_cons (de_fld (K := K) oc_hands (fun c h => objAll_c T.o_all c (cf_sub (a := oc_hands) (by decide +kernel) c h)) (noAll_c T.of_hands) (de_nm 0)) da_nil))))⟩
end
end Lw

namespace Lw
open PySem L2 DL
/-! ### the rules of tables -/
def low (p : Int × Int) : Int × Int := if p.2 < p.1 then (p.2, p.1) else p
theorem F_low (p : Int × Int) : F_lower_first [(true, .tup [.int p.1, .int p.2])] = .ok ⟨.g, .tup [.int (low p).1, .int (low p).2]⟩ := by
  unfold F_lower_first
  rw [runF_eq]
  unfold b_lower_first low
  walk_at "dl"
  split <;> walk_at "dl"
theorem hands_ok (hs : List Int) (h : ∀ x ∈ hs, 1 ≤ x ∧ x ≤ 4) : F_first_wrong_hands [(true, .lst (hs.map D.int))] = .ok ⟨.g, .non⟩ := by
  obtain ⟨u, e, rfl⟩ : ∃ u, runF 1 3 b_first_wrong_hands [(true, .lst (hs.map D.int))] = .ok u ∧ u = ⟨.g, .non⟩ := by
    apply run_hs rfl
    unfold b_first_wrong_hands
    walk_at "dl"
    refine hs_bind (fun e => True) (hs_forE D.int hs (fun _ e => ∃ s1 s2, e = [.vl true (.lst (hs.map D.int)), s1, s2]) ⟨_, _, rfl⟩ ?_ fun _ _ => trivial) ?_
    · rintro j _ hj ⟨s1, s2, rfl⟩
      have hx := h _ (List.getElem_mem hj)
      generalize hs[j] = x at hx
      walk_at "dl"
      simp only [hx.1, hx.2]
      walk_at "dl"
      exact hs_nx ⟨_, _, rfl⟩
    · intro e _
      walk_at "dl"
      exact hs_rt rfl
  exact e
/-- ties that may be kept -/
def TiesOk (n : Int) (ts : List (Int × Int)) : Prop := (∀ p ∈ ts, p.1 ≠ p.2 ∧ 0 ≤ p.1 ∧ p.1 < n ∧ 0 ≤ p.2 ∧ p.2 < n) ∧ (ts.map low).Nodup ∧ ts.length ≤ 40
theorem low_cases (p : Int × Int) : ((low p).1 = p.1 ∧ (low p).2 = p.2 ∧ p.1 ≤ p.2) ∨ ((low p).1 = p.2 ∧ (low p).2 = p.1 ∧ p.2 < p.1) := by
  unfold low
  split
  · exact .inr ⟨rfl, rfl, by assumption⟩
  · exact .inl ⟨rfl, rfl, by omega⟩
theorem nodup_step {α : Type} [DecidableEq α] {f : α → α} {ts : List α} {j : Nat} (h : (ts.map f).Nodup) (hj : j < ts.length) : f ts[j] ∉ (ts.take j).map f := by
  intro hm
  obtain ⟨i, hi, e⟩ := List.getElem_of_mem hm
  have hi' : i < j := by rw [List.length_map, List.length_take] at hi; omega
  rw [List.getElem_map, List.getElem_take] at e
  have a : i < (ts.map f).length := by rw [List.length_map]; omega
  have b : j < (ts.map f).length := by rw [List.length_map]; omega
  have := (List.getElem_inj (h₀ := a) (h₁ := b) h).1 (by rw [List.getElem_map, List.getElem_map]; exact e)
  omega
theorem take_snoc {α β : Type} {f : α → β} {ts : List α} {j : Nat} (hj : j < ts.length) : (ts.take j).map f ++ [f ts[j]] = (ts.take (j + 1)).map f := by
  rw [← List.take_append_getElem hj, List.map_append]
  rfl
theorem ties_ok (n : Int) (ts : List (Int × Int)) (h : TiesOk n ts) : F_first_wrong_tie [(true, .int n), (true, .lst (ts.map dP))] = .ok ⟨.g, .non⟩ := by
  obtain ⟨h1, h2, h3⟩ := h
  obtain ⟨u, e, rfl⟩ : ∃ u, runF 2 6 b_first_wrong_tie [(true, .int n), (true, .lst (ts.map dP))] = .ok u ∧ u = ⟨.g, .non⟩ := by
    apply run_hs rfl
    unfold b_first_wrong_tie
    walk_at "dl"
    refine hs_bind (fun e => True) (hs_forE dP ts (fun k e => ∃ s3 s4 s5, e = [.vl true (.int n), .vl true (.lst (ts.map dP)), .om .stt (((ts.take k).map low).map dP), s3, s4, s5]) ⟨_, _, _, rfl⟩ ?_ fun _ _ => trivial) ?_
    · rintro j _ hj ⟨s3, s4, s5, rfl⟩
      have hx := h1 _ (List.getElem_mem hj)
      have hn := nodup_step h2 hj
      have ht := take_snoc (f := low) hj
      have hl := low_cases ts[j]
      have hf := F_low ts[j]
      have hlen : ((ts.take j).map low).length + 1 < 64 := by rw [List.length_map, List.length_take]; omega
      rw [← ht]
      generalize ts[j] = x at *
      generalize low x = y at *
      generalize (ts.take j).map low = ks at *
      have c1 : ¬ y.1 < 0 := by omega
      have c2 : ¬ y.2 ≥ n := by omega
      have c3 : (y.1, y.2) ∉ ks := hn
      walk_at "dl"
      rw [if_neg hx.1]
      clear hl ht hn h1 h2 hx
      walk_at "dlh"
      exact hs_nx ⟨_, _, _, rfl⟩
    · intro e _
      walk_at "dl"
      exact hs_rt rfl
  exact e
/-- quick ties -/
def QuickOk (ts qs : List (Int × Int)) : Prop := (∀ p ∈ qs, low p ∈ ts.map low) ∧ (qs.map low).Nodup ∧ qs.length ≤ 40
theorem quick_ok (ts qs : List (Int × Int)) (h : QuickOk ts qs) : F_first_wrong_quick [(true, .lst ((ts.map low).map dP)), (true, .lst (qs.map dP))] = .ok ⟨.g, .non⟩ := by
  obtain ⟨h1, h2, h3⟩ := h
  generalize ts.map low = ps at h1 ⊢
  obtain ⟨u, e, rfl⟩ : ∃ u, runF 2 6 b_first_wrong_quick [(true, .lst (ps.map dP)), (true, .lst (qs.map dP))] = .ok u ∧ u = ⟨.g, .non⟩ := by
    apply run_hs rfl
    unfold b_first_wrong_quick
    walk_at "dl"
    refine hs_bind (fun e => True) (hs_forE dP qs (fun k e => ∃ s3 s4 s5, e = [.vl true (.lst (ps.map dP)), .vl true (.lst (qs.map dP)), .om .stt (((qs.take k).map low).map dP), s3, s4, s5]) ⟨_, _, _, rfl⟩ ?_ fun _ _ => trivial) ?_
    · rintro j _ hj ⟨s3, s4, s5, rfl⟩
      have hx := h1 _ (List.getElem_mem hj)
      have hn := nodup_step h2 hj
      have ht := take_snoc (f := low) hj
      have hf := F_low qs[j]
      have hlen : ((qs.take j).map low).length + 1 < 64 := by rw [List.length_map, List.length_take]; omega
      rw [← ht]
      generalize qs[j] = x at *
      generalize low x = y at *
      generalize (qs.take j).map low = ks at *
      have c3 : (y.1, y.2) ∉ ks := hn
      have c4 : (y.1, y.2) ∈ ps := hx
      clear ht hn h1 h2 hx
      walk_at "dlh"
      exact hs_nx ⟨_, _, _, rfl⟩
    · intro e _
      walk_at "dl"
      exact hs_rt rfl
  exact e
/-- shares: sets of kinds, apart from each other -/
def SharesOk (m : Int) (ss : List (List Int × Int)) : Prop := ss.length ≤ 3 ∧ (∀ s ∈ ss, s.1 ≠ [] ∧ 0 ≤ s.2 ∧ s.2 ≤ 24 ∧ ∀ k ∈ s.1, 0 ≤ k ∧ k < m) ∧ (ss.flatMap fun s => s.1).Nodup ∧ (ss.flatMap fun s => s.1).length ≤ 40
theorem scan_big : 64 < scanBound := by decide
theorem shares_ok (m : Int) (ss : List (List Int × Int)) (h : SharesOk m ss) : F_first_wrong_share [(true, .int m), (true, .lst (ss.map dK))] = .ok ⟨.g, .non⟩ := by
  obtain ⟨h0, h1, h2, h3⟩ := h
  obtain ⟨u, e, rfl⟩ : ∃ u, runF 2 7 b_first_wrong_share [(true, .int m), (true, .lst (ss.map dK))] = .ok u ∧ u = ⟨.g, .non⟩ := by
    apply run_hs rfl
    unfold b_first_wrong_share
    walk_at "dl"
    refine hs_bind (fun e => True) (hs_forE dK ss (fun k e => ∃ s3 s4 s5 s6, e = [.vl true (.int m), .vl true (.lst (ss.map dK)), .om .sti (((ss.take k).flatMap fun s => s.1).map D.int), s3, s4, s5, s6]) ⟨_, _, _, _, rfl⟩ ?_ fun _ _ => trivial) ?_
    · rintro j _ hj ⟨s3, s4, s5, s6, rfl⟩
      obtain ⟨x1, x2, x3, x4⟩ := h1 _ (List.getElem_mem hj)
      have ht : (ss.take (j + 1)).flatMap (fun s => s.1) = (ss.take j).flatMap (fun s => s.1) ++ (ss[j]).1 := by
        rw [← List.take_append_getElem hj, List.flatMap_append]
        simp
      have hd : ((ss.take j).flatMap (fun s => s.1) ++ (ss[j]).1).Nodup ∧ ((ss.take j).flatMap (fun s => s.1) ++ (ss[j]).1).length ≤ 40 := by
        rw [← ht]
        have e : ss.flatMap (fun s => s.1) = (ss.take (j + 1)).flatMap (fun s => s.1) ++ (ss.drop (j + 1)).flatMap (fun s => s.1) := by rw [← List.flatMap_append, List.take_append_drop]
        rw [e] at h2 h3
        rw [List.length_append] at h3
        exact ⟨(List.nodup_append.1 h2).1, by omega⟩
      rw [ht]
      generalize (ss.take j).flatMap (fun s => s.1) = ks at *
      generalize ss[j] = x at *
      obtain ⟨w, b⟩ := x
      dsimp only at x1 x2 x3 x4 hd ⊢
      have c1 : ¬ ((j : Int) ≥ 3) := by omega
      have c2 : ¬ ((w.length : Int) = 0) := by
        intro z
        exact x1 (List.eq_nil_of_length_eq_zero (by omega))
      walk_at "dl"
      simp only [c1, c2, x2, x3]
      walk_at "dl"
      trace_state
      refine hs_mono (hs_forL D.int w (fun k e => ∃ s6, e = [.vl true (.int m), .vl true (.lst (ss.map dK)), .om .sti ((ks ++ w.take k).map D.int), .vl true (.int j), .vl true (.tup (w.map D.int)), .vl true (.int b), s6]) ⟨s6, by rw [List.take_zero, List.append_nil]⟩ ?_ fun e he => he) (fun e he => ?_) fun u hu => hu
      · rintro i _ hi ⟨s6, rfl⟩
        obtain ⟨y1, y2⟩ := x4 _ (List.getElem_mem hi)
        have hn : w[i] ∉ ks ++ w.take i := by
          have hd1 := hd.1
          rw [← List.take_append_drop i w, ← List.append_assoc, List.drop_eq_getElem_cons hi] at hd1
          intro z
          exact ((List.nodup_append.1 hd1).2.2 _ z _ List.mem_cons_self) rfl
        have hl : (ks ++ w.take i).length + 1 < scanBound := by
          have := hd.2
          have := scan_big
          rw [List.length_append] at *
          rw [List.length_take]
          omega
        have ht2 : ks ++ w.take (i + 1) = ks ++ w.take i ++ [w[i]] := by rw [← List.take_append_getElem hi, List.append_assoc]
        rw [ht2]
        generalize w[i] = y at *
        generalize ks ++ w.take i = zs at *
        clear ht2 ht hd x4 h1 h2 h3
        walk_at "dlh"
        exact hs_nx ⟨_, rfl⟩
      · obtain ⟨s6, rfl⟩ := he
        rw [List.take_length]
        exact ⟨_, _, _, _, rfl⟩
    · intro e _
      walk_at "dl"
      exact hs_rt rfl
  exact e
end Lw

namespace Lw
open PySem L2 DL
/-! ### all are reached -/
def Conn (n : Int) (ts : List (Int × Int)) : Prop := ∀ S : Int → Prop, S 0 → (∀ p ∈ ts, (S p.1 ↔ S p.2)) → ∀ x, 0 ≤ x → x < n → S x
theorem nodup_le : ∀ (n : Nat) (r : List Int), r.Nodup → (∀ x ∈ r, 0 ≤ x ∧ x < n) → r.length ≤ n
  | 0, [], _, _ => Nat.le_refl _
  | 0, x :: r, _, h => by
    have := h x List.mem_cons_self
    omega
  | n + 1, r, hn, h => by
    by_cases hm : (n : Int) ∈ r
    · have h1 := nodup_le n (r.erase (n : Int)) (hn.erase _) fun x hx => by
        have h2 := (hn.mem_erase_iff).1 hx
        have h3 := h x h2.2
        have := h2.1
        omega
      rw [List.length_erase_of_mem hm] at h1
      omega
    · have h1 := nodup_le n r hn fun x hx => by
        have h3 := h x hx
        have : x ≠ n := fun z => hm (z ▸ hx)
        omega
      omega
def Good (n : Int) (r : List Int) : Prop := r.Nodup ∧ ∀ x ∈ r, 0 ≤ x ∧ x < n
theorem Good.snoc {n : Int} {r : List Int} {x : Int} (h : Good n r) (h0 : 0 ≤ x) (h1 : x < n) (hx : x ∉ r) : Good n (r ++ [x]) := by
  refine ⟨List.nodup_append.2 ⟨h.1, (by simp : List.Nodup [_]), fun a ha b hb => ?_⟩, fun y hy => ?_⟩
  · rw [List.mem_singleton.1 hb]
    exact fun z => hx (z ▸ ha)
  · rcases List.mem_append.1 hy with hy | hy
    · exact h.2 y hy
    · rw [List.mem_singleton.1 hy]
      exact ⟨h0, h1⟩
theorem Good.len {n : Int} {r : List Int} (h : Good n r) (hn : 0 ≤ n) : (r.length : Int) ≤ n := by
  have := nodup_le n.toNat r h.1 fun x hx => by
    have := h.2 x hx
    omega
  omega
theorem reached_ok (n : Int) (ts : List (Int × Int)) (hn : 1 ≤ n) (hn2 : n ≤ 100) (ht : ∀ p ∈ ts, 0 ≤ p.1 ∧ p.1 < n ∧ 0 ≤ p.2 ∧ p.2 < n) (hc : Conn n ts) : F_first_cut_off [(true, .int n), (true, .lst (ts.map dP))] = .ok ⟨.g, .non⟩ := by
  obtain ⟨u, e, rfl⟩ : ∃ u, runF 2 7 b_first_cut_off [(true, .int n), (true, .lst (ts.map dP))] = .ok u ∧ u = ⟨.g, .non⟩ := by
    apply run_hs rfl
    unfold b_first_cut_off
    walk_at "dl"
    refine hs_bind (fun e => ∃ (r : List Int) (s3 s4 s5 s6 : Sl), (∀ x, 0 ≤ x → x < n → x ∈ r) ∧ e = [.vl true (.int n), .vl true (.lst (ts.map dP)), .ow (r.map D.int), s3, s4, s5, s6])
      (hs_while (fun k e => ∃ (r : List Int) (s4 s5 s6 : Sl), Good n r ∧ 0 ∈ r ∧ k ≤ r.length ∧ (∀ i x, i < k → r[i]? = some x → ∀ p ∈ ts, (x = p.1 → p.2 ∈ r) ∧ (x = p.2 → p.1 ∈ r)) ∧ e = [.vl true (.int n), .vl true (.lst (ts.map dP)), .ow (r.map D.int), .vl true (.int k), s4, s5, s6]) ?_ ?_ ?_) ?_
    · exact ⟨[0], _, _, _, ⟨(by simp : List.Nodup [_]), fun x hx => by rw [List.mem_singleton.1 hx]; omega⟩, List.mem_singleton_self _, Nat.zero_le _, fun i x hi => by omega, rfl⟩
    · rintro k _ hk ⟨r, s4, s5, s6, hg, h0, hkl, hcl, rfl⟩
      have hlen := hg.len (by omega)
      by_cases hend : k < r.length
      · refine .inr ⟨?_, ?_⟩
        · walk_at "dl"
          simp only [Int.ofNat_lt, decide_eq_true hend]
        · obtain ⟨a, ha⟩ : ∃ a, r[k]? = some a := ⟨_, List.getElem?_eq_getElem hend⟩
          walk_at "dl"
          refine hs_bind (fun e => ∃ (r' : List Int) (s4 s5 : Sl), r <+: r' ∧ Good n r' ∧ (∀ p ∈ ts, (a = p.1 → p.2 ∈ r') ∧ (a = p.2 → p.1 ∈ r')) ∧ e = [.vl true (.int n), .vl true (.lst (ts.map dP)), .ow (r'.map D.int), .vl true (.int k), s4, s5, s6])
            (hs_forL dP ts (fun j e => ∃ (r' : List Int) (s4 s5 : Sl), r <+: r' ∧ Good n r' ∧ (∀ p ∈ ts.take j, (a = p.1 → p.2 ∈ r') ∧ (a = p.2 → p.1 ∈ r')) ∧ e = [.vl true (.int n), .vl true (.lst (ts.map dP)), .ow (r'.map D.int), .vl true (.int k), s4, s5, s6]) ?_ ?_ ?_) ?_
          · exact ⟨r, s4, s5, List.prefix_rfl, hg, fun p hp => by simp at hp, rfl⟩
          · rintro j _ hj ⟨r', t4, t5, hp, hg', hd, rfl⟩
            have hx := ht _ (List.getElem_mem hj)
            have htk : ts.take (j + 1) = ts.take j ++ [ts[j]] := (List.take_append_getElem hj).symm
            rw [htk]
            generalize ts[j] = x at *
            have add : ∀ (r' : List Int), r <+: r' → Good n r' → atD (r'.map D.int) (k : Nat) = .ok (.int a) ∧ r'.length < sizeLine := fun r' hp hg' => by
              have hk' : r'[k]? = some a := by
                obtain ⟨t, rfl⟩ := hp
                rw [List.getElem?_append_left hend]
                exact ha
              have := hg'.len (by omega)
              exact ⟨atD_get hk', Nat.lt_trans (show r'.length < 4000000 by omega) (by decide)⟩
            have e1 := (add r' hp hg').1
            have e2 := (add r' hp hg').2
            walk_at "dl"
            rw [e1]
            walk_at "dl"
            refine hs_bind (fun e => ∃ (r2 : List Int), r <+: r2 ∧ Good n r2 ∧ (∀ y ∈ r', y ∈ r2) ∧ (a = x.1 → x.2 ∈ r2) ∧ e = [.vl true (.int n), .vl true (.lst (ts.map dP)), .ow (r2.map D.int), .vl true (.int k), .vl true (.int x.1), .vl true (.int x.2), s6]) ?_ ?_
            · by_cases c1 : x.1 = a
              · by_cases c2 : x.2 ∈ r'
                · walk_at "dlh"
                  exact hs_nx ⟨r', hp, hg', fun y hy => hy, fun _ => c2, rfl⟩
                · have e3 := e2
                  walk_at "dlh"
                  exact hs_nx ⟨r' ++ [x.2], hp.trans (List.prefix_append _ _), hg'.snoc hx.2.2.1 hx.2.2.2 c2, fun y hy => List.mem_append_left _ hy, fun _ => List.mem_append_right _ (List.mem_singleton_self _), rfl⟩
              · walk_at "dlh"
                exact hs_nx ⟨r', hp, hg', fun y hy => hy, fun z => absurd z.symm c1, rfl⟩
            · rintro _ ⟨r2, hp2, hg2, hs2, ha2, rfl⟩
              have e3 := (add r2 hp2 hg2).1
              have e4 := (add r2 hp2 hg2).2
              walk_at "dl"
              rw [e3]
              walk_at "dl"
              have fin : ∀ (r3 : List Int), r <+: r3 → Good n r3 → (∀ y ∈ r2, y ∈ r3) → (a = x.2 → x.1 ∈ r3) → ∀ p ∈ ts.take j ++ [x], (a = p.1 → p.2 ∈ r3) ∧ (a = p.2 → p.1 ∈ r3) := fun r3 _ _ hs3 ha3 p hp => by
                rcases List.mem_append.1 hp with hp | hp
                · exact ⟨fun z => hs3 _ (hs2 _ ((hd p hp).1 z)), fun z => hs3 _ (hs2 _ ((hd p hp).2 z))⟩
                · rw [List.mem_singleton.1 hp]
                  exact ⟨fun z => hs3 _ (ha2 z), ha3⟩
              by_cases c1 : x.2 = a
              · by_cases c2 : x.1 ∈ r2
                · walk_at "dlh"
                  exact hs_nx ⟨r2, _, _, hp2, hg2, fin r2 hp2 hg2 (fun y hy => hy) fun _ => c2, rfl⟩
                · walk_at "dlh"
                  exact hs_nx ⟨r2 ++ [x.1], _, _, hp2.trans (List.prefix_append _ _), hg2.snoc hx.1 hx.2.1 c2, fin _ (hp2.trans (List.prefix_append _ _)) (hg2.snoc hx.1 hx.2.1 c2) (fun y hy => List.mem_append_left _ hy) fun _ => List.mem_append_right _ (List.mem_singleton_self _), rfl⟩
              · walk_at "dlh"
                exact hs_nx ⟨r2, _, _, hp2, hg2, fin r2 hp2 hg2 (fun y hy => hy) fun z => absurd z.symm c1, rfl⟩
          · rintro e ⟨r', t4, t5, h1, h2, h3, h4⟩
            rw [List.take_length] at h3
            exact ⟨r', t4, t5, h1, h2, h3, h4⟩
          · rintro _ ⟨r', t4, t5, h1, h2, h3, rfl⟩
            walk_at "dl"
            refine hs_nx ⟨r', t4, t5, s6, h2, h1.subset h0, ?_, ?_, rfl⟩
            · have := h1.length_le
              omega
            · intro i y hi hy p hp
              obtain ⟨t, rfl⟩ := h1
              by_cases hik : i < k
              · rw [List.getElem?_append_left (by omega)] at hy
                have := hcl i y hik hy p hp
                exact ⟨fun z => List.mem_append_left _ (this.1 z), fun z => List.mem_append_left _ (this.2 z)⟩
              · have : i = k := by omega
                subst this
                rw [List.getElem?_append_left hend, ha] at hy
                cases hy
                exact h3 p hp
      · refine .inl ⟨?_, r, _, s4, s5, s6, ?_, rfl⟩
        · walk_at "dl"
          simp only [Int.ofNat_lt, decide_eq_false hend]
        · refine hc (fun x => x ∈ r) h0 fun p hp => ?_
          have all : ∀ x ∈ r, (x = p.1 → p.2 ∈ r) ∧ (x = p.2 → p.1 ∈ r) := fun x hx => by
            obtain ⟨i, hi, rfl⟩ := List.getElem_of_mem hx
            exact hcl i _ (by omega) (List.getElem?_eq_getElem hi) p hp
          exact ⟨fun z => (all _ z).1 rfl, fun z => (all _ z).2 rfl⟩
    · rintro e ⟨r, s4, s5, s6, hg, _, hk, _⟩
      have := hg.len (by omega)
      omega
    · rintro _ ⟨r, s3, s4, s5, s6, hr, rfl⟩
      walk_at "dl"
      rw [if_pos (rg_in (by omega) (by omega))]
      refine hs_bind (fun e => True) (hs_forR (fun _ e => ∃ s6, e = [.vl true (.int n), .vl true (.lst (ts.map dP)), .ow (r.map D.int), s3, s4, s5, s6]) ⟨_, rfl⟩ ?_ fun _ _ => trivial) ?_
      · rintro k _ hk ⟨s6, rfl⟩
        have hm := hr (k : Int) (by omega) (by omega)
        walk_at "dlh"
        exact hs_nx ⟨_, rfl⟩
      · intro e _
        walk_at "dl"
        exact hs_rt rfl
  exact e
end Lw

namespace Lw
open PySem L2 DL
/-! ### ways and kinds -/
def WayOk (n : Int) (ps : List (Int × Int)) (w : List Int) : Prop := 2 ≤ w.length ∧ w.length ≤ 40 ∧ w.Nodup ∧ (∀ x ∈ w, 0 ≤ x ∧ x < n) ∧ ∀ (i : Nat) (x y : Int), w[i]? = some x → w[i + 1]? = some y → low (x, y) ∈ ps
def seqD (t : Bool) (w : List Int) : D := if t = true then .tup (w.map D.int) else .lst (w.map D.int)
theorem take_notin {w : List Int} {j : Nat} (h : w.Nodup) (hj : j < w.length) : w[j] ∉ w.take j := by
  have := nodup_step (f := id) (by rw [List.map_id]; exact h) hj
  rw [List.map_id] at this
  exact this
theorem way_ok (t : Bool) (n : Int) (ps : List (Int × Int)) (w : List Int) (h : WayOk n ps w) : F_is_way [(true, .int n), (true, .lst (ps.map dP)), (true, seqD t w)] = .ok ⟨.g, .bl true⟩ := by
  obtain ⟨h1, h2, h3, h4, h5⟩ := h
  obtain ⟨u, e, rfl⟩ : ∃ u, runF 3 5 b_is_way [(true, .int n), (true, .lst (ps.map dP)), (true, seqD t w)] = .ok u ∧ u = ⟨.g, .bl true⟩ := by
    apply run_hs rfl
    unfold b_is_way
    have c0 : ¬ (w.length : Int) < 2 := by omega
    have body : ∀ (s3 s4 : Sl) (j : Nat) (hj : j < w.length), Out.hs (fun e => ∃ s3 s4, e = [.vl true (.int n), .vl true (.lst (ps.map dP)), .vl true (seqD t w), s3, s4]) (fun u => u = ⟨.g, .bl true⟩) (fun _ => True) (fun e => ∃ s3 s4, e = [.vl true (.int n), .vl true (.lst (ps.map dP)), .vl true (seqD t w), s3, s4]) (fun _ _ => False)
        ((tupT 2 (consT (nmT 3) (consT (nmT 4) nilT)) ⟨.g, .tup [.int (j : Nat), .int w[j]]⟩ [.vl true (.int n), .vl true (.lst (ps.map dP)), .vl true (seqD t w), s3, s4]).nxo fun a => (seqO (ifO (orT (notT (valT (chainE (intP leI) (intP ltI) (cE (.int 0)) (nmE 4) (nmE 0)))) (valT (binE (inAP false) (nmE 4) (slE (nmE 2) noPart (part (nmE 3)))))) (retO (cE (.bl false))) nextO) (frzO [4] (ifO (andT (valT (binE (intP gtI) (nmE 3) (cE (.int 0)))) (valT (binE (inAP true) (callF F_lower_first [] (consA (tupE (consA (binE ixP (nmE 2) (binE (intP subI) (nmE 3) (cE (.int 1)))) (consA (nmE 4) nilA))) nilA)) (nmE 1)))) (retO (cE (.bl false))) nextO))) a) := by
      intro s3 s4 j hj
      have hx := h4 _ (List.getElem_mem hj)
      have hn := take_notin h3 hj
      have hc : cutD (w.map D.int) none (some (j : Int)) = (w.take j).map D.int := by rw [cutD_take (by omega), List.map_take]; rfl
      have hs : ¬ (HT.sIx (w.map D.int).length 0 none = 0 ∧ HT.sIx (w.map D.int).length (w.map D.int).length (some (j : Int)) = (w.map D.int).length) := by
        rw [List.length_map]
        rw [HT.sIx_nat]
        omega
      have e5 : ∀ y, w[j - 1]? = some y → 0 < j → atD (w.map D.int) ((j : Int) - 1) = .ok (.int y) := fun y hy h0 => by
        rw [show (j : Int) - 1 = ((j - 1 : Nat) : Int) by omega]
        exact atD_get hy
      have hw := h5 (j - 1)
      have hw2 := List.getElem?_eq_getElem hj
      generalize w[j] = z at *
      have low' : j ≠ 0 → ∃ y, atD (w.map D.int) ((j : Int) - 1) = .ok (.int y) ∧ ((low (y, z)).1, (low (y, z)).2) ∈ ps ∧ F_lower_first [(true, .tup [.int y, .int z])] = .ok ⟨.g, .tup [.int (low (y, z)).1, .int (low (y, z)).2]⟩ := fun h0 => by
        obtain ⟨y, hy⟩ : ∃ y, w[j - 1]? = some y := ⟨_, List.getElem?_eq_getElem (by omega)⟩
        exact ⟨y, e5 y hy (by omega), hw y z hy (by rw [show j - 1 + 1 = j by omega]; exact hw2), F_low (y, z)⟩
      clear hw e5 hw2 h3 h4 h5
      by_cases h0 : j = 0
      · subst h0
        clear low'
        cases t <;> unfold seqD
        · walk_at "dl"
          simp only [hx.1, hx.2]
          walk_at "dl"
          rw [show cutD (w.map D.int) none (some 0) = _ from hc]
          walk_at "dl"
          rw [if_neg hn]
          walk_at "dl"
          exact hs_nx ⟨_, _, rfl⟩
        · walk_at "dl"
          simp only [hx.1, hx.2]
          walk_at "dl"
          rw [show cutD (w.map D.int) none (some 0) = _ from hc, if_pos (by rw [List.length_map] at hs; exact hs)]
          walk_at "dl"
          rw [if_neg hn]
          walk_at "dl"
          exact hs_nx ⟨_, _, rfl⟩
      · obtain ⟨y, e1, e2, e3⟩ := low' h0
        have c1 : (0 : Int) < j := by omega
        clear low' h0
        generalize low (y, z) = p at *
        cases t <;> unfold seqD
        · walk_at "dl"
          simp only [hx.1, hx.2]
          walk_at "dl"
          rw [hc]
          walk_at "dl"
          rw [if_neg hn]
          walk_at "dl"
          rw [if_pos c1, e1]
          walk_at "dl"
          rw [e3]
          walk_at "dl"
          rw [if_neg (not_not_intro e2)]
          exact hs_nx ⟨_, _, rfl⟩
        · walk_at "dl"
          simp only [hx.1, hx.2]
          walk_at "dl"
          rw [hc, if_pos (by rw [List.length_map] at hs; exact hs)]
          walk_at "dl"
          rw [if_neg hn]
          walk_at "dl"
          rw [if_pos c1, e1]
          walk_at "dl"
          rw [e3]
          walk_at "dl"
          rw [if_neg (not_not_intro e2)]
          exact hs_nx ⟨_, _, rfl⟩
    cases t
    · unfold seqD at body ⊢
      simp only [if_false_true] at body ⊢
      walk_at "dl"
      rw [if_neg c0]
      walk_at "dl"
      refine hs_bind (fun e => True) (hs_forE D.int w (fun _ e => ∃ s3 s4, e = [.vl true (.int n), .vl true (.lst (ps.map dP)), .vl true (.lst (w.map D.int)), s3, s4]) ⟨_, _, rfl⟩ ?_ fun _ _ => trivial) ?_
      · rintro j _ hj ⟨s3, s4, rfl⟩
        exact body s3 s4 j hj
      · intro e _
        walk_at "dl"
        exact hs_rt rfl
    · unfold seqD at body ⊢
      simp only [if_true_true] at body ⊢
      walk_at "dl"
      rw [if_neg c0]
      walk_at "dl"
      refine hs_bind (fun e => True) (hs_forE D.int w (fun _ e => ∃ s3 s4, e = [.vl true (.int n), .vl true (.lst (ps.map dP)), .vl true (.tup (w.map D.int)), s3, s4]) ⟨_, _, rfl⟩ ?_ fun _ _ => trivial) ?_
      · rintro j _ hj ⟨s3, s4, rfl⟩
        exact body s3 s4 j hj
      · intro e _
        walk_at "dl"
        exact hs_rt rfl
  exact e
end Lw

namespace Lw
open PySem L2 DL
def dKs (t : Bool) (k : List Int × Int) : D := .tup [seqD t k.1, .int k.2]
theorem dKs_eq (t : Bool) (k : List Int × Int) : dKs t k = .tup [seqD t k.1, .int k.2] := rfl
def KindsOk (n : Int) (ps : List (Int × Int)) (ks : List (List Int × Int)) : Prop := ks.length ≤ 6 ∧ ∀ k ∈ ks, WayOk n ps k.1 ∧ 0 ≤ k.2 ∧ k.2 ≤ 24
theorem kinds_ok (t : Bool) (n : Int) (ps : List (Int × Int)) (ks : List (List Int × Int)) (h : KindsOk n ps ks) : F_first_wrong_kind [(true, .int n), (true, .lst (ps.map dP)), (true, .lst (ks.map (dKs t)))] = .ok ⟨.g, .non⟩ := by
  obtain ⟨h1, h2⟩ := h
  obtain ⟨u, e, rfl⟩ : ∃ u, runF 3 6 b_first_wrong_kind [(true, .int n), (true, .lst (ps.map dP)), (true, .lst (ks.map (dKs t)))] = .ok u ∧ u = ⟨.g, .non⟩ := by
    apply run_hs rfl
    unfold b_first_wrong_kind
    walk_at "dl"
    refine hs_bind (fun e => True) (hs_forE (dKs t) ks (fun _ e => ∃ s3 s4 s5, e = [.vl true (.int n), .vl true (.lst (ps.map dP)), .vl true (.lst (ks.map (dKs t))), s3, s4, s5]) ⟨_, _, _, rfl⟩ ?_ fun _ _ => trivial) ?_
    · rintro j _ hj ⟨s3, s4, s5, rfl⟩
      obtain ⟨x1, x2, x3⟩ := h2 _ (List.getElem_mem hj)
      generalize ks[j] = x at *
      have hw := way_ok t n ps x.1 x1
      have c1 : ¬ ((j : Int) ≥ 6) := by omega
      rw [dKs_eq]
      clear x1 h2
      walk_at "dlh"
      exact hs_nx ⟨_, _, _, rfl⟩
    · intro e _
      walk_at "dl"
      exact hs_rt rfl
  exact e
structure Tab where
  hands : List Int
  ties : List (Int × Int)
  kinds : List (List Int × Int)
  quick : List (Int × Int)
  shares : List (List Int × Int)
def Tab.n (T : Tab) : Int := T.hands.length
structure Tab.Ok (T : Tab) : Prop where
  n1 : 1 ≤ T.n
  n6 : T.n ≤ 6
  hands : ∀ x ∈ T.hands, 1 ≤ x ∧ x ≤ 4
  ties : TiesOk T.n T.ties
  conn : Conn T.n T.ties
  kinds : KindsOk T.n (T.ties.map low) T.kinds
  quick : QuickOk T.ties T.quick
  shares : SharesOk T.kinds.length T.shares
theorem lows (xs : List (Int × Int)) (i : Nat) (env : En) (hi : i < env.length) : lcO (nmT i) yesT (callF F_lower_first [] (consA (nmE i) nilA)) .g env (xs.map dP) = .ok ((xs.map low).map dP) := by
  rw [List.map_map]
  refine lcO_map (g := dP) (h := dP ∘ low) xs fun x _ => ?_
  have hf := F_low x
  rw [dP_eq, nmT_eq, slot_g, Res.bind_ok, Res.bind_ok, callF_eq, consA_eq, nmE_eq, List.getElem?_set_self hi, nmV_vl]
  walk_at "dlh"
  rfl
theorem broken_ok (t : Bool) (T : Tab) (h : T.Ok) : F_broken_rule [(true, .lst (T.hands.map D.int)), (true, .lst (T.ties.map dP)), (true, .lst (T.kinds.map (dKs t))), (true, .lst (T.quick.map dP)), (true, .lst (T.shares.map dK))] = .ok ⟨.g, .non⟩ := by
  obtain ⟨n1, n6, q1, q2, q3, q4, q5, q6⟩ := h
  have e1 := hands_ok _ q1
  have e2 := ties_ok _ _ q2
  have e3 := reached_ok _ _ n1 (by omega) (fun p hp => (q2.1 p hp).2) q3
  have e4 := kinds_ok t _ _ _ q4
  have e5 := quick_ok _ _ q5
  have e6 := shares_ok _ _ q6
  have ht := q2.2.2
  unfold Tab.n at *
  obtain ⟨hs, ts, ks, qs, ss⟩ := T
  dsimp only at *
  unfold F_broken_rule
  rw [runF_eq]
  unfold b_broken_rule
  have e7 : ts.length < sizeLine := Nat.lt_trans (show ts.length < 4000000 by omega) (by decide)
  clear q1 q2 q3 q4 q5 q6
  walk_at "dlh"
  rw [lows ts 8]
  rotate_left
  · exact (by decide : 8 < 10)
  walk_at "dlh"
end Lw

namespace Lw
open PySem L2 DL
/-! ### what a table reckons: it is reckoned -/
theorem neigh_ok (x : Int) (ts : List (Int × Int)) (hl : ts.length ≤ 40) : ∃ d, F_neighbours_of [(true, .int x), (true, .tup (ts.map dP))] = .ok ⟨.g, d⟩ := by
  obtain ⟨u, e, h⟩ : ∃ u, runF 2 5 b_neighbours_of [(true, .int x), (true, .tup (ts.map dP))] = .ok u ∧ ∃ d, u = ⟨.g, d⟩ := by
    apply run_hs rfl
    unfold b_neighbours_of
    walk_at "dl"
    refine hs_bind (fun e => ∃ (r : List Int) (s3 s4 : Sl), e = [.vl true (.int x), .vl true (.tup (ts.map dP)), .ow (r.map D.int), s3, s4])
      (hs_forL dP ts (fun k e => ∃ (r : List Int) (s3 s4 : Sl), r.length ≤ 2 * k ∧ e = [.vl true (.int x), .vl true (.tup (ts.map dP)), .ow (r.map D.int), s3, s4]) ⟨[], _, _, Nat.le_refl _, rfl⟩ ?_ ?_) ?_
    · rintro j _ hj ⟨r, s3, s4, hr, rfl⟩
      generalize ts[j] = p
      have e2 : r.length < sizeLine := Nat.lt_trans (show r.length < 4000000 by omega) (by decide)
      have e3 : ∀ y, (r ++ [y]).length < sizeLine := fun y => Nat.lt_trans (show (r ++ [y]).length < 4000000 by rw [List.length_append, List.length_singleton]; omega) (by decide)
      walk_at "dl"
      refine hs_bind (fun e => ∃ (r : List Int), r.length ≤ 2 * j + 1 ∧ e = [.vl true (.int x), .vl true (.tup (ts.map dP)), .ow (r.map D.int), .vl true (.int p.1), .vl true (.int p.2)]) ?_ ?_
      · split
        · walk_at "dlt"
          try rw [if_pos e2]
          exact hs_nx ⟨_, by rw [List.length_append, List.length_singleton]; omega, rfl⟩
        · exact hs_nx ⟨r, by omega, rfl⟩
      · rintro _ ⟨r, hr, rfl⟩
        have e2 : r.length < sizeLine := Nat.lt_trans (show r.length < 4000000 by omega) (by decide)
        walk_at "dl"
        split
        · walk_at "dlt"
          try rw [if_pos e2]
          exact hs_nx ⟨_, _, _, by rw [List.length_append, List.length_singleton]; omega, rfl⟩
        · exact hs_nx ⟨r, _, _, by omega, rfl⟩
    · rintro e ⟨r, s3, s4, _, h⟩
      exact ⟨r, s3, s4, h⟩
    · rintro _ ⟨r, s3, s4, rfl⟩
      walk_at "dl"
      exact hs_rt ⟨_, rfl⟩
  obtain ⟨d, rfl⟩ := h
  exact ⟨d, e⟩
theorem rep_non (n : Nat) : (List.replicate n [D.non]).flatten = List.replicate n D.non := by
  induction n with
  | zero => rfl
  | succ n ih => rw [List.replicate_succ, List.flatten_cons, ih]; rfl
theorem repP_lst {q q' : Kd} {n : Int} (h0 : 0 ≤ n) (h1 : n ≤ 100) : repP ⟨.o, .lst [.non]⟩ ⟨q', .int n⟩ = .ok ⟨.o, .lst (List.replicate n.toNat .non)⟩ := by
  unfold repP
  dsimp only
  rw [if_pos ⟨rfl, by omega, by omega, Nat.le_trans (show ([D.non].length) * n.toNat ≤ 100 by rw [List.length_singleton]; omega) (by decide)⟩, rep_non]
theorem wants_ok (t : Bool) (n : Int) (w : List Int) (h0 : 1 ≤ n) (h1 : n ≤ 6) (hl : 2 ≤ w.length) (hl2 : w.length ≤ 40) (hw : ∀ x ∈ w, 0 ≤ x ∧ x < n) : ∃ d, F_wants_along [(true, .int n), (true, .tup (w.map D.int))] = .ok ⟨.g, d⟩ := by
  obtain ⟨u, e, h⟩ : ∃ u, runF 2 4 b_wants_along [(true, .int n), (true, .tup (w.map D.int))] = .ok u ∧ ∃ d, u = ⟨.g, d⟩ := by
    apply run_hs rfl
    unfold b_wants_along
    walk_at "dl"
    rw [repP_lst (q := .o) (by omega) (by omega)]
    walk_at "dl"
    rw [if_pos (rg_in (by omega) (by omega))]
    refine hs_bind (fun e => ∃ (r : List D) (s3 : Sl), e = [.vl true (.int n), .vl true (.tup (w.map D.int)), .ow r, s3])
      (hs_forR (fun k e => ∃ (r : List D) (s3 : Sl), r.length = n.toNat ∧ e = [.vl true (.int n), .vl true (.tup (w.map D.int)), .ow r, s3]) ⟨_, _, List.length_replicate, rfl⟩ ?_ ?_) ?_
    · rintro j _ hj ⟨r, s3, hr, rfl⟩
      obtain ⟨a, ha⟩ : ∃ a, w[j]? = some a := ⟨_, List.getElem?_eq_getElem (by omega)⟩
      obtain ⟨b, hb⟩ : ∃ b, w[j + 1]? = some b := ⟨_, List.getElem?_eq_getElem (by omega)⟩
      have e1 := atD_get ha
      have e2 : atD (w.map D.int) ((j : Int) + 1) = .ok (.int b) := atD_get hb
      have hx := hw a (List.mem_of_getElem? ha)
      have e3 : ixN r.length a = some a.toNat := ixN_in hx.1 (by omega)
      clear ha hb hw hl hl2 h0 h1
      walk_at "dl"
      rw [e2]
      walk_at "dl"
      rw [e1]
      walk_at "dl"
      rw [e3]
      exact hs_nx ⟨_, _, by rw [List.length_set]; exact hr, rfl⟩
    · rintro e ⟨r, s3, _, h⟩
      exact ⟨r, s3, h⟩
    · rintro _ ⟨r, s3, rfl⟩
      walk_at "dl"
      exact hs_rt ⟨_, rfl⟩
  obtain ⟨d, rfl⟩ := h
  exact ⟨d, e⟩
theorem steps_ok (n : Int) (w : List Int) (h0 : 1 ≤ n) (h1 : n ≤ 6) (hl2 : w.length ≤ 40) (hw : ∀ x ∈ w, 0 ≤ x ∧ x < n) : ∃ d, F_steps_along [(true, .int n), (true, .tup (w.map D.int))] = .ok ⟨.g, d⟩ := by
  obtain ⟨u, e, h⟩ : ∃ u, runF 2 5 b_steps_along [(true, .int n), (true, .tup (w.map D.int))] = .ok u ∧ ∃ d, u = ⟨.g, d⟩ := by
    apply run_hs rfl
    unfold b_steps_along
    walk_at "dl"
    rw [repP_lst (q := .o) (by omega) (by omega)]
    walk_at "dl"
    refine hs_bind (fun e => ∃ (r : List D) (s3 s4 : Sl), e = [.vl true (.int n), .vl true (.tup (w.map D.int)), .ow r, s3, s4])
      (hs_forE D.int w (fun k e => ∃ (r : List D) (s3 s4 : Sl), r.length = n.toNat ∧ e = [.vl true (.int n), .vl true (.tup (w.map D.int)), .ow r, s3, s4]) ⟨_, _, _, List.length_replicate, rfl⟩ ?_ ?_) ?_
    · rintro j _ hj ⟨r, s3, s4, hr, rfl⟩
      have hx := hw _ (List.getElem_mem hj)
      generalize w[j] = a at hx ⊢
      have e3 : ixN r.length a = some a.toNat := ixN_in hx.1 (by omega)
      walk_at "dl"
      rw [e3]
      exact hs_nx ⟨_, _, _, by rw [List.length_set]; exact hr, rfl⟩
    · rintro e ⟨r, s3, s4, _, h⟩
      exact ⟨r, s3, s4, h⟩
    · rintro _ ⟨r, s3, s4, rfl⟩
      walk_at "dl"
      exact hs_rt ⟨_, rfl⟩
  obtain ⟨d, rfl⟩ := h
  exact ⟨d, e⟩
theorem share_ok (k : Int) (ss : List (List Int × Int)) : ∃ d, F_share_with [(true, .int k), (true, .tup (ss.map dK))] = .ok ⟨.g, d⟩ := by
  obtain ⟨u, e, h⟩ : ∃ u, runF 2 5 b_share_with [(true, .int k), (true, .tup (ss.map dK))] = .ok u ∧ ∃ d, u = ⟨.g, d⟩ := by
    apply run_hs rfl
    unfold b_share_with
    walk_at "dl"
    refine hs_bind (fun e => True) (hs_forE dK ss (fun _ e => ∃ s2 s3 s4, e = [.vl true (.int k), .vl true (.tup (ss.map dK)), s2, s3, s4]) ⟨_, _, _, rfl⟩ ?_ fun _ _ => trivial) ?_
    · rintro j _ hj ⟨s2, s3, s4, rfl⟩
      generalize ss[j] = x
      walk_at "dl"
      split
      · exact hs_rt ⟨_, rfl⟩
      · exact hs_nx ⟨_, _, _, rfl⟩
    · intro e _
      walk_at "dl"
      exact hs_rt ⟨_, rfl⟩
  obtain ⟨d, rfl⟩ := h
  exact ⟨d, e⟩
end Lw

namespace Lw
open PySem L2 DL
/-! ### Table.__init__ (printed in part by mkR5.py) -/
def stoV (s : Option Sl) (i : Nat) (fn : Str) (cs : List Str) (d : D) (env : En) : Out := match s with
  | some (.om t xs) => match insOf t with
    | some (c, ns) => if cs.contains c = true ∧ ns.length < 900 then .nx (env.set i (.om (t.putN (omPut fn d ns xs).1) (omPut fn d ns xs).2)) else .no
    | none => .no
  | _ => .no
theorem sto_eq {i : Nat} {fn : Str} {cs : List Str} {f : En → Res Vl} {env : En} : stoO i fn cs f env = ((f env).bind keepD).out env fun d => stoV env[i]? i fn cs d env := by
  unfold stoO stoV Res.out
  cases (f env).bind keepD <;> rfl
def omV (s : Option Sl) (fn : Str) (cs : List Str) : Res Vl := match s with
  | some (.om t xs) => match insOf t with
    | some (c, ns) => if cs.contains c = true then match (ns.zip xs).lookup fn with
      | some d => .ok ⟨.g, d⟩
      | none => .no else .no
    | none => .no
  | _ => .no
theorem omF_eq {i : Nat} {fn : Str} {cs : List Str} {env : En} : omF i fn cs env = omV env[i]? fn cs := rfl
def tabNs : List Str := ["hands", "ties", "kinds", "quick", "shares", "_neighbours", "_wants", "_steps", "_share"]

theorem sto0 { z : D} {env : En} : stoV (some (.om (.slf "Table" []) [])) 0 "hands" oc_hands z env = .nx (env.set 0 (.om (.slf "Table" ["hands"]) [z])) := by kernel_rfl
theorem sto1 {a z : D} {env : En} : stoV (some (.om (.slf "Table" ["hands"]) [a])) 0 "ties" oc_ties z env = .nx (env.set 0 (.om (.slf "Table" ["hands", "ties"]) [a, z])) := by kernel_rfl
theorem sto2 {a b z : D} {env : En} : stoV (some (.om (.slf "Table" ["hands", "ties"]) [a, b])) 0 "kinds" oc_kinds z env = .nx (env.set 0 (.om (.slf "Table" ["hands", "ties", "kinds"]) [a, b, z])) := by kernel_rfl
theorem sto3 {a b c z : D} {env : En} : stoV (some (.om (.slf "Table" ["hands", "ties", "kinds"]) [a, b, c])) 0 "quick" oc_quick z env = .nx (env.set 0 (.om (.slf "Table" ["hands", "ties", "kinds", "quick"]) [a, b, c, z])) := by kernel_rfl
theorem sto4 {a b c d z : D} {env : En} : stoV (some (.om (.slf "Table" ["hands", "ties", "kinds", "quick"]) [a, b, c, d])) 0 "shares" oc_shares z env = .nx (env.set 0 (.om (.slf "Table" ["hands", "ties", "kinds", "quick", "shares"]) [a, b, c, d, z])) := by kernel_rfl
theorem sto5 {a b c d e z : D} {env : En} : stoV (some (.om (.slf "Table" ["hands", "ties", "kinds", "quick", "shares"]) [a, b, c, d, e])) 0 "_neighbours" oc_neighbours_u z env = .nx (env.set 0 (.om (.slf "Table" ["hands", "ties", "kinds", "quick", "shares", "_neighbours"]) [a, b, c, d, e, z])) := by kernel_rfl
theorem sto6 {a b c d e f z : D} {env : En} : stoV (some (.om (.slf "Table" ["hands", "ties", "kinds", "quick", "shares", "_neighbours"]) [a, b, c, d, e, f])) 0 "_wants" oc_wants_u z env = .nx (env.set 0 (.om (.slf "Table" ["hands", "ties", "kinds", "quick", "shares", "_neighbours", "_wants"]) [a, b, c, d, e, f, z])) := by kernel_rfl
theorem sto7 {a b c d e f g z : D} {env : En} : stoV (some (.om (.slf "Table" ["hands", "ties", "kinds", "quick", "shares", "_neighbours", "_wants"]) [a, b, c, d, e, f, g])) 0 "_steps" oc_steps_u z env = .nx (env.set 0 (.om (.slf "Table" ["hands", "ties", "kinds", "quick", "shares", "_neighbours", "_wants", "_steps"]) [a, b, c, d, e, f, g, z])) := by kernel_rfl
theorem sto8 {a b c d e f g h z : D} {env : En} : stoV (some (.om (.slf "Table" ["hands", "ties", "kinds", "quick", "shares", "_neighbours", "_wants", "_steps"]) [a, b, c, d, e, f, g, h])) 0 "_share" oc_share_u z env = .nx (env.set 0 (.om (.slf "Table" ["hands", "ties", "kinds", "quick", "shares", "_neighbours", "_wants", "_steps", "_share"]) [a, b, c, d, e, f, g, h, z])) := by kernel_rfl
theorem om_hands5 {a b c d e : D} : omV (some (.om (.slf "Table" ["hands", "ties", "kinds", "quick", "shares"]) [a, b, c, d, e])) "hands" oc_hands = .ok ⟨.g, a⟩ := by kernel_rfl
theorem om_ties5 {a b c d e : D} : omV (some (.om (.slf "Table" ["hands", "ties", "kinds", "quick", "shares"]) [a, b, c, d, e])) "ties" oc_ties = .ok ⟨.g, b⟩ := by kernel_rfl
theorem om_kinds6 {a b c d e f : D} : omV (some (.om (.slf "Table" ["hands", "ties", "kinds", "quick", "shares", "_neighbours"]) [a, b, c, d, e, f])) "kinds" oc_kinds = .ok ⟨.g, c⟩ := by kernel_rfl
theorem om_kinds7 {a b c d e f g : D} : omV (some (.om (.slf "Table" ["hands", "ties", "kinds", "quick", "shares", "_neighbours", "_wants"]) [a, b, c, d, e, f, g])) "kinds" oc_kinds = .ok ⟨.g, c⟩ := by kernel_rfl
theorem om_kinds8 {a b c d e f g h : D} : omV (some (.om (.slf "Table" ["hands", "ties", "kinds", "quick", "shares", "_neighbours", "_wants", "_steps"]) [a, b, c, d, e, f, g, h])) "kinds" oc_kinds = .ok ⟨.g, c⟩ := by kernel_rfl
theorem om_shares8 {a b c d e f g h : D} : omV (some (.om (.slf "Table" ["hands", "ties", "kinds", "quick", "shares", "_neighbours", "_wants", "_steps"]) [a, b, c, d, e, f, g, h])) "shares" oc_shares = .ok ⟨.g, e⟩ := by kernel_rfl
theorem lcO_ex {t : Tg} {f : En → Res Vl} {q : Kd} {env : En} : ∀ {xs : List D}, (∀ x ∈ xs, ∃ d, ((t ⟨q, x⟩ env).bind fun e => (f e).bind keepD) = .ok d) → ∃ ds, lcO t yesT f q env xs = .ok ds
  | [], _ => ⟨[], rfl⟩
  | x :: xs, h => by
    obtain ⟨d, h1⟩ := h x List.mem_cons_self
    obtain ⟨ds, h2⟩ := lcO_ex fun y hy => h y (List.mem_cons_of_mem _ hy)
    refine ⟨d :: ds, ?_⟩
    rw [lcO_cons, h2]
    obtain ⟨e, e1, e2⟩ := Res.bind_eq h1
    rw [e1, Res.bind_ok]
    show ((f e).bind keepD).bind _ = _
    rw [e2]
    rfl
theorem tup_seq (t : Bool) (w : List Int) : tupleC [⟨.g, seqD t w⟩] = .ok ⟨.g, .tup (w.map D.int)⟩ := by cases t <;> rfl
section
variable {x0 x1 x2 x3 x4 x5 x6 x7 x8 x9 x10 x11 x12 x13 x14 x15 : Sl}
theorem lc_kinds (t : Bool) (ks : List (List Int × Int)) : lcO (tupT 2 (consT (nmT 8) (consT (nmT 9) nilT))) yesT (tupE (consA (callE tupleC (consA (nmE 8) nilA)) (consA (nmE 9) nilA))) .g [x0, x1, x2, x3, x4, x5, x6, x7, x8, x9, x10, x11, x12, x13, x14, x15] (ks.map (dKs t)) = .ok (ks.map dK) := by
  refine lcO_map (g := dKs t) (h := dK) ks fun k _ => ?_
  have e1 := tup_seq t k.1
  rw [dKs_eq]
  walk_at "dlh"
  try rfl
def nS (s : List Int × Int) : List Int × Int := (srtBy D.int s.1, s.2)
theorem lc_shares (ss : List (List Int × Int)) : lcO (tupT 2 (consT (nmT 10) (consT (nmT 11) nilT))) yesT (tupE (consA (callE tupleC (consA (callE sortAC (consA (nmE 10) nilA)) nilA)) (consA (nmE 11) nilA))) .g [x0, x1, x2, x3, x4, x5, x6, x7, x8, x9, x10, x11, x12, x13, x14, x15] (ss.map dK) = .ok ((ss.map nS).map dK) := by
  rw [List.map_map]
  refine lcO_map (g := dK) (h := dK ∘ nS) ss fun k _ => ?_
  walk_at "dl"
  try rfl
end

def resD (r : Res Vl) : D := match r with | .ok u => u.d | _ => .non
theorem resD_ok {r : Res Vl} (h : ∃ d, r = .ok ⟨.g, d⟩) : r = .ok ⟨.g, resD r⟩ := by
  obtain ⟨d, rfl⟩ := h
  rfl
def nbD (x : Int) (ts : List (Int × Int)) : D := resD (F_neighbours_of [(true, .int x), (true, .tup (ts.map dP))])
def waD (n : Int) (w : List Int) : D := resD (F_wants_along [(true, .int n), (true, .tup (w.map D.int))])
def stD (n : Int) (w : List Int) : D := resD (F_steps_along [(true, .int n), (true, .tup (w.map D.int))])
def shD (k : Int) (ss : List (List Int × Int)) : D := resD (F_share_with [(true, .int k), (true, .tup (ss.map dK))])
section
variable {x0 x1 x2 x3 x4 x5 x6 x7 x8 x9 x10 x11 x12 x13 x14 x15 : Sl} {a b c d e f g h i : D}
theorem lc_nb (n : Nat) (ts : List (Int × Int)) (hl : ts.length ≤ 40) : lcO (nmT 13) yesT (callF F_neighbours_of [] (consA (nmE 13) (consA (omF 0 "ties" oc_ties) nilA))) .g [.om (.slf "Table" ["hands", "ties", "kinds", "quick", "shares"]) [a, .tup (ts.map dP), c, d, e], x1, x2, x3, x4, x5, x6, x7, x8, x9, x10, x11, x12, x13, x14, x15] (rngD 0 n) = .ok ((List.range n).map fun (k : Nat) => nbD k ts) := by
  refine lcO_rng (h := fun (k : Nat) => nbD k ts) fun k _ => ?_
  have e1 : F_neighbours_of [(true, .int (k : Int)), (true, .tup (ts.map dP))] = .ok ⟨.g, nbD k ts⟩ := resD_ok (neigh_ok k ts hl)
  walk_at "dl"
  simp only [omF_eq]
  walk_at "dl"
  rw [om_ties5]
  walk_at "dl"
  rw [e1]
  rfl
theorem lc_wa (n : Int) (h0 : 1 ≤ n) (h1 : n ≤ 6) (ks : List (List Int × Int)) (hw : ∀ w ∈ ks, 2 ≤ w.1.length ∧ w.1.length ≤ 40 ∧ ∀ x ∈ w.1, 0 ≤ x ∧ x < n) : lcO (tupT 2 (consT (nmT 8) (consT (nmT 14) nilT))) yesT (callF F_wants_along [] (consA (nmE 12) (consA (nmE 8) nilA))) .g [x0, x1, x2, x3, x4, x5, x6, x7, x8, x9, x10, x11, .vl true (.int n), x13, x14, x15] (ks.map dK) = .ok (ks.map fun w => waD n w.1) := by
  refine lcO_map (g := dK) (h := fun w => waD n w.1) ks fun w hm => ?_
  have e1 : F_wants_along [(true, .int n), (true, .tup (w.1.map D.int))] = .ok ⟨.g, waD n w.1⟩ := resD_ok (wants_ok true n w.1 h0 h1 (hw w hm).1 (hw w hm).2.1 (hw w hm).2.2)
  walk_at "dl"
  rw [e1]
  rfl
theorem lc_st (n : Int) (h0 : 1 ≤ n) (h1 : n ≤ 6) (ks : List (List Int × Int)) (hw : ∀ w ∈ ks, 2 ≤ w.1.length ∧ w.1.length ≤ 40 ∧ ∀ x ∈ w.1, 0 ≤ x ∧ x < n) : lcO (tupT 2 (consT (nmT 8) (consT (nmT 14) nilT))) yesT (callF F_steps_along [] (consA (nmE 12) (consA (nmE 8) nilA))) .g [x0, x1, x2, x3, x4, x5, x6, x7, x8, x9, x10, x11, .vl true (.int n), x13, x14, x15] (ks.map dK) = .ok (ks.map fun w => stD n w.1) := by
  refine lcO_map (g := dK) (h := fun w => stD n w.1) ks fun w hm => ?_
  have e1 : F_steps_along [(true, .int n), (true, .tup (w.1.map D.int))] = .ok ⟨.g, stD n w.1⟩ := resD_ok (steps_ok n w.1 h0 h1 (hw w hm).2.1 (hw w hm).2.2)
  walk_at "dl"
  rw [e1]
  rfl
theorem lc_sh (n : Nat) (ss : List (List Int × Int)) : lcO (nmT 15) yesT (callF F_share_with [] (consA (nmE 15) (consA (omF 0 "shares" oc_shares) nilA))) .g [.om (.slf "Table" ["hands", "ties", "kinds", "quick", "shares", "_neighbours", "_wants", "_steps"]) [a, b, c, d, .tup (ss.map dK), f, g, h], x1, x2, x3, x4, x5, x6, x7, x8, x9, x10, x11, x12, x13, x14, x15] (rngD 0 n) = .ok ((List.range n).map fun (k : Nat) => shD k ss) := by
  refine lcO_rng (h := fun (k : Nat) => shD k ss) fun k _ => ?_
  have e1 : F_share_with [(true, .int (k : Int)), (true, .tup (ss.map dK))] = .ok ⟨.g, shD k ss⟩ := resD_ok (share_ok k ss)
  walk_at "dl"
  simp only [omF_eq]
  walk_at "dl"
  rw [om_shares8]
  walk_at "dl"
  rw [e1]
  rfl
end
end Lw

namespace Lw
open PySem L2 DL
/-! ### Table(..) of a table that may be: its normal form -/
def Tab.norm (T : Tab) : Tab := ⟨T.hands, srtBy dP (T.ties.map low), T.kinds, srtBy dP (T.quick.map low), srtBy dK (T.shares.map nS)⟩
def tabD (T : Tab) : D := .obj "Table" tabNs [.tup (T.hands.map D.int), .tup (T.ties.map dP), .tup (T.kinds.map dK), .tup (T.quick.map dP), .tup (T.shares.map dK),
  .tup ((List.range T.hands.length).map fun (k : Nat) => nbD k T.ties), .tup (T.kinds.map fun w => waD T.n w.1), .tup (T.kinds.map fun w => stD T.n w.1), .tup ((List.range T.kinds.length).map fun (k : Nat) => shD k T.shares)]
theorem lows7 {x0 x1 x2 x3 x4 x5 x6 x7 x8 x9 x10 x11 x12 x13 x14 x15 : Sl} (ts : List (Int × Int)) : lcO (nmT 7) yesT (callF F_lower_first [] (consA (nmE 7) nilA)) .g [x0, x1, x2, x3, x4, x5, x6, x7, x8, x9, x10, x11, x12, x13, x14, x15] (ts.map dP) = .ok ((ts.map low).map dP) := lows ts 7 _ (by show 7 < 16; decide)
theorem init_ok (t : Bool) (T : Tab) (h : T.Ok) : F_Table_init [(true, .lst (T.hands.map D.int)), (true, .lst (T.ties.map dP)), (true, .lst (T.kinds.map (dKs t))), (true, .lst (T.quick.map dP)), (true, .lst (T.shares.map dK))] = .ok ⟨.g, tabD T.norm⟩ := by
  have e0 := broken_ok t T h
  obtain ⟨n1, n6, q1, q2, q3, q4, q5, q6⟩ := h
  have z1 : T.ties.length < sizeLine := Nat.lt_trans (show T.ties.length < 4000000 by have := q2.2.2; omega) (by decide)
  have z2 : T.kinds.length < sizeLine := Nat.lt_trans (show T.kinds.length < 4000000 by have := q4.1; omega) (by decide)
  have z3 : T.quick.length < sizeLine := Nat.lt_trans (show T.quick.length < 4000000 by have := q5.2.2; omega) (by decide)
  have z4 : T.shares.length < sizeLine := Nat.lt_trans (show T.shares.length < 4000000 by have := q6.1; omega) (by decide)
  have z5 : (rngD 0 T.hands.length).length < sizeLine := Nat.lt_trans (show (rngD 0 T.hands.length).length < 4000000 by rw [rngD_len]; unfold Tab.n at *; omega) (by decide)
  have z6 : (rngD 0 T.kinds.length).length < sizeLine := by rw [rngD_len]; exact z2
  have y1 : (srtBy dP (T.ties.map low)).length ≤ 40 := by rw [(srtBy_perm dP _).length_eq, List.length_map]; exact q2.2.2
  have hw : ∀ w ∈ T.kinds, 2 ≤ w.1.length ∧ w.1.length ≤ 40 ∧ ∀ x ∈ w.1, 0 ≤ x ∧ x < T.n := fun w hm => ⟨((q4.2 w hm).1).1, ((q4.2 w hm).1).2.1, ((q4.2 w hm).1).2.2.2.1⟩
  have r1 : rg (T.hands.length : Int) = true := rg_in (by omega) (by unfold Tab.n at *; omega)
  have r2 : rg (T.kinds.length : Int) = true := rg_in (by omega) (by have := q4.1; omega)
  clear q1 q2 q3 q4 q5 q6
  have e1 : (T.hands.length : Int) = T.n := rfl
  unfold F_Table_init DL.runI
  rw [if_pos (show [(true, D.lst (T.hands.map D.int)), (true, D.lst (T.ties.map dP)), (true, .lst (T.kinds.map (dKs t))), (true, .lst (T.quick.map dP)), (true, .lst (T.shares.map dK))].length = 5 from rfl)]
  unfold b_Table_init
  walk_at "dlt"
  rw [e0]
  walk_at "dlt"
  rw [sto_eq]
  walk_at "dlt"
  rw [sto0]
  walk_at "dlt"
  rw [sto_eq]
  walk_at "dlt"
  rw [if_pos z1, lows7]
  walk_at "dlt"
  rw [sto1]
  walk_at "dlt"
  rw [sto_eq]
  walk_at "dlt"
  rw [if_pos z2, lc_kinds]
  walk_at "dlt"
  rw [sto2]
  walk_at "dlt"
  rw [sto_eq]
  walk_at "dlt"
  rw [if_pos z3, lows7]
  walk_at "dlt"
  rw [sto3]
  walk_at "dlt"
  rw [sto_eq]
  walk_at "dlt"
  rw [if_pos z4, lc_shares]
  walk_at "dlt"
  rw [sto4]
  walk_at "dlt"
  rw [omF_eq]
  walk_at "dlt"
  rw [om_hands5]
  walk_at "dlt"
  rw [sto_eq]
  walk_at "dlt"
  rw [if_pos r1]
  walk_at "dlt"
  rw [if_pos z5, lc_nb _ _ y1]
  walk_at "dlt"
  rw [sto5]
  walk_at "dlt"
  rw [sto_eq]
  walk_at "dlt"
  rw [omF_eq]
  walk_at "dlt"
  rw [om_kinds6]
  walk_at "dlt"
  rw [if_pos z2, e1, lc_wa _ n1 n6 _ hw]
  walk_at "dlt"
  rw [sto6]
  walk_at "dlt"
  rw [sto_eq]
  walk_at "dlt"
  rw [omF_eq]
  walk_at "dlt"
  rw [om_kinds7]
  walk_at "dlt"
  rw [if_pos z2, lc_st _ n1 n6 _ hw]
  walk_at "dlt"
  rw [sto7]
  walk_at "dlt"
  rw [sto_eq]
  walk_at "dlt"
  rw [omF_eq]
  walk_at "dlt"
  rw [om_kinds8]
  walk_at "dlt"
  rw [if_pos r2]
  walk_at "dlt"
  rw [if_pos z6, lc_sh]
  walk_at "dlt"
  rw [sto8]
  rfl
end Lw

namespace Lw
open PySem L2 DL
/-! ### what a table reckons, told -/
def nbF (x : Int) (ts : List (Int × Int)) : List Int := ts.flatMap fun p => (if p.1 = x then [p.2] else []) ++ (if p.2 = x then [p.1] else [])
theorem nbF_len (x : Int) (ts : List (Int × Int)) : (nbF x ts).length ≤ 2 * ts.length := by
  induction ts with
  | nil => exact Nat.le_refl _
  | cons p ts ih =>
    unfold nbF at ih ⊢
    rw [List.flatMap_cons, List.length_append, List.length_append, List.length_cons]
    split <;> split <;> simp only [List.length_cons, List.length_nil] <;> omega
theorem nbF_snoc (x : Int) (ts : List (Int × Int)) (j : Nat) (hj : j < ts.length) : nbF x (ts.take (j + 1)) = nbF x (ts.take j) ++ ((if ts[j].1 = x then [ts[j].2] else []) ++ (if ts[j].2 = x then [ts[j].1] else [])) := by
  rw [← List.take_append_getElem hj]
  unfold nbF
  rw [List.flatMap_append, List.flatMap_cons, List.flatMap_nil, List.append_nil]
def nbs (x : Int) (ts : List (Int × Int)) : List Int := srtBy D.int (nbF x ts)
theorem neigh_eq (x : Int) (ts : List (Int × Int)) (hl : ts.length ≤ 40) : F_neighbours_of [(true, .int x), (true, .tup (ts.map dP))] = .ok ⟨.g, .tup ((nbs x ts).map D.int)⟩ := by
  obtain ⟨u, e, rfl⟩ : ∃ u, runF 2 5 b_neighbours_of [(true, .int x), (true, .tup (ts.map dP))] = .ok u ∧ u = ⟨.g, .tup ((nbs x ts).map D.int)⟩ := by
    apply run_hs rfl
    unfold b_neighbours_of
    walk_at "dl"
    refine hs_bind (fun e => ∃ (s3 s4 : Sl), e = [.vl true (.int x), .vl true (.tup (ts.map dP)), .ow ((nbF x ts).map D.int), s3, s4])
      (hs_forL dP ts (fun k e => ∃ (s3 s4 : Sl), e = [.vl true (.int x), .vl true (.tup (ts.map dP)), .ow ((nbF x (ts.take k)).map D.int), s3, s4]) ⟨_, _, rfl⟩ ?_ ?_) ?_
    · rintro j _ hj ⟨s3, s4, rfl⟩
      have hr := nbF_len x (ts.take j)
      rw [List.length_take] at hr
      rw [nbF_snoc x ts j hj]
      generalize ts[j] = p
      generalize nbF x (ts.take j) = r at hr ⊢
      have e2 : r.length < sizeLine := Nat.lt_trans (show r.length < 4000000 by omega) (by decide)
      have e3 : (r ++ [p.2]).length < sizeLine := Nat.lt_trans (show (r ++ [p.2]).length < 4000000 by rw [List.length_append, List.length_singleton]; omega) (by decide)
      clear hr
      walk_at "dl"
      refine hs_bind (fun e => e = [.vl true (.int x), .vl true (.tup (ts.map dP)), .ow ((r ++ (if p.1 = x then [p.2] else [])).map D.int), .vl true (.int p.1), .vl true (.int p.2)]) ?_ ?_
      · split
        · walk_at "dlt"
          try rw [if_pos e2]
          exact hs_nx rfl
        · exact hs_nx (by rw [List.append_nil])
      · rintro _ rfl
        rw [← List.append_assoc]
        have e4 : (r ++ (if p.1 = x then [p.2] else [])).length < sizeLine := by
          split
          · exact e3
          · rw [List.append_nil]; exact e2
        generalize r ++ (if p.1 = x then [p.2] else []) = r2 at e4 ⊢
        walk_at "dl"
        split
        · walk_at "dlt"
          try rw [if_pos e4]
          exact hs_nx ⟨_, _, rfl⟩
        · exact hs_nx ⟨_, _, by rw [List.append_nil]⟩
    · rintro e ⟨s3, s4, h⟩
      rw [List.take_length] at h
      exact ⟨s3, s4, h⟩
    · rintro _ ⟨s3, s4, rfl⟩
      walk_at "dl"
      exact hs_rt rfl
  exact e
theorem set_range {α : Type} (n : Nat) (f : Nat → α) (a : Nat) (v : α) : ((List.range n).map f).set a v = (List.range n).map fun p => if p = a then v else f p := by
  apply List.ext_getElem
  · simp
  · intro i h1 h2
    simp only [List.getElem_set, List.getElem_map, List.getElem_range]
    by_cases h : a = i
    · rw [if_pos h, if_pos h.symm]
    · rw [if_neg h, if_neg (Ne.symm h)]
theorem map_rep {α : Type} (n : Nat) (a : α) : List.replicate n a = (List.range n).map fun _ => a := by
  rw [List.map_const', List.length_range]
def optD : Option Int → D
  | none => .non
  | some i => .int i
/-- the next one on a way -/
def nxt (w : List Int) (p : Int) : Option Int := if p ∈ w then w[w.idxOf p + 1]? else none
def stp (w : List Int) (p : Int) : Option Int := if p ∈ w then some (w.idxOf p : Nat) else none
theorem idx_at {w : List Int} (h : w.Nodup) {j : Nat} (hj : j < w.length) : w.idxOf w[j] = j := by
  have h1 := List.idxOf_lt_length_iff.2 (List.getElem_mem hj)
  have h2 : w[w.idxOf w[j]] = w[j] := List.getElem_idxOf h1
  exact (List.getElem_inj h).1 h2
theorem wants_eq (n : Int) (w : List Int) (h0 : 0 ≤ n) (h1 : n ≤ 100) (hl : 1 ≤ w.length) (hl2 : w.length ≤ 40) (hd : w.Nodup) (hw : ∀ x ∈ w, 0 ≤ x ∧ x < n) : F_wants_along [(true, .int n), (true, .tup (w.map D.int))] = .ok ⟨.g, .tup ((List.range n.toNat).map fun (p : Nat) => optD (nxt w p))⟩ := by
  obtain ⟨u, e, rfl⟩ : ∃ u, runF 2 4 b_wants_along [(true, .int n), (true, .tup (w.map D.int))] = .ok u ∧ u = ⟨.g, .tup ((List.range n.toNat).map fun (p : Nat) => optD (nxt w p))⟩ := by
    apply run_hs rfl
    unfold b_wants_along
    walk_at "dl"
    rw [repP_lst (q := .o) (by omega) (by omega)]
    walk_at "dl"
    rw [if_pos (rg_in (by omega) (by omega))]
    refine hs_bind (fun e => ∃ (s3 : Sl), e = [.vl true (.int n), .vl true (.tup (w.map D.int)), .ow ((List.range n.toNat).map fun (p : Nat) => optD (nxt w p)), s3])
      (hs_forR (fun k e => ∃ (s3 : Sl), e = [.vl true (.int n), .vl true (.tup (w.map D.int)), .ow ((List.range n.toNat).map fun (p : Nat) => optD (if (p : Int) ∈ w.take k then nxt w p else none)), s3]) ⟨_, by rw [map_rep]; rfl⟩ ?_ ?_) ?_
    · rintro j _ hj ⟨s3, rfl⟩
      have hj2 : j < w.length := by omega
      have ha : w[j]? = some w[j] := List.getElem?_eq_getElem hj2
      obtain ⟨b, hb⟩ : ∃ b, w[j + 1]? = some b := ⟨_, List.getElem?_eq_getElem (by omega)⟩
      have e1 := atD_get ha
      have e2 : atD (w.map D.int) ((j : Int) + 1) = .ok (.int b) := atD_get hb
      have hx := hw _ (List.getElem_mem hj2)
      have e5 : nxt w w[j] = some b := by
        unfold nxt
        rw [if_pos (List.getElem_mem hj2), idx_at hd hj2, hb]
      have e6 : w.take (j + 1) = w.take j ++ [w[j]] := (List.take_append_getElem hj2).symm
      generalize hR : ((List.range n.toNat).map fun (p : Nat) => optD (if (p : Int) ∈ w.take j then nxt w p else none)) = R
      have hRl : R.length = n.toNat := by rw [← hR, List.length_map, List.length_range]
      generalize w[j] = a at *
      have e3 : ixN R.length a = some a.toNat := ixN_in hx.1 (by omega)
      walk_at "dl"
      rw [e2]
      walk_at "dl"
      rw [e1]
      walk_at "dl"
      rw [e3]
      have e7 : R.set a.toNat (D.int b) = (List.range n.toNat).map fun (p : Nat) => optD (if (p : Int) ∈ w.take (j + 1) then nxt w p else none) := by
        rw [← hR, set_range]
        apply List.map_congr_left
        intro p hp
        rw [e6]
        by_cases c : p = a.toNat
        · have : (p : Int) = a := by omega
          rw [if_pos c, this, if_pos (List.mem_append_right _ (List.mem_singleton_self _)), e5]
          rfl
        · have : ¬ (p : Int) = a := by omega
          rw [if_neg c]
          simp only [List.mem_append, List.mem_singleton, this, or_false]
      rw [← e7]
      exact hs_nx ⟨_, rfl⟩
    · rintro e ⟨s3, h⟩
      refine ⟨s3, ?_⟩
      rw [h]
      congr 3
      congr 1
      apply List.map_congr_left
      intro p hp
      congr 1
      have el : ((w.length : Int) - 1).toNat = w.length - 1 := by omega
      rw [el]
      by_cases c : (p : Int) ∈ w
      · by_cases c2 : (p : Int) ∈ w.take (w.length - 1)
        · rw [if_pos c2]
        · rw [if_neg c2]
          unfold nxt
          rw [if_pos c, List.getElem?_eq_none]
          have h1 := List.idxOf_lt_length_iff.2 c
          have h2 : w[w.idxOf (p : Int)] = (p : Int) := List.getElem_idxOf h1
          by_cases h3 : w.idxOf (p : Int) < w.length - 1
          · exact absurd (by
              rw [← h2]
              have h4 : w.idxOf (p : Int) < (w.take (w.length - 1)).length := by rw [List.length_take]; omega
              have h5 : (w.take (w.length - 1))[w.idxOf (p : Int)] = w[w.idxOf (p : Int)] := List.getElem_take
              rw [← h5]
              exact List.getElem_mem h4) c2
          · omega
      · rw [if_neg fun h => c (List.mem_of_mem_take h)]
        unfold nxt
        rw [if_neg c]
    · rintro _ ⟨s3, rfl⟩
      walk_at "dl"
      exact hs_rt rfl
  exact e
theorem steps_eq (n : Int) (w : List Int) (h0 : 0 ≤ n) (h1 : n ≤ 100) (hl2 : w.length ≤ 40) (hd : w.Nodup) (hw : ∀ x ∈ w, 0 ≤ x ∧ x < n) : F_steps_along [(true, .int n), (true, .tup (w.map D.int))] = .ok ⟨.g, .tup ((List.range n.toNat).map fun (p : Nat) => optD (stp w p))⟩ := by
  obtain ⟨u, e, rfl⟩ : ∃ u, runF 2 5 b_steps_along [(true, .int n), (true, .tup (w.map D.int))] = .ok u ∧ u = ⟨.g, .tup ((List.range n.toNat).map fun (p : Nat) => optD (stp w p))⟩ := by
    apply run_hs rfl
    unfold b_steps_along
    walk_at "dl"
    rw [repP_lst (q := .o) (by omega) (by omega)]
    walk_at "dl"
    refine hs_bind (fun e => ∃ (s3 s4 : Sl), e = [.vl true (.int n), .vl true (.tup (w.map D.int)), .ow ((List.range n.toNat).map fun (p : Nat) => optD (stp w p)), s3, s4])
      (hs_forE D.int w (fun k e => ∃ (s3 s4 : Sl), e = [.vl true (.int n), .vl true (.tup (w.map D.int)), .ow ((List.range n.toNat).map fun (p : Nat) => optD (if (p : Int) ∈ w.take k then stp w p else none)), s3, s4]) ⟨_, _, by rw [map_rep]; rfl⟩ ?_ ?_) ?_
    · rintro j _ hj ⟨s3, s4, rfl⟩
      have hx := hw _ (List.getElem_mem hj)
      have e5 : stp w w[j] = some (j : Int) := by
        unfold stp
        rw [if_pos (List.getElem_mem hj), idx_at hd hj]
      have e6 : w.take (j + 1) = w.take j ++ [w[j]] := (List.take_append_getElem hj).symm
      generalize hR : ((List.range n.toNat).map fun (p : Nat) => optD (if (p : Int) ∈ w.take j then stp w p else none)) = R
      have hRl : R.length = n.toNat := by rw [← hR, List.length_map, List.length_range]
      generalize w[j] = a at *
      have e3 : ixN R.length a = some a.toNat := ixN_in hx.1 (by omega)
      walk_at "dl"
      rw [e3]
      have e7 : R.set a.toNat (D.int (j : Int)) = (List.range n.toNat).map fun (p : Nat) => optD (if (p : Int) ∈ w.take (j + 1) then stp w p else none) := by
        rw [← hR, set_range]
        apply List.map_congr_left
        intro p hp
        rw [e6]
        by_cases c : p = a.toNat
        · have : (p : Int) = a := by omega
          rw [if_pos c, this, if_pos (List.mem_append_right _ (List.mem_singleton_self _)), e5]
          rfl
        · have : ¬ (p : Int) = a := by omega
          rw [if_neg c]
          simp only [List.mem_append, List.mem_singleton, this, or_false]
      rw [← e7]
      exact hs_nx ⟨_, _, rfl⟩
    · rintro e ⟨s3, s4, h⟩
      refine ⟨s3, s4, ?_⟩
      rw [h, List.take_length]
      congr 3
      congr 1
      apply List.map_congr_left
      intro p hp
      congr 1
      by_cases c : (p : Int) ∈ w
      · rw [if_pos c]
      · rw [if_neg c]
        unfold stp
        rw [if_neg c]
    · rintro _ ⟨s3, s4, rfl⟩
      walk_at "dl"
      exact hs_rt rfl
  exact e
/-- the first share that has the kind -/
def shI (k : Int) (ss : List (List Int × Int)) : Option Int := (((List.range ss.length).filter fun i => decide (k ∈ (ss.getD i ([], 0)).1)).head?).map fun i => (i : Int)
theorem range_split {n j : Nat} (h : j < n) : List.range n = List.range j ++ (j :: (List.range' (j + 1) (n - (j + 1)))) := by
  rw [List.range_eq_range', List.range_eq_range']
  have e : n = j + (n - j) := by omega
  conv => lhs; rw [e]
  rw [← List.range'_append_1]
  congr 1
  have e2 : n - j = (n - (j + 1)) + 1 := by omega
  rw [e2, List.range'_succ]
  simp
theorem shI_hit {k : Int} {ss : List (List Int × Int)} {j : Nat} (hj : j < ss.length) (h : k ∈ ss[j].1) (hn : ∀ i (hi : i < j), k ∉ (ss[i]'(by omega)).1) : shI k ss = some (j : Int) := by
  unfold shI
  rw [range_split hj, List.filter_append, List.filter_eq_nil_iff.2, List.nil_append, List.filter_cons_of_pos, List.head?_cons]
  · rfl
  · simp only [List.getD, List.getElem?_eq_getElem hj, Option.getD_some, decide_eq_true_eq]
    exact h
  · intro i hi
    rw [List.mem_range] at hi
    have := hn i hi
    simp only [List.getD, List.getElem?_eq_getElem (show i < ss.length by omega), Option.getD_some, decide_eq_true_eq]
    exact this
theorem shI_none {k : Int} {ss : List (List Int × Int)} (hn : ∀ i (hi : i < ss.length), k ∉ (ss[i]).1) : shI k ss = none := by
  unfold shI
  rw [List.filter_eq_nil_iff.2]
  · rfl
  · intro i hi
    rw [List.mem_range] at hi
    have := hn i hi
    simp only [List.getD, List.getElem?_eq_getElem hi, Option.getD_some, decide_eq_true_eq]
    exact this
theorem share_eq (k : Int) (ss : List (List Int × Int)) : F_share_with [(true, .int k), (true, .tup (ss.map dK))] = .ok ⟨.g, optD (shI k ss)⟩ := by
  obtain ⟨u, e, rfl⟩ : ∃ u, runF 2 5 b_share_with [(true, .int k), (true, .tup (ss.map dK))] = .ok u ∧ u = ⟨.g, optD (shI k ss)⟩ := by
    apply run_hs rfl
    unfold b_share_with
    walk_at "dl"
    refine hs_bind (fun e => ∀ i (hi : i < ss.length), k ∉ (ss[i]).1) (hs_forE dK ss (fun j e => (∀ i (hi : i < ss.length), i < j → k ∉ (ss[i]).1) ∧ ∃ s2 s3 s4, e = [.vl true (.int k), .vl true (.tup (ss.map dK)), s2, s3, s4]) ⟨fun _ _ h => absurd h (Nat.not_lt_zero _), _, _, _, rfl⟩ ?_ fun e h i hi => h.1 i hi hi) ?_
    · rintro j _ hj ⟨hn, s2, s3, s4, rfl⟩
      have hh := shI_hit (k := k) hj
      have hstep : k ∉ ss[j].1 → ∀ i (hi : i < ss.length), i < j + 1 → k ∉ (ss[i]).1 := fun h i hi hij => by
        by_cases z : i = j
        · subst z; exact h
        · exact hn i hi (by omega)
      generalize hx : ss[j] = x at *
      walk_at "dl"
      split
      · rename_i hm
        rw [hh hm fun i hi => hn i (by omega) hi]
        exact hs_rt rfl
      · rename_i hm
        exact hs_nx ⟨hstep hm, _, _, _, rfl⟩
    · intro e hn
      walk_at "dl"
      rw [shI_none hn]
      exact hs_rt rfl
  exact e
theorem nbD_eq {x : Int} {ts : List (Int × Int)} (hl : ts.length ≤ 40) : nbD x ts = .tup ((nbs x ts).map D.int) := by
  unfold nbD
  rw [neigh_eq x ts hl]
  rfl
theorem waD_eq {n : Int} {w : List Int} (h0 : 0 ≤ n) (h1 : n ≤ 100) (hl : 1 ≤ w.length) (hl2 : w.length ≤ 40) (hd : w.Nodup) (hw : ∀ x ∈ w, 0 ≤ x ∧ x < n) : waD n w = .tup ((List.range n.toNat).map fun (p : Nat) => optD (nxt w p)) := by
  unfold waD
  rw [wants_eq n w h0 h1 hl hl2 hd hw]
  rfl
theorem stD_eq {n : Int} {w : List Int} (h0 : 0 ≤ n) (h1 : n ≤ 100) (hl2 : w.length ≤ 40) (hd : w.Nodup) (hw : ∀ x ∈ w, 0 ≤ x ∧ x < n) : stD n w = .tup ((List.range n.toNat).map fun (p : Nat) => optD (stp w p)) := by
  unfold stD
  rw [steps_eq n w h0 h1 hl2 hd hw]
  rfl
theorem shD_eq {k : Int} {ss : List (List Int × Int)} : shD k ss = optD (shI k ss) := by
  unfold shD
  rw [share_eq k ss]
  rfl
end Lw

namespace Lw
open PySem L2 DL
/-! ### tables asked -/
structure Tab.Told (T : Tab) : Prop where
  n1 : 1 ≤ T.n
  n6 : T.n ≤ 6
  ties : T.ties.length ≤ 40
  kinds : ∀ w ∈ T.kinds, 2 ≤ w.1.length ∧ w.1.length ≤ 40 ∧ w.1.Nodup ∧ ∀ x ∈ w.1, 0 ≤ x ∧ x < T.n
def exS (c f v : Str) : Exn := ⟨c, [(f, .str v)]⟩
def noSuch (v : Str) : Res Vl := .ex (exS "NoSuch" "what" v)
section
variable {T : Tab} {k : Kd}
theorem fl_hands : fldP "hands" oc_hands ⟨k, tabD T⟩ = .ok ⟨k.sub, .tup (T.hands.map D.int)⟩ := by kernel_rfl
theorem fl_ties : fldP "ties" oc_ties ⟨k, tabD T⟩ = .ok ⟨k.sub, .tup (T.ties.map dP)⟩ := by kernel_rfl
theorem fl_kinds : fldP "kinds" oc_kinds ⟨k, tabD T⟩ = .ok ⟨k.sub, .tup (T.kinds.map dK)⟩ := by kernel_rfl
theorem fl_quick : fldP "quick" oc_quick ⟨k, tabD T⟩ = .ok ⟨k.sub, .tup (T.quick.map dP)⟩ := by kernel_rfl
theorem fl_shares : fldP "shares" oc_shares ⟨k, tabD T⟩ = .ok ⟨k.sub, .tup (T.shares.map dK)⟩ := by kernel_rfl
theorem fl_nb : fldP "_neighbours" oc_neighbours_u ⟨k, tabD T⟩ = .ok ⟨k.sub, .tup ((List.range T.hands.length).map fun (i : Nat) => nbD i T.ties)⟩ := by kernel_rfl
theorem fl_wa : fldP "_wants" oc_wants_u ⟨k, tabD T⟩ = .ok ⟨k.sub, .tup (T.kinds.map fun w => waD T.n w.1)⟩ := by kernel_rfl
theorem fl_st : fldP "_steps" oc_steps_u ⟨k, tabD T⟩ = .ok ⟨k.sub, .tup (T.kinds.map fun w => stD T.n w.1)⟩ := by kernel_rfl
theorem fl_sh : fldP "_share" oc_share_u ⟨k, tabD T⟩ = .ok ⟨k.sub, .tup ((List.range T.kinds.length).map fun (i : Nat) => shD i T.shares)⟩ := by kernel_rfl
theorem in_Tab (m : Str) (h : tabNs.contains m = false) : insV "Table" m ⟨k, tabD T⟩ = .ok ⟨k, tabD T⟩ := if_pos ⟨rfl, h⟩
end
theorem check_person_eq (T : Tab) (p : Int) : F_check_person [(true, tabD T), (true, .int p)] = if 0 ≤ p ∧ p < T.n then .ok ⟨.g, .non⟩ else noSuch "person" := by
  unfold F_check_person
  rw [runF_eq]
  unfold b_check_person
  walk_at "dl"
  rw [fl_hands]
  have e : (T.hands.length : Int) = T.n := rfl
  walk_at "dl"
  rw [e]
  by_cases h0 : 0 ≤ p
  · by_cases h1 : p < T.n
    · walk_at "dlh"
    · walk_at "dlh"
      rfl
  · walk_at "dlh"
    rfl
theorem check_kind_eq (T : Tab) (p : Int) : F_check_kind [(true, tabD T), (true, .int p)] = if 0 ≤ p ∧ p < T.kinds.length then .ok ⟨.g, .non⟩ else noSuch "kind" := by
  unfold F_check_kind
  rw [runF_eq]
  unfold b_check_kind
  walk_at "dl"
  rw [fl_kinds]
  walk_at "dl"
  by_cases h0 : 0 ≤ p
  · by_cases h1 : p < T.kinds.length
    · walk_at "dlh"
    · walk_at "dlh"
      rfl
  · walk_at "dlh"
    rfl
/-- a place in a mapped list -/
theorem atD_mapF {α : Type} {f : α → D} {xs : List α} {d : α} {i : Int} (h0 : 0 ≤ i) (h : i < xs.length) : atD (xs.map f) i = .ok (f (xs.getD i.toNat d)) := by
  have h2 : i.toNat < xs.length := by omega
  rw [atD_in h0 (by rw [List.length_map]; exact h), DL.getD_at (by rw [List.length_map]; exact h2), List.getElem_map, DL.getD_at h2]
theorem atD_rangeF {n : Nat} {f : Nat → D} {i : Int} (h0 : 0 ≤ i) (h : i < n) : atD ((List.range n).map f) i = .ok (f i.toNat) := by
  rw [atD_mapF (d := 0) h0 (by rw [List.length_range]; exact h), DL.getD_at (by rw [List.length_range]; omega), List.getElem_range]
theorem nb_eq {T : Tab} (h : T.Told) (p : Int) : F_Table_neighbours [(true, tabD T), (true, .int p)] = if 0 ≤ p ∧ p < T.n then .ok ⟨.g, .tup ((nbs p T.ties).map D.int)⟩ else noSuch "person" := by
  have e0 := check_person_eq T p
  unfold F_Table_neighbours
  rw [runF_eq]
  unfold b_Table_neighbours
  by_cases c : 0 ≤ p ∧ p < T.n
  · rw [if_pos c] at e0 ⊢
    walk_at "dl"
    rw [e0]
    walk_at "dl"
    rw [fl_nb]
    walk_at "dl"
    rw [atD_rangeF c.1 c.2]
    have e : ((p.toNat : Nat) : Int) = p := by omega
    walk_at "dl"
    rw [e, nbD_eq h.ties]
  · rw [if_neg c] at e0 ⊢
    walk_at "dl"
    rw [e0]
    rfl
theorem tied_eq {T : Tab} (h : T.Told) (p q : Int) : F_Table_is_tied [(true, tabD T), (true, .int p), (true, .int q)] = if 0 ≤ p ∧ p < T.n ∧ 0 ≤ q ∧ q < T.n then .ok ⟨.g, .bl (decide (q ∈ nbs p T.ties))⟩ else noSuch "person" := by
  have e0 := check_person_eq T p
  have e1 := check_person_eq T q
  unfold F_Table_is_tied
  rw [runF_eq]
  unfold b_Table_is_tied
  by_cases c : 0 ≤ p ∧ p < T.n
  · rw [if_pos c] at e0
    walk_at "dl"
    rw [e0]
    walk_at "dl"
    by_cases c2 : 0 ≤ q ∧ q < T.n
    · rw [if_pos c2] at e1
      rw [e1, if_pos ⟨c.1, c.2, c2.1, c2.2⟩]
      walk_at "dl"
      rw [fl_nb]
      walk_at "dl"
      rw [atD_rangeF c.1 c.2]
      have e : ((p.toNat : Nat) : Int) = p := by omega
      walk_at "dl"
      rw [e, nbD_eq h.ties]
      walk_at "dl"
    · rw [if_neg c2] at e1
      rw [e1, if_neg fun z => c2 z.2.2]
      rfl
  · rw [if_neg c] at e0
    have c3 : ¬ (0 ≤ p ∧ p < T.n ∧ 0 ≤ q ∧ q < T.n) := fun z => c ⟨z.1, z.2.1⟩
    rw [if_neg c3]
    walk_at "dl"
    rw [e0]
    rfl
theorem isquick_eq (T : Tab) (p q : Int) : F_Table_is_quick [(true, tabD T), (true, .int p), (true, .int q)] = if 0 ≤ p ∧ p < T.n ∧ 0 ≤ q ∧ q < T.n then .ok ⟨.g, .bl (decide (low (p, q) ∈ T.quick))⟩ else noSuch "person" := by
  have e0 := check_person_eq T p
  have e1 := check_person_eq T q
  have e2 := F_low (p, q)
  unfold F_Table_is_quick
  rw [runF_eq]
  unfold b_Table_is_quick
  by_cases c : 0 ≤ p ∧ p < T.n
  · rw [if_pos c] at e0
    walk_at "dl"
    rw [e0]
    walk_at "dl"
    by_cases c2 : 0 ≤ q ∧ q < T.n
    · rw [if_pos c2] at e1
      rw [e1, if_pos ⟨c.1, c.2, c2.1, c2.2⟩]
      walk_at "dl"
      rw [e2]
      walk_at "dl"
      rw [fl_quick]
      walk_at "dl"
    · rw [if_neg c2] at e1
      rw [e1, if_neg fun z => c2 z.2.2]
      rfl
  · rw [if_neg c] at e0
    have c3 : ¬ (0 ≤ p ∧ p < T.n ∧ 0 ≤ q ∧ q < T.n) := fun z => c ⟨z.1, z.2.1⟩
    rw [if_neg c3]
    walk_at "dl"
    rw [e0]
    rfl
def Tab.way (T : Tab) (k : Int) : List Int := (T.kinds.getD k.toNat ([], 0)).1
theorem way_mem {T : Tab} {k : Int} (h0 : 0 ≤ k) (h1 : k < T.kinds.length) : T.kinds.getD k.toNat ([], 0) ∈ T.kinds := by
  rw [DL.getD_at (by omega)]
  exact List.getElem_mem _
theorem wantsM_eq {T : Tab} (h : T.Told) (k p : Int) : F_Table_wants [(true, tabD T), (true, .int k), (true, .int p)] = if 0 ≤ k ∧ k < T.kinds.length then (if 0 ≤ p ∧ p < T.n then .ok ⟨.g, optD (nxt (T.way k) p)⟩ else noSuch "person") else noSuch "kind" := by
  have e0 := check_kind_eq T k
  have e1 := check_person_eq T p
  unfold F_Table_wants
  rw [runF_eq]
  unfold b_Table_wants
  by_cases c : 0 ≤ k ∧ k < T.kinds.length
  · rw [if_pos c] at e0
    rw [if_pos c]
    walk_at "dl"
    rw [e0]
    walk_at "dl"
    by_cases c2 : 0 ≤ p ∧ p < T.n
    · rw [if_pos c2] at e1
      rw [e1, if_pos c2]
      obtain ⟨w1, w2, w3, w4⟩ := h.kinds _ (way_mem c.1 c.2)
      walk_at "dl"
      rw [fl_wa]
      walk_at "dl"
      rw [atD_mapF (d := ([], 0)) c.1 c.2]
      walk_at "dl"
      rw [waD_eq (by have := h.n1; omega) (by have := h.n6; omega) (by omega) w2 w3 w4]
      walk_at "dl"
      rw [atD_rangeF c2.1 (by omega)]
      have e : ((p.toNat : Nat) : Int) = p := by omega
      walk_at "dl"
      rw [e]
      rfl
    · rw [if_neg c2] at e1
      rw [e1, if_neg c2]
      rfl
  · rw [if_neg c] at e0
    rw [if_neg c]
    walk_at "dl"
    rw [e0]
    rfl
theorem stepsM_eq {T : Tab} (h : T.Told) (k p : Int) : F_Table_steps_to [(true, tabD T), (true, .int k), (true, .int p)] = if 0 ≤ k ∧ k < T.kinds.length then (if 0 ≤ p ∧ p < T.n then .ok ⟨.g, optD (stp (T.way k) p)⟩ else noSuch "person") else noSuch "kind" := by
  have e0 := check_kind_eq T k
  have e1 := check_person_eq T p
  unfold F_Table_steps_to
  rw [runF_eq]
  unfold b_Table_steps_to
  by_cases c : 0 ≤ k ∧ k < T.kinds.length
  · rw [if_pos c] at e0
    rw [if_pos c]
    walk_at "dl"
    rw [e0]
    walk_at "dl"
    by_cases c2 : 0 ≤ p ∧ p < T.n
    · rw [if_pos c2] at e1
      rw [e1, if_pos c2]
      obtain ⟨w1, w2, w3, w4⟩ := h.kinds _ (way_mem c.1 c.2)
      walk_at "dl"
      rw [fl_st]
      walk_at "dl"
      rw [atD_mapF (d := ([], 0)) c.1 c.2]
      walk_at "dl"
      rw [stD_eq (by have := h.n1; omega) (by have := h.n6; omega) w2 w3 w4]
      walk_at "dl"
      rw [atD_rangeF c2.1 (by omega)]
      have e : ((p.toNat : Nat) : Int) = p := by omega
      walk_at "dl"
      rw [e]
      rfl
    · rw [if_neg c2] at e1
      rw [e1, if_neg c2]
      rfl
  · rw [if_neg c] at e0
    rw [if_neg c]
    walk_at "dl"
    rw [e0]
    rfl
theorem shareM_eq (T : Tab) (k : Int) : F_Table_share_of [(true, tabD T), (true, .int k)] = if 0 ≤ k ∧ k < T.kinds.length then .ok ⟨.g, optD (shI k T.shares)⟩ else noSuch "kind" := by
  have e0 := check_kind_eq T k
  unfold F_Table_share_of
  rw [runF_eq]
  unfold b_Table_share_of
  by_cases c : 0 ≤ k ∧ k < T.kinds.length
  · rw [if_pos c] at e0 ⊢
    walk_at "dl"
    rw [e0]
    walk_at "dl"
    rw [fl_sh]
    walk_at "dl"
    rw [atD_rangeF c.1 c.2]
    have e : ((k.toNat : Nat) : Int) = k := by omega
    walk_at "dl"
    rw [e, shD_eq]
  · rw [if_neg c] at e0 ⊢
    walk_at "dl"
    rw [e0]
    rfl
theorem tree_eq (T : Tab) : F_Table_is_tree [(true, tabD T)] = .ok ⟨.g, .bl (decide ((T.ties.length : Int) = T.n - 1))⟩ := by
  unfold F_Table_is_tree
  rw [runF_eq]
  unfold b_Table_is_tree
  walk_at "dl"
  rw [fl_hands, fl_ties]
  walk_at "dl"
  rfl
theorem onehand_eq (T : Tab) (hl : T.n ≤ 6) : F_Table_has_one_hand [(true, tabD T)] = .ok ⟨.g, .bl ((T.hands.map fun x => decide (x = 1)).all id)⟩ := by
  unfold F_Table_has_one_hand
  rw [runF_eq]
  unfold b_Table_has_one_hand
  walk_at "dl"
  rw [fl_hands]
  walk_at "dl"
  rw [lcO_map (g := D.int) (h := D.bl ∘ fun x => decide (x = 1)) T.hands fun x _ => by walk_at "dl"; rfl, ← List.map_map, if_pos (Nat.lt_trans (show T.hands.length < 4000000 by unfold Tab.n at hl; omega) (by decide))]
  walk_at "dl"
theorem round_eq {T : Tab} (h : T.Told) : F_Table_is_round [(true, tabD T)] = .ok ⟨.g, .bl (decide (3 ≤ T.n) && ((List.range T.hands.length).map fun (i : Nat) => decide ((nbs i T.ties).length = 2)).all id)⟩ := by
  unfold F_Table_is_round
  rw [runF_eq]
  unfold b_Table_is_round
  have e1 : (T.hands.length : Int) = T.n := rfl
  walk_at "dl"
  rw [fl_hands]
  walk_at "dl"
  rw [e1]
  by_cases c : 3 ≤ T.n
  · have c1 : T.n ≥ 3 := c
    rw [if_pos c, decide_eq_true c, fl_nb]
    walk_at "dl"
    rw [lcO_map (g := fun (i : Nat) => nbD i T.ties) (h := D.bl ∘ fun (i : Nat) => decide ((nbs i T.ties).length = 2)) (List.range T.hands.length) fun i _ => by
      rw [nbD_eq h.ties]
      walk_at "dl"
      have e2 : decide (((nbs (i : Int) T.ties).length : Int) = 2) = decide ((nbs (i : Int) T.ties).length = 2) := decide_eq_decide.2 (by omega)
      rw [e2]
      rfl, ← List.map_map, if_pos (Nat.lt_trans (show (List.range T.hands.length).length < 4000000 by have := h.n6; unfold Tab.n at this; rw [List.length_range]; omega) (by decide))]
    walk_at "dl"
  · rw [if_neg c, decide_eq_false c]
    rfl
end Lw

namespace Lw
open PySem L2 DL
def mixed (n t : Int) : Int := ((n * 48271 + t * 69621 + 11) % 2147483647 * ((n * 48271 + t * 69621 + 11) % 2147483647) + t * 40692 + 7) % 2147483399 / 7 % 1000
theorem F_mixed (k1 k2 : Bool) (n t : Int) (hn : n.natAbs < 2 ^ 64) (ht : t.natAbs < 2 ^ 64) : F_law_mixed [(k1, .int n), (k2, .int t)] = .ok ⟨.g, .int (mixed n t)⟩ := by
  unfold F_law_mixed
  rw [runF_eq]
  unfold b_law_mixed
  have e1 : mulI n 48271 = _ := mulI_200 (by omega) (by decide)
  have e2 : mulI t 69621 = _ := mulI_200 (by omega) (by decide)
  have e3 : mulI t 40692 = _ := mulI_200 (by omega) (by decide)
  have e4 : mulI ((n * 48271 + t * 69621 + 11) % 2147483647) ((n * 48271 + t * 69621 + 11) % 2147483647) = _ := mulI_200 (by omega) (by omega)
  have e5 (a : Int) : divI a 7 = _ := divI_64 (by decide) (by decide)
  clear hn ht
  walk_at "dlh"
  rfl
end Lw

namespace Lw
open PySem L2 DL
def PoolOk (m : Nat) (p : List Int) : Prop := p.length = m ∧ ∀ x ∈ p, 0 ≤ x ∧ x < 1000
def ints3 (r : List (List Int)) : List D := r.map fun x => .lst (x.map D.int)
theorem ints3_snoc {ds : List (List Int)} {row : List Int} : ints3 ds ++ [.lst (row.map D.int)] = ints3 (ds ++ [row]) := by unfold ints3; rw [List.map_append]; rfl
theorem pool_hs (k k' : Bool) (ns : List Int) (m : Nat) (hm : m ≤ 1000) : ∃ u, F_law_pool [(true, .fz (ns.map .int)), (k', .int m)] = .ok u ∧ ∃ p : List Int, u = ⟨.o, .lst (p.map .int)⟩ ∧ PoolOk m p := by
  unfold F_law_pool
  apply run_hs rfl
  unfold b_law_pool
  have c1 : cutD (ns.map D.int) none (some 63) = (ns.take 63).map D.int := by rw [cutD_take (by decide), List.map_take]; rfl
  have c2 : ((ns.take 63).map D.int).length < sizeLine := by rw [List.length_map, List.length_take]; exact Nat.lt_of_le_of_lt (Nat.min_le_left _ _) (by decide)
  have c3 : powI 10 18 = .ok (.int 1000000000000000000) := by unfold powI; rw [if_pos (by decide)]; rfl
  walk_at "dl"
  rw [c1, if_pos c2]
  rw [lcO_map (g := D.int) (h := D.int ∘ fun x => (if x < 0 then -x else x))]
  rotate_left
  · intro x hx
    walk_at "dl"
    rfl
  rw [← List.map_map]
  walk_at "dl"
  refine hs_bind (fun e => ∃ cs : List Int, 0 < cs.length ∧ cs.length ≤ 63 ∧ (∀ x ∈ cs, 0 ≤ x) ∧ e = [Sl.vl true (D.fz (List.map D.int ns)), Sl.vl k' (D.int m), Sl.no, Sl.ow (cs.map D.int), Sl.no, Sl.no, Sl.no, Sl.no, Sl.no, Sl.no, Sl.no]) ?_ ?_
  · split
    · exact hs_nx ⟨[0], by decide, by decide, by decide, rfl⟩
    · rename_i h
      refine hs_nx ⟨_, ?_, ?_, ?_, rfl⟩
      · exact List.length_pos_iff.2 h
      · rw [List.length_map, List.length_take]; exact Nat.min_le_left _ _
      · intro x hx
        obtain ⟨y, _, rfl⟩ := List.mem_map.1 hx
        split <;> omega
  rintro _ ⟨cs, n1, n2, n3, rfl⟩
  walk_at "dl"
  refine hs_bind (fun e => ∃ ds : List (List Int), ∃ s2 s5 s6 s7, ds.length = cs.length ∧ (∀ r ∈ ds, ∀ x ∈ r, 0 ≤ x ∧ x < 1000) ∧ e = [Sl.vl true (D.fz (List.map D.int ns)), Sl.vl k' (D.int m), s2, Sl.vl true (D.lst (cs.map D.int)), Sl.ow (ints3 ds), s5, s6, s7, Sl.no, Sl.no, Sl.no]) ?_ ?_
  · refine hs_forL D.int cs (fun k e => ∃ ds : List (List Int), ∃ s2 s5 s6 s7, ds.length = k ∧ (∀ r ∈ ds, ∀ x ∈ r, 0 ≤ x ∧ x < 1000) ∧ e = [Sl.vl true (D.fz (List.map D.int ns)), Sl.vl k' (D.int m), s2, Sl.vl true (D.lst (cs.map D.int)), Sl.ow (ints3 ds), s5, s6, s7, Sl.no, Sl.no, Sl.no]) ?_ ?_ ?_
    · exact ⟨[], _, _, _, _, rfl, (fun r h => absurd h List.not_mem_nil), rfl⟩
    · rintro j _ hj ⟨ds, s2, s5, s6, s7, hd, hr, rfl⟩
      generalize hx : cs[j] = x
      walk_at "dl"
      refine hs_bind (fun e => ∃ row : List Int, ∃ s6 s7, (∀ x ∈ row, 0 ≤ x ∧ x < 1000) ∧ e = [Sl.vl true (D.fz (List.map D.int ns)), Sl.vl k' (D.int m), Sl.vl true (D.int x), Sl.vl true (D.lst (cs.map D.int)), Sl.ow (ints3 ds), Sl.ow (row.map D.int), s6, s7, Sl.no, Sl.no, Sl.no]) ?_ ?_
      · split
        · refine hs_forR (fun k e => ∃ row : List Int, ∃ r s7, row.length ≤ k ∧ (∀ x ∈ row, 0 ≤ x ∧ x < 1000) ∧ e = [Sl.vl true (D.fz (List.map D.int ns)), Sl.vl k' (D.int m), Sl.vl true (D.int x), Sl.vl true (D.lst (cs.map D.int)), Sl.ow (ints3 ds), Sl.ow (row.map D.int), Sl.vl true (D.int r), s7, Sl.no, Sl.no, Sl.no]) ?_ ?_ ?_
          · exact ⟨[], x, s7, Nat.le_refl _, (fun _ h => absurd h List.not_mem_nil), rfl⟩
          · rintro i _ hi ⟨row, r, t7, hl, hw, rfl⟩
            walk_at "dl"
            split
            · have e5 : divI r 1000 = _ := divI_64 (by decide) (by decide)
              have e6 : row.length < sizeLine := Nat.lt_trans (show row.length < 4000000 by omega) (by decide)
              walk_at "dlh"
              refine hs_nx ⟨row ++ [r % 1000], r / 1000, _, ?_, ?_, rfl⟩
              · rw [List.length_append]; exact Nat.succ_le_succ hl
              · intro y hy
                rcases List.mem_append.1 hy with hy | hy
                · exact hw y hy
                · rw [List.mem_singleton.1 hy]; omega
            · exact hs_nx ⟨row, r, _, by omega, hw, rfl⟩
          · rintro _ ⟨row, r, t7, hl, hw, rfl⟩
            exact ⟨row, _, _, hw, rfl⟩
        · exact hs_nx ⟨[], _, _, (fun _ h => absurd h List.not_mem_nil), rfl⟩
      rintro _ ⟨row, t6, t7, hw, rfl⟩
      walk_at "dl"
      rw [if_pos (show (ints3 ds).length < sizeLine by unfold ints3; rw [List.length_map]; exact Nat.lt_trans (show ds.length < 4000000 by omega) (by decide))]
      rw [ints3_snoc]
      refine hs_nx ⟨ds ++ [row], _, _, _, _, ?_, ?_, rfl⟩
      · rw [List.length_append, hd]; rfl
      · intro y hy
        rcases List.mem_append.1 hy with hy | hy
        · exact hr y hy
        · rw [List.mem_singleton.1 hy]; exact hw
    · rintro e ⟨ds, s2, s5, s6, s7, h⟩
      exact ⟨ds, s2, s5, s6, s7, h⟩
  rintro e ⟨ds, s2, s5, s6, s7, hd, hr, he⟩
  rw [he]
  clear he
  walk_at "dl"
  rw [if_pos (rg_in (by omega) (by omega))]
  refine hs_bind (fun e => ∃ p : List Int, ∃ s2 s5 s6 s7 s9 s10, PoolOk m p ∧ e = [Sl.vl true (D.fz (List.map D.int ns)), Sl.vl k' (D.int m), s2, Sl.vl true (D.lst (cs.map D.int)), Sl.ow (ints3 ds), s5, s6, s7, Sl.ow (p.map D.int), s9, s10]) ?_ ?_
  · refine hs_forR (fun k e => ∃ p : List Int, ∃ s2 s5 s6 s7 s9 s10, PoolOk k p ∧ e = [Sl.vl true (D.fz (List.map D.int ns)), Sl.vl k' (D.int m), s2, Sl.vl true (D.lst (cs.map D.int)), Sl.ow (ints3 ds), s5, s6, s7, Sl.ow (p.map D.int), s9, s10]) ?_ ?_ ?_
    · exact ⟨[], _, _, _, _, _, _, ⟨rfl, fun _ h => absurd h List.not_mem_nil⟩, rfl⟩
    · rintro j _ hj ⟨p, s2, s5, s6, s7, s9, s10, ⟨hp, hq⟩, rfl⟩
      have n0 : (0 : Int) < cs.length := by omega
      have e1 (a : Int) : divI a cs.length = _ := divI_64 n0 (by omega)
      have e2 : mulI 7919 ((j : Int) % cs.length) = _ := mulI_200 (by decide) (by have := Int.emod_lt_of_pos (j : Int) n0; have := Int.emod_nonneg (j : Int) (show (cs.length : Int) ≠ 0 by omega); omega)
      have e3 : atD (ints3 ds) ((j : Int) % cs.length) = .ok (.lst ((ds.getD ((j : Int) % cs.length).toNat []).map D.int)) := by
        have m0 : 0 ≤ (j : Int) % cs.length := Int.emod_nonneg _ (by omega)
        have m1 : (j : Int) % cs.length < cs.length := Int.emod_lt_of_pos _ n0
        unfold ints3
        rw [atD_in m0 (by rw [List.length_map]; omega), DL.getD_at (by rw [List.length_map]; omega), List.getElem_map, DL.getD_at (by omega)]
      walk_at "dl"
      rw [if_pos n0]
      walk_at "dl"
      have hw : ∀ i : Nat, i < cs.length → i < ds.length := fun i h => by omega
      have m0 : 0 ≤ (j : Int) % cs.length := Int.emod_nonneg _ (by omega)
      have m1 : (j : Int) % cs.length < cs.length := Int.emod_lt_of_pos _ n0
      have e4 : atD (cs.map D.int) ((j : Int) % cs.length) = _ := atD_map m0 m1
      have e6 : p.length < sizeLine := Nat.lt_trans (show p.length < 4000000 by omega) (by decide)
      obtain ⟨row, hrw⟩ : ∃ r, r = ds.getD ((j : Int) % cs.length).toNat [] := ⟨_, rfl⟩
      obtain ⟨x, hx⟩ : ∃ r, r = cs.getD ((j : Int) % cs.length).toNat 0 := ⟨_, rfl⟩
      rw [← hrw] at e3
      rw [← hx] at e4
      clear hx
      have hrm : ∀ x ∈ row, 0 ≤ x ∧ x < 1000 := by
        rw [DL.getD_at (by omega)] at hrw
        exact hr row (hrw ▸ List.getElem_mem _)
      rw [e1]
      walk_at "dl"
      rw [e3]
      simp only [e1, e2, e3, e4]
      walk_at "dl"
      have h4 : 0 ≤ (j : Int) / cs.length := Int.ediv_nonneg (by omega) (by omega)
      split
      · rename_i hlt
        rw [atD_map (Int.ediv_nonneg (by omega) (by omega)) hlt]
        walk_at "dl"
        refine hs_nx ⟨_, _, _, _, _, _, _, ⟨?_, ?_⟩, rfl⟩
        · rw [List.length_append, hp]; rfl
        · intro y hy
          rcases List.mem_append.1 hy with hy | hy
          · exact hq y hy
          · rw [List.mem_singleton.1 hy, DL.getD_at (by omega)]
            exact hrm _ (List.getElem_mem _)
      · have h3 : (j : Int) / cs.length ≤ j := Int.ediv_le_self _ (by omega)
        have h4 : 0 ≤ (j : Int) / cs.length := Int.ediv_nonneg (by omega) (by omega)
        rw [F_mixed _ _ _ _ (by omega) (by omega)]
        walk_at "dl"
        refine hs_nx ⟨_, _, _, _, _, _, _, ⟨?_, ?_⟩, rfl⟩
        · rw [List.length_append, hp]; rfl
        · intro y hy
          rcases List.mem_append.1 hy with hy | hy
          · exact hq y hy
          · rw [List.mem_singleton.1 hy]
            unfold mixed
            omega
    · rintro e h
      exact h
  rintro _ ⟨p, s2, s5, s6, s7, s9, s10, hp, rfl⟩
  walk_at "dl"
  exact hs_rt ⟨p, rfl, hp⟩
end Lw

namespace Lw
open PySem L2 DL
/-- data that _law_same reads, at most n deep -/
def sOk : Nat → D → Prop
  | _, .non => True
  | _, .int _ => True
  | _, .bl _ => True
  | _, .str _ => True
  | n + 1, .lst xs => xs.length ≤ 1000000 ∧ ∀ x ∈ xs, sOk n x
  | n + 1, .tup xs => xs.length ≤ 1000000 ∧ ∀ x ∈ xs, sOk n x
  | _, _ => False
theorem same_refl : ∀ (n : Nat) (d : D) (k1 k2 : Bool), sOk n d → F_law_same (n + 1) [(k1, d), (k2, d)] = .ok ⟨.g, .bl true⟩ := by
  intro n
  induction n with
  | zero =>
    intro d k1 k2 h
    show runF 2 3 (b_law_same (F_law_same 0)) _ = _
    rw [runF_eq]
    unfold b_law_same
    cases d with
    | non => walk_at "dl"
    | int i => walk_at "dl"
    | bl b => cases b <;> walk_at "dl"
    | str s => walk_at "dl"
    | _ => exact h.elim
  | succ n ih =>
    intro d k1 k2 h
    have loop : ∀ (xs : List D), xs.length ≤ 1000000 → (∀ x ∈ xs, sOk n x) → ∀ (s0 s1 s2 : Sl), (∀ (i : Nat) (x : D), xs[i]? = some x → binE ixP (nmE 0) (nmE 2) [s0, s1, .vl true (.int i)] = .ok ⟨kd k1, x⟩ ∧ binE ixP (nmE 1) (nmE 2) [s0, s1, .vl true (.int i)] = .ok ⟨kd k2, x⟩) →
        Out.hs (fun e => ∃ s2, e = [s0, s1, s2]) (fun _ => False) (fun _ => False) (fun _ => False) (fun _ _ => False) (forO (nmT 2) (ifO (notT (truT (callF (F_law_same (n + 1)) [] (consA (binE ixP (nmE 0) (nmE 2)) (consA (binE ixP (nmE 1) (nmE 2)) nilA))))) (retO (cE (.bl false))) nextO) .g (rngD 0 xs.length) [s0, s1, s2]) := by
      intro xs hl hx s0 s1 s2 hi
      refine hs_forR (fun _ e => ∃ s2, e = [s0, s1, s2]) ⟨s2, rfl⟩ ?_ (fun e h => h)
      rintro i _ hi' ⟨s2, rfl⟩
      obtain ⟨h1, h2⟩ := hi i _ (List.getElem?_eq_getElem hi')
      have h3 := ih xs[i] (k1 || flat xs[i]) (k2 || flat xs[i]) (hx _ (List.getElem_mem _))
      walk_at "dl"
      have g1 : ixP = ixP := rfl
      simp only [binE_eq, nmE_eq, List.getElem?_cons_zero, List.getElem?_cons_succ, nmV_vl, kd_true, Res.bind_ok] at h1 h2
      simp only [h1, h2]
      walk_at "dl"
      rw [h3]
      walk_at "dl"
      exact hs_nx ⟨_, rfl⟩
    show runF 2 3 (b_law_same (F_law_same (n + 1))) _ = _
    cases d with
    | non => rw [runF_eq]; unfold b_law_same; walk_at "dl"
    | int i => rw [runF_eq]; unfold b_law_same; walk_at "dl"
    | bl b => rw [runF_eq]; unfold b_law_same; cases b <;> walk_at "dl"
    | str s => rw [runF_eq]; unfold b_law_same; walk_at "dl"
    | lst xs =>
      have L := loop xs h.1 h.2 (.vl k1 (.lst xs)) (.vl k2 (.lst xs)) .no (fun i x hx => by
        have hi := (List.getElem?_eq_some_iff.1 hx).1
        have : atD xs (i : Int) = .ok x := by rw [atD_in (by omega) (by omega)]; simp [List.getD, hx]
        walk_at "dl"
        rw [this]
        walk_at "dl")
      obtain ⟨u, e, rfl⟩ : ∃ u, runF 2 3 (b_law_same (F_law_same (n + 1))) [(k1, .lst xs), (k2, .lst xs)] = .ok u ∧ u = ⟨.g, .bl true⟩ := by
        apply run_hs rfl
        unfold b_law_same
        walk_at "dl"
        rw [if_pos (rg_in (by omega) (by have := h.1; omega))]
        walk_at "dlt"
        refine hs_bind _ (hs_mono L (fun e h => h) (fun u h => h.elim)) ?_
        rintro _ ⟨s2, rfl⟩
        walk_at "dl"
        exact hs_rt rfl
      exact e
    | tup xs =>
      have L := loop xs h.1 h.2 (.vl k1 (.tup xs)) (.vl k2 (.tup xs)) .no (fun i x hx => by
        have hi := (List.getElem?_eq_some_iff.1 hx).1
        have : atD xs (i : Int) = .ok x := by rw [atD_in (by omega) (by omega)]; simp [List.getD, hx]
        walk_at "dl"
        rw [this]
        walk_at "dl")
      obtain ⟨u, e, rfl⟩ : ∃ u, runF 2 3 (b_law_same (F_law_same (n + 1))) [(k1, .tup xs), (k2, .tup xs)] = .ok u ∧ u = ⟨.g, .bl true⟩ := by
        apply run_hs rfl
        unfold b_law_same
        walk_at "dl"
        rw [if_pos (rg_in (by omega) (by have := h.1; omega))]
        walk_at "dlt"
        refine hs_bind _ (hs_mono L (fun e h => h) (fun u h => h.elim)) ?_
        rintro _ ⟨s2, rfl⟩
        walk_at "dl"
        exact hs_rt rfl
      exact e
    | _ => exact h.elim
end Lw

namespace Lw
open PySem L2 DL
/-! ### the law's own tables -/
theorem pool_at {m : Nat} {p : List Int} (h : PoolOk m p) {i : Int} (h0 : 0 ≤ i) (h1 : i < m) : ∃ x, atD (p.map D.int) i = .ok (.int x) ∧ 0 ≤ x ∧ x < 1000 := by
  have hl : i.toNat < p.length := by rw [h.1]; omega
  refine ⟨p[i.toNat], ?_, h.2 _ (List.getElem_mem hl)⟩
  have e := atD_get (List.getElem?_eq_getElem hl)
  rwa [Int.toNat_of_nonneg h0] at e
theorem insO_at {i : Nat} {f g : En → Res Vl} {env : En} {q : Kd} {j : Int} {u : Vl} {xs : List D} (h1 : f env = .ok ⟨q, .int j⟩) (h2 : g env = .ok u) (hk : u.keep = true) (h3 : owAt env i = .ok xs) (hl : xs.length < sizeLine) (h0 : 0 ≤ j) (hj : j < 2 ^ 63) : insO i f g env = .nx (env.set i (.ow (xs.take j.toNat ++ [u.d] ++ xs.drop j.toNat))) := by
  unfold insO
  rw [h1, h2, h3]
  unfold keepD
  rw [Res.bind_ok, if_pos hk]
  dsimp only
  rw [if_pos ⟨hl, h0, hj⟩]
theorem ins_ints (o : List Int) (j : Nat) (x : Int) : (o.map D.int).take j ++ [D.int x] ++ (o.map D.int).drop j = (o.take j ++ [x] ++ o.drop j).map D.int := by
  rw [List.map_append, List.map_append, List.map_take, List.map_drop]
  rfl
/-- a row of all numbers below m, in some order -/
def OrdOk (m : Nat) (o : List Int) : Prop := o.Perm ((List.range m).map fun k : Nat => (k : Int))
theorem order_ok {m : Nat} {p : List Int} (hp : PoolOk m p) (s n : Int) (h0 : 0 ≤ s) (hn : 0 ≤ n) (h1 : s + n ≤ m) (hm : m ≤ 1000) : ∃ o, OrdOk n.toNat o ∧ F_law_order [(true, .lst (p.map D.int)), (true, .int s), (true, .int n)] = .ok ⟨.o, .lst (o.map D.int)⟩ := by
  obtain ⟨u, e, o, ho, rfl⟩ : ∃ u, runF 3 5 b_law_order [(true, .lst (p.map D.int)), (true, .int s), (true, .int n)] = .ok u ∧ ∃ o, OrdOk n.toNat o ∧ u = ⟨.o, .lst (o.map D.int)⟩ := by
    refine run_hs (R := fun u => ∃ o, OrdOk n.toNat o ∧ u = ⟨.o, .lst (o.map D.int)⟩) rfl ?_
    unfold b_law_order
    walk_at "dl"
    rw [if_pos (rg_in (by omega) (by omega))]
    refine hs_bind (fun e => ∃ o s4, OrdOk n.toNat o ∧ e = [.vl true (.lst (p.map D.int)), .vl true (.int s), .vl true (.int n), .ow (o.map D.int), s4])
      (hs_forR (fun k e => ∃ o s4, OrdOk k o ∧ e = [.vl true (.lst (p.map D.int)), .vl true (.int s), .vl true (.int n), .ow (o.map D.int), s4]) ⟨[], _, .refl _, rfl⟩ ?_ fun e h => h) ?_
    · rintro j _ hj ⟨o, s4, ho, rfl⟩
      obtain ⟨x, hx, x0, x1⟩ := pool_at hp (i := s + j) (by omega) (by omega)
      have hlen : o.length = j := by rw [ho.length_eq, List.length_map, List.length_range]
      have hpos : (0 : Int) < (j : Int) + 1 := by omega
      have hd := Int.emod_nonneg x (show (j : Int) + 1 ≠ 0 by omega)
      have hd2 := Int.emod_lt_of_pos x hpos
      walk_at "dl"
      rw [insO_at (q := .g) (j := x % (j + 1)) (u := ⟨.g, .int j⟩) (xs := o.map D.int) ?a ?b rfl ?c ?d hd (by omega)]
      case a =>
        walk_at "dl"
        rw [hx]
        walk_at "dl"
        rw [if_pos hpos]
        try rfl
      case b => walk_at "dl"
      case c => rfl
      case d => exact Nat.lt_trans (show _ < 4000000 by rw [List.length_map]; omega) (by decide)
      rw [ins_ints]
      refine hs_nx ⟨_, _, ?_, rfl⟩
      unfold OrdOk at ho ⊢
      rw [List.range_succ, List.map_append, List.append_assoc]
      refine (List.perm_append_comm_assoc _ _ _).trans ?_
      rw [List.take_append_drop]
      exact (List.perm_append_comm).trans (ho.append_right _)
    · rintro _ ⟨o, s4, ho, rfl⟩
      walk_at "dl"
      exact hs_rt ⟨o, ho, rfl⟩
  exact ⟨o, ho, e⟩
end Lw

namespace Lw
open PySem L2 DL
/-- ties (lower, higher) in which each but 0 hangs on a lower one -/
def WebOk (n : Int) (b : Nat) (ts : List (Int × Int)) : Prop := (∀ p ∈ ts, 0 ≤ p.1 ∧ p.1 < p.2 ∧ p.2 < n) ∧ ts.Nodup ∧ (∀ y, 1 ≤ y → y < n → ∃ x, (x, y) ∈ ts) ∧ ts.length ≤ b
def firstTs (p : List Int) (s : Int) (m : Nat) : List (Int × Int) := (List.range m).map fun k : Nat => (p.getD (s + (1 + (k : Int))).toNat 0 % (1 + (k : Int)), 1 + (k : Int))
theorem first_ok (p : List Int) (s n : Int) (hn : 1 ≤ n) : WebOk n (n - 1).toNat (firstTs p s (n - 1).toNat) := by
  unfold firstTs
  refine ⟨fun q hq => ?_, ?_, fun y h0 h1 => ?_, by rw [List.length_map, List.length_range]; exact Nat.le_refl _⟩
  · obtain ⟨k, hk, rfl⟩ := List.mem_map.1 hq
    have hk := List.mem_range.1 hk
    have a := Int.emod_nonneg (p.getD (s + (1 + (k : Int))).toNat 0) (show (1 + (k : Int)) ≠ 0 by omega)
    have b := Int.emod_lt_of_pos (p.getD (s + (1 + (k : Int))).toNat 0) (show 0 < (1 + (k : Int)) by omega)
    exact ⟨a, b, by dsimp only; omega⟩
  · refine List.Pairwise.map _ (fun a b hab z => hab ?_) List.nodup_range
    have := congrArg Prod.snd z
    dsimp only at this
    omega
  · refine ⟨p.getD (s + y).toNat 0 % y, List.mem_map.2 ⟨(y - 1).toNat, List.mem_range.2 (by omega), ?_⟩⟩
    have : 1 + (((y - 1).toNat : Nat) : Int) = y := by omega
    rw [this]
theorem WebOk.snoc {n : Int} {b : Nat} {ts : List (Int × Int)} {q : Int × Int} (h : WebOk n b ts) (h0 : 0 ≤ q.1 ∧ q.1 < q.2 ∧ q.2 < n) (hq : q ∉ ts) : WebOk n (b + 1) (ts ++ [q]) := by
  obtain ⟨h1, h2, h3, h4⟩ := h
  refine ⟨fun p hp => ?_, List.nodup_append.2 ⟨h2, by simp, fun a ha b hb => ?_⟩, fun y y0 y1 => ?_, by rw [List.length_append, List.length_singleton]; omega⟩
  · rcases List.mem_append.1 hp with hp | hp
    · exact h1 p hp
    · rw [List.mem_singleton.1 hp]
      exact h0
  · rw [List.mem_singleton.1 hb]
    exact fun z => hq (z ▸ ha)
  · obtain ⟨x, hx⟩ := h3 y y0 y1
    exact ⟨x, List.mem_append_left _ hx⟩
theorem web_ok {m : Nat} {p : List Int} (hp : PoolOk m p) (s n x : Int) (h0 : 0 ≤ s) (hn : 1 ≤ n) (hx : 0 ≤ x) (hx3 : x ≤ 40) (h1 : s + n ≤ m) (h2 : s + 8 + 2 * x ≤ m) (hm : m ≤ 1000) : ∃ ts, WebOk n ((n - 1).toNat + x.toNat) ts ∧ F_law_web [(true, .lst (p.map D.int)), (true, .int s), (true, .int n), (true, .int x)] = .ok ⟨.o, .lst (ts.map dP)⟩ := by
  obtain ⟨u, e, o, ho, rfl⟩ : ∃ u, runF 4 9 b_law_web [(true, .lst (p.map D.int)), (true, .int s), (true, .int n), (true, .int x)] = .ok u ∧ ∃ ts, WebOk n ((n - 1).toNat + x.toNat) ts ∧ u = ⟨.o, .lst (ts.map dP)⟩ := by
    refine run_hs (R := fun u => ∃ ts, WebOk n ((n - 1).toNat + x.toNat) ts ∧ u = ⟨.o, .lst (ts.map dP)⟩) rfl ?_
    unfold b_law_web
    walk_at "dlt"
    rw [if_pos (rg_in (by omega) (by omega))]
    walk_at "dlt"
    rw [if_pos (show (rngD 1 (n - 1).toNat).length < sizeLine from Nat.lt_trans (show _ < 4000000 by rw [rngD_len]; omega) (by decide)), lcO_rng (h := fun k : Nat => dP (p.getD (s + (1 + (k : Int))).toNat 0 % (1 + (k : Int)), 1 + (k : Int)))]
    rotate_left
    · intro k hk
      have e1 : atD (p.map D.int) (s + (1 + (k : Int))) = _ := atD_map (by omega) (by rw [hp.1]; omega)
      have hpos : 0 < 1 + (k : Int) := by omega
      walk_at "dlt"
      rw [e1]
      walk_at "dlt"
      rw [if_pos hpos]
      try rfl
    have hf := first_ok p s n hn
    rw [show (List.map (fun k : Nat => dP (p.getD (s + (1 + (k : Int))).toNat 0 % (1 + (k : Int)), 1 + (k : Int))) (List.range (n - 1).toNat)) = (firstTs p s (n - 1).toNat).map dP by unfold firstTs; rw [List.map_map]; rfl]
    generalize firstTs p s (n - 1).toNat = ts0 at hf ⊢
    walk_at "dlt"
    rw [if_pos (rg_in (by omega) (by omega))]
    refine hs_bind (fun e => ∃ ts s4 s6 s7 s8, WebOk n ((n - 1).toNat + x.toNat) ts ∧ e = [.vl true (.lst (p.map D.int)), .vl true (.int s), .vl true (.int n), .vl true (.int x), s4, .ow (ts.map dP), s6, s7, s8])
      (hs_forR (fun k e => ∃ ts s4 s6 s7 s8, WebOk n ((n - 1).toNat + k) ts ∧ e = [.vl true (.lst (p.map D.int)), .vl true (.int s), .vl true (.int n), .vl true (.int x), s4, .ow (ts.map dP), s6, s7, s8]) ⟨ts0, _, _, _, _, hf, rfl⟩ ?_ fun e h => h) ?_
    · rintro j _ hj ⟨ts, s4, s6, s7, s8, ht, rfl⟩
      have e1 : atD (p.map D.int) (s + 6 + 2 * (j : Int)) = _ := atD_map (by omega) (by rw [hp.1]; omega)
      have e2 : atD (p.map D.int) (s + 7 + 2 * (j : Int)) = _ := atD_map (by omega) (by rw [hp.1]; omega)
      have e3 : mulI 2 (j : Int) = _ := mulI_200 (by decide) (by omega)
      have hpos : 0 < n := by omega
      have a0 := Int.emod_nonneg (p.getD (s + 6 + 2 * (j : Int)).toNat 0) (show n ≠ 0 by omega)
      have a1 := Int.emod_lt_of_pos (p.getD (s + 6 + 2 * (j : Int)).toNat 0) hpos
      have b0 := Int.emod_nonneg (p.getD (s + 7 + 2 * (j : Int)).toNat 0) (show n ≠ 0 by omega)
      have b1 := Int.emod_lt_of_pos (p.getD (s + 7 + 2 * (j : Int)).toNat 0) hpos
      have z1 := ht.2.2.2
      have z : ts.length < sizeLine := Nat.lt_trans (show ts.length < 4000000 by omega) (by decide)
      walk_at "dlt"
      rw [e3]
      walk_at "dlt"
      rw [e1]
      walk_at "dlt"
      rw [if_pos hpos]
      walk_at "dlt"
      rw [e3]
      walk_at "dlt"
      rw [e2]
      walk_at "dlt"
      rw [if_pos hpos]
      walk_at "dlt"
      generalize p.getD (s + 6 + 2 * (j : Int)).toNat 0 % n = a at *
      generalize p.getD (s + 7 + 2 * (j : Int)).toNat 0 % n = b at *
      by_cases hab : a = b
      · rw [if_neg (not_not_intro hab)]
        walk_at "dlt"
        exact hs_nx ⟨ts, _, _, _, _, ⟨ht.1, ht.2.1, ht.2.2.1, by omega⟩, rfl⟩
      · rw [if_pos hab]
        walk_at "dlt"
        have hq : 0 ≤ (if b < a then b else a, if b > a then b else a).1 ∧ (if b < a then b else a, if b > a then b else a).1 < (if b < a then b else a, if b > a then b else a).2 ∧ (if b < a then b else a, if b > a then b else a).2 < n := by
          dsimp only
          split <;> split <;> omega
        generalize (if b < a then b else a) = c at *
        generalize (if b > a then b else a) = d at *
        by_cases hin : (c, d) ∈ ts
        · rw [if_neg (not_not_intro hin)]
          exact hs_nx ⟨ts, _, _, _, _, ⟨ht.1, ht.2.1, ht.2.2.1, by omega⟩, rfl⟩
        · rw [if_pos hin, if_pos z]
          exact hs_nx ⟨ts ++ [(c, d)], _, _, _, _, ht.snoc hq hin, rfl⟩
    · rintro _ ⟨ts, s4, s6, s7, s8, ho, rfl⟩
      walk_at "dlt"
      exact hs_rt ⟨ts, ho, rfl⟩
  exact ⟨o, ho, e⟩
end Lw

namespace Lw
open PySem L2 DL
def WalkOk (n : Int) (ts : List (Int × Int)) (w : List Int) : Prop := w.Nodup ∧ (∀ x ∈ w, 0 ≤ x ∧ x < n) ∧ ∀ (i : Nat) (x y : Int), w[i]? = some x → w[i + 1]? = some y → low (x, y) ∈ ts
theorem atD_last (r : List Int) (l : Int) : atD ((r ++ [l]).map D.int) (-1) = .ok (.int l) := by
  unfold atD atI
  rw [List.length_map, List.length_append, List.length_singleton]
  have : ixN (r.length + 1) (-1) = some r.length := by
    unfold ixN
    simp
    omega
  rw [this]
  simp
theorem WalkOk.snoc {n : Int} {ts : List (Int × Int)} {r : List Int} {l y : Int} (h : WalkOk n ts (r ++ [l])) (hy : y ∉ r ++ [l]) (h0 : 0 ≤ y ∧ y < n) (ht : low (l, y) ∈ ts) : WalkOk n ts (r ++ [l] ++ [y]) := by
  obtain ⟨h1, h2, h3⟩ := h
  refine ⟨List.nodup_append.2 ⟨h1, by simp, fun a ha b hb => ?_⟩, fun x hx => ?_, fun i a b ha hb => ?_⟩
  · rw [List.mem_singleton.1 hb]
    exact fun z => hy (z ▸ ha)
  · rcases List.mem_append.1 hx with hx | hx
    · exact h2 x hx
    · rw [List.mem_singleton.1 hx]
      exact h0
  · by_cases hi : i + 1 < (r ++ [l]).length
    · rw [List.getElem?_append_left (by omega)] at ha hb
      exact h3 i a b ha hb
    · have hl : (r ++ [l]).length = r.length + 1 := by simp
      have hb2 := (List.getElem?_eq_some_iff.1 hb).1
      rw [List.length_append, hl, List.length_singleton] at hb2
      have hi2 : i = r.length := by omega
      subst hi2
      rw [List.getElem?_append_left (by omega)] at ha
      rw [List.getElem?_append_right (by omega), hl] at hb
      simp at ha hb
      rw [← ha, ← hb]
      exact ht
theorem low_of (q l : Int) : (if l < q then l else q, if l > q then l else q) = low (l, q) := by
  unfold low
  dsimp only
  by_cases h1 : l < q
  · rw [if_pos h1, if_neg (by omega), if_neg (by omega)]
  · by_cases h2 : l > q
    · rw [if_neg h1, if_pos h2, if_pos (by omega)]
    · have : l = q := by omega
      subst this
      simp
theorem web_near {n : Int} {b : Nat} {ts : List (Int × Int)} (h : WebOk n b ts) (hn : 2 ≤ n) (a : Int) (h0 : 0 ≤ a) (h1 : a < n) : ∃ q, 0 ≤ q ∧ q < n ∧ q ≠ a ∧ low (a, q) ∈ ts := by
  obtain ⟨t1, t2, t3, t4⟩ := h
  by_cases ha : 1 ≤ a
  · obtain ⟨x, hx⟩ := t3 a ha h1
    have := t1 _ hx
    dsimp only at this
    refine ⟨x, by omega, by omega, by omega, ?_⟩
    unfold low
    rw [if_pos (by dsimp only; omega)]
    exact hx
  · obtain ⟨x, hx⟩ := t3 1 (by omega) (by omega)
    have := t1 _ hx
    dsimp only at this
    refine ⟨1, by omega, by omega, by omega, ?_⟩
    unfold low
    rw [if_neg (by dsimp only; omega)]
    rwa [show a = x by omega]
theorem roam_ok {m : Nat} {p : List Int} (hp : PoolOk m p) (s n k : Int) (b : Nat) (ts : List (Int × Int)) (ht : WebOk n b ts) (h0 : 0 ≤ s) (hn : 2 ≤ n) (hn6 : n ≤ 6) (hk : 1 ≤ k) (hk6 : k ≤ 6) (h1 : s + 1 + k ≤ m) (hm : m ≤ 1000) :
    ∃ w, WalkOk n ts w ∧ 2 ≤ w.length ∧ w.length ≤ 40 ∧ F_law_roam [(true, .lst (p.map D.int)), (true, .int s), (true, .int n), (true, .lst (ts.map dP)), (true, .int k)] = .ok ⟨.g, .tup (w.map D.int)⟩ := by
  obtain ⟨u, e, w, w1, w2, w3, rfl⟩ : ∃ u, runF 5 9 b_law_roam [(true, .lst (p.map D.int)), (true, .int s), (true, .int n), (true, .lst (ts.map dP)), (true, .int k)] = .ok u ∧ ∃ w, WalkOk n ts w ∧ 2 ≤ w.length ∧ w.length ≤ 40 ∧ u = ⟨.g, .tup (w.map D.int)⟩ := by
    refine run_hs (R := fun u => ∃ w, WalkOk n ts w ∧ 2 ≤ w.length ∧ w.length ≤ 40 ∧ u = ⟨.g, .tup (w.map D.int)⟩) rfl ?_
    unfold b_law_roam
    obtain ⟨x0, hx0, _⟩ := pool_at hp (i := s) h0 (by omega)
    have hpos : 0 < n := by omega
    have a0 := Int.emod_nonneg x0 (show n ≠ 0 by omega)
    have a1 := Int.emod_lt_of_pos x0 hpos
    walk_at "dl"
    rw [hx0]
    walk_at "dl"
    rw [if_pos hpos]
    walk_at "dl"
    rw [if_pos (rg_in (by omega) (by omega))]
    generalize x0 % n = a at *
    clear hx0
    refine hs_bind (fun e => ∃ r s6 s8, WalkOk n ts r ∧ 2 ≤ r.length ∧ r.length ≤ 40 ∧ e = [.vl true (.lst (p.map D.int)), .vl true (.int s), .vl true (.int n), .vl true (.lst (ts.map dP)), .vl true (.int k), .ow (r.map D.int), s6, .no, s8])
      (hs_forR (fun j e => ∃ r l s6 s8, WalkOk n ts (r ++ [l]) ∧ (j = 0 → r = []) ∧ (1 ≤ j → 1 ≤ r.length) ∧ r.length ≤ j ∧ e = [.vl true (.lst (p.map D.int)), .vl true (.int s), .vl true (.int n), .vl true (.lst (ts.map dP)), .vl true (.int k), .ow ((r ++ [l]).map D.int), s6, .no, s8]) ?_ ?_ ?_) ?_
    · exact ⟨[], a, _, _, ⟨by simp, fun x hx => by rw [List.mem_singleton.1 hx]; omega, fun i x y hx hy => by simp at hy⟩, fun _ => rfl, fun h => by omega, Nat.le_refl _, rfl⟩
    · rintro j _ hj ⟨r, l, s6, s8, hw, hj0, hj1, hjl, rfl⟩
      obtain ⟨x, hx, _⟩ := pool_at hp (i := s + 1 + j) (by omega) (by omega)
      have hl := atD_last r l
      have hlr := hw.2.1 l (List.mem_append_right _ (List.mem_singleton_self _))
      walk_at "dl"
      rw [if_pos (rg_in (by omega) (by omega))]
      walk_at "dlt"
      rw [if_pos (show (rngD 0 n.toNat).length < sizeLine from Nat.lt_trans (show _ < 4000000 by rw [rngD_len]; omega) (by decide))]
      unfold rngD
      rw [lcO_filter (g := fun i : Nat => .int (0 + i)) (h := fun i : Nat => .int i) (fun i : Nat => !decide ((i : Int) ∈ r ++ [l]) && decide (low (l, i) ∈ ts)) (List.range n.toNat)]
      rotate_left
      · intro i hi
        refine ⟨_, rfl, ?_, fun _ => ?_⟩
        · walk_at "dl"
          rw [hl]
          walk_at "dl"
          rw [low_of]
          by_cases c1 : (i : Int) ∈ r ++ [l] <;> by_cases c2 : low (l, (i : Int)) ∈ ts <;> simp [c1, c2]
        · walk_at "dl"
      obtain ⟨near, hnear, hmem, hne⟩ : ∃ near : List Int, ((List.range n.toNat).filter (fun i : Nat => !decide ((i : Int) ∈ r ++ [l]) && decide (low (l, i) ∈ ts))).map (fun i : Nat => D.int i) = near.map D.int ∧ (∀ y ∈ near, y ∉ r ++ [l] ∧ 0 ≤ y ∧ y < n ∧ low (l, y) ∈ ts) ∧ (r = [] → near ≠ []) := by
        refine ⟨((List.range n.toNat).filter (fun i : Nat => !decide ((i : Int) ∈ r ++ [l]) && decide (low (l, i) ∈ ts))).map fun i : Nat => (i : Int), by rw [List.map_map]; rfl, fun y hy => ?_, fun hr => ?_⟩
        · obtain ⟨i, hi, rfl⟩ := List.mem_map.1 hy
          obtain ⟨h1, h2⟩ := List.mem_filter.1 hi
          have h1 := List.mem_range.1 h1
          simp only [Bool.and_eq_true, Bool.not_eq_true', decide_eq_false_iff_not, decide_eq_true_eq] at h2
          exact ⟨h2.1, by omega, by omega, h2.2⟩
        · obtain ⟨q, q0, q1, q2, q3⟩ := web_near ht hn l hlr.1 hlr.2
          intro z
          have : q ∈ ((List.range n.toNat).filter (fun i : Nat => !decide ((i : Int) ∈ r ++ [l]) && decide (low (l, i) ∈ ts))).map fun i : Nat => (i : Int) := by
            refine List.mem_map.2 ⟨q.toNat, List.mem_filter.2 ⟨List.mem_range.2 (by omega), ?_⟩, by omega⟩
            rw [show ((q.toNat : Nat) : Int) = q by omega, hr]
            simp [q2, q3]
          rw [z] at this
          cases this
      rw [hnear]
      clear hnear hl
      walk_at "dl"
      have z : r.length < sizeLine := Nat.lt_trans (show r.length < 4000000 by omega) (by decide)
      have z2 : (r ++ [l]).length < sizeLine := Nat.lt_trans (show _ < 4000000 by rw [List.length_append, List.length_singleton]; omega) (by decide)
      by_cases he : near = []
      · rw [if_neg (not_not_intro he)]
        have hr : r ≠ [] := fun h => hne h he
        have : 1 ≤ r.length := by
          cases r with
          | nil => exact absurd rfl hr
          | cons a t => simp
        exact hs_nx ⟨r, l, _, _, hw, fun h => by first | exact h.elim | omega, fun _ => this, by omega, rfl⟩
      · rw [if_pos he]
        have hpos2 : (0 : Int) < near.length := by
          have := List.length_pos_iff.2 he
          omega
        have b0 := Int.emod_nonneg x (show (near.length : Int) ≠ 0 by omega)
        have b1 := Int.emod_lt_of_pos x hpos2
        obtain ⟨y, hy⟩ : ∃ y, near[(x % near.length).toNat]? = some y := ⟨_, List.getElem?_eq_getElem (by omega)⟩
        have e1 := atD_get hy
        rw [Int.toNat_of_nonneg b0] at e1
        obtain ⟨y1, y2, y3, y4⟩ := hmem y (List.mem_of_getElem? hy)
        walk_at "dlt"
        rw [hx]
        walk_at "dlt"
        rw [if_pos hpos2]
        walk_at "dlt"
        rw [e1]
        walk_at "dlt"
        try rw [if_pos z2]
        exact hs_nx ⟨r ++ [l], y, _, _, hw.snoc y1 ⟨y2, y3⟩ y4, fun h => by first | exact h.elim | omega, fun _ => by simp, by rw [List.length_append, List.length_singleton]; omega, rfl⟩
    · rintro e ⟨r, l, s6, s8, h1, h2, h3, h4, h5⟩
      refine ⟨r ++ [l], s6, s8, h1, ?_, ?_, h5⟩
      · rw [List.length_append, List.length_singleton]
        have := h3 (by omega)
        omega
      · rw [List.length_append, List.length_singleton]
        omega
    · rintro _ ⟨r, s6, s8, h1, h2, h3, rfl⟩
      walk_at "dlt"
      exact hs_rt ⟨r, h1, h2, h3, rfl⟩
  exact ⟨w, w1, w2, w3, e⟩
end Lw

namespace Lw
open PySem L2 DL
def ren2 (f : Int → Int) (p : Int × Int) : Int × Int := (f p.1, f p.2)
def renK (f : Int → Int) (k : List Int × Int) : List Int × Int := (k.1.map f, k.2)
theorem small {n : Nat} (h : n ≤ 100) : n < sizeLine ∧ n ≤ sizeLine := ⟨Nat.lt_trans (show n < 4000000 by omega) (by decide), Nat.le_trans (show n ≤ 4000000 by omega) (by decide)⟩
section
variable {x0 x1 x2 x3 x4 x5 x6 x7 : Sl}
theorem lc_tturn (o : List Int) (ts : List (Int × Int)) (h : ∀ p ∈ ts, 0 ≤ p.1 ∧ p.1 < o.length ∧ 0 ≤ p.2 ∧ p.2 < o.length) : lcO (nmT 3) yesT (tupE (consA (binE ixP (nmE 0) (binE ixP (nmE 3) (cE (.int 0)))) (consA (binE ixP (nmE 0) (binE ixP (nmE 3) (cE (.int 1)))) nilA))) .g [.vl true (.lst (o.map D.int)), x1, x2, x3, x4, x5, x6, x7] (ts.map dP) = .ok ((ts.map (ren2 fun x => o.getD x.toNat 0)).map dP) := by
  rw [List.map_map]
  refine lcO_map (g := dP) (h := dP ∘ ren2 fun x => o.getD x.toNat 0) ts fun p hp => ?_
  obtain ⟨a, b, c, d⟩ := h p hp
  have e1 : atD (o.map D.int) p.1 = _ := atD_map a b
  have e2 : atD (o.map D.int) p.2 = _ := atD_map c d
  walk_at "dl"
  rw [e1, e2]
  rfl
theorem lc_kturn (o : List Int) (ks : List (List Int × Int)) (h : ∀ k ∈ ks, k.1.length ≤ 100 ∧ ∀ x ∈ k.1, 0 ≤ x ∧ x < o.length) : lcO (nmT 6) yesT (tupE (consA (callE tupleC (consA (lcE (seqI (binE ixP (nmE 6) (cE (.int 0)))) (nmT 5) yesT (binE ixP (nmE 0) (nmE 5)) [5]) nilA)) (consA (binE ixP (nmE 6) (cE (.int 1))) nilA))) .g [.vl true (.lst (o.map D.int)), x1, x2, x3, x4, x5, x6, x7] (ks.map dK) = .ok ((ks.map (renK fun x => o.getD x.toNat 0)).map dK) := by
  rw [List.map_map]
  refine lcO_map (g := dK) (h := dK ∘ renK fun x => o.getD x.toNat 0) ks fun k hk => ?_
  obtain ⟨a, b⟩ := h k hk
  have z : k.1.length < sizeLine := (small a).1
  walk_at "dl"
  rw [if_pos z, lcO_map (g := D.int) (h := D.int ∘ fun x => o.getD x.toNat 0)]
  rotate_left
  · intro x hx
    have e1 : atD (o.map D.int) x = _ := atD_map (b x hx).1 (b x hx).2
    walk_at "dl"
    rw [e1]
    rfl
  rw [← List.map_map]
  walk_at "dl"
  rfl
end
theorem turned_eq (o : List Int) (ts : List (Int × Int)) (ks : List (List Int × Int)) (hl : ts.length ≤ 100) (hl2 : ks.length ≤ 100) (h : ∀ p ∈ ts, 0 ≤ p.1 ∧ p.1 < o.length ∧ 0 ≤ p.2 ∧ p.2 < o.length) (h2 : ∀ k ∈ ks, k.1.length ≤ 100 ∧ ∀ x ∈ k.1, 0 ≤ x ∧ x < o.length) :
    F_law_turned [(true, .lst (o.map D.int)), (true, .lst (ts.map dP)), (true, .lst (ks.map dK))] = .ok ⟨.g, .tup [.lst ((ts.map (ren2 fun x => o.getD x.toNat 0)).map dP), .lst ((ks.map (renK fun x => o.getD x.toNat 0)).map dK)]⟩ := by
  unfold F_law_turned
  rw [runF_eq]
  unfold b_law_turned
  have z1 := (small hl).1
  have z2 := (small hl2).1
  walk_at "dl"
  rw [if_pos z1, lc_tturn o ts h]
  walk_at "dl"
  rw [if_pos z2, lc_kturn o ks h2]
  walk_at "dl"
/-! ### in plain: renumbered -/
theorem low_swap (a b : Int) : low (a, b) = low (b, a) := by
  unfold low
  dsimp only
  by_cases h1 : b < a
  · rw [if_pos h1, if_neg (by omega)]
  · by_cases h2 : a < b
    · rw [if_neg h1, if_pos h2]
    · have : a = b := by omega
      subst this
      rfl
theorem low_ren (f : Int → Int) (p : Int × Int) : low (ren2 f (low p)) = low (ren2 f p) := by
  obtain ⟨a, b⟩ := p
  unfold ren2
  rcases low_cases (a, b) with ⟨h1, h2, _⟩ | ⟨h1, h2, _⟩
  · rw [h1, h2]
  · rw [h1, h2]
    exact low_swap _ _
theorem low_idem (p : Int × Int) : low (low p) = low p := by
  have := low_ren id p
  unfold ren2 at this
  exact this
def InjOn (n : Int) (f : Int → Int) : Prop := ∀ a b, 0 ≤ a → a < n → 0 ≤ b → b < n → f a = f b → a = b
theorem low_pair {a b c d : Int} (h : low (a, b) = low (c, d)) : (a = c ∧ b = d) ∨ (a = d ∧ b = c) := by
  have e1 := congrArg Prod.fst h
  have e2 := congrArg Prod.snd h
  rcases low_cases (a, b) with ⟨h1, h2, _⟩ | ⟨h1, h2, _⟩ <;> rcases low_cases (c, d) with ⟨h3, h4, _⟩ | ⟨h3, h4, _⟩ <;> dsimp only at * <;> omega
theorem low_inj {n : Int} {f : Int → Int} (hf : InjOn n f) {p q : Int × Int} (hp : 0 ≤ p.1 ∧ p.1 < n ∧ 0 ≤ p.2 ∧ p.2 < n) (hq : 0 ≤ q.1 ∧ q.1 < n ∧ 0 ≤ q.2 ∧ q.2 < n) (h : low (ren2 f p) = low (ren2 f q)) : low p = low q := by
  obtain ⟨a, b⟩ := p
  obtain ⟨c, d⟩ := q
  rcases low_pair h with ⟨h1, h2⟩ | ⟨h1, h2⟩
  · rw [hf a c hp.1 hp.2.1 hq.1 hq.2.1 h1, hf b d hp.2.2.1 hp.2.2.2 hq.2.2.1 hq.2.2.2 h2]
  · rw [hf a d hp.1 hp.2.1 hq.2.2.1 hq.2.2.2 h1, hf b c hp.2.2.1 hp.2.2.2 hq.1 hq.2.1 h2]
    exact low_swap _ _
theorem nodup_ren {n : Int} {f : Int → Int} (hf : InjOn n f) {ts : List (Int × Int)} (ht : ∀ p ∈ ts, 0 ≤ p.1 ∧ p.1 < n ∧ 0 ≤ p.2 ∧ p.2 < n) (h : (ts.map low).Nodup) : ((ts.map (ren2 f)).map low).Nodup := by
  rw [List.map_map]
  induction ts with
  | nil => exact List.nodup_nil
  | cons p ts ih =>
    rw [List.map_cons, List.nodup_cons] at h ⊢
    refine ⟨fun hm => h.1 ?_, ih (fun q hq => ht q (List.mem_cons_of_mem _ hq)) h.2⟩
    obtain ⟨q, hq, e⟩ := List.mem_map.1 hm
    exact List.mem_map.2 ⟨q, hq, low_inj hf (ht q (List.mem_cons_of_mem _ hq)) (ht p List.mem_cons_self) e⟩
theorem nodup_map_on {f : Int → Int} {n : Int} (hf : InjOn n f) {w : List Int} (hw : ∀ x ∈ w, 0 ≤ x ∧ x < n) (h : w.Nodup) : (w.map f).Nodup := by
  induction w with
  | nil => exact List.nodup_nil
  | cons a w ih =>
    rw [List.map_cons]
    rw [List.nodup_cons] at h ⊢
    refine ⟨fun hm => h.1 ?_, ih (fun x hx => hw x (List.mem_cons_of_mem _ hx)) h.2⟩
    obtain ⟨b, hb, e⟩ := List.mem_map.1 hm
    rw [← hf b a (hw b (List.mem_cons_of_mem _ hb)).1 (hw b (List.mem_cons_of_mem _ hb)).2 (hw a List.mem_cons_self).1 (hw a List.mem_cons_self).2 e]
    exact hb
/-- a way, renumbered -/
theorem way_ren {n n2 : Int} {f : Int → Int} (hf : InjOn n f) (hr : ∀ x, 0 ≤ x → x < n → 0 ≤ f x ∧ f x < n2) {ps qs : List (Int × Int)} (hq : ∀ p ∈ ps, low (ren2 f p) ∈ qs) {w : List Int} (h : WayOk n ps w) : WayOk n2 qs (w.map f) := by
  obtain ⟨h1, h2, h3, h4, h5⟩ := h
  refine ⟨by rw [List.length_map]; exact h1, by rw [List.length_map]; exact h2, nodup_map_on hf h4 h3, fun y hy => ?_, fun i x y hx hy => ?_⟩
  · obtain ⟨x, hx, rfl⟩ := List.mem_map.1 hy
    exact hr x (h4 x hx).1 (h4 x hx).2
  · rw [List.getElem?_map] at hx hy
    cases e1 : w[i]? with
    | none => rw [e1] at hx; cases hx
    | some a =>
      cases e2 : w[i + 1]? with
      | none => rw [e2] at hy; cases hy
      | some b =>
        rw [e1] at hx
        rw [e2] at hy
        cases hx
        cases hy
        have := hq _ (h5 i a b e1 e2)
        rw [low_ren] at this
        exact this
end Lw

namespace Lw
open PySem L2 DL
/-! ### in plain: a table of a web in any numbering may be -/
theorem ord_len {m : Nat} {o : List Int} (h : OrdOk m o) : o.length = m := by rw [h.length_eq, List.length_map, List.length_range]
theorem ord_mem {m : Nat} {o : List Int} (h : OrdOk m o) {x : Int} : x ∈ o ↔ 0 ≤ x ∧ x < m := by
  rw [h.mem_iff, List.mem_map]
  constructor
  · rintro ⟨k, hk, rfl⟩
    have := List.mem_range.1 hk
    omega
  · intro hx
    exact ⟨x.toNat, List.mem_range.2 (by omega), by omega⟩
theorem ord_nodup {m : Nat} {o : List Int} (h : OrdOk m o) : o.Nodup := h.nodup_iff.2 (List.Pairwise.map _ (fun a b hab z => hab (by omega)) List.nodup_range)
def ordF (o : List Int) (x : Int) : Int := o.getD x.toNat 0
theorem ordF_at {m : Nat} {o : List Int} (h : OrdOk m o) {x : Int} (h0 : 0 ≤ x) (h1 : x < m) : ∃ hx : x.toNat < o.length, ordF o x = o[x.toNat] := by
  have hx : x.toNat < o.length := by rw [ord_len h]; omega
  exact ⟨hx, by unfold ordF; exact DL.getD_at hx⟩
theorem ordF_in {m : Nat} {o : List Int} (h : OrdOk m o) (x : Int) (h0 : 0 ≤ x) (h1 : x < m) : 0 ≤ ordF o x ∧ ordF o x < m := by
  obtain ⟨hx, e⟩ := ordF_at h h0 h1
  rw [e]
  exact (ord_mem h).1 (List.getElem_mem _)
theorem ordF_inj {m : Nat} {o : List Int} (h : OrdOk m o) : InjOn m (ordF o) := fun a b a0 a1 b0 b1 e => by
  obtain ⟨ha, e1⟩ := ordF_at h a0 a1
  obtain ⟨hb, e2⟩ := ordF_at h b0 b1
  rw [e1, e2] at e
  have := (List.getElem_inj (h₀ := ha) (h₁ := hb) (ord_nodup h)).1 e
  omega
theorem ordF_onto {m : Nat} {o : List Int} (h : OrdOk m o) (y : Int) (h0 : 0 ≤ y) (h1 : y < m) : ∃ x : Int, 0 ≤ x ∧ x < m ∧ ordF o x = y := by
  obtain ⟨i, hi, e⟩ := List.getElem_of_mem ((ord_mem h).2 ⟨h0, h1⟩)
  have hl := ord_len h
  refine ⟨i, by omega, by omega, ?_⟩
  obtain ⟨hx, e1⟩ := ordF_at h (x := (i : Int)) (by omega) (by omega)
  rw [e1]
  simpa using e
theorem conn_ren {m : Nat} {o : List Int} (h : OrdOk m o) (hm : 1 ≤ m) {ts : List (Int × Int)} (ht : Conn m ts) : Conn m (ts.map (ren2 (ordF o))) := by
  intro S h0 hS x x0 x1
  have step : ∀ p ∈ ts, (S (ordF o p.1) ↔ S (ordF o p.2)) := fun p hp => hS _ (List.mem_map_of_mem hp)
  have all : ∀ y : Int, 0 ≤ y → y < m → (S (ordF o y) ↔ S (ordF o 0)) := fun y y0 y1 => ht (fun y => (S (ordF o y) ↔ S (ordF o 0))) Iff.rfl (fun p hp => by
    have := step p hp
    constructor
    · exact fun a => this.symm.trans a
    · exact fun a => this.trans a) y y0 y1
  obtain ⟨z, z0, z1, ez⟩ := ordF_onto h 0 (by omega) (by omega)
  have hz := all z z0 z1
  rw [ez] at hz
  obtain ⟨y, y0, y1, ey⟩ := ordF_onto h x x0 x1
  have hy := all y y0 y1
  rw [ey] at hy
  exact hy.2 (hz.1 h0)
theorem web_conn {n : Int} {b : Nat} {ts : List (Int × Int)} (ht : WebOk n b ts) : Conn n ts := by
  intro S h0 hS x x0 x1
  have all : ∀ k : Nat, (k : Int) < n → S k := by
    intro k
    induction k using Nat.strongRecOn with
    | ind k ih =>
      intro hk
      by_cases hz : k = 0
      · subst hz
        exact h0
      · obtain ⟨y, hy⟩ := ht.2.2.1 (k : Int) (by omega) (by omega)
        have hb := ht.1 _ hy
        dsimp only at hb
        have h1 := hS _ hy
        dsimp only at h1
        have h2 := ih y.toNat (by omega) (by omega)
        rw [show ((y.toNat : Nat) : Int) = y by omega] at h2
        exact h1.1 h2
  have := all x.toNat (by omega)
  rwa [show ((x.toNat : Nat) : Int) = x by omega] at this
theorem low_web {n : Int} {b : Nat} {ts : List (Int × Int)} (h : WebOk n b ts) : ts.map low = ts := by
  have : ∀ p ∈ ts, low p = p := fun p hp => by
    have := h.1 p hp
    unfold low
    rw [if_neg (by omega)]
  rw [List.map_congr_left this, List.map_id']
/-- ties of a table in their first numbering -/
structure BaseOk (n : Int) (ts : List (Int × Int)) : Prop where
  rng : ∀ p ∈ ts, p.1 ≠ p.2 ∧ 0 ≤ p.1 ∧ p.1 < n ∧ 0 ≤ p.2 ∧ p.2 < n
  nd : (ts.map low).Nodup
  len : ts.length ≤ 40
  conn : Conn n ts
theorem web_base {n : Int} {b : Nat} {ts : List (Int × Int)} (h : WebOk n b ts) (hb : b ≤ 40) : BaseOk n ts := ⟨fun p hp => by have := h.1 p hp; omega, by rw [low_web h]; exact h.2.1, Nat.le_trans h.2.2.2 hb, web_conn h⟩
/-- rows of kinds along ties -/
def RowsOk (n : Int) (ts : List (Int × Int)) (rows : List (List Int × Int)) : Prop := ∀ k ∈ rows, WalkOk n (ts.map low) k.1 ∧ 2 ≤ k.1.length ∧ k.1.length ≤ 40 ∧ 0 ≤ k.2 ∧ k.2 ≤ 24
/-- hands, ties, kinds of a table that may be -/
structure ShpOk (hands : List Int) (ties : List (Int × Int)) (kinds : List (List Int × Int)) : Prop where
  tab : ∀ (quick : List (Int × Int)) (ss : List (List Int × Int)), quick.Sublist ties → SharesOk kinds.length ss → (Tab.mk hands ties kinds quick ss).Ok
theorem shp_mk {m : Nat} (hm : 1 ≤ m) (hm6 : m ≤ 6) {o : List Int} (ho : OrdOk m o) {ts : List (Int × Int)} (ht : BaseOk m ts) {hands : List Int} (hh : hands.length = m) (hh2 : ∀ x ∈ hands, 1 ≤ x ∧ x ≤ 4) {rows : List (List Int × Int)} (hr6 : rows.length ≤ 6) (hr : RowsOk m ts rows) :
    ShpOk hands (ts.map (ren2 (ordF o))) (rows.map (renK (ordF o))) := ⟨fun quick ss hq hs => by
  have hin : ∀ p ∈ ts, 0 ≤ p.1 ∧ p.1 < (m : Int) ∧ 0 ≤ p.2 ∧ p.2 < (m : Int) := fun p hp => (ht.rng p hp).2
  have hn : (Tab.mk hands (ts.map (ren2 (ordF o))) (rows.map (renK (ordF o))) quick ss).n = m := by unfold Tab.n; rw [hh]
  have hnd : ((ts.map (ren2 (ordF o))).map low).Nodup := nodup_ren (ordF_inj ho) hin ht.nd
  refine ⟨by rw [hn]; omega, by rw [hn]; omega, hh2, ?_, ?_, ?_, ?_, ?_⟩
  · rw [hn]
    refine ⟨fun p hp => ?_, hnd, by rw [List.length_map]; exact ht.len⟩
    obtain ⟨q, hq, rfl⟩ := List.mem_map.1 hp
    obtain ⟨a, b', c, d⟩ := hin q hq
    have hne := (ht.rng q hq).1
    have e1 := ordF_in ho q.1 a b'
    have e2 := ordF_in ho q.2 c d
    exact ⟨fun z => hne (ordF_inj ho _ _ a b' c d z), e1.1, e1.2, e2.1, e2.2⟩
  · rw [hn]
    exact conn_ren ho hm ht.conn
  · rw [hn]
    refine ⟨by rw [List.length_map]; exact hr6, fun k hk => ?_⟩
    obtain ⟨r, hr', rfl⟩ := List.mem_map.1 hk
    obtain ⟨w1, w2, w3, w4, w5⟩ := hr r hr'
    refine ⟨?_, w4, w5⟩
    have hw : WayOk m (ts.map low) r.1 := ⟨w2, w3, w1.1, w1.2.1, w1.2.2⟩
    refine way_ren (ordF_inj ho) (fun x a c => ordF_in ho x a c) (fun p hp => ?_) hw
    obtain ⟨q, hq, rfl⟩ := List.mem_map.1 hp
    rw [low_ren]
    exact List.mem_map_of_mem (List.mem_map_of_mem hq)
  · exact ⟨fun p hp => List.mem_map_of_mem (hq.subset hp), (hq.map low).nodup hnd, Nat.le_trans hq.length_le (by rw [List.length_map]; exact ht.len)⟩
  · exact hs⟩
end Lw

namespace Lw
open PySem L2 DL
/-! ### kinds along webs; the shape of a web -/
theorem lenS {α : Type} {r : List α} (h : r.length ≤ 1000) : r.length < sizeLine := Nat.lt_trans (show r.length < 4000000 by omega) (by decide)
theorem rowsOk_nil {n : Int} {ts : List (Int × Int)} : RowsOk n ts [] := fun k hk => absurd hk List.not_mem_nil
theorem rowsOk_snoc {n : Int} {ts : List (Int × Int)} {rows : List (List Int × Int)} {w : List Int} {b : Int} (h : RowsOk n ts rows) (h1 : WalkOk n (ts.map low) w) (h2 : 2 ≤ w.length) (h3 : w.length ≤ 40) (h4 : 0 ≤ b) (h5 : b ≤ 24) : RowsOk n ts (rows ++ [(w, b)]) := fun k hk => by
  rcases List.mem_append.1 hk with hk | hk
  · exact h k hk
  · rw [List.mem_singleton.1 hk]
    exact ⟨h1, h2, h3, h4, h5⟩
theorem web_kinds_ok {m : Nat} {p : List Int} (hp : PoolOk m p) (hm : m ≤ 1000) (s n kk most : Int) (b : Nat) (ts : List (Int × Int)) (ht : WebOk n b ts) (h0 : 0 ≤ s) (hn : 2 ≤ n) (hn6 : n ≤ 6) (hk : 0 ≤ kk) (hk6 : kk ≤ 6) (hs0 : 0 ≤ most) (hs2 : most ≤ 24) (h1 : s + 8 * kk ≤ m) :
    ∃ rows, RowsOk n ts rows ∧ rows.length = kk.toNat ∧ F_law_web_kinds [(true, .lst (p.map D.int)), (true, .int s), (true, .int n), (true, .lst (ts.map dP)), (true, .int kk), (true, .int most)] = .ok ⟨.o, .lst (rows.map dK)⟩ := by
  obtain ⟨u, e, rows, t1, t2, rfl⟩ : ∃ u, runF 6 10 b_law_web_kinds [(true, .lst (p.map D.int)), (true, .int s), (true, .int n), (true, .lst (ts.map dP)), (true, .int kk), (true, .int most)] = .ok u ∧ ∃ rows, RowsOk n ts rows ∧ rows.length = kk.toNat ∧ u = ⟨.o, .lst (rows.map dK)⟩ := by
    refine run_hs (R := fun u => ∃ rows, RowsOk n ts rows ∧ rows.length = kk.toNat ∧ u = ⟨.o, .lst (rows.map dK)⟩) rfl ?_
    unfold b_law_web_kinds
    walk_at "dlt"
    rw [if_pos (rg_in (by omega) (by omega))]
    refine hs_bind (fun e => ∃ rows s7 s8 s9, RowsOk n ts rows ∧ rows.length = kk.toNat ∧ e = [.vl true (.lst (p.map D.int)), .vl true (.int s), .vl true (.int n), .vl true (.lst (ts.map dP)), .vl true (.int kk), .vl true (.int most), .ow (rows.map dK), s7, s8, s9])
      (hs_forR (fun k e => ∃ rows s7 s8 s9, RowsOk n ts rows ∧ rows.length = k ∧ e = [.vl true (.lst (p.map D.int)), .vl true (.int s), .vl true (.int n), .vl true (.lst (ts.map dP)), .vl true (.int kk), .vl true (.int most), .ow (rows.map dK), s7, s8, s9]) ⟨[], _, _, _, rowsOk_nil, rfl, rfl⟩ ?_ fun e h => h) ?_
    · rintro j _ hj ⟨rows, s7, s8, s9, hrows, hrl, rfl⟩
      have e6 : mulI 8 (j : Int) = _ := mulI_200 (by decide) (by omega)
      obtain ⟨x4, e4, _⟩ := pool_at hp (i := s + 8 * j + 6) (by omega) (by omega)
      obtain ⟨x5, e5, _⟩ := pool_at hp (i := s + 8 * j + 7) (by omega) (by omega)
      have hpos : (0 : Int) < n - 1 := by omega
      have hpos2 : (0 : Int) < most + 1 := by omega
      have b0 := Int.emod_nonneg x4 (show n - 1 ≠ 0 by omega)
      have b1 := Int.emod_lt_of_pos x4 hpos
      have b2 := Int.emod_nonneg x5 (show most + 1 ≠ 0 by omega)
      have b3 := Int.emod_lt_of_pos x5 hpos2
      obtain ⟨w, w1, w2, w3, eR⟩ := roam_ok hp (s + 8 * j) n (1 + x4 % (n - 1)) _ ts ht (by omega) (by omega) (by omega) (by omega) (by omega) (by omega) hm
      have zr : rows.length < sizeLine := (small (by omega)).1
      walk_at "dlt"
      rw [e6]
      walk_at "dlt"
      rw [e4]
      walk_at "dlt"
      rw [if_pos hpos]
      walk_at "dlt"
      rw [eR]
      walk_at "dlt"
      rw [e5]
      walk_at "dlt"
      rw [if_pos hpos2]
      walk_at "dlt"
      try rw [if_pos zr]
      refine hs_nx ⟨rows ++ [(w, x5 % (most + 1))], _, _, _, rowsOk_snoc hrows (by rw [low_web ht]; exact w1) w2 w3 b2 (by omega), by rw [List.length_append, List.length_singleton, hrl], rfl⟩
    · rintro _ ⟨rows, s7, s8, s9, h1, h2, rfl⟩
      walk_at "dlt"
      exact hs_rt ⟨rows, h1, h2, rfl⟩
  exact ⟨rows, t1, t2, e⟩
def shpD (hands : List Int) (ties : List (Int × Int)) (kinds : List (List Int × Int)) : D := .tup [.lst (hands.map D.int), .lst (ties.map dP), .lst (kinds.map dK)]
theorem web_shape_ok {m : Nat} {p : List Int} (hp : PoolOk m p) (hm : m ≤ 1000) (n kk hh most : Int) (hn : 2 ≤ n) (hn6 : n ≤ 6) (hk : 0 ≤ kk) (hk6 : kk ≤ 6) (hh1 : 1 ≤ hh) (hh4 : hh ≤ 4) (hs0 : 0 ≤ most) (hs2 : most ≤ 24) (h1 : 98 ≤ m) :
    ∃ hands ties kinds, ShpOk hands ties kinds ∧ kinds.length = kk.toNat ∧ ties.length ≤ 15 ∧ F_law_web_shape [(true, .lst (p.map D.int)), (true, .int n), (true, .int kk), (true, .int hh), (true, .int most)] = .ok ⟨.g, shpD hands ties kinds⟩ := by
  obtain ⟨x9, e9, _⟩ := pool_at hp (i := 9) (by omega) (by omega)
  obtain ⟨ts, ht, eW⟩ := web_ok hp 10 n (x9 % 11) (by omega) (by omega) (by omega) (by omega) (by omega) (by omega) hm
  obtain ⟨rows, hrows, hrl, eK⟩ := web_kinds_ok hp hm 50 n kk most _ ts ht (by omega) hn hn6 hk hk6 hs0 hs2 (by omega)
  obtain ⟨o, ho, eO⟩ := order_ok hp 42 n (by omega) (by omega) (by omega) hm
  obtain ⟨k, rfl⟩ : ∃ k : Nat, n = k := ⟨n.toNat, by omega⟩
  rw [show ((k : Int)).toNat = k by omega] at ho
  have hol := ord_len ho
  have hbl := ht.2.2.2
  have eT := turned_eq o ts rows (by omega) (by omega) (fun q hq => by have := ht.1 q hq; omega) (fun r hr => ⟨by have := (hrows r hr).2.2.1; omega, fun x hx => by have := (hrows r hr).1.2.1 x hx; omega⟩)
  refine ⟨(List.range k).map fun i : Nat => 1 + p.getD (36 + (i : Int)).toNat 0 % hh, ts.map (ren2 (ordF o)), rows.map (renK (ordF o)), shp_mk (by omega) (by omega) ho (web_base ht (by omega)) (by rw [List.length_map, List.length_range]) (fun x hx => ?_) (by omega) hrows, by rw [List.length_map, hrl], ?_, ?_⟩
  · obtain ⟨i, _, rfl⟩ := List.mem_map.1 hx
    have a := Int.emod_nonneg (p.getD (36 + (i : Int)).toNat 0) (show hh ≠ 0 by omega)
    have b := Int.emod_lt_of_pos (p.getD (36 + (i : Int)).toNat 0) (show 0 < hh by omega)
    omega
  · rw [List.length_map]
    omega
  · unfold F_law_web_shape
    rw [runF_eq]
    unfold b_law_web_shape
    have hp1 : (0 : Int) < hh := by omega
    have eT' : F_law_turned [(true, .lst (o.map D.int)), (true, .lst (ts.map dP)), (true, .lst (rows.map dK))] = .ok ⟨.g, .tup [.lst ((ts.map (ren2 (ordF o))).map dP), .lst ((rows.map (renK (ordF o))).map dK)]⟩ := eT
    walk_at "dlt"
    rw [e9]
    walk_at "dlt"
    rw [eW]
    walk_at "dlt"
    rw [eK]
    walk_at "dlt"
    rw [eO]
    walk_at "dlt"
    rw [eT']
    walk_at "dlt"
    rw [if_pos (rg_in (by omega) (by omega))]
    walk_at "dlt"
    rw [if_pos (show (rngD 0 k).length < sizeLine from lenS (by rw [rngD_len]; omega)), lcO_rng (h := fun i : Nat => D.int (1 + p.getD (36 + (i : Int)).toNat 0 % hh))]
    rotate_left
    · intro i hi
      have e1 : atD (p.map D.int) (36 + (i : Int)) = _ := atD_map (by omega) (by rw [hp.1]; omega)
      walk_at "dlt"
      rw [e1]
      walk_at "dlt"
      rw [if_pos hp1]
      try rfl
    rw [show (List.map (fun i : Nat => D.int (1 + p.getD (36 + (i : Int)).toNat 0 % hh)) (List.range k)) = ((List.range k).map fun i : Nat => 1 + p.getD (36 + (i : Int)).toNat 0 % hh).map D.int by rw [List.map_map]; rfl]
    walk_at "dlt"
    try rfl
end Lw

namespace Lw
open PySem L2 DL
/-! ### trees: ways up and down -/
/-- each but 0 has its parent below -/
def ParOk (n : Nat) (par : List Int) : Prop := par.length = n ∧ ∀ i : Nat, 1 ≤ i → i < n → 0 ≤ par.getD i 0 ∧ par.getD i 0 < i
structure Climb (par : List Int) (x : Int) (r : List Int) : Prop where
  head : r[0]? = some x
  step : ∀ (i : Nat) (a b : Int), r[i]? = some a → r[i + 1]? = some b → a ≠ 0 ∧ b = par.getD a.toNat 0
  last : ∀ a, r.getLast? = some a → a = 0
theorem climb_ok {n : Nat} {par : List Int} (hp : ParOk n par) (hn6 : n ≤ 6) (x : Int) (h0 : 0 ≤ x) (h1 : x < n) : ∃ r, Climb par x r ∧ (∀ a ∈ r, 0 ≤ a ∧ a < n) ∧ r.Pairwise (· > ·) ∧ r.length ≤ 7 ∧ F_law_climb [(true, .lst (par.map D.int)), (true, .int x)] = .ok ⟨.o, .lst (r.map D.int)⟩ := by
  obtain ⟨u, e, r, t1, t2, t3, t4, rfl⟩ : ∃ u, runF 2 4 b_law_climb [(true, .lst (par.map D.int)), (true, .int x)] = .ok u ∧ ∃ r, Climb par x r ∧ (∀ a ∈ r, 0 ≤ a ∧ a < n) ∧ r.Pairwise (· > ·) ∧ r.length ≤ 7 ∧ u = ⟨.o, .lst (r.map D.int)⟩ := by
    refine run_hs (R := fun u => ∃ r, Climb par x r ∧ (∀ a ∈ r, 0 ≤ a ∧ a < n) ∧ r.Pairwise (· > ·) ∧ r.length ≤ 7 ∧ u = ⟨.o, .lst (r.map D.int)⟩) rfl ?_
    unfold b_law_climb
    walk_at "dlt"
    refine hs_bind (fun e => ∃ (r : List Int) (l : Int) (s3 : Sl), Climb par x (r ++ [l]) ∧ (∀ a ∈ r ++ [l], 0 ≤ a ∧ a < n) ∧ (r ++ [l]).Pairwise (· > ·) ∧ r.length ≤ 6 ∧ e = [.vl true (.lst (par.map D.int)), .vl true (.int x), .ow ((r ++ [l]).map D.int), s3])
      (hs_forR (fun k e => ∃ (r : List Int) (l : Int) (s3 : Sl), (r ++ [l])[0]? = some x ∧ (∀ (i : Nat) (a b : Int), (r ++ [l])[i]? = some a → (r ++ [l])[i + 1]? = some b → a ≠ 0 ∧ b = par.getD a.toNat 0) ∧ (l = 0 ∨ l + k ≤ x) ∧ (∀ a ∈ r ++ [l], 0 ≤ a ∧ a < n) ∧ (r ++ [l]).Pairwise (· > ·) ∧ r.length ≤ k ∧ e = [.vl true (.lst (par.map D.int)), .vl true (.int x), .ow ((r ++ [l]).map D.int), s3]) ?_ ?_ ?_) ?_
    · exact ⟨[], x, _, rfl, fun i a b ha hb => by simp at hb, .inr (by simp), fun a ha => by rw [List.nil_append, List.mem_singleton] at ha; omega, by simp, Nat.le_refl _, rfl⟩
    · rintro j _ hj ⟨r, l, s3, a1, a2, a3, a4, a5, a6, rfl⟩
      have e1 := atD_last r l
      have hl := a4 l (List.mem_append_right _ (List.mem_singleton_self _))
      have z : (r ++ [l]).length < sizeLine := (small (by rw [List.length_append, List.length_singleton]; omega)).1
      by_cases c : l = 0
      · subst c
        walk_at "dlt"
        rw [e1]
        walk_at "dlt"
        exact hs_nx ⟨r, 0, _, a1, a2, .inl rfl, a4, a5, by omega, rfl⟩
      · have e2 : atD (par.map D.int) l = .ok (.int (par.getD l.toNat 0)) := atD_map hl.1 (by rw [hp.1]; omega)
        have hq := hp.2 l.toNat (by omega) (by omega)
        walk_at "dlt"
        rw [e1]
        walk_at "dlt"
        rw [if_pos c]
        walk_at "dlt"
        rw [e2]
        walk_at "dlt"
        try rw [if_pos z]
        refine hs_nx ⟨r ++ [l], par.getD l.toNat 0, _, ?_, ?_, ?_, ?_, ?_, by rw [List.length_append, List.length_singleton]; omega, rfl⟩
        · rw [List.getElem?_append_left (by simp)]
          exact a1
        · intro i a b ha hb
          by_cases hi : i + 1 < (r ++ [l]).length
          · rw [List.getElem?_append_left (by omega)] at ha hb
            exact a2 i a b ha hb
          · have hlen : (r ++ [l]).length = r.length + 1 := by simp
            have hb2 := (List.getElem?_eq_some_iff.1 hb).1
            rw [List.length_append, hlen, List.length_singleton] at hb2
            have hi2 : i = r.length := by omega
            subst hi2
            rw [List.getElem?_append_left (by omega)] at ha
            rw [List.getElem?_append_right (by omega), hlen] at hb
            simp at ha hb
            rw [← ha, ← hb]
            exact ⟨c, by simp [List.getD]⟩
        · rcases a3 with a3 | a3
          · exact absurd a3 c
          · right
            omega
        · intro a ha
          rcases List.mem_append.1 ha with ha | ha
          · exact a4 a ha
          · rw [List.mem_singleton.1 ha]
            omega
        · refine List.pairwise_append.2 ⟨a5, by simp, fun a ha b hb => ?_⟩
          rw [List.mem_singleton.1 hb]
          rcases List.mem_append.1 ha with ha | ha
          · have := (List.pairwise_append.1 a5).2.2 a ha l (List.mem_singleton_self _)
            omega
          · rw [List.mem_singleton.1 ha]
            omega
    · rintro e ⟨r, l, s3, a1, a2, a3, a4, a5, a6, rfl⟩
      refine ⟨r, l, s3, ⟨a1, a2, fun a ha => ?_⟩, a4, a5, a6, rfl⟩
      rw [List.getLast?_append] at ha
      simp at ha
      subst ha
      have hl := a4 l (List.mem_append_right _ (List.mem_singleton_self _))
      rcases a3 with a3 | a3 <;> omega
    · rintro _ ⟨r, l, s3, t1, t2, t3, t4, rfl⟩
      walk_at "dlt"
      exact hs_rt ⟨r ++ [l], t1, t2, t3, by rw [List.length_append, List.length_singleton]; omega, rfl⟩
  exact ⟨r, t1, t2, t3, t4, e⟩
end Lw

namespace Lw
open PySem L2 DL
/-! ### the way through a tree -/
theorem rng3_ok {f g h : En → Res Vl} {env : En} {q q' q'' : Kd} {i j : Int} (h1 : f env = .ok ⟨q, .int i⟩) (h2 : g env = .ok ⟨q', .int j⟩) (h3 : h env = .ok ⟨q'', .int (-1)⟩) (i0 : -1000000 ≤ i) (i1 : i ≤ 1000000) (j0 : -1000000 ≤ j) (j1 : j ≤ 1000000) : rng3 f g h env = .ok (.g, rngN i (i - j).toNat) := by
  unfold rng3
  rw [h1, h2, h3]
  exact if_pos ⟨by omega, by omega, by omega, by omega⟩
def treeTs (par : List Int) (n : Nat) : List (Int × Int) := (List.range (n - 1)).map fun k : Nat => (par.getD (k + 1) 0, (k : Int) + 1)
theorem tree_web {n : Nat} {par : List Int} (h : ParOk n par) : WebOk n (n - 1) (treeTs par n) := by
  unfold treeTs
  refine ⟨fun q hq => ?_, ?_, fun y h0 h1 => ?_, by rw [List.length_map, List.length_range]; exact Nat.le_refl _⟩
  · obtain ⟨k, hk, rfl⟩ := List.mem_map.1 hq
    have hk := List.mem_range.1 hk
    have := h.2 (k + 1) (by omega) (by omega)
    dsimp only
    omega
  · refine List.Pairwise.map _ (fun a b hab z => hab ?_) List.nodup_range
    have := congrArg Prod.snd z
    dsimp only at this
    omega
  · refine ⟨par.getD y.toNat 0, List.mem_map.2 ⟨(y - 1).toNat, List.mem_range.2 (by omega), ?_⟩⟩
    have e1 : (y - 1).toNat + 1 = y.toNat := by omega
    have e2 : (((y - 1).toNat : Nat) : Int) + 1 = y := by omega
    rw [e1, e2]
theorem tree_tie {n : Nat} {par : List Int} (h : ParOk n par) {a : Int} (h0 : 0 ≤ a) (h1 : a < n) (hne : a ≠ 0) : low (a, par.getD a.toNat 0) ∈ (treeTs par n).map low ∧ low (par.getD a.toNat 0, a) ∈ (treeTs par n).map low := by
  have : (par.getD a.toNat 0, a) ∈ treeTs par n := by
    unfold treeTs
    refine List.mem_map.2 ⟨(a - 1).toNat, List.mem_range.2 (by omega), ?_⟩
    have e1 : (a - 1).toNat + 1 = a.toNat := by omega
    have e2 : (((a - 1).toNat : Nat) : Int) + 1 = a := by omega
    rw [e1, e2]
  exact ⟨by rw [low_swap]; exact List.mem_map_of_mem this, List.mem_map_of_mem this⟩
theorem climb_zero {par : List Int} {x : Int} {r : List Int} (h : Climb par x r) : (0 : Int) ∈ r := by
  cases hr : r.getLast? with
  | none =>
    have := h.head
    rw [List.getLast?_eq_none_iff.1 hr] at this
    cases this
  | some a =>
    rw [← h.last a hr]
    exact List.mem_of_getLast? hr
/-- the way: up to the meeting place, down from it -/
theorem way_plain {n : Nat} {par : List Int} (hp : ParOk n par) {a b : Int} (hab : a ≠ b) {up down : List Int} (hu : Climb par a up) (hd : Climb par b down) (iu : ∀ x ∈ up, 0 ≤ x ∧ x < n) (id' : ∀ x ∈ down, 0 ≤ x ∧ x < n) (pu : up.Pairwise (· > ·)) (pd : down.Pairwise (· > ·))
    {i j : Nat} {m : Int} (hi : up[i]? = some m) (hj : down[j]? = some m) (hmin : ∀ t x, t < i → up[t]? = some x → x ∉ down) :
    WalkOk n ((treeTs par n).map low) (up.take (i + 1) ++ (down.take j).reverse) ∧ 2 ≤ (up.take (i + 1) ++ (down.take j).reverse).length := by
  have hi1 := (List.getElem?_eq_some_iff.1 hi).1
  have hj1 := (List.getElem?_eq_some_iff.1 hj).1
  have nu : up.Nodup := pu.imp fun h => by omega
  have nd : down.Nodup := pd.imp fun h => by omega
  have lt1 : (up.take (i + 1)).length = i + 1 := by rw [List.length_take]; omega
  have lt2 : ((down.take j).reverse).length = j := by rw [List.length_reverse, List.length_take]; omega
  have gu : ∀ k, k ≤ i → (up.take (i + 1) ++ (down.take j).reverse)[k]? = up[k]? := fun k hk => by
    rw [List.getElem?_append_left (by omega), List.getElem?_take_of_lt (by omega)]
  have gd : ∀ k, k ≤ j → (up.take (i + 1) ++ (down.take j).reverse)[i + k]? = down[j - k]? := fun k hk => by
    by_cases hz : k = 0
    · subst hz
      show (up.take (i + 1) ++ (down.take j).reverse)[i]? = down[j]?
      rw [gu i (Nat.le_refl _), hi, hj]
    · rw [List.getElem?_append_right (by omega), lt1, List.getElem?_reverse (by rw [List.length_take]; omega), List.length_take, List.getElem?_take_of_lt (by omega)]
      congr 1
      omega
  refine ⟨⟨?_, ?_, ?_⟩, ?_⟩
  · refine List.nodup_append.2 ⟨nu.sublist (List.take_sublist _ _), ?_, fun x hx y hy => ?_⟩
    · unfold List.Nodup
      rw [List.pairwise_reverse]
      exact (nd.sublist (List.take_sublist _ _)).imp fun h => h.symm
    · rintro rfl
      rw [List.mem_reverse] at hy
      obtain ⟨t, ht, rfl⟩ := List.getElem_of_mem hx
      rw [lt1] at ht
      rw [List.getElem_take] at hy
      by_cases hti : t = i
      · subst hti
        have e : up[t]'(by omega) = m := (List.getElem?_eq_some_iff.1 hi).2
        rw [e] at hy
        obtain ⟨s, hs, e2⟩ := List.getElem_of_mem hy
        rw [List.length_take] at hs
        rw [List.getElem_take] at e2
        have e3 := (List.getElem?_eq_some_iff.1 hj).2
        have := (List.getElem_inj (h₀ := by omega) (h₁ := hj1) nd).1 (e2.trans e3.symm)
        omega
      · exact hmin t _ (by omega) (List.getElem?_eq_getElem (by omega)) (List.mem_of_mem_take hy)
  · intro x hx
    rcases List.mem_append.1 hx with hx | hx
    · exact iu x (List.mem_of_mem_take hx)
    · exact id' x (List.mem_of_mem_take (List.mem_reverse.1 hx))
  · intro k x y hx hy
    by_cases hk : k < i
    · rw [gu k (by omega)] at hx
      rw [gu (k + 1) (by omega)] at hy
      obtain ⟨c1, c2⟩ := hu.step k x y hx hy
      have hxr := iu x (List.mem_of_getElem? hx)
      rw [c2]
      exact (tree_tie hp hxr.1 hxr.2 c1).1
    · have hl := (List.getElem?_eq_some_iff.1 hy).1
      rw [List.length_append, lt1, lt2] at hl
      obtain ⟨t, rfl⟩ : ∃ t, k = i + t := ⟨k - i, by omega⟩
      rw [gd t (by omega)] at hx
      rw [show i + t + 1 = i + (t + 1) by omega, gd (t + 1) (by omega)] at hy
      obtain ⟨c1, c2⟩ := hd.step (j - (t + 1)) y x hy (by rw [show j - (t + 1) + 1 = j - t by omega]; exact hx)
      have hyr := id' y (List.mem_of_getElem? hy)
      rw [c2]
      exact (tree_tie hp hyr.1 hyr.2 c1).2
  · rw [List.length_append, lt1, lt2]
    by_cases hz : i = 0 ∧ j = 0
    · obtain ⟨rfl, rfl⟩ := hz
      have e1 := hu.head.symm.trans hi
      have e2 := hd.head.symm.trans hj
      rw [← e2] at e1
      cases e1
      exact absurd rfl hab
    · omega
theorem lway_ok {n : Nat} {par : List Int} (hp : ParOk n par) (hn6 : n ≤ 6) (a b : Int) (a0 : 0 ≤ a) (a1 : a < n) (b0 : 0 ≤ b) (b1 : b < n) (hab : a ≠ b) : ∃ w, WalkOk n ((treeTs par n).map low) w ∧ 2 ≤ w.length ∧ w.length ≤ 40 ∧ F_law_way [(true, .lst (par.map D.int)), (true, .int a), (true, .int b)] = .ok ⟨.o, .lst (w.map D.int)⟩ := by
  obtain ⟨up, hu, iu, pu, lu, eU⟩ := climb_ok hp hn6 a a0 a1
  obtain ⟨down, hd, id', pd, ld, eD⟩ := climb_ok hp hn6 b b0 b1
  have hz := climb_zero hu
  have hz2 := climb_zero hd
  obtain ⟨m, rest, hf⟩ : ∃ m rest, up.filter (fun x => decide (x ∈ down)) = m :: rest := by
    cases h : up.filter (fun x => decide (x ∈ down)) with
    | nil => exact absurd (decide_eq_true hz2) (by simpa using (List.filter_eq_nil_iff.1 h) 0 hz)
    | cons m rest => exact ⟨m, rest, rfl⟩
  obtain ⟨l1, l2, e1, e2, e3, e4⟩ := List.filter_eq_cons_iff.1 hf
  have hmd : m ∈ down := of_decide_eq_true e3
  have hmu : m ∈ up := by rw [e1]; exact List.mem_append_right _ List.mem_cons_self
  have nu : up.Nodup := pu.imp fun h => by omega
  have hi1 := List.idxOf_lt_length_iff.2 hmu
  have hj1 := List.idxOf_lt_length_iff.2 hmd
  have hi : up[up.idxOf m]? = some m := by rw [List.getElem?_eq_getElem hi1, List.getElem_idxOf hi1]
  have hj : down[down.idxOf m]? = some m := by rw [List.getElem?_eq_getElem hj1, List.getElem_idxOf hj1]
  have hil : up.idxOf m = l1.length := by
    have : up[l1.length]? = some m := by rw [e1]; simp
    obtain ⟨h1, h2⟩ := List.getElem?_eq_some_iff.1 this
    exact (List.getElem_inj (h₀ := hi1) (h₁ := h1) nu).1 (by rw [List.getElem_idxOf hi1, h2])
  have hmin : ∀ t x, t < up.idxOf m → up[t]? = some x → x ∉ down := fun t x ht hx => by
    rw [hil] at ht
    rw [e1, List.getElem?_append_left ht] at hx
    have := e2 x (List.mem_of_getElem? hx)
    simpa using this
  obtain ⟨r1, r2⟩ := way_plain hp hab hu hd iu id' pu pd hi hj hmin
  refine ⟨_, r1, r2, by rw [List.length_append, List.length_reverse, List.length_take, List.length_take]; omega, ?_⟩
  unfold F_law_way
  rw [runF_eq]
  unfold b_law_way
  generalize hI : up.idxOf m = i at *
  generalize hJ : down.idxOf m = j at *
  walk_at "dlt"
  rw [eU]
  walk_at "dlt"
  rw [eD]
  walk_at "dlt"
  have g0 : atD (D.int m :: rest.map D.int) 0 = .ok (.int m) := atD_get (r := m :: rest) (k := 0) rfl
  have g1 : ixF down m = .ok ⟨.g, .int (j : Nat)⟩ := by rw [ixF_in hmd (by omega), hJ]
  have g2 : ixF up m = .ok ⟨.g, .int (i : Nat)⟩ := by rw [ixF_in hmu (by omega), hI]
  rw [if_pos (lenS (show up.length ≤ 1000 by omega)), lcO_filter (g := D.int) (h := D.int) (fun x => decide (x ∈ down)) up (by intro x hx; refine ⟨_, rfl, ?_, fun _ => ?_⟩ <;> walk_at "dlt"), hf]
  walk_at "dlt"
  rw [g0]
  walk_at "dlt"
  rw [rng3_ok (i := (j : Int) - 1) (j := -1) (q := .g) (q' := .g) (q'' := .g) (by walk_at "dlt"; rw [g1]; walk_at "dlt") (by walk_at "dlt") (by walk_at "dlt") (by omega) (by omega) (by omega) (by omega)]
  walk_at "dlt"
  rw [show ((j : Int) - 1 - -1).toNat = j by omega]
  have hrow : (List.range j).map (fun t : Nat => D.int (down.getD (j - 1 - t) 0)) = ((down.take j).reverse).map D.int := by
    apply List.ext_getElem
    · simp; omega
    · intro t h1 h2
      have ht : t < j := by simpa using h1
      simp only [List.getElem_map, List.getElem_range, List.getElem_reverse, List.getElem_take, List.length_take]
      rw [DL.getD_at (by omega)]
      congr 2
      omega
  have hl : (rngN ((j : Int) - 1) j).length ≤ 1000 := by unfold rngN; rw [List.length_map, List.length_range]; omega
  rw [if_pos (lenS hl)]
  unfold rngN
  rw [lcO_map (g := fun t : Nat => D.int ((j : Int) - 1 - t)) (h := fun t : Nat => D.int (down.getD (j - 1 - t) 0)), hrow]
  rotate_left
  · intro t ht
    have ht := List.mem_range.1 ht
    have e1 : atD (down.map D.int) ((j : Int) - 1 - t) = _ := atD_map (by omega) (by omega)
    walk_at "dlt"
    rw [e1, show ((j : Int) - 1 - t).toNat = j - 1 - t by omega]
    walk_at "dlt"
  walk_at "dlt"
  rw [g2]
  walk_at "dlt"
  have hc : cutD (up.map D.int) none (some ((i : Int) + 1)) = (up.take (i + 1)).map D.int := by
    rw [cutD_take (by omega), show ((i : Int) + 1).toNat = i + 1 by omega, List.map_take]
  rw [hc, if_pos (Nat.le_trans (show ((up.take (i + 1)).map D.int).length + ((down.take j).reverse).length ≤ 1000 by rw [List.length_map, List.length_take, List.length_reverse, List.length_take]; omega) (by decide)), ← List.map_append]
  rfl
end Lw

namespace Lw
open PySem L2 DL
/-! ### the shape of a tree -/
theorem lc_ways {o w : List Int} {env : En} {n : Nat} (ho : o.length = n) (hw : ∀ x ∈ w, 0 ≤ x ∧ x < n) (h8 : env[8]? = some (.vl true (.lst (o.map D.int))) ∨ env[8]? = some (.ow (o.map D.int))) (h6 : 6 < env.length) : lcO (nmT 6) yesT (binE ixP (nmE 8) (nmE 6)) .g env (w.map D.int) = .ok ((w.map (ordF o)).map D.int) := by
  rw [List.map_map]
  refine lcO_map (g := D.int) (h := D.int ∘ ordF o) w fun x hx => ?_
  have e1 : atD (o.map D.int) x = _ := atD_map (hw x hx).1 (by rw [ho]; exact (hw x hx).2)
  rw [nmT_eq, slot_g, Res.bind_ok, Res.bind_ok, binE_eq, nmE_eq, nmE_eq, List.getElem?_set_self h6, List.getElem?_set_ne (by decide)]
  rcases h8 with h8 | h8
  · rw [h8]
    walk_at "dlt"
    rw [e1]
    rfl
  · rw [h8]
    walk_at "dlt"
    rw [e1]
    rfl
def parL (p : List Int) (s : Int) (n : Nat) : List Int := 0 :: (List.range (n - 1)).map fun k : Nat => p.getD (s + (1 + (k : Int))).toNat 0 % (1 + (k : Int))
theorem parL_ok (p : List Int) (s : Int) {n : Nat} (hn : 1 ≤ n) : ParOk n (parL p s n) := by
  unfold parL
  refine ⟨by rw [List.length_cons, List.length_map, List.length_range]; omega, fun i h1 h2 => ?_⟩
  obtain ⟨k, rfl⟩ : ∃ k, i = k + 1 := ⟨i - 1, by omega⟩
  rw [DL.getD_at (by rw [List.length_cons, List.length_map, List.length_range]; omega), List.getElem_cons_succ, List.getElem_map, List.getElem_range]
  have a := Int.emod_nonneg (p.getD (s + (1 + (k : Int))).toNat 0) (show (1 + (k : Int)) ≠ 0 by omega)
  have b := Int.emod_lt_of_pos (p.getD (s + (1 + (k : Int))).toNat 0) (show 0 < (1 + (k : Int)) by omega)
  omega
theorem ring_ne {a c k : Int} (h0 : 0 ≤ a) (h1 : a < k) (h2 : 0 ≤ c) (h3 : c < k - 1) : a ≠ (a + 1 + c) % k := by
  by_cases h : a + 1 + c < k
  · rw [Int.emod_eq_of_lt (by omega) h]
    omega
  · rw [← Int.sub_emod_right, Int.emod_eq_of_lt (by omega) (by omega)]
    omega
theorem shape_ok {m : Nat} {p : List Int} (hp : PoolOk m p) (hm : m ≤ 1000) (s n kk hh most : Int) (h0 : 0 ≤ s) (hn : 1 ≤ n) (hn6 : n ≤ 6) (hk : 0 ≤ kk) (hk6 : kk ≤ 6) (hh1 : 1 ≤ hh) (hh4 : hh ≤ 4) (hs0 : 0 ≤ most) (hs2 : most ≤ 24) (h1 : s + 18 + 3 * kk ≤ m) :
    ∃ hands ties kinds, ShpOk hands ties kinds ∧ kinds.length ≤ kk.toNat ∧ ties.length ≤ 15 ∧ F_law_shape [(true, .lst (p.map D.int)), (true, .int s), (true, .int n), (true, .int kk), (true, .int hh), (true, .int most)] = .ok ⟨.g, shpD hands ties kinds⟩ := by
  obtain ⟨o, ho, eO⟩ := order_ok hp (s + 6) n (by omega) (by omega) (by omega) hm
  obtain ⟨k, rfl⟩ : ∃ k : Nat, n = k := ⟨n.toNat, by omega⟩
  rw [show ((k : Int)).toNat = k by omega] at ho
  have hol := ord_len ho
  have hpar := parL_ok p (s) (n := k) (by omega)
  have hpl := hpar.1
  have hweb := tree_web hpar
  have hbase := web_base hweb (by omega)
  have hhd : ∀ x ∈ (List.range k).map (fun i : Nat => 1 + p.getD (s + 12 + (i : Int)).toNat 0 % hh), 1 ≤ x ∧ x ≤ 4 := fun x hx => by
    obtain ⟨i, _, rfl⟩ := List.mem_map.1 hx
    have a := Int.emod_nonneg (p.getD (s + 12 + (i : Int)).toNat 0) (show hh ≠ 0 by omega)
    have b := Int.emod_lt_of_pos (p.getD (s + 12 + (i : Int)).toNat 0) (show 0 < hh by omega)
    omega
  have htl : ((treeTs (parL p s k) k).map (ren2 (ordF o))).length ≤ 15 := by rw [List.length_map]; have := hweb.2.2.2; omega
  obtain ⟨u, e, hands, ties, kinds, t1, t2, t3, rfl⟩ : ∃ u, runF 6 16 b_law_shape [(true, .lst (p.map D.int)), (true, .int s), (true, .int (k : Int)), (true, .int kk), (true, .int hh), (true, .int most)] = .ok u ∧ ∃ hands ties kinds, ShpOk hands ties kinds ∧ kinds.length ≤ kk.toNat ∧ ties.length ≤ 15 ∧ u = ⟨.g, shpD hands ties kinds⟩ := by
    refine run_hs (R := fun u => ∃ hands ties kinds, ShpOk hands ties kinds ∧ kinds.length ≤ kk.toNat ∧ ties.length ≤ 15 ∧ u = ⟨.g, shpD hands ties kinds⟩) rfl ?_
    unfold b_law_shape
    walk_at "dlt"
    rw [if_pos (rg_in (by omega) (by omega))]
    walk_at "dlt"
    rw [if_pos (show (rngD 1 ((k : Int) - 1).toNat).length < sizeLine from lenS (by rw [rngD_len]; omega)), lcO_rng (h := fun k : Nat => D.int (p.getD (s + (1 + (k : Int))).toNat 0 % (1 + (k : Int))))]
    rotate_left
    · intro i hi
      have e1 : atD (p.map D.int) (s + (1 + (i : Int))) = _ := atD_map (by omega) (by rw [hp.1]; omega)
      have hpos : 0 < 1 + (i : Int) := by omega
      walk_at "dlt"
      rw [e1]
      walk_at "dlt"
      rw [if_pos hpos]
      try rfl
    have hparD : D.int 0 :: (List.range ((k : Int) - 1).toNat).map (fun k : Nat => D.int (p.getD (s + (1 + (k : Int))).toNat 0 % (1 + (k : Int)))) = (parL p s k).map D.int := by
      unfold parL
      rw [List.map_cons, List.map_map, show ((k : Int) - 1).toNat = k - 1 by omega]
      rfl
    walk_at "dlt"
    rw [if_pos (Nat.le_trans (show 1 + (List.range ((k : Int) - 1).toNat).length ≤ 1000 by rw [List.length_range]; omega) (by decide)), hparD]
    generalize parL p s k = par at *
    clear hparD
    walk_at "dlt"
    rw [eO]
    walk_at "dlt"
    rw [if_pos (rg_in (by omega) (by omega))]
    walk_at "dlt"
    rw [if_pos (show (rngD 0 k).length < sizeLine from lenS (by rw [rngD_len]; omega)), lcO_rng (h := fun i : Nat => D.int (1 + p.getD (s + 12 + (i : Int)).toNat 0 % hh))]
    rotate_left
    · intro i hi
      have e1 : atD (p.map D.int) (s + 12 + (i : Int)) = _ := atD_map (by omega) (by rw [hp.1]; omega)
      have hp1 : (0 : Int) < hh := by omega
      walk_at "dlt"
      rw [e1]
      walk_at "dlt"
      rw [if_pos hp1]
      try rfl
    rw [show (List.map (fun i : Nat => D.int (1 + p.getD (s + 12 + (i : Int)).toNat 0 % hh)) (List.range k)) = ((List.range k).map fun i : Nat => 1 + p.getD (s + 12 + (i : Int)).toNat 0 % hh).map D.int by rw [List.map_map]; rfl]
    have hhl : ((List.range k).map fun i : Nat => 1 + p.getD (s + 12 + (i : Int)).toNat 0 % hh).length = k := by rw [List.length_map, List.length_range]
    generalize ((List.range k).map fun i : Nat => 1 + p.getD (s + 12 + (i : Int)).toNat 0 % hh) = hands at *
    walk_at "dlt"
    rw [if_pos (rg_in (by omega) (by omega))]
    walk_at "dlt"
    rw [if_pos (show (rngD 1 ((k : Int) - 1).toNat).length < sizeLine from lenS (by rw [rngD_len]; omega)), lcO_rng (h := fun i : Nat => dP (ordF o (par.getD (i + 1) 0), ordF o ((i : Int) + 1)))]
    rotate_left
    · intro i hi
      have hb := hpar.2 (i + 1) (by omega) (by omega)
      have e1 : atD (par.map D.int) (1 + (i : Int)) = .ok (.int (par.getD (i + 1) 0)) := by rw [atD_map (by omega) (by omega), show (1 + (i : Int)).toNat = i + 1 by omega]
      have e2 : atD (o.map D.int) (par.getD (i + 1) 0) = .ok (.int (ordF o (par.getD (i + 1) 0))) := atD_map hb.1 (by omega)
      have e3 : atD (o.map D.int) (1 + (i : Int)) = .ok (.int (ordF o ((i : Int) + 1))) := by rw [atD_map (by omega) (by omega), Int.add_comm]; rfl
      walk_at "dlt"
      rw [e1]
      walk_at "dlt"
      rw [e2]
      walk_at "dlt"
      rw [e3]
      rfl
    rw [show (List.map (fun i : Nat => dP (ordF o (par.getD (i + 1) 0), ordF o ((i : Int) + 1))) (List.range ((k : Int) - 1).toNat)) = ((treeTs par k).map (ren2 (ordF o))).map dP by unfold treeTs; rw [List.map_map, List.map_map, show ((k : Int) - 1).toNat = k - 1 by omega]; rfl]
    walk_at "dlt"
    refine hs_bind (fun e => ∃ rows s7 s12 s13 s14 s15, (s7 = .ow (par.map D.int) ∨ s7 = .vl true (.lst (par.map D.int))) ∧ RowsOk k (treeTs par k) rows ∧ rows.length ≤ kk.toNat ∧ e = [.vl true (.lst (p.map D.int)), .vl true (.int s), .vl true (.int k), .vl true (.int kk), .vl true (.int hh), .vl true (.int most), .no, s7, .ow (o.map D.int), .ow (hands.map D.int), .ow (((treeTs par k).map (ren2 (ordF o))).map dP), .ow ((rows.map (renK (ordF o))).map dK), s12, s13, s14, s15]) ?_ ?_
    · by_cases hk1 : ¬ (1 : Int) < (k : Int)
      · rw [if_neg hk1]
        exact hs_nx ⟨[], _, _, _, _, _, .inl rfl, rowsOk_nil, Nat.zero_le _, rfl⟩
      have hk1 := Decidable.not_not.1 hk1
      rw [if_pos hk1, if_pos (rg_in (by omega) (by omega))]
      refine hs_forR (fun j e => ∃ rows s7 s12 s13 s14 s15, (s7 = .ow (par.map D.int) ∨ s7 = .vl true (.lst (par.map D.int))) ∧ RowsOk k (treeTs par k) rows ∧ rows.length ≤ j ∧ e = [.vl true (.lst (p.map D.int)), .vl true (.int s), .vl true (.int k), .vl true (.int kk), .vl true (.int hh), .vl true (.int most), .no, s7, .ow (o.map D.int), .ow (hands.map D.int), .ow (((treeTs par k).map (ren2 (ordF o))).map dP), .ow ((rows.map (renK (ordF o))).map dK), s12, s13, s14, s15])
        ⟨[], _, _, _, _, _, .inl rfl, rowsOk_nil, Nat.le_refl _, rfl⟩ ?_ fun e h => h
      rintro j _ hj ⟨rows, s7, s12, s13, s14, s15, h7, hrows, hrl, rfl⟩
      have e6 : mulI 3 (j : Int) = _ := mulI_200 (by decide) (by omega)
      obtain ⟨x18, e18, _⟩ := pool_at hp (i := s + 18 + 3 * j) (by omega) (by omega)
      obtain ⟨x19, e19, _⟩ := pool_at hp (i := s + 19 + 3 * j) (by omega) (by omega)
      obtain ⟨x20, e20, _⟩ := pool_at hp (i := s + 20 + 3 * j) (by omega) (by omega)
      have hpos : (0 : Int) < (k : Int) := by omega
      have hpos1 : (0 : Int) < (k : Int) - 1 := by omega
      have hpos2 : (0 : Int) < most + 1 := by omega
      have a0 := Int.emod_nonneg x18 (show (k : Int) ≠ 0 by omega)
      have a1 := Int.emod_lt_of_pos x18 hpos
      have c0 := Int.emod_nonneg x19 (show (k : Int) - 1 ≠ 0 by omega)
      have c1 := Int.emod_lt_of_pos x19 hpos1
      have b2 := Int.emod_nonneg x20 (show most + 1 ≠ 0 by omega)
      have b3 := Int.emod_lt_of_pos x20 hpos2
      have d0 := Int.emod_nonneg (x18 % k + 1 + x19 % ((k : Int) - 1)) (show (k : Int) ≠ 0 by omega)
      have d1 := Int.emod_lt_of_pos (x18 % k + 1 + x19 % ((k : Int) - 1)) hpos
      have hne := ring_ne a0 a1 c0 c1
      obtain ⟨w, w1, w2, w3, eW⟩ := lway_ok hpar (by omega) _ _ a0 a1 d0 d1 hne
      have zr : rows.length < sizeLine := (small (by omega)).1
      have hr : (rows ++ [(w, x20 % (most + 1))]).map (renK (ordF o)) = rows.map (renK (ordF o)) ++ [(w.map (ordF o), x20 % (most + 1))] := by rw [List.map_append]; rfl
      rcases h7 with rfl | rfl
      all_goals
        walk_at "dlt"
        rw [e6]
        walk_at "dlt"
        rw [e18]
        walk_at "dlt"
        rw [if_pos hpos]
        walk_at "dlt"
        rw [e6]
        walk_at "dlt"
        rw [e19]
        walk_at "dlt"
        rw [if_pos hpos1]
        walk_at "dlt"
        rw [if_pos hpos]
        walk_at "dlt"
        rw [eW]
        walk_at "dlt"
        rw [if_pos (lenS (show w.length ≤ 1000 by omega)), lc_ways hol w1.2.1 (.inr rfl) (by show 6 < 16; decide)]
        walk_at "dlt"
        rw [e6]
        walk_at "dlt"
        rw [e20]
        walk_at "dlt"
        rw [if_pos hpos2]
        walk_at "dlt"
        try rw [if_pos zr]
        exact hs_nx ⟨rows ++ [(w, x20 % (most + 1))], _, _, _, _, _, .inr rfl, rowsOk_snoc hrows w1 w2 w3 b2 (by omega), by rw [List.length_append, List.length_singleton]; omega, by rw [hr]⟩
    · rintro _ ⟨rows, s7, s12, s13, s14, s15, h7, hrows, hrl, rfl⟩
      have hS := shp_mk (by omega) (by omega) ho hbase hhl hhd (by omega) hrows
      walk_at "dlt"
      exact hs_rt ⟨hands, _, _, hS, by rw [List.length_map]; exact hrl, htl, rfl⟩
  exact ⟨hands, ties, kinds, t1, t2, t3, e⟩
end Lw

namespace Lw
open PySem L2 DL
/-! ### round tables -/
def ringTs (n : Nat) : List (Int × Int) := (List.range n).map fun k : Nat => ((k : Int), ((k : Int) + 1) % n)
def ringW (n : Nat) (a st : Int) (size : Nat) : List Int := (List.range size).map fun j : Nat => (a + st * j) % n
def walkB (n : Int) (ts : List (Int × Int)) (w : List Int) : Bool := decide w.Nodup && w.all (fun x => decide (0 ≤ x ∧ x < n)) && (w.zip w.tail).all fun p => decide (low p ∈ ts)
theorem walk_of {n : Int} {ts : List (Int × Int)} {w : List Int} (h : walkB n ts w = true) : WalkOk n ts w := by
  unfold walkB at h
  rw [Bool.and_eq_true, Bool.and_eq_true] at h
  obtain ⟨⟨h1, h2⟩, h3⟩ := h
  refine ⟨of_decide_eq_true h1, fun x hx => of_decide_eq_true (List.all_eq_true.1 h2 x hx), fun i x y hx hy => ?_⟩
  refine of_decide_eq_true (List.all_eq_true.1 h3 (x, y) ?_)
  refine List.mem_of_getElem? (i := i) ?_
  rw [List.getElem?_zip_eq_some]
  exact ⟨hx, by rw [List.getElem?_tail]; exact hy⟩
theorem ring_walk_all : (List.range 7).all (fun n => decide (n < 3) || ((List.range n).all fun a => (List.range (n + 1)).all fun size => walkB n ((ringTs n).map low) (ringW n a 1 size) && walkB n ((ringTs n).map low) (ringW n a (-1) size))) = true := by decide +kernel
theorem ring_walk {n : Nat} (h3 : 3 ≤ n) (h6 : n ≤ 6) {a st : Int} (a0 : 0 ≤ a) (a1 : a < n) (hs : st = 1 ∨ st = -1) {size : Nat} (hz : size ≤ n) : WalkOk n ((ringTs n).map low) (ringW n a st size) := by
  have h := List.all_eq_true.1 ring_walk_all n (List.mem_range.2 (by omega))
  rw [decide_eq_false (by omega), Bool.false_or] at h
  have h := List.all_eq_true.1 h a.toNat (List.mem_range.2 (by omega))
  have h := List.all_eq_true.1 h size (List.mem_range.2 (by omega))
  rw [Bool.and_eq_true, show ((a.toNat : Nat) : Int) = a by omega] at h
  rcases hs with rfl | rfl
  · exact walk_of h.1
  · exact walk_of h.2
theorem ring_base_all : (List.range 7).all (fun n => decide (n < 3) || (decide ((ringTs n).map low).Nodup && (ringTs n).all fun p => decide (p.1 ≠ p.2 ∧ 0 ≤ p.1 ∧ p.1 < n ∧ 0 ≤ p.2 ∧ p.2 < n))) = true := by decide +kernel
theorem ring_base {n : Nat} (h3 : 3 ≤ n) (h6 : n ≤ 6) : BaseOk n (ringTs n) := by
  have h := List.all_eq_true.1 ring_base_all n (List.mem_range.2 (by omega))
  rw [decide_eq_false (by omega), Bool.false_or, Bool.and_eq_true] at h
  refine ⟨fun p hp => of_decide_eq_true (List.all_eq_true.1 h.2 p hp), of_decide_eq_true h.1, by unfold ringTs; rw [List.length_map, List.length_range]; omega, ?_⟩
  intro S h0 hS x x0 x1
  have all : ∀ k : Nat, k < n → S (k : Int) := by
    intro k
    induction k with
    | zero => exact fun _ => h0
    | succ k ih =>
      intro hk
      have := (hS ((k : Int), ((k : Int) + 1) % n) (List.mem_map.2 ⟨k, List.mem_range.2 (by omega), rfl⟩)).1 (ih (by omega))
      dsimp only at this
      rw [Int.emod_eq_of_lt (by omega) (by omega)] at this
      exact this
  have := all x.toNat (by omega)
  rwa [show ((x.toNat : Nat) : Int) = x by omega] at this
theorem round_ok {m : Nat} {p : List Int} (hp : PoolOk m p) (hm : m ≤ 1000) (s n kk hh most : Int) (h0 : 0 ≤ s) (hn : 3 ≤ n) (hn6 : n ≤ 6) (hk : 0 ≤ kk) (hk6 : kk ≤ 6) (hh1 : 1 ≤ hh) (hh4 : hh ≤ 4) (hs0 : 0 ≤ most) (hs2 : most ≤ 24) (h1 : s + 12 + 3 * kk ≤ m) :
    ∃ hands ties kinds, ShpOk hands ties kinds ∧ kinds.length = kk.toNat ∧ ties.length ≤ 6 ∧ F_law_round [(true, .lst (p.map D.int)), (true, .int s), (true, .int n), (true, .int kk), (true, .int hh), (true, .int most)] = .ok ⟨.g, shpD hands ties kinds⟩ := by
  obtain ⟨o, ho, eO⟩ := order_ok hp s n (by omega) (by omega) (by omega) hm
  obtain ⟨k, rfl⟩ : ∃ k : Nat, n = k := ⟨n.toNat, by omega⟩
  rw [show ((k : Int)).toNat = k by omega] at ho
  have hol := ord_len ho
  have hbase := ring_base (n := k) (by omega) (by omega)
  have hposk : (0 : Int) < (k : Int) := by omega
  have hhd : ∀ x ∈ (List.range k).map (fun i : Nat => 1 + p.getD (s + 6 + (i : Int)).toNat 0 % hh), 1 ≤ x ∧ x ≤ 4 := fun x hx => by
    obtain ⟨i, _, rfl⟩ := List.mem_map.1 hx
    have a := Int.emod_nonneg (p.getD (s + 6 + (i : Int)).toNat 0) (show hh ≠ 0 by omega)
    have b := Int.emod_lt_of_pos (p.getD (s + 6 + (i : Int)).toNat 0) (show 0 < hh by omega)
    omega
  have htl : ((ringTs k).map (ren2 (ordF o))).length ≤ 6 := by unfold ringTs; rw [List.length_map, List.length_map, List.length_range]; omega
  obtain ⟨u, e, hands, ties, kinds, t1, t2, t3, rfl⟩ : ∃ u, runF 6 17 b_law_round [(true, .lst (p.map D.int)), (true, .int s), (true, .int (k : Int)), (true, .int kk), (true, .int hh), (true, .int most)] = .ok u ∧ ∃ hands ties kinds, ShpOk hands ties kinds ∧ kinds.length = kk.toNat ∧ ties.length ≤ 6 ∧ u = ⟨.g, shpD hands ties kinds⟩ := by
    refine run_hs (R := fun u => ∃ hands ties kinds, ShpOk hands ties kinds ∧ kinds.length = kk.toNat ∧ ties.length ≤ 6 ∧ u = ⟨.g, shpD hands ties kinds⟩) rfl ?_
    unfold b_law_round
    walk_at "dlt"
    rw [eO]
    walk_at "dlt"
    rw [if_pos (rg_in (by omega) (by omega))]
    walk_at "dlt"
    rw [if_pos (show (rngD 0 k).length < sizeLine from lenS (by rw [rngD_len]; omega)), lcO_rng (h := fun i : Nat => dP (ordF o (i : Int), ordF o (((i : Int) + 1) % k)))]
    rotate_left
    · intro i hi
      have a0 := Int.emod_nonneg ((i : Int) + 1) (show (k : Int) ≠ 0 by omega)
      have a1 := Int.emod_lt_of_pos ((i : Int) + 1) hposk
      have e1 : atD (o.map D.int) (i : Int) = .ok (.int (ordF o (i : Int))) := atD_map (by omega) (by omega)
      have e2 : atD (o.map D.int) (((i : Int) + 1) % k) = .ok (.int (ordF o (((i : Int) + 1) % k))) := atD_map a0 (by omega)
      walk_at "dlt"
      rw [e1]
      walk_at "dlt"
      rw [if_pos hposk]
      walk_at "dlt"
      rw [e2]
      rfl
    rw [show (List.map (fun i : Nat => dP (ordF o (i : Int), ordF o (((i : Int) + 1) % k))) (List.range k)) = ((ringTs k).map (ren2 (ordF o))).map dP by unfold ringTs; rw [List.map_map, List.map_map]; rfl]
    walk_at "dlt"
    rw [if_pos (rg_in (by omega) (by omega))]
    walk_at "dlt"
    rw [if_pos (show (rngD 0 k).length < sizeLine from lenS (by rw [rngD_len]; omega)), lcO_rng (h := fun i : Nat => D.int (1 + p.getD (s + 6 + (i : Int)).toNat 0 % hh))]
    rotate_left
    · intro i hi
      have e1 : atD (p.map D.int) (s + 6 + (i : Int)) = _ := atD_map (by omega) (by rw [hp.1]; omega)
      have hp1 : (0 : Int) < hh := by omega
      walk_at "dlt"
      rw [e1]
      walk_at "dlt"
      rw [if_pos hp1]
      try rfl
    rw [show (List.map (fun i : Nat => D.int (1 + p.getD (s + 6 + (i : Int)).toNat 0 % hh)) (List.range k)) = ((List.range k).map fun i : Nat => 1 + p.getD (s + 6 + (i : Int)).toNat 0 % hh).map D.int by rw [List.map_map]; rfl]
    have hhl : ((List.range k).map fun i : Nat => 1 + p.getD (s + 6 + (i : Int)).toNat 0 % hh).length = k := by rw [List.length_map, List.length_range]
    generalize ((List.range k).map fun i : Nat => 1 + p.getD (s + 6 + (i : Int)).toNat 0 % hh) = hands at *
    walk_at "dlt"
    rw [if_pos (rg_in (by omega) (by omega))]
    refine hs_bind (fun e => ∃ rows s7 s12 s13 s14 s16, RowsOk k (ringTs k) rows ∧ rows.length = kk.toNat ∧ e = [.vl true (.lst (p.map D.int)), .vl true (.int s), .vl true (.int k), .vl true (.int kk), .vl true (.int hh), .vl true (.int most), .ow (o.map D.int), s7, .ow (((ringTs k).map (ren2 (ordF o))).map dP), .no, .ow (hands.map D.int), .ow ((rows.map (renK (ordF o))).map dK), s12, s13, s14, .no, s16])
      (hs_forR (fun j e => ∃ rows s7 s12 s13 s14 s16, RowsOk k (ringTs k) rows ∧ rows.length = j ∧ e = [.vl true (.lst (p.map D.int)), .vl true (.int s), .vl true (.int k), .vl true (.int kk), .vl true (.int hh), .vl true (.int most), .ow (o.map D.int), s7, .ow (((ringTs k).map (ren2 (ordF o))).map dP), .no, .ow (hands.map D.int), .ow ((rows.map (renK (ordF o))).map dK), s12, s13, s14, .no, s16]) ⟨[], _, _, _, _, _, rowsOk_nil, rfl, rfl⟩ ?_ fun e h => h) ?_
    · rintro j _ hj ⟨rows, s7, s12, s13, s14, s16, hrows, hrl, rfl⟩
      have e6 : mulI 3 (j : Int) = _ := mulI_200 (by decide) (by omega)
      obtain ⟨x12, e12, _⟩ := pool_at hp (i := s + 12 + 3 * j) (by omega) (by omega)
      obtain ⟨x13, e13, _⟩ := pool_at hp (i := s + 13 + 3 * j) (by omega) (by omega)
      obtain ⟨x14, e14, _⟩ := pool_at hp (i := s + 14 + 3 * j) (by omega) (by omega)
      have e7 : mulI 2 (x13 % 2) = _ := mulI_200 (by decide) (by omega)
      have e8 : divI x13 2 = _ := divI_64 (by omega) (by omega)
      have hpos1 : (0 : Int) < (k : Int) - 1 := by omega
      have hpos2 : (0 : Int) < most + 1 := by omega
      have a0 := Int.emod_nonneg x12 (show (k : Int) ≠ 0 by omega)
      have a1 := Int.emod_lt_of_pos x12 hposk
      have c0 := Int.emod_nonneg (x13 / 2) (show (k : Int) - 1 ≠ 0 by omega)
      have c1 := Int.emod_lt_of_pos (x13 / 2) hpos1
      have b2 := Int.emod_nonneg x14 (show most + 1 ≠ 0 by omega)
      have b3 := Int.emod_lt_of_pos x14 hpos2
      have hst : (1 - 2 * (x13 % 2)) = 1 ∨ (1 - 2 * (x13 % 2)) = -1 := by omega
      have zr : rows.length < sizeLine := (small (by omega)).1
      walk_at "dlt"
      rw [e6]
      walk_at "dlt"
      rw [e12]
      walk_at "dlt"
      rw [if_pos hposk]
      walk_at "dlt"
      rw [e6]
      walk_at "dlt"
      rw [e13]
      walk_at "dlt"
      rw [e7]
      walk_at "dlt"
      rw [e6]
      walk_at "dlt"
      rw [e13]
      walk_at "dlt"
      rw [e8]
      walk_at "dlt"
      rw [if_pos hpos1]
      walk_at "dlt"
      generalize (1 - 2 * (x13 % 2)) = st at *
      generalize x13 / 2 % ((k : Int) - 1) = sz at *
      generalize x12 % (k : Int) = a at *
      have hw := ring_walk (n := k) (by omega) (by omega) a0 a1 hst (size := (2 + sz).toNat) (by omega)
      rw [if_pos (rg_in (by omega) (by omega))]
      walk_at "dlt"
      rw [if_pos (show (rngD 0 (2 + sz).toNat).length < sizeLine from lenS (by rw [rngD_len]; omega)), lcO_rng (h := fun i : Nat => D.int (ordF o ((a + st * i) % k)))]
      rotate_left
      · intro i hi
        have g0 := Int.emod_nonneg (a + st * (i : Int)) (show (k : Int) ≠ 0 by omega)
        have g1 := Int.emod_lt_of_pos (a + st * (i : Int)) hposk
        have e9 : mulI st (i : Int) = _ := mulI_200 (by omega) (by omega)
        have e2 : atD (o.map D.int) ((a + st * (i : Int)) % k) = .ok (.int (ordF o ((a + st * (i : Int)) % k))) := atD_map g0 (by omega)
        walk_at "dlt"
        rw [e9]
        walk_at "dlt"
        rw [if_pos hposk]
        walk_at "dlt"
        rw [e2]
        try rfl
      rw [show (List.map (fun i : Nat => D.int (ordF o ((a + st * i) % k))) (List.range (2 + sz).toNat)) = ((ringW k a st (2 + sz).toNat).map (ordF o)).map D.int by unfold ringW; rw [List.map_map, List.map_map]; rfl]
      have hwl : (ringW k a st (2 + sz).toNat).length = (2 + sz).toNat := by unfold ringW; rw [List.length_map, List.length_range]
      generalize ringW k a st (2 + sz).toNat = w at *
      have hr : (rows ++ [(w, x14 % (most + 1))]).map (renK (ordF o)) = rows.map (renK (ordF o)) ++ [(w.map (ordF o), x14 % (most + 1))] := by rw [List.map_append]; rfl
      walk_at "dlt"
      rw [e6]
      walk_at "dlt"
      rw [e14]
      walk_at "dlt"
      rw [if_pos hpos2]
      walk_at "dlt"
      try rw [if_pos zr]
      exact hs_nx ⟨rows ++ [(w, x14 % (most + 1))], _, _, _, _, _, rowsOk_snoc hrows hw (by omega) (by omega) b2 (by omega), by rw [List.length_append, List.length_singleton]; omega, by rw [hr]⟩
    · rintro _ ⟨rows, s7, s12, s13, s14, s16, hrows, hrl, rfl⟩
      have hS := shp_mk (by omega) (by omega) ho hbase hhl hhd (by omega) hrows
      walk_at "dlt"
      exact hs_rt ⟨hands, _, _, hS, by rw [List.length_map]; exact hrl, htl, rfl⟩
  exact ⟨hands, ties, kinds, t1, t2, t3, e⟩
end Lw

namespace Lw
open PySem L2 DL
/-! ### quick ties, shares, drawn tables, normal forms -/
theorem quick_sub {ties : List (Int × Int)} (f : Nat → Bool) : (((List.range ties.length).filter f).map fun i => ties.getD i (0, 0)).Sublist ties := by
  have h : ((List.range ties.length).map fun i => ties.getD i (0, 0)) = ties := by
    apply List.ext_getElem
    · simp
    · intro i h1 h2
      rw [List.getElem_map, List.getElem_range]
      exact DL.getD_at h2
  conv => rhs; rw [← h]
  exact (List.filter_sublist).map _
theorem lquick_ok {m : Nat} {p : List Int} (hp : PoolOk m p) (hm : m ≤ 1000) (s sh : Int) (ties : List (Int × Int)) (h0 : 0 ≤ s) (hl : ties.length ≤ 100) (hs : 0 < sh) (h1 : s + ties.length ≤ m) :
    ∃ qs : List (Int × Int), qs.Sublist ties ∧ F_law_quick [(true, .lst (p.map D.int)), (true, .int s), (true, .lst (ties.map dP)), (true, .int sh)] = .ok ⟨.o, .lst (qs.map dP)⟩ := by
  refine ⟨_, quick_sub fun i => decide (p.getD (s + (i : Int)).toNat 0 % sh = 0), ?_⟩
  unfold F_law_quick
  rw [runF_eq]
  unfold b_law_quick
  walk_at "dlt"
  rw [if_pos (rg_in (by omega) (by omega))]
  walk_at "dlt"
  rw [if_pos (show (rngD 0 ties.length).length < sizeLine from lenS (by rw [rngD_len]; omega))]
  unfold rngD
  rw [lcO_filter (g := fun i : Nat => .int (0 + i)) (h := fun i : Nat => dP (ties.getD i (0, 0))) (fun i : Nat => decide (p.getD (s + (i : Int)).toNat 0 % sh = 0)) (List.range ties.length)]
  rotate_left
  · intro i hi
    have hi := List.mem_range.1 hi
    have e1 : atD (p.map D.int) (s + (i : Int)) = _ := atD_map (by omega) (by rw [hp.1]; omega)
    have e2 : atD (ties.map dP) (i : Int) = _ := atD_mapF (d := (0, 0)) (by omega) (by omega)
    refine ⟨_, rfl, ?_, fun _ => ?_⟩
    · walk_at "dlt"
      rw [e1]
      walk_at "dlt"
      rw [if_pos hs]
      walk_at "dlt"
    · walk_at "dlt"
      rw [e2]
      rfl
  rw [List.map_map]
  walk_at "dlt"
  rfl
theorem groups_ok {m : Nat} {p : List Int} (hp : PoolOk m p) (hm : m ≤ 1000) (s kk bound : Int) (h0 : 0 ≤ s) (hk : 0 ≤ kk) (hk6 : kk ≤ 6) (hs0 : 0 ≤ bound) (hs2 : bound ≤ 24) (h1 : s + 9 ≤ m) :
    ∃ ss : List (List Int × Int), SharesOk kk ss ∧ F_law_groups [(true, .lst (p.map D.int)), (true, .int s), (true, .int kk), (true, .int bound)] = .ok ⟨.o, .lst (ss.map dK)⟩ := by
  obtain ⟨u, e, ss, t1, rfl⟩ : ∃ u, runF 4 8 b_law_groups [(true, .lst (p.map D.int)), (true, .int s), (true, .int kk), (true, .int bound)] = .ok u ∧ ∃ ss : List (List Int × Int), SharesOk kk ss ∧ u = ⟨.o, .lst (ss.map dK)⟩ := by
    refine run_hs (R := fun u => ∃ ss : List (List Int × Int), SharesOk kk ss ∧ u = ⟨.o, .lst (ss.map dK)⟩) rfl ?_
    unfold b_law_groups
    walk_at "dlt"
    refine hs_bind (fun e => ∃ (ss : List (List Int × Int)) (s5 s7 : Sl), SharesOk kk ss ∧ e = [.vl true (.lst (p.map D.int)), .vl true (.int s), .vl true (.int kk), .vl true (.int bound), .ow (ss.map dK), s5, .no, s7])
      (hs_forR (fun j e => ∃ (ss : List (List Int × Int)) (s5 s7 : Sl), ss.length ≤ j ∧ (∀ t ∈ ss, t.1 ≠ [] ∧ 0 ≤ t.2 ∧ t.2 ≤ 24 ∧ ∀ x ∈ t.1, 0 ≤ x ∧ x < kk) ∧ (ss.flatMap fun t => t.1).Nodup ∧ (∀ x ∈ ss.flatMap fun t => t.1, p.getD (s + x).toNat 0 % 4 < j) ∧ e = [.vl true (.lst (p.map D.int)), .vl true (.int s), .vl true (.int kk), .vl true (.int bound), .ow (ss.map dK), s5, .no, s7]) ?_ ?_ ?_) ?_
    · exact ⟨[], _, _, Nat.le_refl _, fun t ht => absurd ht List.not_mem_nil, List.nodup_nil, fun x hx => absurd hx List.not_mem_nil, rfl⟩
    · rintro j _ hj ⟨ss, s5, s7, a1, a2, a3, a4, rfl⟩
      have hj : j < 3 := hj
      obtain ⟨x6, e6, _⟩ := pool_at hp (i := s + 6 + j) (by omega) (by omega)
      have hpos : (0 : Int) < bound + 1 := by omega
      have b2 := Int.emod_nonneg x6 (show bound + 1 ≠ 0 by omega)
      have b3 := Int.emod_lt_of_pos x6 hpos
      walk_at "dlt"
      rw [if_pos (rg_in (by omega) (by omega))]
      walk_at "dlt"
      rw [if_pos (show (rngD 0 kk.toNat).length < sizeLine from lenS (by rw [rngD_len]; omega))]
      unfold rngD
      rw [lcO_filter (g := fun i : Nat => .int (0 + i)) (h := fun i : Nat => .int i) (fun i : Nat => decide (p.getD (s + (i : Int)).toNat 0 % 4 = (j : Int))) (List.range kk.toNat)]
      rotate_left
      · intro i hi
        have hi := List.mem_range.1 hi
        have e1 : atD (p.map D.int) (s + (i : Int)) = _ := atD_map (by omega) (by rw [hp.1]; omega)
        refine ⟨_, rfl, ?_, fun _ => ?_⟩
        · walk_at "dlt"
          rw [e1]
          walk_at "dlt"
        · walk_at "dlt"
      obtain ⟨w, hwd, hw⟩ : ∃ w : List Int, ((List.range kk.toNat).filter (fun i : Nat => decide (p.getD (s + (i : Int)).toNat 0 % 4 = (j : Int)))).map (fun i : Nat => D.int i) = w.map D.int ∧ w.Nodup ∧ (∀ x ∈ w, 0 ≤ x ∧ x < kk ∧ p.getD (s + x).toNat 0 % 4 = j) ∧ w.length ≤ 6 := by
        refine ⟨((List.range kk.toNat).filter (fun i : Nat => decide (p.getD (s + (i : Int)).toNat 0 % 4 = (j : Int)))).map fun i : Nat => (i : Int), by rw [List.map_map]; rfl, ?_, fun x hx => ?_, ?_⟩
        · exact List.Pairwise.map _ (fun a b hab z => hab (by omega)) (List.nodup_range.sublist List.filter_sublist)
        · obtain ⟨i, hi, rfl⟩ := List.mem_map.1 hx
          obtain ⟨g1, g2⟩ := List.mem_filter.1 hi
          have g1 := List.mem_range.1 g1
          exact ⟨by omega, by omega, of_decide_eq_true g2⟩
        · rw [List.length_map]
          have := (List.filter_sublist (l := List.range kk.toNat) (p := fun i : Nat => decide (p.getD (s + (i : Int)).toNat 0 % 4 = (j : Int)))).length_le
          rw [List.length_range] at this
          omega
      rw [hwd]
      clear hwd
      walk_at "dlt"
      have zr : ss.length < sizeLine := (small (by omega)).1
      have zw : w.length ≤ sizeLine := (small (by omega)).2
      by_cases hw0 : w = []
      · rw [if_neg (not_not_intro hw0)]
        exact hs_nx ⟨ss, _, _, by omega, a2, a3, fun x hx => by have := a4 x hx; omega, rfl⟩
      · rw [if_pos hw0]
        walk_at "dlt"
        rw [e6]
        walk_at "dlt"
        rw [if_pos hpos]
        walk_at "dlt"
        try rw [if_pos zr]
        refine hs_nx ⟨ss ++ [(w, x6 % (bound + 1))], _, _, by rw [List.length_append, List.length_singleton]; omega, fun t ht => ?_, ?_, fun x hx => ?_, rfl⟩
        · rcases List.mem_append.1 ht with ht | ht
          · exact a2 t ht
          · rw [List.mem_singleton.1 ht]
            exact ⟨hw0, b2, by dsimp only; omega, fun x hx => ⟨(hw.2.1 x hx).1, (hw.2.1 x hx).2.1⟩⟩
        · rw [List.flatMap_append]
          simp only [List.flatMap_cons, List.flatMap_nil, List.append_nil]
          refine List.nodup_append.2 ⟨a3, hw.1, fun x hx y hy => ?_⟩
          rintro rfl
          have h1 := a4 x hx
          have h2 := (hw.2.1 x hy).2.2
          omega
        · rw [List.flatMap_append] at hx
          simp only [List.flatMap_cons, List.flatMap_nil, List.append_nil] at hx
          rcases List.mem_append.1 hx with hx | hx
          · have := a4 x hx
            omega
          · have := (hw.2.1 x hx).2.2
            omega
    · rintro e ⟨ss, s5, s7, a1, a2, a3, a4, h⟩
      refine ⟨ss, s5, s7, ⟨a1, a2, a3, ?_⟩, h⟩
      have := nodup_le kk.toNat (ss.flatMap fun t => t.1) a3 fun x hx => by
        obtain ⟨t, ht, hxt⟩ := List.mem_flatMap.1 hx
        have := (a2 t ht).2.2.2 x hxt
        omega
      omega
    · rintro _ ⟨ss, s5, s7, t1, rfl⟩
      walk_at "dlt"
      exact hs_rt ⟨ss, t1, rfl⟩
  exact ⟨ss, t1, e⟩
end Lw

namespace Lw
open PySem L2 DL
/-! ### normal forms, as the law has them -/
theorem low_min (p : Int × Int) : (min p.1 p.2, max p.1 p.2) = low p := by
  unfold low
  by_cases h : p.2 < p.1
  · rw [if_pos h]
    congr 1 <;> omega
  · rw [if_neg h]
    congr 1 <;> omega
section
variable {x0 x1 x2 x3 x4 x5 x6 x7 x8 : Sl}
theorem lc_mins (ps : List (Int × Int)) : lcO (nmT 3) yesT (tupE (consA (callE minAC (consA (nmE 3) nilA)) (consA (callE maxAC (consA (nmE 3) nilA)) nilA))) .g [x0, x1, x2, x3, x4, x5, x6, x7, x8] (ps.map dP) = .ok ((ps.map low).map dP) := by
  rw [List.map_map]
  refine lcO_map (g := dP) (h := dP ∘ low) ps fun p _ => ?_
  walk_at "dlt"
  show Res.ok (dP (min p.1 p.2, max p.1 p.2)) = _
  rw [low_min]
  rfl
theorem lc_nshares (ss : List (List Int × Int)) : lcO (nmT 3) yesT (tupE (consA (callE tupleC (consA (callE sortAC (consA (binE ixP (nmE 3) (cE (.int 0))) nilA)) nilA)) (consA (binE ixP (nmE 3) (cE (.int 1))) nilA))) .g [x0, x1, x2, x3, x4, x5, x6, x7, x8] (ss.map dK) = .ok ((ss.map nS).map dK) := by
  rw [List.map_map]
  refine lcO_map (g := dK) (h := dK ∘ nS) ss fun k _ => ?_
  walk_at "dlt"
  rfl
theorem lc_nkinds (ks : List (List Int × Int)) : lcO (nmT 7) yesT (tupE (consA (callE tupleC (consA (binE ixP (nmE 7) (cE (.int 0))) nilA)) (consA (binE ixP (nmE 7) (cE (.int 1))) nilA))) .g [x0, x1, x2, x3, x4, x5, x6, x7, x8] (ks.map dK) = .ok (ks.map dK) := by
  refine lcO_map (g := dK) (h := dK) ks fun k _ => ?_
  walk_at "dlt"
  try rfl
end
def fieldsD (T : Tab) : D := .tup [.tup (T.hands.map D.int), .tup (T.ties.map dP), .tup (T.kinds.map dK), .tup (T.quick.map dP), .tup (T.shares.map dK)]
theorem atD5 {a b c d e : D} : atD [a, b, c, d, e] 0 = .ok a ∧ atD [a, b, c, d, e] 1 = .ok b ∧ atD [a, b, c, d, e] 2 = .ok c ∧ atD [a, b, c, d, e] 3 = .ok d ∧ atD [a, b, c, d, e] 4 = .ok e := ⟨rfl, rfl, rfl, rfl, rfl⟩
theorem atD3 {a b c : D} : atD [a, b, c] 0 = .ok a ∧ atD [a, b, c] 1 = .ok b ∧ atD [a, b, c] 2 = .ok c := ⟨rfl, rfl, rfl⟩
theorem normal_eq (hands : List Int) (ties : List (Int × Int)) (kinds : List (List Int × Int)) (qs : List (Int × Int)) (ss : List (List Int × Int)) (h1 : ties.length ≤ 1000) (h2 : kinds.length ≤ 1000) (h3 : qs.length ≤ 1000) (h4 : ss.length ≤ 1000) :
    F_law_normal [(true, shpD hands ties kinds), (true, .lst (ss.map dK)), (true, .lst (qs.map dP))] = .ok ⟨.g, fieldsD (Tab.mk hands ties kinds qs ss).norm⟩ := by
  have z1 := lenS h1
  have z2 := lenS h2
  have z3 := lenS h3
  have z4 := lenS h4
  have a := @atD3
  unfold F_law_normal
  rw [runF_eq]
  unfold b_law_normal shpD
  walk_at "dlt"
  rw [(atD3 ..).2.1]
  walk_at "dlt"
  rw [if_pos z1, lc_mins]
  walk_at "dlt"
  rw [if_pos z3, lc_mins]
  walk_at "dlt"
  rw [if_pos z4, lc_nshares]
  walk_at "dlt"
  rw [(atD3 ..).2.2]
  walk_at "dlt"
  rw [if_pos z2, lc_nkinds]
  walk_at "dlt"
  rw [(atD3 ..).1]
  walk_at "dlt"
  rfl
end Lw

namespace Lw
open PySem L2 DL
/-! ### normal forms are tables that may be, and are told alike -/
theorem s_ints (n : Nat) (xs : List Int) (h : xs.length ≤ 1000) : sOk (n + 1) (.tup (xs.map D.int)) := ⟨by rw [List.length_map]; omega, fun x hx => by
  obtain ⟨y, _, rfl⟩ := List.mem_map.1 hx
  cases n <;> exact trivial⟩
theorem s_pairs (n : Nat) (xs : List (Int × Int)) (h : xs.length ≤ 1000) : sOk (n + 2) (.tup (xs.map dP)) := ⟨by rw [List.length_map]; omega, fun x hx => by
  obtain ⟨y, _, rfl⟩ := List.mem_map.1 hx
  exact s_ints n [y.1, y.2] (by show 2 ≤ 1000; decide)⟩
theorem s_kinds (n : Nat) (xs : List (List Int × Int)) (h : xs.length ≤ 1000) (h2 : ∀ k ∈ xs, k.1.length ≤ 1000) : sOk (n + 3) (.tup (xs.map dK)) := ⟨by rw [List.length_map]; omega, fun x hx => by
  obtain ⟨y, hy, rfl⟩ := List.mem_map.1 hx
  refine ⟨by show 2 ≤ 1000000; decide, fun z hz => ?_⟩
  rcases List.mem_cons.1 hz with rfl | hz
  · exact s_ints n y.1 (h2 y hy)
  · rw [List.mem_singleton.1 hz]
    exact trivial⟩
structure Tab.Fit (T : Tab) : Prop where
  h : T.hands.length ≤ 1000
  t : T.ties.length ≤ 1000
  k : T.kinds.length ≤ 1000 ∧ ∀ k ∈ T.kinds, k.1.length ≤ 1000
  q : T.quick.length ≤ 1000
  s : T.shares.length ≤ 1000 ∧ ∀ k ∈ T.shares, k.1.length ≤ 1000
theorem s_fields (n : Nat) (T : Tab) (h : T.Fit) : sOk (n + 4) (fieldsD T) := ⟨by show 5 ≤ 1000000; decide, fun x hx => by
  rcases List.mem_cons.1 hx with rfl | hx
  · exact s_ints (n + 2) _ h.h
  rcases List.mem_cons.1 hx with rfl | hx
  · exact s_pairs (n + 1) _ h.t
  rcases List.mem_cons.1 hx with rfl | hx
  · exact s_kinds n _ h.k.1 h.k.2
  rcases List.mem_cons.1 hx with rfl | hx
  · exact s_pairs (n + 1) _ h.q
  rw [List.mem_singleton.1 hx]
  exact s_kinds n _ h.s.1 h.s.2⟩
theorem norm_lows (T : Tab) : (T.norm.ties.map low).Perm (T.ties.map low) := by
  show ((srtBy dP (T.ties.map low)).map low).Perm _
  refine ((srtBy_perm dP _).map low).trans ?_
  rw [List.map_map, show (low ∘ low) = low from funext low_idem]
theorem norm_lowsQ (T : Tab) : (T.norm.quick.map low).Perm (T.quick.map low) := by
  show ((srtBy dP (T.quick.map low)).map low).Perm _
  refine ((srtBy_perm dP _).map low).trans ?_
  rw [List.map_map, show (low ∘ low) = low from funext low_idem]
theorem low_range {n : Int} {p : Int × Int} (h : p.1 ≠ p.2 ∧ 0 ≤ p.1 ∧ p.1 < n ∧ 0 ≤ p.2 ∧ p.2 < n) : (low p).1 ≠ (low p).2 ∧ 0 ≤ (low p).1 ∧ (low p).1 < n ∧ 0 ≤ (low p).2 ∧ (low p).2 < n := by
  rcases low_cases p with ⟨a, b, _⟩ | ⟨a, b, _⟩ <;> omega
theorem nS_perm (s : List Int × Int) : (nS s).1.Perm s.1 := srtBy_perm D.int s.1
theorem flat_nS (ss : List (List Int × Int)) : ((ss.map nS).flatMap fun s => s.1).Perm (ss.flatMap fun s => s.1) := by
  induction ss with
  | nil => exact .refl _
  | cons s ss ih =>
    rw [List.map_cons, List.flatMap_cons, List.flatMap_cons]
    exact (nS_perm s).append ih
theorem norm_shares {m : Int} {ss : List (List Int × Int)} (h : SharesOk m ss) : SharesOk m (srtBy dK (ss.map nS)) := by
  have p := srtBy_perm dK (ss.map nS)
  have f : ((srtBy dK (ss.map nS)).flatMap fun s => s.1).Perm (ss.flatMap fun s => s.1) := (p.flatMap_right _).trans (flat_nS ss)
  refine ⟨by rw [p.length_eq, List.length_map]; exact h.1, fun s hs => ?_, f.nodup_iff.2 h.2.2.1, by rw [f.length_eq]; exact h.2.2.2⟩
  obtain ⟨r, hr, rfl⟩ := List.mem_map.1 (p.mem_iff.1 hs)
  obtain ⟨a, b, c, d⟩ := h.2.1 r hr
  refine ⟨fun z => a ?_, b, c, fun k hk => d k ((nS_perm r).mem_iff.1 hk)⟩
  have := (nS_perm r).length_eq
  rw [z] at this
  exact List.eq_nil_of_length_eq_zero this.symm
theorem norm_ok {T : Tab} (h : T.Ok) : T.norm.Ok := by
  have l1 : T.norm.ties.length = T.ties.length := by
    show (srtBy dP (T.ties.map low)).length = _
    rw [(srtBy_perm dP _).length_eq, List.length_map]
  have l2 : T.norm.quick.length = T.quick.length := by
    show (srtBy dP (T.quick.map low)).length = _
    rw [(srtBy_perm dP _).length_eq, List.length_map]
  have mem : ∀ p ∈ T.norm.ties, ∃ q ∈ T.ties, low q = p := fun p hp => List.mem_map.1 ((srtBy_perm dP (T.ties.map low)).mem_iff.1 hp)
  refine ⟨h.n1, h.n6, h.hands, ⟨fun p hp => ?_, (norm_lows T).nodup_iff.2 h.ties.2.1, by rw [l1]; exact h.ties.2.2⟩, fun S h0 hS => ?_, ?_, ?_, ?_⟩
  · obtain ⟨q, hq, rfl⟩ := mem p hp
    exact low_range (h.ties.1 q hq)
  · refine h.conn S h0 fun p hp => ?_
    have hm : low p ∈ T.norm.ties := (srtBy_perm dP (T.ties.map low)).mem_iff.2 (List.mem_map_of_mem hp)
    have := hS _ hm
    rcases low_cases p with ⟨a, b, _⟩ | ⟨a, b, _⟩
    · rwa [a, b] at this
    · rw [a, b] at this
      exact this.symm
  · refine ⟨h.kinds.1, fun k hk => ⟨?_, (h.kinds.2 k hk).2⟩⟩
    obtain ⟨a, b, c, d, e⟩ := (h.kinds.2 k hk).1
    exact ⟨a, b, c, d, fun i x y hx hy => (norm_lows T).mem_iff.2 (e i x y hx hy)⟩
  · refine ⟨fun p hp => ?_, (norm_lowsQ T).nodup_iff.2 h.quick.2.1, by rw [l2]; exact h.quick.2.2⟩
    obtain ⟨q, hq, rfl⟩ := List.mem_map.1 ((srtBy_perm dP (T.quick.map low)).mem_iff.1 hp)
    rw [low_idem]
    exact (norm_lows T).mem_iff.2 (h.quick.1 q hq)
  · exact norm_shares h.shares
theorem ok_told {T : Tab} (h : T.Ok) : T.Told := ⟨h.n1, h.n6, h.ties.2.2, fun w hw => by
  obtain ⟨a, b, c, d, _⟩ := (h.kinds.2 w hw).1
  exact ⟨a, b, c, d⟩⟩
theorem mem_flat_len {ss : List (List Int × Int)} {s : List Int × Int} (h : s ∈ ss) : s.1.length ≤ (ss.flatMap fun s => s.1).length := by
  induction ss with
  | nil => exact absurd h List.not_mem_nil
  | cons t ss ih =>
    rw [List.flatMap_cons, List.length_append]
    rcases List.mem_cons.1 h with rfl | h
    · omega
    · have := ih h
      omega
theorem ok_fit {T : Tab} (h : T.Ok) : T.Fit := ⟨by have := h.n6; unfold Tab.n at this; omega, by have := h.ties.2.2; omega, ⟨by have := h.kinds.1; omega, fun k hk => by have := ((h.kinds.2 k hk).1).2.1; omega⟩, by have := h.quick.2.2; omega, ⟨by have := h.shares.1; omega, fun k hk => by have := mem_flat_len hk; have := h.shares.2.2.2; omega⟩⟩
theorem fields_same {T : Tab} (h : T.Fit) : F_law_fields [(true, tabD T), (true, fieldsD T)] = .ok ⟨.g, .bl true⟩ := by
  have e : F_law_same 12 [(true, fieldsD T), (true, fieldsD T)] = _ := same_refl 11 (fieldsD T) true true (s_fields 7 T h)
  unfold F_law_fields
  rw [runF_eq]
  unfold b_law_fields
  walk_at "dlt"
  rw [fl_hands, fl_ties, fl_kinds, fl_quick, fl_shares]
  walk_at "dlt"
  rw [show D.tup [D.tup (T.hands.map D.int), D.tup (T.ties.map dP), D.tup (T.kinds.map dK), D.tup (T.quick.map dP), D.tup (T.shares.map dK)] = fieldsD T from rfl, e]
  walk_at "dlt"
end Lw

namespace Lw
open PySem L2 DL
/-! ### sorted lists of the same items are the same -/
theorem srt_anti {α : Type} (v : α → D) (hal : ∀ a b, PySem.W.alike (toPy (v a)) (toPy (v b)) = true) (hinj : ∀ a b, PyData.eqv (toPy (v a)) (toPy (v b)) = true → a = b) (a b : α) (h1 : PySem.W.dataLt (toPy (v b)) (toPy (v a)) = false) (h2 : PySem.W.dataLt (toPy (v a)) (toPy (v b)) = false) : a = b := by
  have hk : PySem.W.keyToks (toPy (v a)) = PySem.W.keyToks (toPy (v b)) := (PyProof.Rows.listOrd PyProof.Rows.itemOrd).total _ _ h2 h1
  refine hinj a b ?_
  cases he : PyData.eqv (toPy (v a)) (toPy (v b)) with
  | true => rfl
  | false =>
    have e1 := (PySem.W.toks_eqv _ _ (hal a b)).2 he [Sum.inl 0] [Sum.inl 1]
    rw [hk, PySem.W.lex_pre, PySem.W.lex_one] at e1
    have e2 : PySem.W.dataLt (toPy (v b)) (toPy (v b)) = false := PySem.W.dataLt_self _
    unfold PySem.W.dataLt at e2
    rw [e2] at e1
    cases e1
theorem all_same {α : Type} : ∀ {l m : List α}, l.Perm m → (∀ a ∈ l, ∀ b ∈ l, a = b) → l = m
  | [], m, p, _ => p.nil_eq
  | x :: l, [], p, _ => absurd p.symm.nil_eq (by simp)
  | x :: l, y :: m, p, h => by
    have e : x = y := h x List.mem_cons_self y (p.mem_iff.2 List.mem_cons_self)
    subst e
    rw [all_same (List.Perm.cons_inv p) fun a ha b hb => h a (List.mem_cons_of_mem _ ha) b (List.mem_cons_of_mem _ hb)]
theorem srtBy_uniq {α : Type} (v : α → D) (hal : ∀ a b, PySem.W.alike (toPy (v a)) (toPy (v b)) = true) (hinj : ∀ a b, PyData.eqv (toPy (v a)) (toPy (v b)) = true → a = b) {xs ys : List α} (h : xs.Perm ys) : srtBy v xs = srtBy v ys := by
  have tot : PySem.W.TotalLe (fun a b : α => !PySem.W.dataLt (toPy (v b)) (toPy (v a))) := PySem.W.sortLe_total (PyProof.Rows.listOrd PyProof.Rows.itemOrd) false fun a => PySem.W.keyToks (toPy (v a))
  refine PySem.W.sort_unique tot (PySem.W.sort_pairwise tot xs) fun c => ?_
  have rank : ∀ a, PySem.W.sameRank (fun a b : α => !PySem.W.dataLt (toPy (v b)) (toPy (v a))) c a = true → a = c := fun a ha => by
    unfold PySem.W.sameRank at ha
    rw [Bool.and_eq_true, Bool.not_eq_true', Bool.not_eq_true'] at ha
    exact (srt_anti v hal hinj c a ha.1 ha.2).symm
  refine all_same (((srtBy_perm v xs).trans h).filter _) fun a ha b hb => ?_
  rw [rank a (List.mem_filter.1 ha).2, rank b (List.mem_filter.1 hb).2]
theorem sortP_uniq {xs ys : List (Int × Int)} (h : xs.Perm ys) : srtBy dP xs = srtBy dP ys := by
  refine srtBy_uniq dP (fun a b => by show PySem.W.alike (.tuple [.int a.1, .int a.2]) (.tuple [.int b.1, .int b.2]) = true; simp [PySem.W.alike, PySem.W.alikeAll]) (fun a b e => ?_) h
  have e : ((a.1 == b.1) && ((a.2 == b.2) && true)) = true := e
  simp only [Bool.and_true, Bool.and_eq_true, beq_iff_eq] at e
  exact Prod.ext e.1 e.2
theorem sortK_uniq {xs ys : List (List Int × Int)} (h : xs.Perm ys) : srtBy dK xs = srtBy dK ys := by
  refine srtBy_uniq dK (fun a b => by show PySem.W.alike (.tuple [.tuple (toPyL (a.1.map D.int)), .int a.2]) (.tuple [.tuple (toPyL (b.1.map D.int)), .int b.2]) = true; simp [PySem.W.alike, PySem.W.alikeAll, alikeAll_int]) (fun a b e => ?_) h
  have e : (PyData.eqvAll (toPyL (a.1.map D.int)) (toPyL (b.1.map D.int)) && ((a.2 == b.2) && true)) = true := e
  rw [toPyL_ints, toPyL_ints, eqvAll_ints] at e
  simp only [Bool.and_true, Bool.and_eq_true, beq_iff_eq, decide_eq_true_eq] at e
  exact Prod.ext e.1 e.2
theorem srtI_le (a b : Int) : (!PySem.W.dataLt (toPy (D.int b)) (toPy (D.int a))) = decide (a ≤ b) := by
  show (!PySem.W.dataLt (.int b) (.int a)) = _
  rw [PySem.W.dataLt_int]
  by_cases h : b < a
  · rw [decide_eq_true h, decide_eq_false (by omega)]
    rfl
  · rw [decide_eq_false h, decide_eq_true (by omega)]
    rfl
theorem sortI_self {xs : List Int} (h : xs.Pairwise (· ≤ ·)) : srtBy D.int xs = xs := List.mergeSort_of_pairwise (h.imp fun {a b} hab => by rw [srtI_le]; exact decide_eq_true hab)
theorem sortI_uniq {xs ys : List Int} (h : xs.Perm ys) : srtBy D.int xs = srtBy D.int ys := srtBy_uniq D.int (fun a b => by show PySem.W.alike (.int a) (.int b) = true; simp [PySem.W.alike]) (fun a b e => by
  have e : (a == b) = true := e
  exact eq_of_beq e) h
theorem sortI_of {xs ys : List Int} (h : xs.Perm ys) (hs : ys.Pairwise (· ≤ ·)) : srtBy D.int xs = ys := (sortI_uniq h).trans (sortI_self hs)
theorem sortI_sorted (xs : List Int) : (srtBy D.int xs).Pairwise (· ≤ ·) := by
  have tot : PySem.W.TotalLe (fun a b : Int => !PySem.W.dataLt (toPy (D.int b)) (toPy (D.int a))) := PySem.W.sortLe_total (PyProof.Rows.listOrd PyProof.Rows.itemOrd) false fun a => PySem.W.keyToks (toPy (D.int a))
  exact (PySem.W.sort_pairwise tot xs).imp fun {a b} h => by rw [srtI_le] at h; exact of_decide_eq_true h
/-! ### neighbours in plain -/
def LowTies (n : Int) (ts : List (Int × Int)) : Prop := (∀ p ∈ ts, 0 ≤ p.1 ∧ p.1 < p.2 ∧ p.2 < n) ∧ ts.Nodup
theorem norm_low {T : Tab} (h : T.Ok) : LowTies T.n T.norm.ties := by
  have p := srtBy_perm dP (T.ties.map low)
  refine ⟨fun q hq => ?_, p.nodup_iff.2 h.ties.2.1⟩
  obtain ⟨r, hr, rfl⟩ := List.mem_map.1 (p.mem_iff.1 hq)
  have h1 := h.ties.1 r hr
  rcases low_cases r with ⟨a, b, _⟩ | ⟨a, b, _⟩ <;> omega
theorem mem_nbF {x q : Int} {ts : List (Int × Int)} : q ∈ nbF x ts ↔ (x, q) ∈ ts ∨ (q, x) ∈ ts := by
  unfold nbF
  rw [List.mem_flatMap]
  constructor
  · rintro ⟨⟨a, b⟩, hp, hq⟩
    dsimp only at hq
    rcases List.mem_append.1 hq with hq | hq
    · split at hq
      · rename_i h; rw [List.mem_singleton.1 hq, ← h]; exact .inl hp
      · cases hq
    · split at hq
      · rename_i h; rw [List.mem_singleton.1 hq, ← h]; exact .inr hp
      · cases hq
  · rintro (h | h)
    · exact ⟨_, h, List.mem_append_left _ (by simp)⟩
    · exact ⟨_, h, List.mem_append_right _ (by simp)⟩
theorem mem_low {n : Int} {ts : List (Int × Int)} (h : LowTies n ts) {x q : Int} : ((x, q) ∈ ts ∨ (q, x) ∈ ts) ↔ low (x, q) ∈ ts := by
  unfold low
  dsimp only
  constructor
  · rintro (hp | hp)
    · have := (h.1 _ hp).2.1
      dsimp only at this
      rw [if_neg (by omega)]
      exact hp
    · have := (h.1 _ hp).2.1
      dsimp only at this
      rw [if_pos (by omega)]
      exact hp
  · intro hp
    split at hp
    · exact .inr hp
    · exact .inl hp
theorem nbF_nodup {n : Int} {ts : List (Int × Int)} (h : LowTies n ts) (x : Int) : (nbF x ts).Nodup := by
  unfold nbF List.Nodup
  rw [List.pairwise_flatMap]
  refine ⟨fun p hp => ?_, h.2.imp_of_mem fun {p q} hp hq hne a ha b hb => ?_⟩
  · have := h.1 p hp
    split <;> split <;> first
      | (exfalso; omega)
      | simp
  · rintro rfl
    have h1 := h.1 p hp
    have h2 := h.1 q hq
    obtain ⟨p1, p2⟩ := p
    obtain ⟨q1, q2⟩ := q
    have e1 : (p1 = x ∧ p2 = a) ∨ (p2 = x ∧ p1 = a) := by
      rcases List.mem_append.1 ha with ha | ha <;> split at ha
      · rename_i z; exact .inl ⟨z, (List.mem_singleton.1 ha).symm⟩
      · cases ha
      · rename_i z; exact .inr ⟨z, (List.mem_singleton.1 ha).symm⟩
      · cases ha
    have e2 : (q1 = x ∧ q2 = a) ∨ (q2 = x ∧ q1 = a) := by
      rcases List.mem_append.1 hb with hb | hb <;> split at hb
      · rename_i z; exact .inl ⟨z, (List.mem_singleton.1 hb).symm⟩
      · cases hb
      · rename_i z; exact .inr ⟨z, (List.mem_singleton.1 hb).symm⟩
      · cases hb
    dsimp only at h1 h2
    apply hne
    rcases e1 with ⟨a1, a2⟩ | ⟨a1, a2⟩ <;> rcases e2 with ⟨b1, b2⟩ | ⟨b1, b2⟩
    · rw [a1, a2, b1, b2]
    · exfalso; omega
    · exfalso; omega
    · rw [a1, a2, b1, b2]
theorem nbs_plain {n : Nat} {ts : List (Int × Int)} (h : LowTies n ts) (x : Int) : nbs x ts = ((List.range n).filter fun q : Nat => decide (low (x, (q : Int)) ∈ ts)).map fun q : Nat => (q : Int) := by
  refine sortI_of ((List.perm_ext_iff_of_nodup (nbF_nodup h x) (List.Pairwise.map _ (fun a b hab z => hab (by omega)) (List.nodup_range.sublist List.filter_sublist))).2 fun q => ?_) ?_
  · rw [mem_nbF, mem_low h, List.mem_map]
    constructor
    · intro hq
      have hr : 0 ≤ q ∧ q < n := by
        rcases (mem_low h).2 hq with hp | hp <;> (have := h.1 _ hp; dsimp only at this; omega)
      refine ⟨q.toNat, List.mem_filter.2 ⟨List.mem_range.2 (by omega), decide_eq_true ?_⟩, by omega⟩
      rw [show ((q.toNat : Nat) : Int) = q by omega]
      exact hq
    · rintro ⟨i, hi, rfl⟩
      exact of_decide_eq_true (List.mem_filter.1 hi).2
  · exact List.Pairwise.map _ (fun a b hab => by omega) (List.pairwise_lt_range.sublist List.filter_sublist)
theorem mem_nbs {n : Int} {ts : List (Int × Int)} (h : LowTies n ts) {x q : Int} : q ∈ nbs x ts ↔ low (x, q) ∈ ts := by
  unfold nbs
  rw [(srtBy_perm D.int _).mem_iff, mem_nbF, mem_low h]
end Lw

namespace Lw
open PySem L2 DL
theorem drawn_ok {m : Nat} {p : List Int} (hp : PoolOk m p) (hm : m ≤ 1000) (h1 : 98 ≤ m) :
    ∃ hands ties kinds, ShpOk hands ties kinds ∧ kinds.length ≤ 6 ∧ ties.length ≤ 15 ∧ F_law_drawn [(true, .lst (p.map D.int))] = .ok ⟨.g, shpD hands ties kinds⟩ := by
  obtain ⟨x0, e0, _⟩ := pool_at hp (i := 0) (by omega) (by omega)
  obtain ⟨x2, e2, _⟩ := pool_at hp (i := 2) (by omega) (by omega)
  obtain ⟨x6, e6, _⟩ := pool_at hp (i := 6) (by omega) (by omega)
  obtain ⟨x8, e8, _⟩ := pool_at hp (i := 8) (by omega) (by omega)
  unfold F_law_drawn
  rw [runF_eq]
  unfold b_law_drawn
  by_cases c0 : x0 % 4 = 0
  · obtain ⟨hands, ties, kinds, t1, t2, t3, e⟩ := round_ok hp hm 10 (3 + x2 % 4) (x8 % 7) (1 + x6 % 4) 24 (by omega) (by omega) (by omega) (by omega) (by omega) (by omega) (by omega) (by omega) (by omega) (by omega)
    refine ⟨hands, ties, kinds, t1, by omega, by omega, ?_⟩
    walk_at "dlt"
    rw [e0]
    walk_at "dlt"
    rw [e8]
    walk_at "dlt"
    rw [if_pos c0, e2]
    walk_at "dlt"
    rw [e6]
    walk_at "dlt"
    rw [e]
    walk_at "dlt"
  by_cases c1 : x0 % 4 = 1
  · obtain ⟨hands, ties, kinds, t1, t2, t3, e⟩ := web_shape_ok hp hm (2 + x2 % 5) (x8 % 7) (1 + x6 % 4) 24 (by omega) (by omega) (by omega) (by omega) (by omega) (by omega) (by omega) (by omega) (by omega)
    refine ⟨hands, ties, kinds, t1, by omega, by omega, ?_⟩
    walk_at "dlt"
    rw [e0]
    walk_at "dlt"
    rw [e8]
    walk_at "dlt"
    rw [if_neg c0]
    walk_at "dlt"
    rw [if_pos c1, e2]
    walk_at "dlt"
    rw [e6]
    walk_at "dlt"
    rw [e]
    walk_at "dlt"
  · obtain ⟨hands, ties, kinds, t1, t2, t3, e⟩ := shape_ok hp hm 10 (1 + x2 % 6) (x8 % 7) (1 + x6 % 4) 24 (by omega) (by omega) (by omega) (by omega) (by omega) (by omega) (by omega) (by omega) (by omega) (by omega)
    refine ⟨hands, ties, kinds, t1, by omega, by omega, ?_⟩
    walk_at "dlt"
    rw [e0]
    walk_at "dlt"
    rw [e8]
    walk_at "dlt"
    rw [if_neg c0]
    walk_at "dlt"
    rw [if_neg c1]
    walk_at "dlt"
    rw [e2]
    walk_at "dlt"
    rw [e6]
    walk_at "dlt"
    rw [e]
    walk_at "dlt"
/-! ### what is due, what is told -/
def refD (v : Str) : D := .tup [.str "refused", .str v, .bl true]
def toldD (d : D) : D := .tup [.str "told", d]
def ansD (T : Tab) (which one two : Int) : D :=
  if which < 3 then
    if 0 ≤ one ∧ one < T.kinds.length then
      if which = 2 then toldD (optD (shI one T.shares))
      else if 0 ≤ two ∧ two < T.n then (if which = 0 then toldD (optD (nxt (T.way one) two)) else toldD (optD (stp (T.way one) two)))
      else refD "person"
    else refD "kind"
  else if 0 ≤ one ∧ one < T.n then
    if which = 3 then toldD (.tup ((nbs one T.ties).map D.int))
    else if 0 ≤ two ∧ two < T.n then (if which = 4 then toldD (.bl (decide (low (one, two) ∈ T.ties))) else toldD (.bl (decide (low (one, two) ∈ T.quick))))
    else refD "person"
  else refD "person"
theorem low_if (a b : Int) : low (a, b) = (if b < a then b else a, if b > a then b else a) := by
  unfold low
  dsimp only
  by_cases h : b < a
  · rw [if_pos h, if_pos h, if_neg (by omega)]
  · rw [if_neg h, if_neg h]
    by_cases h2 : b > a
    · rw [if_pos h2]
    · rw [if_neg h2, show b = a by omega]
theorem fld0 (T : Tab) : atD [D.tup (T.hands.map D.int), .tup (T.ties.map dP), .tup (T.kinds.map dK), .tup (T.quick.map dP), .tup (T.shares.map dK)] 0 = .ok (.tup (T.hands.map D.int)) := rfl
theorem fld1 (T : Tab) : atD [D.tup (T.hands.map D.int), .tup (T.ties.map dP), .tup (T.kinds.map dK), .tup (T.quick.map dP), .tup (T.shares.map dK)] 1 = .ok (.tup (T.ties.map dP)) := rfl
theorem fld2 (T : Tab) : atD [D.tup (T.hands.map D.int), .tup (T.ties.map dP), .tup (T.kinds.map dK), .tup (T.quick.map dP), .tup (T.shares.map dK)] 2 = .ok (.tup (T.kinds.map dK)) := rfl
theorem fld3 (T : Tab) : atD [D.tup (T.hands.map D.int), .tup (T.ties.map dP), .tup (T.kinds.map dK), .tup (T.quick.map dP), .tup (T.shares.map dK)] 3 = .ok (.tup (T.quick.map dP)) := rfl
theorem fld4 (T : Tab) : atD [D.tup (T.hands.map D.int), .tup (T.ties.map dP), .tup (T.kinds.map dK), .tup (T.quick.map dP), .tup (T.shares.map dK)] 4 = .ok (.tup (T.shares.map dK)) := rfl
theorem way_at {T : Tab} {k : Int} (h0 : 0 ≤ k) (h1 : k < T.kinds.length) : atD (T.kinds.map dK) k = .ok (.tup [.tup ((T.way k).map D.int), .int (T.kinds.getD k.toNat ([], 0)).2]) := atD_mapF (d := ([], 0)) h0 h1
theorem nxt_last {w : List Int} (hd : w.Nodup) {x l : Int} (hx : x ∈ w) (hl : w.getLast? = some l) : (x = l → nxt w x = none) ∧ (x ≠ l → ∃ y, w[w.idxOf x + 1]? = some y ∧ nxt w x = some y) := by
  have h1 := List.idxOf_lt_length_iff.2 hx
  have h2 : w[w.idxOf x] = x := List.getElem_idxOf h1
  have h3 : w[w.length - 1]? = some l := by rw [← hl, List.getLast?_eq_getElem?]
  constructor
  · rintro rfl
    unfold nxt
    rw [if_pos hx]
    obtain ⟨h4, h5⟩ := List.getElem?_eq_some_iff.1 h3
    have := (List.getElem_inj (h₀ := h1) (h₁ := h4) hd).1 (h2.trans h5.symm)
    rw [List.getElem?_eq_none (by omega)]
  · intro hne
    have : w.idxOf x + 1 < w.length := by
      by_cases h : w.idxOf x + 1 < w.length
      · exact h
      · exfalso
        apply hne
        have e : w.length - 1 = w.idxOf x := by omega
        rw [e, List.getElem?_eq_getElem h1, h2] at h3
        exact Option.some.inj h3
    refine ⟨w[w.idxOf x + 1], List.getElem?_eq_getElem this, ?_⟩
    unfold nxt
    rw [if_pos hx, List.getElem?_eq_getElem this]
theorem atD_lastD {w : List Int} {l : Int} (hl : w.getLast? = some l) : atD (w.map D.int) (-1) = .ok (.int l) := by
  obtain ⟨r, rfl⟩ : ∃ r, w = r ++ [l] := List.getLast?_eq_some_iff.1 hl
  exact atD_last r l
theorem ans0 (T : Tab) (one two : Int) : ansD T 0 one two = if 0 ≤ one ∧ one < T.kinds.length then (if 0 ≤ two ∧ two < T.n then toldD (optD (nxt (T.way one) two)) else refD "person") else refD "kind" := rfl
theorem ans1 (T : Tab) (one two : Int) : ansD T 1 one two = if 0 ≤ one ∧ one < T.kinds.length then (if 0 ≤ two ∧ two < T.n then toldD (optD (stp (T.way one) two)) else refD "person") else refD "kind" := rfl
theorem ans2 (T : Tab) (one two : Int) : ansD T 2 one two = if 0 ≤ one ∧ one < T.kinds.length then toldD (optD (shI one T.shares)) else refD "kind" := rfl
theorem ans3 (T : Tab) (one two : Int) : ansD T 3 one two = if 0 ≤ one ∧ one < T.n then toldD (.tup ((nbs one T.ties).map D.int)) else refD "person" := rfl
theorem ans4 (T : Tab) (one two : Int) : ansD T 4 one two = if 0 ≤ one ∧ one < T.n then (if 0 ≤ two ∧ two < T.n then toldD (.bl (decide (low (one, two) ∈ T.ties))) else refD "person") else refD "person" := rfl
theorem ans5 (T : Tab) (one two : Int) : ansD T 5 one two = if 0 ≤ one ∧ one < T.n then (if 0 ≤ two ∧ two < T.n then toldD (.bl (decide (low (one, two) ∈ T.quick))) else refD "person") else refD "person" := rfl
theorem atD_cons0 {x : D} {xs : List D} : atD (x :: xs) 0 = .ok x := atD_in (p := x :: xs) (i := 0) (by decide) (by rw [List.length_cons]; omega)
theorem due_eq {T : Tab} (hT : T.Ok) (hl : LowTies T.n T.ties) (which one two : Int) (h0 : 0 ≤ which) (h6 : which < 6) : F_law_due [(true, fieldsD T), (true, .int which), (true, .int one), (true, .int two)] = .ok ⟨.g, ansD T which one two⟩ := by
  have e1 : (T.hands.length : Int) = T.n := rfl
  have f0 := fld0 T
  have f1 := fld1 T
  have f2 := fld2 T
  have f3 := fld3 T
  have f4 := fld4 T
  unfold F_law_due
  rw [runF_eq]
  unfold b_law_due fieldsD
  have hw : which = 0 ∨ which = 1 ∨ which = 2 ∨ which = 3 ∨ which = 4 ∨ which = 5 := by omega
  have hn6 := hT.n6
  have hn1 := hT.n1
  clear h0 h6
  rcases hw with rfl | rfl | rfl | rfl | rfl | rfl
  · rw [ans0]
    by_cases k0 : one < 0
    · rw [if_neg (c := 0 ≤ one ∧ one < _) (by omega)]
      walk_at "dlh"
      rfl
    by_cases k1 : one ≥ T.kinds.length
    · rw [if_neg (c := 0 ≤ one ∧ one < _) (by omega)]
      walk_at "dlh"
      rfl
    rw [if_pos (c := 0 ≤ one ∧ one < _) (by omega)]
    by_cases t0 : two < 0
    · rw [if_neg (c := 0 ≤ two ∧ two < _) (by omega)]
      walk_at "dlh"
      rfl
    by_cases t1 : two ≥ T.n
    · rw [if_neg (c := 0 ≤ two ∧ two < _) (by omega)]
      walk_at "dlh"
      rfl
    rw [if_pos (c := 0 ≤ two ∧ two < _) (by omega)]
    have g1 := way_at (T := T) (k := one) (by omega) (by omega)
    obtain ⟨w2, w3, w4, w5⟩ := (ok_told hT).kinds _ (way_mem (T := T) (k := one) (by omega) (by omega))
    have w2 : 2 ≤ (T.way one).length := w2
    have w3 : (T.way one).length ≤ 40 := w3
    have w4 : (T.way one).Nodup := w4
    clear w5
    generalize (T.kinds.getD one.toNat ([], 0)).2 = mst at *
    generalize T.way one = w at *
    obtain ⟨l, hlast⟩ : ∃ l, w.getLast? = some l := by
      cases h : w.getLast? with
      | none => rw [List.getLast?_eq_none_iff.1 h] at w2; simp at w2
      | some l => exact ⟨l, rfl⟩
    have g2 := atD_lastD hlast
    by_cases hin : two ∈ w
    · obtain ⟨n1, n2⟩ := nxt_last w4 hin hlast
      have g3 : ixF w two = _ := ixF_in hin (by omega)
      by_cases hla : two = l
      · rw [n1 hla]
        subst hla
        clear n1 n2
        walk_at "dlh"
        try rfl
      · obtain ⟨y, y1, y2⟩ := n2 hla
        have g4 : atD (w.map D.int) ((w.idxOf two : Nat) + 1) = .ok (.int y) := atD_get y1
        rw [y2]
        clear n1 n2 y1 y2
        walk_at "dlh"
        try rfl
    · rw [show nxt w two = none by unfold nxt; rw [if_neg hin]]
      walk_at "dlh"
      try rfl
  · rw [ans1]
    by_cases k0 : one < 0
    · rw [if_neg (c := 0 ≤ one ∧ one < _) (by omega)]
      walk_at "dlh"
      rfl
    by_cases k1 : one ≥ T.kinds.length
    · rw [if_neg (c := 0 ≤ one ∧ one < _) (by omega)]
      walk_at "dlh"
      rfl
    rw [if_pos (c := 0 ≤ one ∧ one < _) (by omega)]
    by_cases t0 : two < 0
    · rw [if_neg (c := 0 ≤ two ∧ two < _) (by omega)]
      walk_at "dlh"
      rfl
    by_cases t1 : two ≥ T.n
    · rw [if_neg (c := 0 ≤ two ∧ two < _) (by omega)]
      walk_at "dlh"
      rfl
    rw [if_pos (c := 0 ≤ two ∧ two < _) (by omega)]
    have g1 := way_at (T := T) (k := one) (by omega) (by omega)
    obtain ⟨w2, w3, w4, w5⟩ := (ok_told hT).kinds _ (way_mem (T := T) (k := one) (by omega) (by omega))
    have w3 : (T.way one).length ≤ 40 := w3
    clear w2 w4 w5
    generalize (T.kinds.getD one.toNat ([], 0)).2 = mst at *
    generalize T.way one = w at *
    by_cases hin : two ∈ w
    · have g3 : ixF w two = _ := ixF_in hin (by omega)
      rw [show stp w two = some ((w.idxOf two : Nat) : Int) by unfold stp; rw [if_pos hin]]
      walk_at "dlh"
      try rfl
    · rw [show stp w two = none by unfold stp; rw [if_neg hin]]
      walk_at "dlh"
      try rfl
  · rw [ans2]
    by_cases k0 : one < 0
    · rw [if_neg (c := 0 ≤ one ∧ one < _) (by omega)]
      walk_at "dlh"
      rfl
    by_cases k1 : one ≥ T.kinds.length
    · rw [if_neg (c := 0 ≤ one ∧ one < _) (by omega)]
      walk_at "dlh"
      rfl
    rw [if_pos (c := 0 ≤ one ∧ one < _) (by omega)]
    have hs3 := hT.shares.1
    have r1 : rg (T.shares.length : Int) = true := rg_in (by omega) (by omega)
    have r2 : (rngD 0 T.shares.length).length < sizeLine := lenS (by rw [rngD_len]; omega)
    walk_at "dlh"
    unfold rngD
    rw [lcO_filter (g := fun i : Nat => .int (0 + i)) (h := fun i : Nat => .int i) (fun i : Nat => decide (one ∈ (T.shares.getD i ([], 0)).1)) (List.range T.shares.length)]
    rotate_left
    · intro i hi
      have hi := List.mem_range.1 hi
      have g1 : atD (T.shares.map dK) (i : Int) = .ok (dK (T.shares.getD i ([], 0))) := atD_mapF (d := ([], 0)) (by omega) (by omega)
      generalize T.shares.getD i ([], 0) = sh at *
      refine ⟨_, rfl, ?_, fun _ => ?_⟩
      · walk_at "dlh"
      · walk_at "dlt"
    have hI : shI one T.shares = (((List.range T.shares.length).filter fun i => decide (one ∈ (T.shares.getD i ([], 0)).1)).map fun i : Nat => (i : Int)).head? := by
      unfold shI
      cases (List.range T.shares.length).filter fun i => decide (one ∈ (T.shares.getD i ([], 0)).1) <;> rfl
    rw [hI, show List.map (fun i : Nat => D.int i) ((List.range T.shares.length).filter fun i => decide (one ∈ (T.shares.getD i ([], 0)).1)) = (((List.range T.shares.length).filter fun i => decide (one ∈ (T.shares.getD i ([], 0)).1)).map fun i : Nat => (i : Int)).map D.int by rw [List.map_map]; rfl]
    clear hI
    generalize ((List.range T.shares.length).filter fun i => decide (one ∈ (T.shares.getD i ([], 0)).1)).map (fun i : Nat => (i : Int)) = F
    by_cases hF : F = []
    · subst hF
      walk_at "dlh"
      rfl
    · cases F with
      | nil => exact absurd rfl hF
      | cons j rest =>
        have g2 : atD ((j :: rest).map D.int) 0 = .ok (.int j) := atD_cons0
        generalize hG : j :: rest = G at hF g2
        walk_at "dlh"
        rw [← hG]
        rfl
  · rw [ans3]
    by_cases k0 : one < 0
    · rw [if_neg (c := 0 ≤ one ∧ one < _) (by omega)]
      walk_at "dlh"
      rfl
    by_cases k1 : one ≥ T.n
    · rw [if_neg (c := 0 ≤ one ∧ one < _) (by omega)]
      walk_at "dlh"
      rfl
    rw [if_pos (c := 0 ≤ one ∧ one < _) (by omega)]
    have r1 : rg T.n = true := rg_in (by omega) (by omega)
    have r2 : (rngD 0 T.n.toNat).length < sizeLine := lenS (by rw [rngD_len]; omega)
    walk_at "dlh"
    unfold rngD
    rw [lcO_filter (g := fun i : Nat => .int (0 + i)) (h := fun i : Nat => .int i) (fun i : Nat => decide (low (one, (i : Int)) ∈ T.ties)) (List.range T.n.toNat)]
    rotate_left
    · intro i hi
      refine ⟨_, rfl, ?_, fun _ => ?_⟩
      · walk_at "dlh"
        rw [low_if]
      · walk_at "dlt"
    rw [show T.n = ((T.n.toNat : Nat) : Int) by omega] at hl
    rw [nbs_plain hl, List.map_map]
    walk_at "dlt"
    rfl
  · rw [ans4]
    by_cases k0 : one < 0
    · rw [if_neg (c := 0 ≤ one ∧ one < _) (by omega)]
      walk_at "dlh"
      rfl
    by_cases k1 : one ≥ T.n
    · rw [if_neg (c := 0 ≤ one ∧ one < _) (by omega)]
      walk_at "dlh"
      rfl
    rw [if_pos (c := 0 ≤ one ∧ one < _) (by omega)]
    by_cases t0 : two < 0
    · rw [if_neg (c := 0 ≤ two ∧ two < _) (by omega)]
      walk_at "dlh"
      rfl
    by_cases t1 : two ≥ T.n
    · rw [if_neg (c := 0 ≤ two ∧ two < _) (by omega)]
      walk_at "dlh"
      rfl
    rw [if_pos (c := 0 ≤ two ∧ two < _) (by omega), low_if]
    walk_at "dlh"
    rfl
  · rw [ans5]
    by_cases k0 : one < 0
    · rw [if_neg (c := 0 ≤ one ∧ one < _) (by omega)]
      walk_at "dlh"
      rfl
    by_cases k1 : one ≥ T.n
    · rw [if_neg (c := 0 ≤ one ∧ one < _) (by omega)]
      walk_at "dlh"
      rfl
    rw [if_pos (c := 0 ≤ one ∧ one < _) (by omega)]
    by_cases t0 : two < 0
    · rw [if_neg (c := 0 ≤ two ∧ two < _) (by omega)]
      walk_at "dlh"
      rfl
    by_cases t1 : two ≥ T.n
    · rw [if_neg (c := 0 ≤ two ∧ two < _) (by omega)]
      walk_at "dlh"
      rfl
    rw [if_pos (c := 0 ≤ two ∧ two < _) (by omega), low_if]
    walk_at "dlh"
    rfl
end Lw

namespace Lw
open PySem L2 DL
abbrev toB : En → Out := (seqO (ifO (valT (binE (eqP false) (nmE 1) (cE (.int 0)))) (frzO [2, 3] (retO (tupE (consA (cE (.str "told")) (consA (callMX "Table" "wants" F_Table_wants (nmE 0) (consA (nmE 2) (consA (nmE 3) nilA))) nilA))))) nextO) (seqO (ifO (valT (binE (eqP false) (nmE 1) (cE (.int 1)))) (frzO [2, 3] (retO (tupE (consA (cE (.str "told")) (consA (callMX "Table" "steps_to" F_Table_steps_to (nmE 0) (consA (nmE 2) (consA (nmE 3) nilA))) nilA))))) nextO) (seqO (ifO (valT (binE (eqP false) (nmE 1) (cE (.int 2)))) (frzO [2] (retO (tupE (consA (cE (.str "told")) (consA (callMX "Table" "share_of" F_Table_share_of (nmE 0) (consA (nmE 2) nilA)) nilA))))) nextO) (seqO (ifO (valT (binE (eqP false) (nmE 1) (cE (.int 3)))) (frzO [2] (retO (tupE (consA (cE (.str "told")) (consA (callMX "Table" "neighbours" F_Table_neighbours (nmE 0) (consA (nmE 2) nilA)) nilA))))) nextO) (seqO (ifO (valT (binE (eqP false) (nmE 1) (cE (.int 4)))) (frzO [2, 3] (retO (tupE (consA (cE (.str "told")) (consA (callMX "Table" "is_tied" F_Table_is_tied (nmE 0) (consA (nmE 2) (consA (nmE 3) nilA))) nilA))))) nextO) (frzO [2, 3] (retO (tupE (consA (cE (.str "told")) (consA (callMX "Table" "is_quick" F_Table_is_quick (nmE 0) (consA (nmE 2) (consA (nmE 3) nilA))) nilA))))))))))
abbrev toS : En → Out := (seqO (setO 5 (andE (isXT 4 cs_all ys_HandsatworkError) (isXT 4 cs_all ys_ValueError))) (retO (tupE (consA (cE (.str "refused")) (consA (xfE 4 "NoSuch" "what") (consA (andE (nmE 5) (notE (isXT 4 cs_all ys_BadTable))) nilA))))))
theorem told_form : b_law_told = tryO 4 (cmOf cs_all ys_NoSuch) toB toS := rfl
section
variable {T : Tab} {a1 a2 a3 : D} {v : Str}
theorem try_no (h : toB [.vl true (tabD T), .vl true a1, .vl true a2, .vl true a3, .no, .no] = .ex [.vl true (tabD T), .vl true a1, .vl true a2, .vl true a3, .no, .no] (exS "NoSuch" "what" v)) : tryO 4 (cmOf cs_all ys_NoSuch) toB toS [.vl true (tabD T), .vl true a1, .vl true a2, .vl true a3, .no, .no] = .rt ⟨.g, refD v⟩ := by
  unfold tryO
  rw [h]
  kernel_rfl
theorem try_ok {u : Vl} (h : toB [.vl true (tabD T), .vl true a1, .vl true a2, .vl true a3, .no, .no] = .rt u) : tryO 4 (cmOf cs_all ys_NoSuch) toB toS [.vl true (tabD T), .vl true a1, .vl true a2, .vl true a3, .no, .no] = .rt u := by
  unfold tryO
  rw [h]
end
theorem told_of {T : Tab} {a1 a2 a3 : D} {u : Vl} (h : b_law_told [.vl true (tabD T), .vl true a1, .vl true a2, .vl true a3, .no, .no] = .rt u) : F_law_told [(true, tabD T), (true, a1), (true, a2), (true, a3)] = .ok u := by
  unfold F_law_told
  rw [runF_eq]
  show (b_law_told [.vl true (tabD T), .vl true a1, .vl true a2, .vl true a3, .no, .no]).val = _
  rw [h]
  rfl
theorem told_eq {T : Tab} (hT : T.Ok) (hl : LowTies T.n T.ties) (which one two : Int) (h0 : 0 ≤ which) (h6 : which < 6) : F_law_told [(true, tabD T), (true, .int which), (true, .int one), (true, .int two)] = .ok ⟨.g, ansD T which one two⟩ := by
  apply told_of
  rw [told_form]
  have ht := ok_told hT
  have m0 := wantsM_eq ht one two
  have m1 := stepsM_eq ht one two
  have m2 := shareM_eq T one
  have m3 := nb_eq ht one
  have m4 := tied_eq ht one two
  have m5 := isquick_eq T one two
  have i0 : insV "Table" "wants" ⟨.g, tabD T⟩ = .ok ⟨.g, tabD T⟩ := in_Tab _ rfl
  have i1 : insV "Table" "steps_to" ⟨.g, tabD T⟩ = .ok ⟨.g, tabD T⟩ := in_Tab _ rfl
  have i2 : insV "Table" "share_of" ⟨.g, tabD T⟩ = .ok ⟨.g, tabD T⟩ := in_Tab _ rfl
  have i3 : insV "Table" "neighbours" ⟨.g, tabD T⟩ = .ok ⟨.g, tabD T⟩ := in_Tab _ rfl
  have i4 : insV "Table" "is_tied" ⟨.g, tabD T⟩ = .ok ⟨.g, tabD T⟩ := in_Tab _ rfl
  have i5 : insV "Table" "is_quick" ⟨.g, tabD T⟩ = .ok ⟨.g, tabD T⟩ := in_Tab _ rfl
  unfold noSuch at m0 m1 m2 m3 m4 m5
  have hw : which = 0 ∨ which = 1 ∨ which = 2 ∨ which = 3 ∨ which = 4 ∨ which = 5 := by omega
  clear h0 h6
  rcases hw with rfl | rfl | rfl | rfl | rfl | rfl
  · rw [ans0]
    clear m1 m2 m3 m4 m5
    by_cases c : 0 ≤ one ∧ one < T.kinds.length
    · rw [if_pos c] at m0 ⊢
      by_cases d : 0 ≤ two ∧ two < T.n
      · rw [if_pos d] at m0 ⊢
        apply try_ok
        clear c d
        walk_at "dlh"
        rfl
      · rw [if_neg d] at m0 ⊢
        apply try_no
        clear c d
        walk_at "dlh"
    · rw [if_neg c] at m0 ⊢
      apply try_no
      clear c
      walk_at "dlh"
  · rw [ans1]
    clear m0 m2 m3 m4 m5
    by_cases c : 0 ≤ one ∧ one < T.kinds.length
    · rw [if_pos c] at m1 ⊢
      by_cases d : 0 ≤ two ∧ two < T.n
      · rw [if_pos d] at m1 ⊢
        apply try_ok
        clear c d
        walk_at "dlh"
        rfl
      · rw [if_neg d] at m1 ⊢
        apply try_no
        clear c d
        walk_at "dlh"
    · rw [if_neg c] at m1 ⊢
      apply try_no
      clear c
      walk_at "dlh"
  · rw [ans2]
    clear m0 m1 m3 m4 m5
    by_cases c : 0 ≤ one ∧ one < T.kinds.length
    · rw [if_pos c] at m2 ⊢
      apply try_ok
      clear c
      walk_at "dlh"
      rfl
    · rw [if_neg c] at m2 ⊢
      apply try_no
      clear c
      walk_at "dlh"
  · rw [ans3]
    clear m0 m1 m2 m4 m5
    by_cases c : 0 ≤ one ∧ one < T.n
    · rw [if_pos c] at m3 ⊢
      apply try_ok
      clear c
      walk_at "dlh"
      rfl
    · rw [if_neg c] at m3 ⊢
      apply try_no
      clear c
      walk_at "dlh"
  · rw [ans4]
    clear m0 m1 m2 m3 m5
    rw [show decide (low (one, two) ∈ T.ties) = decide (two ∈ nbs one T.ties) from decide_eq_decide.2 (mem_nbs hl).symm]
    by_cases c : 0 ≤ one ∧ one < T.n
    · rw [if_pos c]
      by_cases d : 0 ≤ two ∧ two < T.n
      · rw [if_pos ⟨c.1, c.2, d⟩] at m4
        rw [if_pos d]
        apply try_ok
        clear c d
        walk_at "dlh"
        rfl
      · rw [if_neg fun z => d z.2.2] at m4
        rw [if_neg d]
        apply try_no
        clear c d
        walk_at "dlh"
    · rw [if_neg fun z => c ⟨z.1, z.2.1⟩] at m4
      rw [if_neg c]
      apply try_no
      clear c
      walk_at "dlh"
  · rw [ans5]
    clear m0 m1 m2 m3 m4
    by_cases c : 0 ≤ one ∧ one < T.n
    · rw [if_pos c]
      by_cases d : 0 ≤ two ∧ two < T.n
      · rw [if_pos ⟨c.1, c.2, d⟩] at m5
        rw [if_pos d]
        apply try_ok
        clear c d
        walk_at "dlh"
        rfl
      · rw [if_neg fun z => d z.2.2] at m5
        rw [if_neg d]
        apply try_no
        clear c d
        walk_at "dlh"
    · rw [if_neg fun z => c ⟨z.1, z.2.1⟩] at m5
      rw [if_neg c]
      apply try_no
      clear c
      walk_at "dlh"
end Lw

namespace Lw
open PySem L2 DL
def grD (T : Tab) : D := .tup [.bl (decide ((T.ties.length : Int) = T.n - 1)), .bl (decide (3 ≤ T.n) && ((List.range T.hands.length).map fun (i : Nat) => decide ((nbs i T.ties).length = 2)).all id), .bl ((T.hands.map fun x => decide (x = 1)).all id)]
theorem nb_count {n : Int} {ts : List (Int × Int)} (h : LowTies n ts) (x : Int) : (nbs x ts).length = (ts.filter fun p => decide (x = p.1 ∨ x = p.2)).length := by
  unfold nbs
  rw [(srtBy_perm D.int _).length_eq]
  have h1 := h.1
  clear h
  induction ts with
  | nil => rfl
  | cons p ts ih =>
    have hp := h1 p List.mem_cons_self
    have := ih fun q hq => h1 q (List.mem_cons_of_mem _ hq)
    unfold nbF at this ⊢
    rw [List.flatMap_cons, List.length_append, this, List.filter_cons]
    by_cases c1 : p.1 = x
    · rw [if_pos c1, if_neg (by omega), decide_eq_true (.inl c1.symm)]
      simp
      omega
    · by_cases c2 : p.2 = x
      · rw [if_neg c1, if_pos c2, decide_eq_true (.inr c2.symm)]
        simp
        omega
      · rw [if_neg c1, if_neg c2, decide_eq_false (fun z => by rcases z with z | z <;> omega)]
        simp
theorem cnt0 {α : Type} (f : α → Bool) (xs : List α) : decide (((xs.filter f).length : Int) = 0) = xs.all fun x => !f x := by
  induction xs with
  | nil => rfl
  | cons x xs ih =>
    rw [List.filter_cons, List.all_cons, ← ih]
    cases f x with
    | true =>
      rw [if_pos rfl, decide_eq_false (by rw [List.length_cons]; omega)]
      rfl
    | false => rw [if_neg Bool.false_ne_true]; rfl
theorem grounds_eq {T : Tab} (hT : T.Ok) (hl : LowTies T.n T.ties) : F_law_grounds [(true, fieldsD T)] = .ok ⟨.g, grD T⟩ := by
  have e1 : (T.hands.length : Int) = T.n := rfl
  have hn6 := hT.n6
  have hn1 := hT.n1
  have ht := hT.ties.2.2
  unfold F_law_grounds
  rw [runF_eq]
  unfold b_law_grounds fieldsD
  walk_at "dlt"
  rw [fld0]
  walk_at "dlt"
  rw [e1, if_pos (rg_in (by omega) (by omega))]
  walk_at "dlt"
  rw [if_pos (show (rngD 0 T.hands.length).length < sizeLine from lenS (by rw [rngD_len]; unfold Tab.n at hn6; omega)), lcO_rng (h := fun i : Nat => D.int ((nbs i T.ties).length : Nat))]
  rotate_left
  · intro i hi
    walk_at "dlt"
    rw [fld1]
    walk_at "dlt"
    rw [if_pos (lenS (show T.ties.length ≤ 1000 by omega)), lcO_filter (g := dP) (h := dP) (fun p => decide ((i : Int) = p.1 ∨ (i : Int) = p.2)) T.ties]
    rotate_left
    · intro p hp
      refine ⟨_, rfl, ?_, fun _ => ?_⟩
      · walk_at "dlt"
        rw [show D.tup [D.int p.1, D.int p.2] = .tup ([p.1, p.2].map D.int) from rfl, inB_int_tup]
        walk_at "dlt"
        rw [show decide ((i : Int) ∈ [p.1, p.2]) = decide ((i : Int) = p.1 ∨ (i : Int) = p.2) from decide_eq_decide.2 (by simp)]
      · walk_at "dlt"
    rw [nb_count hl]
    walk_at "dlt"
  rw [show List.map (fun i : Nat => D.int ((nbs i T.ties).length : Nat)) (List.range T.hands.length) = ((List.range T.hands.length).map fun i : Nat => ((nbs i T.ties).length : Int)).map D.int by rw [List.map_map]; rfl]
  have hC : ((List.range T.hands.length).map fun (i : Nat) => decide ((nbs i T.ties).length = 2)).all id = decide (((((List.range T.hands.length).map fun i : Nat => ((nbs i T.ties).length : Int)).filter fun x => !decide (x = 2)).length : Int) = 0) := by
    rw [cnt0, List.all_map, List.all_map]
    congr 1
    funext i
    simp only [Function.comp, id]
    rw [Bool.not_not]
    exact decide_eq_decide.2 (by omega)
  have hH : (T.hands.map fun x => decide (x = 1)).all id = decide (((T.hands.filter fun x => !decide (x = 1)).length : Int) = 0) := by
    rw [cnt0, List.all_map]
    congr 1
    funext x
    simp only [Function.comp, id]
    rw [Bool.not_not]
  have lh : T.hands.length < sizeLine := lenS (by unfold Tab.n at hn6; omega)
  have lC : ((List.range T.hands.length).map fun i : Nat => ((nbs i T.ties).length : Int)).length < sizeLine := by rw [List.length_map, List.length_range]; exact lh
  unfold grD
  rw [hC, hH]
  generalize ((List.range T.hands.length).map fun i : Nat => ((nbs i T.ties).length : Int)) = C at *
  walk_at "dlt"
  have fin : ∀ b : Bool, b = (decide (3 ≤ T.n) && decide (((C.filter fun x => !decide (x = 2)).length : Int) = 0)) → (frzO [6, 5] (retO (tupE (consA (binE (eqP false) (callE lenC (consA (binE ixP (nmE 0) (cE (D.int 1))) nilA)) (binE (intP subI) (nmE 1) (cE (D.int 1)))) (consA (nmE 6) (consA (binE (eqP false) (callE lenC (consA (lcE (seqI (binE ixP (nmE 0) (cE (D.int 0)))) (nmT 5) (valT (binE (eqP true) (nmE 5) (cE (D.int 1)))) (nmE 5) [5]) nilA)) (cE (D.int 0))) nilA)))))
      [.vl true (.tup [D.tup (T.hands.map D.int), .tup (T.ties.map dP), .tup (T.kinds.map dK), .tup (T.quick.map dP), .tup (T.shares.map dK)]), .vl true (.int T.n), .no, .no, .vl true (.lst (C.map D.int)), .no, .vl true (.bl b)]).val =
      .ok ⟨.g, .tup [.bl (decide ((T.ties.length : Int) = T.n - 1)), .bl (decide (3 ≤ T.n) && decide (((C.filter fun x => !decide (x = 2)).length : Int) = 0)), .bl (decide (((T.hands.filter fun x => !decide (x = 1)).length : Int) = 0))]⟩ := by
    intro b hb
    rw [← hb]
    walk_at "dlt"
    rw [fld1]
    walk_at "dlt"
    rw [fld0]
    walk_at "dlt"
    rw [if_pos lh, lcO_filter (g := D.int) (h := D.int) (fun x => !decide (x = 1)) T.hands]
    rotate_left
    · intro x hx
      refine ⟨_, rfl, ?_, fun _ => ?_⟩
      · walk_at "dlt"
      · walk_at "dlt"
    walk_at "dlt"
  by_cases c : 2 < T.n
  · rw [if_pos c, if_pos lC, lcO_filter (g := D.int) (h := D.int) (fun x => !decide (x = 2)) C]
    rotate_left
    · intro x hx
      refine ⟨_, rfl, ?_, fun _ => ?_⟩
      · walk_at "dlt"
      · walk_at "dlt"
    have := fin (decide (((C.filter fun x => !decide (x = 2)).length : Int) = 0)) (by rw [decide_eq_true (show 3 ≤ T.n by omega), Bool.true_and])
    rw [← this]
    walk_at "dlt"
  · rw [if_neg c]
    have := fin false (by rw [decide_eq_false (show ¬ 3 ≤ T.n by omega), Bool.false_and])
    rw [← this]
    walk_at "dlt"
end Lw

namespace Lw
open PySem L2 DL
theorem s_opt (n : Nat) (o : Option Int) : sOk n (optD o) := by
  cases o <;> cases n <;> exact trivial
theorem s_toldD {n : Nat} {d : D} (h : sOk n d) : sOk (n + 1) (toldD d) := ⟨by show 2 ≤ 1000000; decide, fun x hx => by
  rcases List.mem_cons.1 hx with rfl | hx
  · cases n <;> exact trivial
  · rw [List.mem_singleton.1 hx]
    exact h⟩
theorem s_refD (n : Nat) (v : Str) : sOk (n + 1) (refD v) := ⟨by show 3 ≤ 1000000; decide, fun x hx => by
  rcases List.mem_cons.1 hx with rfl | hx
  · cases n <;> exact trivial
  rcases List.mem_cons.1 hx with rfl | hx
  · cases n <;> exact trivial
  · rw [List.mem_singleton.1 hx]
    cases n <;> exact trivial⟩
theorem s_ans {T : Tab} (hT : T.Ok) (which one two : Int) : sOk 11 (ansD T which one two) := by
  have hn : (nbs one T.ties).length ≤ 1000 := by
    unfold nbs
    rw [(srtBy_perm D.int _).length_eq]
    have := nbF_len one T.ties
    have := hT.ties.2.2
    omega
  unfold ansD
  repeat' split
  all_goals first
    | exact s_refD _ _
    | exact s_toldD (s_opt _ _)
    | exact s_toldD (s_ints _ _ hn)
    | exact s_toldD trivial
theorem s_gr (T : Tab) : sOk 11 (grD T) := ⟨by show 3 ≤ 1000000; decide, fun x hx => by
  rcases List.mem_cons.1 hx with rfl | hx
  · exact trivial
  rcases List.mem_cons.1 hx with rfl | hx
  · exact trivial
  · rw [List.mem_singleton.1 hx]
    exact trivial⟩
theorem pick5 (a b c d e x : Int) : ∃ y, atD [D.int a, .int b, .int c, .int d, .int e] (x % 5) = .ok (.int y) := by
  have h : x % 5 = 0 ∨ x % 5 = 1 ∨ x % 5 = 2 ∨ x % 5 = 3 ∨ x % 5 = 4 := by omega
  rcases h with h | h | h | h | h <;> rw [h]
  · exact ⟨_, atD5.1⟩
  · exact ⟨_, atD5.2.1⟩
  · exact ⟨_, atD5.2.2.1⟩
  · exact ⟨_, atD5.2.2.2.1⟩
  · exact ⟨_, atD5.2.2.2.2⟩
theorem hs_weak {N : En → Prop} {R : Vl → Prop} {B C : En → Prop} {Y : En → Exn → Prop} {o : Out} (h : Out.hs N R (fun _ => False) (fun _ => False) Y o) : Out.hs N R B C Y o := by
  cases h with
  | nx h => exact .nx h
  | rt h => exact .rt h
  | ex h => exact .ex h
  | bk h => exact h.elim
  | ct h => exact h.elim
theorem made_ok {hands : List Int} {ties : List (Int × Int)} {kinds : List (List Int × Int)} {qs : List (Int × Int)} {ss : List (List Int × Int)} (hT : (Tab.mk hands ties kinds qs ss).Ok) (h1 : ties.length ≤ 1000) (h2 : kinds.length ≤ 1000) (h3 : qs.length ≤ 1000) (h4 : ss.length ≤ 1000) :
    ∃ T : Tab, F_law_normal [(true, shpD hands ties kinds), (true, .lst (ss.map dK)), (true, .lst (qs.map dP))] = .ok ⟨.g, fieldsD T⟩ ∧
      F_Table_init [(true, .lst (hands.map D.int)), (true, .lst (ties.map dP)), (true, .lst (kinds.map dK)), (true, .lst (qs.map dP)), (true, .lst (ss.map dK))] = .ok ⟨.g, tabD T⟩ ∧ T.Ok ∧ LowTies T.n T.ties := by
  refine ⟨(Tab.mk hands ties kinds qs ss).norm, normal_eq hands ties kinds qs ss h1 h2 h3 h4, ?_, norm_ok hT, norm_low hT⟩
  have e := init_ok true _ hT
  have ek : kinds.map (dKs true) = kinds.map dK := List.map_congr_left fun k _ => rfl
  rw [ek] at e
  exact e
theorem law_true (ns : List Int) : F_law [(true, .fz (ns.map D.int))] = .ok ⟨.g, .bl true⟩ := by
  obtain ⟨_, eP, p, rfl, hp⟩ := pool_hs true true ns 130 (by decide)
  have eP : F_law_pool [(true, .fz (ns.map D.int)), (true, .int 130)] = .ok ⟨.o, .lst (p.map D.int)⟩ := eP
  obtain ⟨hands, ties, kinds, hS, hk6, ht15, eD⟩ := drawn_ok hp (by decide) (by decide)
  obtain ⟨x1, e1, _⟩ := pool_at hp (i := 1) (by omega) (by omega)
  obtain ⟨x3, e3, _⟩ := pool_at hp (i := 3) (by omega) (by omega)
  obtain ⟨x4, e4, _⟩ := pool_at hp (i := 4) (by omega) (by omega)
  obtain ⟨x5, e5, _⟩ := pool_at hp (i := 5) (by omega) (by omega)
  have hl6 : hands.length ≤ 6 := by have := (hS.tab [] [] (List.nil_sublist _) ⟨by simp, fun s hs => absurd hs List.not_mem_nil, List.nodup_nil, by simp⟩).n6; unfold Tab.n at this; exact Int.ofNat_le.1 this
  have hS0 := hS.tab [] [] (List.nil_sublist _) ⟨by simp, fun s hs => absurd hs List.not_mem_nil, List.nodup_nil, by simp⟩
  obtain ⟨u, e, rfl⟩ : ∃ u, runF 1 15 b_law [(true, .fz (ns.map D.int))] = .ok u ∧ u = ⟨.g, .bl true⟩ := by
    refine run_hs (R := fun u => u = ⟨.g, .bl true⟩) rfl ?_
    unfold b_law
    have a0 : ixP ⟨.g, shpD hands ties kinds⟩ ⟨.g, .int 0⟩ = .ok ⟨.g, .lst (hands.map D.int)⟩ := rfl
    have a1 : ixP ⟨.g, shpD hands ties kinds⟩ ⟨.g, .int 1⟩ = .ok ⟨.g, .lst (ties.map dP)⟩ := rfl
    have a2 : ixP ⟨.g, shpD hands ties kinds⟩ ⟨.g, .int 2⟩ = .ok ⟨.g, .lst (kinds.map dK)⟩ := rfl
    generalize hsd : shpD hands ties kinds = shp at *
    walk_at "dlt"
    rw [eP]
    walk_at "dlt"
    rw [eD]
    walk_at "dlt"
    rw [e1]
    walk_at "dlt"
    refine hs_bind (fun e => ∃ (qs : List (Int × Int)) (s3 : Sl), qs.Sublist ties ∧ (s3 = .ow (qs.map dP)) ∧ e = [.vl true (.fz (ns.map D.int)), .vl true (.lst (p.map D.int)), .vl true shp, s3, .no, .no, .no, .no, .no, .no, .no, .no, .no, .no, .no]) ?_ ?_
    · by_cases c : 0 < x1 % 5
      · obtain ⟨qs, q1, q2⟩ := lquick_ok hp (by decide) 100 (x1 % 5) ties (by omega) (by omega) c (by omega)
        rw [if_pos c]
        walk_at "dlt"
        rw [a1]
        walk_at "dlt"
        rw [q2]
        walk_at "dlt"
        exact hs_nx ⟨qs, _, q1, rfl, rfl⟩
      · rw [if_neg c]
        exact hs_nx ⟨[], _, List.nil_sublist _, rfl, rfl⟩
    rintro _ ⟨qs, s3, q1, rfl, rfl⟩
    walk_at "dlt"
    rw [e3]
    walk_at "dlt"
    refine hs_bind (fun e => ∃ (ss : List (List Int × Int)) (s4 : Sl), SharesOk kinds.length ss ∧ (s4 = .ow (ss.map dK)) ∧ e = [.vl true (.fz (ns.map D.int)), .vl true (.lst (p.map D.int)), .vl true shp, .ow (qs.map dP), s4, .no, .no, .no, .no, .no, .no, .no, .no, .no, .no]) ?_ ?_
    · by_cases c : 0 < x3 % 3
      · obtain ⟨ss, q1, q2⟩ := groups_ok hp (by decide) 116 (kinds.length : Int) 24 (by omega) (by omega) (by omega) (by omega) (by omega) (by omega)
        rw [if_pos c, a2]
        walk_at "dlt"
        rw [q2]
        walk_at "dlt"
        exact hs_nx ⟨ss, _, q1, rfl, rfl⟩
      · rw [if_neg c]
        exact hs_nx ⟨[], _, ⟨by simp, fun s hs => absurd hs List.not_mem_nil, List.nodup_nil, by simp⟩, rfl, rfl⟩
    rintro _ ⟨ss, s4, q2, rfl, rfl⟩
    have hT := hS.tab qs ss q1 q2
    have hql := q1.length_le
    have hsl := q2.1
    obtain ⟨T, eN, eI, hN, hL⟩ := made_ok hT (by omega) (by omega) (by omega) (by omega)
    rw [hsd] at eN
    clear hS hS0 hT
    have n1 := hN.n1
    have n6 := hN.n6
    have eF := fields_same (ok_fit hN)
    have eG := grounds_eq hN hL
    have eT := tree_eq T
    have eR := round_eq (ok_told hN)
    have eO := onehand_eq T n6
    have eS := same_refl 11 (grD T) true true (s_gr T)
    have hask : ∀ which one two : Int, 0 ≤ which → which < 6 → F_law_told [(true, tabD T), (true, .int which), (true, .int one), (true, .int two)] = .ok ⟨.g, ansD T which one two⟩ ∧ F_law_due [(true, fieldsD T), (true, .int which), (true, .int one), (true, .int two)] = .ok ⟨.g, ansD T which one two⟩ ∧ F_law_same 12 [(true, ansD T which one two), (true, ansD T which one two)] = .ok ⟨.g, .bl true⟩ :=
      fun which one two h0 h6 => ⟨told_eq hN hL which one two h0 h6, due_eq hN hL which one two h0 h6, same_refl 11 _ true true (s_ans hN which one two)⟩
    have i1 : insV "Table" "is_tree" ⟨.g, tabD T⟩ = .ok ⟨.g, tabD T⟩ := in_Tab _ rfl
    have i2 : insV "Table" "is_round" ⟨.g, tabD T⟩ = .ok ⟨.g, tabD T⟩ := in_Tab _ rfl
    have i3 : insV "Table" "has_one_hand" ⟨.g, tabD T⟩ = .ok ⟨.g, tabD T⟩ := in_Tab _ rfl
    walk_at "dlt"
    rw [eN]
    walk_at "dlt"
    rw [a0]
    walk_at "dlt"
    rw [a2]
    walk_at "dlt"
    rw [a0]
    walk_at "dlt"
    rw [a1]
    walk_at "dlt"
    rw [a2]
    walk_at "dlt"
    rw [eI]
    walk_at "dlt"
    have eS : F_law_same 12 [(true, .tup [.bl (decide ((T.ties.length : Int) = T.n - 1)), .bl (decide (3 ≤ T.n) && ((List.range T.hands.length).map fun (i : Nat) => decide ((nbs i T.ties).length = 2)).all id), .bl ((T.hands.map fun x => decide (x = 1)).all id)]), (true, grD T)] = _ := eS
    have hnn : ∃ n : Nat, (hands.length : Int) = n ∧ n ≤ 6 := ⟨hands.length, rfl, hl6⟩
    have hkk : ∃ n : Nat, (kinds.length : Int) = n ∧ n ≤ 6 := ⟨kinds.length, rfl, hk6⟩
    obtain ⟨N, hN1, hN2⟩ := hnn
    obtain ⟨KK, hK1, hK2⟩ := hkk
    rw [hN1, hK1]
    have g1 : rg (N : Int) = true := rg_in (by omega) (by omega)
    have g2 : rg (KK : Int) = true := rg_in (by omega) (by omega)
    have hm : ∀ a b c : D, atD [a, b, c] 0 = .ok a := fun a b c => atD3.1
    clear hsd eD a0 a1 a2 eN eI
    generalize decide ((T.ties.length : Int) = T.n - 1) = b1 at *
    generalize (decide (3 ≤ T.n) && ((List.range T.hands.length).map fun (i : Nat) => decide ((nbs i T.ties).length = 2)).all id) = b2 at *
    generalize (T.hands.map fun x => decide (x = 1)).all id = b3 at *
    rw [i1, i2, i3]
    walk_at "dlt"
    rw [eT]
    walk_at "dlt"
    rw [eR]
    walk_at "dlt"
    rw [eO]
    walk_at "dlt"
    rw [eG]
    walk_at "dlt"
    rw [eS]
    walk_at "dlt"
    have c3 : powI 10 15 = .ok (.int 1000000000000000) := by unfold powI; rw [if_pos (by decide)]; rfl
    have hrow : ∀ (n : Nat) (y : Int), rngD 0 n ++ [D.int y] = (((List.range n).map fun i : Nat => (i : Int)) ++ [y]).map D.int := fun n y => by unfold rngD; rw [List.map_append, List.map_map]; simp [Function.comp_def]
    have hrl : ∀ (n : Nat) (y : Int), n ≤ 6 → (((List.range n).map fun i : Nat => (i : Int)) ++ [y]).length ≤ 7 := fun n y h => by rw [List.length_append, List.length_map, List.length_range, List.length_singleton]; omega
    obtain ⟨y1, e6⟩ := pick5 N (N + 5) (-1) (0 - N) 1000000000000000 x4
    obtain ⟨y2, e7⟩ := pick5 KK (KK + 5) (-1) (0 - KK) 1000000000000000 x5
    have zl : ∀ n : Nat, n ≤ 6 → (rngD 0 n).length + 1 ≤ sizeLine := fun n h => Nat.le_trans (show (rngD 0 n).length + 1 ≤ 7 by rw [rngD_len]; omega) (by decide)
    rw [if_pos (show N ≤ 16777216 by omega), c3]
    walk_at "dlt"
    rw [e4]
    walk_at "dlt"
    rw [e6]
    walk_at "dlt"
    rw [if_pos (zl N hN2), hrow]
    walk_at "dlt"
    rw [if_pos (show KK ≤ 16777216 by omega), c3]
    walk_at "dlt"
    rw [e5]
    walk_at "dlt"
    rw [e7]
    walk_at "dlt"
    rw [if_pos (zl KK hK2), hrow]
    have ha7 := hrl N y1 hN2
    have hb7 := hrl KK y2 hK2
    generalize ((List.range N).map fun i : Nat => (i : Int)) ++ [y1] = A at *
    generalize ((List.range KK).map fun i : Nat => (i : Int)) ++ [y2] = B at *
    walk_at "dlt"
    clear hrow hrl zl
    have fin : ∀ s9 s10 s11 s12 s13 s14 : Sl, Out.hs (fun _ => (⟨.g, .non⟩ : Vl) = ⟨.g, .bl true⟩) (fun u => u = ⟨.g, .bl true⟩) (fun _ => False) (fun _ => False) (fun _ _ => False)
        ((seqO (frzO [5] (ifO (notT (truT (callF (F_law_same 12) [] (consA (tupE (consA (callM "Table" "is_tree" F_Table_is_tree (nmE 8) nilA) (consA (callM "Table" "is_round" F_Table_is_round (nmE 8) nilA) (consA (callM "Table" "has_one_hand" F_Table_has_one_hand (nmE 8) nilA) nilA)))) (consA (callF F_law_grounds [] (consA (nmE 5) nilA)) nilA))))) (retO (cE (.bl false))) nextO)) (frzO [8, 5] (retO (callF F_law_fields [] (consA (nmE 8) (consA (nmE 5) nilA))))))
          [.vl true (.fz (ns.map D.int)), .vl true (.lst (p.map D.int)), .vl true shp, .vl true (.lst (qs.map dP)), .vl true (.lst (ss.map dK)), .vl true (fieldsD T), .vl true (.int N), .vl true (.int KK), .vl true (tabD T), s9, s10, s11, s12, s13, s14]) := by
      intro s9 s10 s11 s12 s13 s14
      walk_at "dlt"
      rw [i1, i2, i3]
      walk_at "dlt"
      rw [eT]
      walk_at "dlt"
      rw [eR]
      walk_at "dlt"
      rw [eO]
      walk_at "dlt"
      rw [eG]
      walk_at "dlt"
      rw [eS]
      walk_at "dlt"
      rw [eF]
      walk_at "dlt"
      exact hs_rt rfl
    refine hs_bind (fun e => ∃ s9 s10 s11 s12 s13 s14, e = [.vl true (.fz (ns.map D.int)), .vl true (.lst (p.map D.int)), .vl true shp, .vl true (.lst (qs.map dP)), .vl true (.lst (ss.map dK)), .vl true (fieldsD T), .vl true (.int N), .vl true (.int KK), .vl true (tabD T), s9, s10, s11, s12, s13, s14])
      (hs_forR (fun j e => ∃ s9 s10 s11 s12 s13 s14, (s9 = .ow (A.map D.int) ∨ s9 = .vl true (.lst (A.map D.int))) ∧ (s10 = .ow (B.map D.int) ∨ s10 = .vl true (.lst (B.map D.int))) ∧ e = [.vl true (.fz (ns.map D.int)), .vl true (.lst (p.map D.int)), .vl true shp, .vl true (.lst (qs.map dP)), .vl true (.lst (ss.map dK)), .vl true (fieldsD T), .vl true (.int N), .vl true (.int KK), .vl true (tabD T), s9, s10, s11, s12, s13, s14]) ⟨_, _, _, _, _, _, .inl rfl, .inl rfl, rfl⟩ ?_ ?_) ?_
    · rintro w _ hw ⟨s9, s10, s11, s12, s13, s14, h9, h10, rfl⟩
      have hw : w < 6 := hw
      have inner : ∀ (F : List Int) (s9 s10 s13 s14 : Sl), (s9 = .ow (A.map D.int) ∨ s9 = .vl true (.lst (A.map D.int))) → (s10 = .ow (B.map D.int) ∨ s10 = .vl true (.lst (B.map D.int))) →
          Out.hs (fun e => ∃ s9 s10 s11 s12 s13 s14, (s9 = .ow (A.map D.int) ∨ s9 = .vl true (.lst (A.map D.int))) ∧ (s10 = .ow (B.map D.int) ∨ s10 = .vl true (.lst (B.map D.int))) ∧ e = [.vl true (.fz (ns.map D.int)), .vl true (.lst (p.map D.int)), .vl true shp, .vl true (.lst (qs.map dP)), .vl true (.lst (ss.map dK)), .vl true (fieldsD T), .vl true (.int N), .vl true (.int KK), .vl true (tabD T), s9, s10, s11, s12, s13, s14]) (fun u => u = ⟨.g, .bl true⟩) (fun _ => False) (fun _ => False) (fun _ _ => False)
          (forO (nmT 13) (frzO [9] (forS (seqI (nmE 9)) (nmT 14) (frzO [8, 11, 13, 14, 5] (ifO (notT (truT (callF (F_law_same 12) [] (consA (callF F_law_told [] (consA (nmE 8) (consA (nmE 11) (consA (nmE 13) (consA (nmE 14) nilA))))) (consA (callF F_law_due [] (consA (nmE 5) (consA (nmE 11) (consA (nmE 13) (consA (nmE 14) nilA))))) nilA))))) (retO (cE (.bl false))) nextO)))) .g (F.map D.int)
          [.vl true (.fz (ns.map D.int)), .vl true (.lst (p.map D.int)), .vl true shp, .vl true (.lst (qs.map dP)), .vl true (.lst (ss.map dK)), .vl true (fieldsD T), .vl true (.int N), .vl true (.int KK), .vl true (tabD T), s9, s10, .vl true (.int (w : Nat)), .vl true (.lst (F.map D.int)), s13, s14]) := by
        intro F s9 s10 s13 s14 h9 h10
        refine hs_forL D.int F (fun j e => ∃ s9 s13 s14, (s9 = .ow (A.map D.int) ∨ s9 = .vl true (.lst (A.map D.int))) ∧ e = [.vl true (.fz (ns.map D.int)), .vl true (.lst (p.map D.int)), .vl true shp, .vl true (.lst (qs.map dP)), .vl true (.lst (ss.map dK)), .vl true (fieldsD T), .vl true (.int N), .vl true (.int KK), .vl true (tabD T), s9, s10, .vl true (.int (w : Nat)), .vl true (.lst (F.map D.int)), s13, s14]) ⟨_, _, _, h9, rfl⟩ ?_ ?_
        · rintro j _ hj ⟨s9, s13, s14, h9, rfl⟩
          generalize F[j] = one
          have in2 : ∀ s14 : Sl, Out.hs (fun e => ∃ s9 s13 s14, (s9 = .ow (A.map D.int) ∨ s9 = .vl true (.lst (A.map D.int))) ∧ e = [.vl true (.fz (ns.map D.int)), .vl true (.lst (p.map D.int)), .vl true shp, .vl true (.lst (qs.map dP)), .vl true (.lst (ss.map dK)), .vl true (fieldsD T), .vl true (.int N), .vl true (.int KK), .vl true (tabD T), s9, s10, .vl true (.int (w : Nat)), .vl true (.lst (F.map D.int)), s13, s14]) (fun u => u = ⟨.g, .bl true⟩) (fun _ => False) (fun _ => False) (fun _ _ => False)
              (forO (nmT 14) (frzO [8, 11, 13, 14, 5] (ifO (notT (truT (callF (F_law_same 12) [] (consA (callF F_law_told [] (consA (nmE 8) (consA (nmE 11) (consA (nmE 13) (consA (nmE 14) nilA))))) (consA (callF F_law_due [] (consA (nmE 5) (consA (nmE 11) (consA (nmE 13) (consA (nmE 14) nilA))))) nilA))))) (retO (cE (.bl false))) nextO)) .g (A.map D.int)
              [.vl true (.fz (ns.map D.int)), .vl true (.lst (p.map D.int)), .vl true shp, .vl true (.lst (qs.map dP)), .vl true (.lst (ss.map dK)), .vl true (fieldsD T), .vl true (.int N), .vl true (.int KK), .vl true (tabD T), .vl true (.lst (A.map D.int)), s10, .vl true (.int (w : Nat)), .vl true (.lst (F.map D.int)), .vl true (.int one), s14]) := by
            intro s14
            refine hs_forL D.int A (fun j e => ∃ s14, e = [.vl true (.fz (ns.map D.int)), .vl true (.lst (p.map D.int)), .vl true shp, .vl true (.lst (qs.map dP)), .vl true (.lst (ss.map dK)), .vl true (fieldsD T), .vl true (.int N), .vl true (.int KK), .vl true (tabD T), .vl true (.lst (A.map D.int)), s10, .vl true (.int (w : Nat)), .vl true (.lst (F.map D.int)), .vl true (.int one), s14]) ⟨_, rfl⟩ ?_ ?_
            · rintro j _ hj ⟨s14, rfl⟩
              generalize A[j] = two
              obtain ⟨q1, q2, q3⟩ := hask w one two (by omega) (by omega)
              clear hask
              walk_at "dlt"
              rw [q1]
              walk_at "dlt"
              rw [q2]
              walk_at "dlt"
              rw [q3]
              walk_at "dlt"
              exact hs_nx ⟨_, rfl⟩
            · rintro _ ⟨s14, rfl⟩
              exact ⟨_, _, _, .inr rfl, rfl⟩
          rcases h9 with rfl | rfl
          · walk_at "dlt"
            exact hs_weak (in2 _)
          · walk_at "dlt"
            exact hs_weak (in2 _)
        · rintro _ ⟨s9, s13, s14, h9, rfl⟩
          exact ⟨_, _, _, _, _, _, h9, h10, rfl⟩
      by_cases c : (w : Int) < 3
      · rcases h9 with rfl | rfl <;> rcases h10 with rfl | rfl
        all_goals
          walk_at "dlt"
          rw [if_pos c]
          walk_at "dlt"
          exact hs_weak <| inner B _ _ _ _ (by first | exact .inl rfl | exact .inr rfl) (by first | exact .inl rfl | exact .inr rfl)
      · rcases h9 with rfl | rfl <;> rcases h10 with rfl | rfl
        all_goals
          walk_at "dlt"
          rw [if_neg c]
          walk_at "dlt"
          exact hs_weak <| inner A _ _ _ _ (by first | exact .inl rfl | exact .inr rfl) (by first | exact .inl rfl | exact .inr rfl)
    · rintro e ⟨s9, s10, s11, s12, s13, s14, _, _, h⟩
      exact ⟨s9, s10, s11, s12, s13, s14, h⟩
    · rintro _ ⟨s9, s10, s11, s12, s13, s14, rfl⟩
      exact fin _ _ _ _ _ _
  exact e
end Lw

open PySem PySem.W PyProof.Rows
set_option maxRecDepth 100000 in
set_option maxHeartbeats 0 in
theorem PySem.Challenge.cw_handsatwork_k02_wants_and_neighbours_holds : PySem.Challenge.rw_handsatwork_k02_wants_and_neighbours.Holds := by
  w_on; o_law; k_head; (case hw => w_witness2)
  k_fill
  refine DL.law_walk (k := 15) (x := "law") (p := "script") (Fl := Lw.F_law) (l := PySem.Challenge.rw_handsatwork_k02_wants_and_neighbours) Lw.law_true rfl rfl ⟨rfl, by decide, by decide⟩ rfl (fun w h Y => PySem.W.kIn_of Y) ?F
  case F =>
    intro w mg h KX G
    refine Lw.p_law ?T
    refine' Lw.Tx.mk ?z_ValueError ?z_abs ?z_all ?z_bool ?z_enumerate ?z_int ?z_isinstance ?z_len ?z_list ?z_max ?z_min ?z_range ?z_set ?z_sorted ?z_str ?z_tuple ?g_MOST_BOUND ?g_MOST_HANDS ?g_MOST_KINDS ?g_MOST_PEOPLE ?g_MOST_SHARES ?x_NoSuch ?x_BadTable ?e_all ?k_BadTable ?gc_BadTable ?k_HandsatworkError ?gc_HandsatworkError ?k_ValueError ?o_all ?of_neighbours_u ?of_share_u ?of_steps_u ?of_wants_u ?of_hands ?of_kinds ?of_quick ?of_shares ?of_ties ?m_NoSuch ?gc_NoSuch ?n_what ?d_wall ?d_lower_first ?d_first_wrong_hands ?d_first_wrong_tie ?d_first_cut_off ?d_is_way ?d_first_wrong_kind ?d_first_wrong_quick ?d_first_wrong_share ?d_broken_rule ?d_check_person ?d_check_kind ?d_neighbours_of ?d_wants_along ?d_steps_along ?d_share_with ?d_law_mixed ?d_law_pool ?d_law_same ?d_law_order ?d_law_climb ?d_law_way ?d_law_shape ?d_law_normal ?d_law_fields ?d_law_web ?d_law_roam ?d_law_web_kinds ?d_law_turned ?d_law_round ?d_law_quick ?d_law_groups ?d_law_web_shape ?d_law_drawn ?d_law_due ?d_Table_is_quick ?d_Table_wants ?d_Table_steps_to ?d_Table_share_of ?d_Table_neighbours ?d_Table_is_tied ?d_law_told ?d_law_grounds ?d_Table_init ?d_Table_is_tree ?d_Table_is_round ?d_Table_has_one_hand ?d_law ?d_Table_people
    case z_ValueError => refine' PySem.W.mg_none_of KX G ?_; k_is
    case z_abs => refine' PySem.W.mg_none_of KX G ?_; k_is
    case z_all => refine' PySem.W.mg_none_of KX G ?_; k_is
    case z_bool => refine' PySem.W.mg_none_of KX G ?_; k_is
    case z_enumerate => refine' PySem.W.mg_none_of KX G ?_; k_is
    case z_int => refine' PySem.W.mg_none_of KX G ?_; k_is
    case z_isinstance => refine' PySem.W.mg_none_of KX G ?_; k_is
    case z_len => refine' PySem.W.mg_none_of KX G ?_; k_is
    case z_list => refine' PySem.W.mg_none_of KX G ?_; k_is
    case z_max => refine' PySem.W.mg_none_of KX G ?_; k_is
    case z_min => refine' PySem.W.mg_none_of KX G ?_; k_is
    case z_range => refine' PySem.W.mg_none_of KX G ?_; k_is
    case z_set => refine' PySem.W.mg_none_of KX G ?_; k_is
    case z_sorted => refine' PySem.W.mg_none_of KX G ?_; k_is
    case z_str => refine' PySem.W.mg_none_of KX G ?_; k_is
    case z_tuple => refine' PySem.W.mg_none_of KX G ?_; k_is
    case g_MOST_BOUND =>
      refine' ⟨_, PySem.W.mg_of KX G ?a, ?b⟩
      (case a => k_is)
      (case b => first | exact ⟨_, rfl⟩ | exact rfl)
    case g_MOST_HANDS =>
      refine' ⟨_, PySem.W.mg_of KX G ?a, ?b⟩
      (case a => k_is)
      (case b => first | exact ⟨_, rfl⟩ | exact rfl)
    case g_MOST_KINDS =>
      refine' ⟨_, PySem.W.mg_of KX G ?a, ?b⟩
      (case a => k_is)
      (case b => first | exact ⟨_, rfl⟩ | exact rfl)
    case g_MOST_PEOPLE =>
      refine' ⟨_, PySem.W.mg_of KX G ?a, ?b⟩
      (case a => k_is)
      (case b => first | exact ⟨_, rfl⟩ | exact rfl)
    case g_MOST_SHARES =>
      refine' ⟨_, PySem.W.mg_of KX G ?a, ?b⟩
      (case a => k_is)
      (case b => first | exact ⟨_, rfl⟩ | exact rfl)
    case x_NoSuch =>
      refine' DL.dxt_mk KX G ?a ?cl ?sa ?eC ?tC ?kC ?iC ?tI ?l ?c ?k ?rv ?nf ?b
      (case a => k_is); (case cl => k_is); (case sa => k_is); (case eC => k_is); (case tC => k_is); (case kC => k_is); (case iC => k_is); (case tI => k_is); (case l => k_is); (case c => k_is); (case k => k_is)
      (case rv => decide +kernel)
      (case nf => kernel_rfl)
      (case b => exact fun _ _ _ _ _ _ us hl => match us, hl with | [_, _], _ => rfl)
    case x_BadTable =>
      refine' DL.dxt_mk KX G ?a ?cl ?sa ?eC ?tC ?kC ?iC ?tI ?l ?c ?k ?rv ?nf ?b
      (case a => k_is); (case cl => k_is); (case sa => k_is); (case eC => k_is); (case tC => k_is); (case kC => k_is); (case iC => k_is); (case tI => k_is); (case l => k_is); (case c => k_is); (case k => k_is)
      (case rv => decide +kernel)
      (case nf => kernel_rfl)
      (case b => exact fun _ _ _ _ _ _ us hl => match us, hl with | [_, _, _], _ => rfl)
    case e_all => kernel_rfl
    case k_BadTable => kernel_rfl
    case gc_BadTable => refine' DL.cls_mk KX G ?a; (case a => k_is)
    case k_HandsatworkError => kernel_rfl
    case gc_HandsatworkError => refine' DL.cls_mk KX G ?a; (case a => k_is)
    case k_ValueError => kernel_rfl
    case o_all => kernel_rfl
    case of_neighbours_u => kernel_rfl
    case of_share_u => kernel_rfl
    case of_steps_u => kernel_rfl
    case of_wants_u => kernel_rfl
    case of_hands => kernel_rfl
    case of_kinds => kernel_rfl
    case of_quick => kernel_rfl
    case of_shares => kernel_rfl
    case of_ties => kernel_rfl
    case m_NoSuch => kernel_rfl
    case gc_NoSuch => refine' DL.cls_mk KX G ?a; (case a => k_is)
    case n_what => kernel_rfl
    case d_wall =>
      refine' DL.dn_mk KX G ?a ?l ?c ?k ?b
      (case a => k_is); (case l => k_is); (case c => k_is); (case k => k_is)
      (case b => exact fun _ _ _ _ _ _ us hl => match us, hl with | [_], _ => rfl)
    case d_lower_first =>
      refine' DL.dn_mk KX G ?a ?l ?c ?k ?b
      (case a => k_is); (case l => k_is); (case c => k_is); (case k => k_is)
      (case b => exact fun _ _ _ _ _ _ us hl => match us, hl with | [_], _ => rfl)
    case d_first_wrong_hands =>
      refine' DL.dn_mk KX G ?a ?l ?c ?k ?b
      (case a => k_is); (case l => k_is); (case c => k_is); (case k => k_is)
      (case b => exact fun _ _ _ _ _ _ us hl => match us, hl with | [_], _ => rfl)
    case d_first_wrong_tie =>
      refine' DL.dn_mk KX G ?a ?l ?c ?k ?b
      (case a => k_is); (case l => k_is); (case c => k_is); (case k => k_is)
      (case b => exact fun _ _ _ _ _ _ us hl => match us, hl with | [_, _], _ => rfl)
    case d_first_cut_off =>
      refine' DL.dn_mk KX G ?a ?l ?c ?k ?b
      (case a => k_is); (case l => k_is); (case c => k_is); (case k => k_is)
      (case b => exact fun _ _ _ _ _ _ us hl => match us, hl with | [_, _], _ => rfl)
    case d_is_way =>
      refine' DL.dn_mk KX G ?a ?l ?c ?k ?b
      (case a => k_is); (case l => k_is); (case c => k_is); (case k => k_is)
      (case b => exact fun _ _ _ _ _ _ us hl => match us, hl with | [_, _, _], _ => rfl)
    case d_first_wrong_kind =>
      refine' DL.dn_mk KX G ?a ?l ?c ?k ?b
      (case a => k_is); (case l => k_is); (case c => k_is); (case k => k_is)
      (case b => exact fun _ _ _ _ _ _ us hl => match us, hl with | [_, _, _], _ => rfl)
    case d_first_wrong_quick =>
      refine' DL.dn_mk KX G ?a ?l ?c ?k ?b
      (case a => k_is); (case l => k_is); (case c => k_is); (case k => k_is)
      (case b => exact fun _ _ _ _ _ _ us hl => match us, hl with | [_, _], _ => rfl)
    case d_first_wrong_share =>
      refine' DL.dn_mk KX G ?a ?l ?c ?k ?b
      (case a => k_is); (case l => k_is); (case c => k_is); (case k => k_is)
      (case b => exact fun _ _ _ _ _ _ us hl => match us, hl with | [_, _], _ => rfl)
    case d_broken_rule =>
      refine' DL.dn_mk KX G ?a ?l ?c ?k ?b
      (case a => k_is); (case l => k_is); (case c => k_is); (case k => k_is)
      (case b => exact fun _ _ _ _ _ _ us hl => match us, hl with | [_, _, _, _, _], _ => rfl)
    case d_check_person =>
      refine' DL.dn_mk KX G ?a ?l ?c ?k ?b
      (case a => k_is); (case l => k_is); (case c => k_is); (case k => k_is)
      (case b => exact fun _ _ _ _ _ _ us hl => match us, hl with | [_, _], _ => rfl)
    case d_check_kind =>
      refine' DL.dn_mk KX G ?a ?l ?c ?k ?b
      (case a => k_is); (case l => k_is); (case c => k_is); (case k => k_is)
      (case b => exact fun _ _ _ _ _ _ us hl => match us, hl with | [_, _], _ => rfl)
    case d_neighbours_of =>
      refine' DL.dn_mk KX G ?a ?l ?c ?k ?b
      (case a => k_is); (case l => k_is); (case c => k_is); (case k => k_is)
      (case b => exact fun _ _ _ _ _ _ us hl => match us, hl with | [_, _], _ => rfl)
    case d_wants_along =>
      refine' DL.dn_mk KX G ?a ?l ?c ?k ?b
      (case a => k_is); (case l => k_is); (case c => k_is); (case k => k_is)
      (case b => exact fun _ _ _ _ _ _ us hl => match us, hl with | [_, _], _ => rfl)
    case d_steps_along =>
      refine' DL.dn_mk KX G ?a ?l ?c ?k ?b
      (case a => k_is); (case l => k_is); (case c => k_is); (case k => k_is)
      (case b => exact fun _ _ _ _ _ _ us hl => match us, hl with | [_, _], _ => rfl)
    case d_share_with =>
      refine' DL.dn_mk KX G ?a ?l ?c ?k ?b
      (case a => k_is); (case l => k_is); (case c => k_is); (case k => k_is)
      (case b => exact fun _ _ _ _ _ _ us hl => match us, hl with | [_, _], _ => rfl)
    case d_law_mixed =>
      refine' DL.dn_mk KX G ?a ?l ?c ?k ?b
      (case a => k_is); (case l => k_is); (case c => k_is); (case k => k_is)
      (case b => exact fun _ _ _ _ _ _ us hl => match us, hl with | [_, _], _ => rfl)
    case d_law_pool =>
      refine' DL.dn_mk KX G ?a ?l ?c ?k ?b
      (case a => k_is); (case l => k_is); (case c => k_is); (case k => k_is)
      (case b => exact fun _ _ _ _ _ _ us hl => match us, hl with | [_, _], _ => rfl)
    case d_law_same =>
      refine' DL.dn_mk KX G ?a ?l ?c ?k ?b
      (case a => k_is); (case l => k_is); (case c => k_is); (case k => k_is)
      (case b => exact fun _ _ _ _ _ _ us hl => match us, hl with | [_, _], _ => rfl)
    case d_law_order =>
      refine' DL.dn_mk KX G ?a ?l ?c ?k ?b
      (case a => k_is); (case l => k_is); (case c => k_is); (case k => k_is)
      (case b => exact fun _ _ _ _ _ _ us hl => match us, hl with | [_, _, _], _ => rfl)
    case d_law_climb =>
      refine' DL.dn_mk KX G ?a ?l ?c ?k ?b
      (case a => k_is); (case l => k_is); (case c => k_is); (case k => k_is)
      (case b => exact fun _ _ _ _ _ _ us hl => match us, hl with | [_, _], _ => rfl)
    case d_law_way =>
      refine' DL.dn_mk KX G ?a ?l ?c ?k ?b
      (case a => k_is); (case l => k_is); (case c => k_is); (case k => k_is)
      (case b => exact fun _ _ _ _ _ _ us hl => match us, hl with | [_, _, _], _ => rfl)
    case d_law_shape =>
      refine' DL.dn_mk KX G ?a ?l ?c ?k ?b
      (case a => k_is); (case l => k_is); (case c => k_is); (case k => k_is)
      (case b => exact fun _ _ _ _ _ _ us hl => match us, hl with | [_, _, _, _, _, _], _ => rfl)
    case d_law_normal =>
      refine' DL.dn_mk KX G ?a ?l ?c ?k ?b
      (case a => k_is); (case l => k_is); (case c => k_is); (case k => k_is)
      (case b => exact fun _ _ _ _ _ _ us hl => match us, hl with | [_, _, _], _ => rfl)
    case d_law_fields =>
      refine' DL.dn_mk KX G ?a ?l ?c ?k ?b
      (case a => k_is); (case l => k_is); (case c => k_is); (case k => k_is)
      (case b => exact fun _ _ _ _ _ _ us hl => match us, hl with | [_, _], _ => rfl)
    case d_law_web =>
      refine' DL.dn_mk KX G ?a ?l ?c ?k ?b
      (case a => k_is); (case l => k_is); (case c => k_is); (case k => k_is)
      (case b => exact fun _ _ _ _ _ _ us hl => match us, hl with | [_, _, _, _], _ => rfl)
    case d_law_roam =>
      refine' DL.dn_mk KX G ?a ?l ?c ?k ?b
      (case a => k_is); (case l => k_is); (case c => k_is); (case k => k_is)
      (case b => exact fun _ _ _ _ _ _ us hl => match us, hl with | [_, _, _, _, _], _ => rfl)
    case d_law_web_kinds =>
      refine' DL.dn_mk KX G ?a ?l ?c ?k ?b
      (case a => k_is); (case l => k_is); (case c => k_is); (case k => k_is)
      (case b => exact fun _ _ _ _ _ _ us hl => match us, hl with | [_, _, _, _, _, _], _ => rfl)
    case d_law_turned =>
      refine' DL.dn_mk KX G ?a ?l ?c ?k ?b
      (case a => k_is); (case l => k_is); (case c => k_is); (case k => k_is)
      (case b => exact fun _ _ _ _ _ _ us hl => match us, hl with | [_, _, _], _ => rfl)
    case d_law_round =>
      refine' DL.dn_mk KX G ?a ?l ?c ?k ?b
      (case a => k_is); (case l => k_is); (case c => k_is); (case k => k_is)
      (case b => exact fun _ _ _ _ _ _ us hl => match us, hl with | [_, _, _, _, _, _], _ => rfl)
    case d_law_quick =>
      refine' DL.dn_mk KX G ?a ?l ?c ?k ?b
      (case a => k_is); (case l => k_is); (case c => k_is); (case k => k_is)
      (case b => exact fun _ _ _ _ _ _ us hl => match us, hl with | [_, _, _, _], _ => rfl)
    case d_law_groups =>
      refine' DL.dn_mk KX G ?a ?l ?c ?k ?b
      (case a => k_is); (case l => k_is); (case c => k_is); (case k => k_is)
      (case b => exact fun _ _ _ _ _ _ us hl => match us, hl with | [_, _, _, _], _ => rfl)
    case d_law_web_shape =>
      refine' DL.dn_mk KX G ?a ?l ?c ?k ?b
      (case a => k_is); (case l => k_is); (case c => k_is); (case k => k_is)
      (case b => exact fun _ _ _ _ _ _ us hl => match us, hl with | [_, _, _, _, _], _ => rfl)
    case d_law_drawn =>
      refine' DL.dn_mk KX G ?a ?l ?c ?k ?b
      (case a => k_is); (case l => k_is); (case c => k_is); (case k => k_is)
      (case b => exact fun _ _ _ _ _ _ us hl => match us, hl with | [_], _ => rfl)
    case d_law_due =>
      refine' DL.dn_mk KX G ?a ?l ?c ?k ?b
      (case a => k_is); (case l => k_is); (case c => k_is); (case k => k_is)
      (case b => exact fun _ _ _ _ _ _ us hl => match us, hl with | [_, _, _, _], _ => rfl)
    case d_Table_is_quick =>
      refine' DL.dnm_mk KX G ?a ?i ?l ?cc ?k ?fn ?b
      (case a => k_is); (case i => k_is); (case l => k_is); (case cc => k_is); (case k => k_is); (case fn => k_is)
      (case b => exact fun _ _ _ _ _ _ us hl => match us, hl with | [_, _, _], _ => rfl)
    case d_Table_wants =>
      refine' DL.dnm_mk KX G ?a ?i ?l ?cc ?k ?fn ?b
      (case a => k_is); (case i => k_is); (case l => k_is); (case cc => k_is); (case k => k_is); (case fn => k_is)
      (case b => exact fun _ _ _ _ _ _ us hl => match us, hl with | [_, _, _], _ => rfl)
    case d_Table_steps_to =>
      refine' DL.dnm_mk KX G ?a ?i ?l ?cc ?k ?fn ?b
      (case a => k_is); (case i => k_is); (case l => k_is); (case cc => k_is); (case k => k_is); (case fn => k_is)
      (case b => exact fun _ _ _ _ _ _ us hl => match us, hl with | [_, _, _], _ => rfl)
    case d_Table_share_of =>
      refine' DL.dnm_mk KX G ?a ?i ?l ?cc ?k ?fn ?b
      (case a => k_is); (case i => k_is); (case l => k_is); (case cc => k_is); (case k => k_is); (case fn => k_is)
      (case b => exact fun _ _ _ _ _ _ us hl => match us, hl with | [_, _], _ => rfl)
    case d_Table_neighbours =>
      refine' DL.dnm_mk KX G ?a ?i ?l ?cc ?k ?fn ?b
      (case a => k_is); (case i => k_is); (case l => k_is); (case cc => k_is); (case k => k_is); (case fn => k_is)
      (case b => exact fun _ _ _ _ _ _ us hl => match us, hl with | [_, _], _ => rfl)
    case d_Table_is_tied =>
      refine' DL.dnm_mk KX G ?a ?i ?l ?cc ?k ?fn ?b
      (case a => k_is); (case i => k_is); (case l => k_is); (case cc => k_is); (case k => k_is); (case fn => k_is)
      (case b => exact fun _ _ _ _ _ _ us hl => match us, hl with | [_, _, _], _ => rfl)
    case d_law_told =>
      refine' DL.dn_mk KX G ?a ?l ?c ?k ?b
      (case a => k_is); (case l => k_is); (case c => k_is); (case k => k_is)
      (case b => exact fun _ _ _ _ _ _ us hl => match us, hl with | [_, _, _, _], _ => rfl)
    case d_law_grounds =>
      refine' DL.dn_mk KX G ?a ?l ?c ?k ?b
      (case a => k_is); (case l => k_is); (case c => k_is); (case k => k_is)
      (case b => exact fun _ _ _ _ _ _ us hl => match us, hl with | [_], _ => rfl)
    case d_Table_init =>
      refine' DL.dni_mk KX G ?a ?mk ?i ?fn ?kC ?l ?cc ?k
      (case a => k_is); (case mk => k_is); (case i => k_is); (case fn => k_is); (case kC => k_is); (case l => k_is); (case cc => k_is); (case k => k_is)
    case d_Table_is_tree =>
      refine' DL.dnm_mk KX G ?a ?i ?l ?cc ?k ?fn ?b
      (case a => k_is); (case i => k_is); (case l => k_is); (case cc => k_is); (case k => k_is); (case fn => k_is)
      (case b => exact fun _ _ _ _ _ _ us hl => match us, hl with | [_], _ => rfl)
    case d_Table_is_round =>
      refine' DL.dnm_mk KX G ?a ?i ?l ?cc ?k ?fn ?b
      (case a => k_is); (case i => k_is); (case l => k_is); (case cc => k_is); (case k => k_is); (case fn => k_is)
      (case b => exact fun _ _ _ _ _ _ us hl => match us, hl with | [_], _ => rfl)
    case d_Table_has_one_hand =>
      refine' DL.dnm_mk KX G ?a ?i ?l ?cc ?k ?fn ?b
      (case a => k_is); (case i => k_is); (case l => k_is); (case cc => k_is); (case k => k_is); (case fn => k_is)
      (case b => exact fun _ _ _ _ _ _ us hl => match us, hl with | [_], _ => rfl)
    case d_law =>
      refine' DL.dnl_mk KX G ?a ?l ?c ?k ?b
      (case a => k_is); (case l => k_is); (case c => k_is); (case k => k_is)
      (case b => exact fun _ _ _ _ _ _ _ => rfl)
    case d_Table_people =>
      refine' DL.dnp_mk KX G ?a ?i ?ge ?ta ?re ?l ?cc ?k ?b
      (case a => k_is); (case i => k_is); (case ge => k_is); (case ta => k_is); (case re => k_is); (case l => k_is); (case cc => k_is); (case k => k_is)
      (case b => exact fun _ _ _ _ _ _ us hl => match us, hl with | [_], _ => rfl)
