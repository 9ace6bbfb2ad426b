import PyProof.Rows.All
import Wide.All
import OpenK.AllK
import Wide.FinOn
import HandS.ExcOwn
import HandS.ExcInit
import HandS.ExcIs
import HandS.ExcField
import HandS.ForMost
import HandS.Wide
import HandS.IsInst
import HandS.Conv
import HandS.Defaults
import HandS.Style
import HandS.Flow
import PyProof.LongRange
import PyProof.ListRange
import KE.KExcIs
import HandS.Deep
import HandS.Iter
import HandS.TryOnly
import HandS.ExcValue
import PySem.Challenge.RW_handsatwork_k96_errors_built
set_option Elab.async false
set_option linter.all false
set_option maxRecDepth 100000
set_option maxHeartbeats 4000000
/-! DL: a layer of data over the hand layer. D: what a value is worth; Rel: how an environment of data lies in a frame and a heap. -/
namespace DL
open PySem L2

inductive D where
  | non | bl (b : Bool) | int (i : Int) | str (s : Str) | lst (xs : List D) | tup (xs : List D) | fz (xs : List D)
  /-- an instance that stays; an exception that was not raised: its class by name, its fields -/
  | obj (c : Str) (ns : List Str) (xs : List D) | exn (c : Str) (ns : List Str) (xs : List D)
/-- an exception: its class by name, its fields -/
structure Exn where
  c : Str
  fs : List (Str × D)
inductive Res (α : Type) where
  | ok (a : α) | ex (x : Exn) | no
def Res.bind {α β : Type} (r : Res α) (f : α → Res β) : Res β := match r with
  | .ok a => f a
  | .ex x => .ex x
  | .no => .no
@[simp] theorem Res.bind_ok {α β : Type} (a : α) (f : α → Res β) : (Res.ok a).bind f = f a := rfl
@[simp] theorem Res.bind_no {α β : Type} (f : α → Res β) : (Res.no : Res α).bind f = .no := rfl
@[simp] theorem Res.bind_xx {α β : Type} (x : Exn) (f : α → Res β) : (Res.ex x : Res α).bind f = .ex x := rfl
theorem Res.bind_ex {α β : Type} {r : Res α} {f : α → Res β} {x : Exn} (h : r.bind f = .ex x) : r = .ex x ∨ ∃ a, r = .ok a ∧ f a = .ex x := by
  cases r with
  | ok a => exact .inr ⟨a, rfl, h⟩
  | ex y => cases h; exact .inl rfl
  | no => cases h
theorem Res.bind_eq {α β : Type} {r : Res α} {f : α → Res β} {b : β} (h : r.bind f = .ok b) : ∃ a, r = .ok a ∧ f a = .ok b := by
  cases r with
  | ok a => exact ⟨a, rfl, h⟩
  | ex y => cases h
  | no => cases h
def flat : D → Bool
  | .lst _ => false
  | .tup _ => false
  | .fz _ => false
  | .obj _ _ _ => false
  | .exn _ _ _ => false
  | _ => true
/-- kept data; data that was lent; a list that stands in a slot; a new list -/
inductive Kd where
  | g | b | h | o
structure Vl where
  k : Kd
  d : D
/-- may it be kept as it is -/
def Vl.keep : Vl → Bool
  | ⟨.g, _⟩ => true
  | ⟨.o, _⟩ => true
  | ⟨_, d⟩ => flat d
/-- may its items be kept -/
def Kd.it : Kd → List D → Bool
  | .b, xs => xs.all flat
  | _, _ => true
def Kd.sub : Kd → Kd
  | .b => .b
  | _ => .g
inductive Sl where
  | no | vl (g : Bool) (d : D) | ow (xs : List D) | xc (x : Exn)
abbrev En := List Sl

mutual
inductive Rep (K : PySem.W.Frag) (G : Hp) : V → D → Prop where
  | non : Rep K G .non .non
  | bl (b : Bool) : Rep K G (.bl b) (.bl b)
  | int (i : Int) : Rep K G (.int i) (.int i)
  | str (x : Str) : Rep K G (.str x) (.str x)
  | lst {a : Addr} {xs : List V} {ds : List D} : G a = some (.lst xs) → RepL K G xs ds → Rep K G (.ref a) (.lst ds)
  | fz {a : Addr} {xs : List V} {ds : List D} : SqL K G a xs → RepL K G xs ds → Rep K G (.ref a) (.fz ds)
  | tup {a : Addr} {xs : List V} {ds : List D} : SqT K G a xs → RepL K G xs ds → Rep K G (.ref a) (.tup ds)
  | obj {a C dx : Addr} {c : Str} {ns : List Str} {fs : List (Str × V)} {vs : List V} {ds : List D} : PySem.W.nsIn K mainGlobals c = some (some (.ref C)) → G a = some (.ins C dx fs) → fs.map Prod.fst = ns → fs.map Prod.snd = vs → RepL K G vs ds → Rep K G (.ref a) (.obj c ns ds)
  | exn0 {a C : Addr} {c : Str} : PySem.W.nsIn K mainGlobals c = some (some (.ref C)) → G a = some (exo a C none) → Rep K G (.ref a) (.exn c [] [])
  | exn {a C dx : Addr} {c : Str} {ns : List Str} {fs : List (Str × V)} {vs : List V} {ds : List D} : PySem.W.nsIn K mainGlobals c = some (some (.ref C)) → G a = some (exo a C (some dx)) → G dx = some (exd dx fs) → (∀ (i : Nat) (n : Str) (v : V), ns[i]? = some n → vs[i]? = some v → fs.lookup n = some v) → RepL K G vs ds → Rep K G (.ref a) (.exn c ns ds)
inductive RepL (K : PySem.W.Frag) (G : Hp) : List V → List D → Prop where
  | nil : RepL K G [] []
  | cons {v : V} {vs : List V} {d : D} {ds : List D} : Rep K G v d → RepL K G vs ds → RepL K G (v :: vs) (d :: ds)
end
theorem Same.sqt {K : PySem.W.Frag} {H H' : Hp} {a : Addr} {xs : List V} (e : Same H H') (h : SqT K H a xs) : SqT K H' a xs := by
  rcases h with (h | ⟨o, h⟩) | h
  · exact .inl (.inl (e _ _ h))
  · exact .inl (.inr ⟨o, e _ _ h⟩)
  · exact .inr h
mutual
theorem Rep.mono {K : PySem.W.Frag} {G G' : Hp} (e : Same G G') : ∀ {v : V} {d : D}, Rep K G v d → Rep K G' v d
  | _, _, .non => .non
  | _, _, .bl b => .bl b
  | _, _, .int i => .int i
  | _, _, .str x => .str x
  | _, _, .lst h l => .lst (e _ _ h) (RepL.mono e l)
  | _, _, .fz h l => .fz (e.seq h) (RepL.mono e l)
  | _, _, .tup h l => .tup (Same.sqt e h) (RepL.mono e l)
  | _, _, .obj c h n v l => .obj c (e _ _ h) n v (RepL.mono e l)
  | _, _, .exn0 c h => .exn0 c (e _ _ h)
  | _, _, .exn c h hd k l => .exn c (e _ _ h) (e _ _ hd) k (RepL.mono e l)
theorem RepL.mono {K : PySem.W.Frag} {G G' : Hp} (e : Same G G') : ∀ {vs : List V} {ds : List D}, RepL K G vs ds → RepL K G' vs ds
  | _, _, .nil => .nil
  | _, _, .cons h l => .cons (Rep.mono e h) (RepL.mono e l)
end
section
variable {K : PySem.W.Frag} {G G' B H H' : Hp}
theorem Rep.flat {v : V} {d : D} (h : Rep K G v d) (f : flat d = true) : Rep K G' v d := by
  cases h with
  | non => exact .non
  | bl b => exact .bl b
  | int i => exact .int i
  | str x => exact .str x
  | lst _ _ => cases f
  | tup _ _ => cases f
  | fz _ _ => cases f
  | obj _ _ _ _ _ => cases f
  | exn0 _ _ => cases f
  | exn _ _ _ _ _ => cases f
theorem RepL.flat : ∀ {vs : List V} {ds : List D}, RepL K G vs ds → ds.all DL.flat = true → RepL K G' vs ds
  | _, _, .nil, _ => .nil
  | _, _, .cons h l, f => by
    rw [List.all_cons, Bool.and_eq_true] at f
    exact .cons (h.flat f.1) (RepL.flat l f.2)
theorem RepL.len : ∀ {vs : List V} {ds : List D}, RepL K G vs ds → vs.length = ds.length
  | _, _, .nil => rfl
  | _, _, .cons _ l => congrArg (· + 1) (RepL.len l)
theorem RepL.get : ∀ {vs : List V} {ds : List D} {i : Nat} {v : V}, RepL K G vs ds → vs[i]? = some v → ∃ d, ds[i]? = some d ∧ Rep K G v d
  | _, _, _, _, .nil, e => by simp at e
  | _, _, 0, _, .cons h _, e => by
    simp at e
    subst e
    exact ⟨_, rfl, h⟩
  | _, _, i + 1, _, .cons _ l, e => by
    obtain ⟨d, a, b⟩ := RepL.get (i := i) l (by simpa using e)
    exact ⟨d, by simpa using a, b⟩
theorem RepL.get' : ∀ {vs : List V} {ds : List D} {i : Nat} {d : D}, RepL K G vs ds → ds[i]? = some d → ∃ v, vs[i]? = some v ∧ Rep K G v d
  | _, _, _, _, .nil, e => by simp at e
  | _, _, 0, _, .cons h _, e => by
    simp at e
    subst e
    exact ⟨_, rfl, h⟩
  | _, _, i + 1, _, .cons _ l, e => by
    obtain ⟨d, a, b⟩ := RepL.get' (i := i) l (by simpa using e)
    exact ⟨d, by simpa using a, b⟩
theorem RepL.app : ∀ {vs ws : List V} {ds es : List D}, RepL K G vs ds → RepL K G ws es → RepL K G (vs ++ ws) (ds ++ es)
  | _, _, _, _, .nil, r => r
  | _, _, _, _, .cons h l, r => .cons h (RepL.app l r)
theorem RepL.set {v : V} {d : D} (h : Rep K G v d) : ∀ {vs : List V} {ds : List D} (i : Nat), RepL K G vs ds → RepL K G (vs.set i v) (ds.set i d)
  | _, _, _, .nil => .nil
  | _, _, 0, .cons _ l => .cons h l
  | _, _, i + 1, .cons q l => .cons q (RepL.set h i l)
theorem RepL.take : ∀ {vs : List V} {ds : List D} (n : Nat), RepL K G vs ds → RepL K G (vs.take n) (ds.take n)
  | _, _, 0, _ => .nil
  | _, _, _ + 1, .nil => .nil
  | _, _, n + 1, .cons h l => .cons h (RepL.take n l)
theorem RepL.drop : ∀ {vs : List V} {ds : List D} (n : Nat), RepL K G vs ds → RepL K G (vs.drop n) (ds.drop n)
  | _, _, 0, r => r
  | _, _, _ + 1, .nil => .nil
  | _, _, n + 1, .cons _ l => RepL.drop n l
theorem RepL.ints : ∀ {vs : List V} {ns : List Int}, RepL K G vs (ns.map D.int) → vs = ns.map V.int
  | [], [], _ => rfl
  | v :: vs, n :: ns, .cons h l => by
    cases h
    rw [RepL.ints l]
    rfl
theorem RepL.ofInts : ∀ ns : List Int, RepL K G (ns.map V.int) (ns.map D.int)
  | [] => .nil
  | n :: ns => .cons (.int n) (RepL.ofInts ns)
end

/-- what an expression may have done: new objects, in the kept part and beside it -/
structure Ext (G H G' H' : Hp) : Prop where
  gg : Same G G'
  hh : Same H H'
  gh : Same G' H'
  fr : ∀ a, G a = none → G' a ≠ none → H a = none
section
variable {K : PySem.W.Frag} {W : Wi} {B G0 G G' G'' H H' H'' : Hp} {env : En} {σ : L2.St}
theorem Ext.refl (h : Same G H) : Ext G H G H := ⟨Same.refl G, Same.refl H, h, fun a e n => absurd e n⟩
theorem Ext.trans (a : Ext G H G' H') (b : Ext G' H' G'' H'') : Ext G H G'' H'' :=
  ⟨a.gg.trans b.gg, a.hh.trans b.hh, b.gh, fun x e n => by
    by_cases h : G' x = none
    · exact a.hh.free (b.fr x h n)
    · exact a.fr x e h⟩
theorem not_some {α : Type} {o : Option α} (h : ∀ x, o = some x → False) : o = none := by
  cases o with
  | none => rfl
  | some x => exact (h x rfl).elim
theorem same_upd {H H' : Hp} {p : Addr} {o : HO} (s : Same H H') (h : H p = none) : Same H (upd H' p o) := fun b u e => by
  rw [upd_ne (ne_of_none e h)]
  exact s b u e
/-- a new object beside the kept part -/
theorem Ext.new {p : Addr} {o : HO} (h : Same G H) (hp : H p = none) : Ext G H G (upd H p o) :=
  ⟨Same.refl G, same_upd (Same.refl H) hp, same_upd h (h.free hp), fun a e n => absurd e n⟩
/-- a new object of the kept part -/
theorem Ext.newG {p : Addr} {o : HO} (h : Same G H) (hp : H p = none) : Ext G H (upd G p o) (upd H p o) :=
  ⟨same_upd (Same.refl G) (h.free hp), same_upd (Same.refl H) hp, fun b u e => by
    by_cases q : b = p
    · subst q
      rw [upd_same] at e ⊢
      exact e
    · rw [upd_ne q] at e ⊢
      exact h b u e, fun a e n => by
    by_cases q : a = p
    · rw [q]; exact hp
    · rw [upd_ne q] at n
      exact absurd e n⟩

/-- what is wished of exceptions; the caught one: where, its class, its dict -/
structure Wi where
  w : WX
  ρ : Addr × Value × Option Addr
/-- an exception as it lies -/
def RepX (K : PySem.W.Frag) (G H : Hp) (x : Exn) (cls : Value) (d : Option Addr) : Prop := ∃ C : Addr, cls = .ref C ∧ PySem.W.nsIn K mainGlobals x.c = some (some (.ref C)) ∧ (x.fs = [] → d = none) ∧
  (x.fs ≠ [] → ∃ (dd : Addr) (l : List (Str × V)), d = some dd ∧ G dd = some (.xd l) ∧ ∀ f y, (f, y) ∈ x.fs → ∃ v, l.lookup f = some v ∧ Rep K G v y)
theorem RepX.ext {K : PySem.W.Frag} {G H G' H' : Hp} {x : Exn} {cls : Value} {d : Option Addr} (e : Ext G H G' H') (h : RepX K G H x cls d) : RepX K G' H' x cls d := by
  obtain ⟨C, h1, h2, h0, h3⟩ := h
  refine ⟨C, h1, h2, h0, fun n => ?_⟩
  obtain ⟨dd, l, e1, e2, e3⟩ := h3 n
  refine ⟨dd, l, e1, e.gg _ _ e2, fun f y m => ?_⟩
  obtain ⟨v, a, b⟩ := e3 f y m
  exact ⟨v, a, b.mono e.gg⟩
def SlOk (K : PySem.W.Frag) (W : Wi) (B G H : Hp) : Sl → Option V → Prop
  | .no, _ => True
  | .vl true d, o => ∃ v, o = some v ∧ Rep K G v d
  | .vl false d, o => ∃ v, o = some v ∧ Rep K B v d
  | .xc x, o => o = some (.ref W.ρ.1) ∧ RepX K G H x W.ρ.2.1 W.ρ.2.2
  | .ow xs, o => ∃ L vs, o = some (.ref L) ∧ B L = none ∧ G L = none ∧ H L = some (.lst vs) ∧ RepL K G vs xs
structure Rel (K : PySem.W.Frag) (W : Wi) (B G0 G : Hp) (env : En) (σ : L2.St) (H : Hp) : Prop where
  g0 : Same G0 G
  gh : Same G H
  bh : Same B H
  fr : ∀ a, G0 a = none → G a ≠ none → B a = none
  len : env.length = σ.length
  sl : ∀ (i : Nat) s o, env[i]? = some s → σ[i]? = some o → SlOk K W B G H s o
  ds : ∀ (i j : Nat) xs ys L, i ≠ j → env[i]? = some (.ow xs) → env[j]? = some (.ow ys) → σ[i]? = some (some (.ref L)) → σ[j]? = some (some (.ref L)) → False
theorem RepX.same {K : PySem.W.Frag} {G H G' : Hp} {x : Exn} {cls : Value} {d : Option Addr} (e : Same G G') (h : RepX K G H x cls d) : RepX K G' H x cls d := by
  obtain ⟨C, h1, h2, h0, h3⟩ := h
  refine ⟨C, h1, h2, h0, fun n => ?_⟩
  obtain ⟨dd, l, e1, e2, e3⟩ := h3 n
  refine ⟨dd, l, e1, e _ _ e2, fun f y m => ?_⟩
  obtain ⟨v, a, b⟩ := e3 f y m
  exact ⟨v, a, b.mono e⟩
theorem SlOk.ext {s : Sl} {o : Option V} (x : Ext G H G' H') (h : SlOk K W B G H s o) : SlOk K W B G' H' s o := by
  match s, h with
  | .no, _ => exact trivial
  | .xc y, ⟨e1, e2⟩ => exact ⟨e1, e2.ext x⟩
  | .vl true d, ⟨v, e, r⟩ => exact ⟨v, e, r.mono x.gg⟩
  | .vl false d, ⟨v, e, r⟩ => exact ⟨v, e, r⟩
  | .ow xs, ⟨L, vs, e, b, g, hl, r⟩ =>
    refine ⟨L, vs, e, b, not_some fun u q => ?_, x.hh _ _ hl, r.mono x.gg⟩
    have := x.fr L g (by rw [q]; exact fun z => nomatch z)
    rw [hl] at this
    cases this
theorem Rel.ext (r : Rel K W B G0 G env σ H) (x : Ext G H G' H') : Rel K W B G0 G' env σ H' :=
  ⟨r.g0.trans x.gg, x.gh, r.bh.trans x.hh, fun a e n => by
    by_cases h : G a = none
    · exact r.bh.free (x.fr a h n)
    · exact r.fr a e h, r.len, fun i s o e1 e2 => (r.sl i s o e1 e2).ext x, r.ds⟩

/-- how a value lies: behind an expression that began at H -/
def Rp (K : PySem.W.Frag) (B G' H H' : Hp) (u : Vl) (v : V) : Prop := match u.k with
  | .g => Rep K G' v u.d
  | .b => Rep K B v u.d
  | .h => ∃ L vs ds, v = .ref L ∧ u.d = .lst ds ∧ B L = none ∧ G' L = none ∧ H' L = some (.lst vs) ∧ RepL K G' vs ds
  | .o => ∃ L vs ds, v = .ref L ∧ u.d = .lst ds ∧ H L = none ∧ G' L = none ∧ H' L = some (.lst vs) ∧ RepL K G' vs ds
theorem Ext.out {L : Addr} {o : HO} (x : Ext G' H' G'' H'') (g : G' L = none) (h : H' L = some o) : G'' L = none := not_some fun u q => by
  have := x.fr L g (by rw [q]; exact fun z => nomatch z)
  rw [h] at this
  cases this
theorem Rp.mono {u : Vl} {v : V} (x : Ext G' H' G'' H'') (h : Rp K B G' H H' u v) : Rp K B G'' H H'' u v := by
  obtain ⟨k, d⟩ := u
  cases k with
  | g => exact Rep.mono x.gg h
  | b => exact h
  | h =>
    obtain ⟨L, vs, ds, e1, e2, b, g, e3, e4⟩ := h
    exact ⟨L, vs, ds, e1, e2, b, x.out g e3, x.hh _ _ e3, e4.mono x.gg⟩
  | o =>
    obtain ⟨L, vs, ds, e1, e2, e3, e4, e5, e6⟩ := h
    exact ⟨L, vs, ds, e1, e2, e3, x.out e4 e5, x.hh _ _ e5, e6.mono x.gg⟩
/-- made later -/
theorem Rp.from {u : Vl} {v : V} {H0 : Hp} (s : Same H0 H) (h : Rp K B G' H H' u v) : Rp K B G' H0 H' u v := by
  obtain ⟨k, d⟩ := u
  cases k with
  | g => exact h
  | b => exact h
  | h => exact h
  | o =>
    obtain ⟨L, vs, ds, e1, e2, e3, e4, e5, e6⟩ := h
    exact ⟨L, vs, ds, e1, e2, s.free e3, e4, e5, e6⟩
/-- read only -/
theorem Rp.look {u : Vl} {v : V} (r : Rel K W B G0 G' env σ H') (h : Rp K B G' H H' u v) : Rep K H' v u.d := by
  obtain ⟨k, d⟩ := u
  cases k with
  | g => exact Rep.mono r.gh h
  | b => exact Rep.mono r.bh h
  | h =>
    obtain ⟨L, vs, ds, e1, e2, _, _, e3, e4⟩ := h
    dsimp only at e2
    subst e1 e2
    exact .lst e3 (e4.mono r.gh)
  | o =>
    obtain ⟨L, vs, ds, e1, e2, e3, e4, e5, e6⟩ := h
    dsimp only at e2
    subst e1 e2
    exact .lst e5 (e6.mono r.gh)
/-- kept from now on -/
theorem Rp.freeze {u : Vl} {v : V} (x : Ext G H G' H') (hk : u.keep = true) (h : Rp K B G' H H' u v) : ∃ G'', Ext G H G'' H' ∧ Same G' G'' ∧ Rep K G'' v u.d := by
  obtain ⟨k, d⟩ := u
  cases k with
  | g => exact ⟨G', x, Same.refl _, h⟩
  | b => exact ⟨G', x, Same.refl _, Rep.flat h hk⟩
  | h =>
    obtain ⟨L, vs, ds, e1, e2, _, _, e3, e4⟩ := h
    dsimp only at e2
    subst e2
    cases hk
  | o =>
    obtain ⟨L, vs, ds, e1, e2, e3, e4, e5, e6⟩ := h
    dsimp only at e2
    subst e1 e2
    have s1 : Same G' (upd G' L (.lst vs)) := same_upd (Same.refl _) e4
    refine ⟨upd G' L (.lst vs), ⟨x.gg.trans s1, x.hh, fun b u e => ?_, fun a e n => ?_⟩, s1, .lst upd_same (e6.mono s1)⟩
    · by_cases q : b = L
      · subst q
        rw [upd_same] at e
        cases e
        exact e5
      · rw [upd_ne q] at e
        exact x.gh b u e
    · by_cases q : a = L
      · rw [q]; exact e3
      · rw [upd_ne q] at n
        exact x.fr a e n
theorem Rep.lst_inv {v : V} {xs : List D} (h : Rep K G v (.lst xs)) : ∃ a vs, v = .ref a ∧ G a = some (.lst vs) ∧ RepL K G vs xs := by
  cases h with
  | lst a b => exact ⟨_, _, rfl, a, b⟩
theorem Rep.tup_inv {v : V} {xs : List D} (h : Rep K G v (.tup xs)) : ∃ a vs, v = .ref a ∧ SqT K G a vs ∧ RepL K G vs xs := by
  cases h with
  | tup a b => exact ⟨_, _, rfl, a, b⟩
theorem Rep.fz_inv {v : V} {xs : List D} (h : Rep K G v (.fz xs)) : ∃ a vs, v = .ref a ∧ SqL K G a vs ∧ RepL K G vs xs := by
  cases h with
  | fz a b => exact ⟨_, _, rfl, a, b⟩
theorem Rep.int_inv {v : V} {i : Int} (h : Rep K G v (.int i)) : v = .int i := by cases h; rfl
theorem Rep.bl_inv {v : V} {b : Bool} (h : Rep K G v (.bl b)) : v = .bl b := by cases h; rfl
theorem Rep.str_inv {v : V} {x : Str} (h : Rep K G v (.str x)) : v = .str x := by cases h; rfl
theorem Rep.non_inv {v : V} (h : Rep K G v .non) : v = .non := by cases h; rfl
/-- a list's items, as they lie -/
theorem Rp.items {u : Vl} {v : V} {xs : List D} (r : Rel K W B G0 G' env σ H') (h : Rp K B G' H H' u v) (e : u.d = .lst xs) (hk : u.k.it xs = true) : ∃ a vs, v = .ref a ∧ H' a = some (.lst vs) ∧ RepL K G' vs xs := by
  obtain ⟨k, d⟩ := u
  dsimp only at e hk
  subst e
  cases k with
  | g =>
    obtain ⟨a, vs, e, h1, h2⟩ := Rep.lst_inv h
    exact ⟨a, vs, e, r.gh _ _ h1, h2⟩
  | b =>
    obtain ⟨a, vs, e, h1, h2⟩ := Rep.lst_inv h
    exact ⟨a, vs, e, r.bh _ _ h1, h2.flat hk⟩
  | h =>
    obtain ⟨L, vs, ds, e1, e2, _, _, e3, e4⟩ := h
    cases e2
    exact ⟨L, vs, e1, e3, e4⟩
  | o =>
    obtain ⟨L, vs, ds, e1, e2, _, _, e3, e4⟩ := h
    cases e2
    exact ⟨L, vs, e1, e3, e4⟩
end

def XOk (K : PySem.W.Frag) (G : Hp) (σ : L2.St) (H : Hp) (W : Wi) (x : Exn) : Prop := ∀ G' H' cls d, Ext G H G' H' → RepX K G' H' x cls d → W.w cls d σ H'
theorem XOk.ext {K : PySem.W.Frag} {G H G' H' : Hp} {σ : L2.St} {W : Wi} {x : Exn} (h : XOk K G σ H W x) (e : Ext G H G' H') : XOk K G' σ H' W x := fun G2 H2 cls d e2 r => h G2 H2 cls d (e.trans e2) r
/-- the reading te of an expression gives what f says -/
structure EvD (K : PySem.W.Frag) (W : Wi) (te : TE) (f : En → Res Vl) : Prop where
  ok : ∀ (B G0 G : Hp) (env : En) (σ : L2.St) (H : Hp) (u : Vl), Rel K W B G0 G env σ H → f env = .ok u → ∀ Q : VK, (∀ G' H' v, Ext G H G' H' → Rp K B G' H H' u v → Q v H') → te σ H Q
  ex : ∀ (B G0 G : Hp) (env : En) (σ : L2.St) (H : Hp) (x : Exn), Rel K W B G0 G env σ H → f env = .ex x → XOk K G σ H W x → ∀ Q : VK, te σ H Q
structure EvT (K : PySem.W.Frag) (W : Wi) (tt : TT) (f : En → Res Bool) : Prop where
  ok : ∀ (B G0 G : Hp) (env : En) (σ : L2.St) (H : Hp) (b : Bool), Rel K W B G0 G env σ H → f env = .ok b → ∀ Q : Bool → Hp → Prop, (∀ G' H', Ext G H G' H' → Q b H') → tt σ H Q
  ex : ∀ (B G0 G : Hp) (env : En) (σ : L2.St) (H : Hp) (x : Exn), Rel K W B G0 G env σ H → f env = .ex x → XOk K G σ H W x → ∀ Q : Bool → Hp → Prop, tt σ H Q
/-- arguments: what was new is kept -/
def Vl.arg : Vl → Vl
  | ⟨.o, d⟩ => ⟨.g, d⟩
  | u => u
def RpL (K : PySem.W.Frag) (B G' H' : Hp) : List Vl → List V → Prop
  | [], vs => vs = []
  | u :: us, vs => ∃ v r, vs = v :: r ∧ Rp K B G' H' H' u v ∧ RpL K B G' H' us r
structure EvA (K : PySem.W.Frag) (W : Wi) (ta : TA) (f : En → Res (List Vl)) : Prop where
  ok : ∀ (B G0 G : Hp) (env : En) (σ : L2.St) (H : Hp) (us : List Vl), Rel K W B G0 G env σ H → f env = .ok us → ∀ Q : List V → Hp → Prop, (∀ G' H' vs, Ext G H G' H' → RpL K B G' H' us vs → Q vs H') → ta σ H Q
  ex : ∀ (B G0 G : Hp) (env : En) (σ : L2.St) (H : Hp) (x : Exn), Rel K W B G0 G env σ H → f env = .ex x → XOk K G σ H W x → ∀ Q : List V → Hp → Prop, ta σ H Q
structure DE (X : Cx) (W : Wi) (e : Expr) (te : TE) (f : En → Res Vl) : Prop where
  pe : PE X e te
  ev : EvD X.K W te f
structure DT (X : Cx) (W : Wi) (e : Expr) (tt : TT) (f : En → Res Bool) : Prop where
  pt : PT X e tt
  ev : EvT X.K W tt f
structure DW (X : Cx) (W : Wi) (e : Expr) (tt : TT) (f : En → Res Bool) : Prop where
  pw : PW X e tt
  ev : EvT X.K W tt f
structure DA (X : Cx) (W : Wi) (es : List Expr) (ta : TA) (f : En → Res (List Vl)) : Prop where
  pa : PA X es ta
  ev : EvA X.K W ta f
section
variable {K : PySem.W.Frag} {W : Wi} {B G0 G G' G'' H H' H'' : Hp} {env : En} {σ : L2.St}
theorem Rp.arg {u : Vl} {v : V} (x : Ext G H G' H') (h : Rp K B G' H H' u v) : ∃ G'', Ext G H G'' H' ∧ Rp K B G'' H' H' u.arg v := by
  obtain ⟨k, d⟩ := u
  cases k with
  | g => exact ⟨G', x, h⟩
  | b => exact ⟨G', x, h⟩
  | h => exact ⟨G', x, h⟩
  | o =>
    obtain ⟨G2, x2, _, h2⟩ := h.freeze x rfl
    exact ⟨G2, x2, h2⟩
theorem Rp.own {u : Vl} {v : V} (h : Rp K B G' H' H' u v) (k : u.k ≠ .o) : Rp K B G' H H' u v := by
  obtain ⟨k', d⟩ := u
  cases k' with
  | g => exact h
  | b => exact h
  | h => exact h
  | o => exact absurd rfl k
theorem Vl.arg_k (u : Vl) : u.arg.k ≠ .o := by
  obtain ⟨k, d⟩ := u
  cases k <;> exact fun z => nomatch z
theorem Vl.arg_d (u : Vl) : u.arg.d = u.d := by
  obtain ⟨k, d⟩ := u
  cases k <;> rfl
/-- the operands of a two-place operation -/
theorem ev_two {ta tb : TE} {f g : En → Res Vl} (ha : EvD K W ta f) (hb : EvD K W tb g) {u w : Vl} (r : Rel K W B G0 G env σ H) (e1 : f env = .ok u) (e2 : g env = .ok w) {R : V → V → Hp → Prop}
    (k : ∀ G' H' x y, Ext G H G' H' → Rel K W B G0 G' env σ H' → Rp K B G' H H' u x → Rp K B G' H H' w y → R x y H') : ta σ H fun x H1 => tb σ H1 fun y H2 => R x y H2 :=
  ha.ok B G0 G env σ H u r e1 _ fun G1 H1 x x1 h1 => hb.ok B G0 G1 env σ H1 w (r.ext x1) e2 _ fun G2 H2 y x2 h2 => k G2 H2 x y (x1.trans x2) ((r.ext x1).ext x2) (h1.mono x2) (h2.from x1.hh)
end

/-! ### expressions -/
def cE (d : D) : En → Res Vl := fun _ => .ok ⟨.g, d⟩
def kd : Bool → Kd
  | true => .g
  | false => .b
def nmE (i : Nat) : En → Res Vl := fun env => match env[i]? with
  | some (.vl g d) => .ok ⟨kd g, d⟩
  | some (.ow xs) => .ok ⟨.h, .lst xs⟩
  | _ => .no
def binE (p : Vl → Vl → Res Vl) (f g : En → Res Vl) : En → Res Vl := fun env => (f env).bind fun x => (g env).bind fun y => p x y
def unE (p : Vl → Res Vl) (f : En → Res Vl) : En → Res Vl := fun env => (f env).bind p
def nilA : En → Res (List Vl) := fun _ => .ok []
def consA (f : En → Res Vl) (g : En → Res (List Vl)) : En → Res (List Vl) := fun env => (f env).bind fun x => (g env).bind fun xs => .ok (x.arg :: xs)
def callE (p : List Vl → Res Vl) (f : En → Res (List Vl)) : En → Res Vl := fun env => (f env).bind p
section
variable {X : Cx} {W : Wi} {pos : Pos}
theorem ev_c {K : PySem.W.Frag} {W : Wi} {d : D} {v : V} (h : ∀ G, Rep K G v d) : EvD K W (tC v) (cE d) := ⟨fun B G0 G env σ H u r e Q q => by
  cases e
  exact q G H v (Ext.refl r.gh) (h G), fun B G0 G env σ H x r e => nomatch e⟩
theorem de_int {i : Int} {j} : DE X W (.Constant (.int i) j pos) (tC (.int i)) (cE (.int i)) := ⟨pe_int, ev_c fun _ => .int i⟩
theorem de_bl {b : Bool} {j} : DE X W (.Constant (.bool b) j pos) (tC (.bl b)) (cE (.bl b)) := ⟨pe_bl, ev_c fun _ => .bl b⟩
theorem de_non {j} : DE X W (.Constant .none j pos) (tC .non) (cE .non) := ⟨pe_non, ev_c fun _ => .non⟩
theorem de_str {x : Str} {j} : DE X W (.Constant (.str x) j pos) (tC (.str x)) (cE (.str x)) := ⟨pe_str, ev_c fun _ => .str x⟩
theorem nmE_ne {i : Nat} {env : En} {x : Exn} : nmE i env ≠ .ex x := by
  unfold nmE
  split <;> exact fun z => nomatch z
theorem ev_nm {K : PySem.W.Frag} {W : Wi} (i : Nat) : EvD K W (tVar i) (nmE i) := ⟨fun B G0 G env σ H u r e Q q => by
  have hl := r.len
  unfold nmE at e
  cases es : env[i]? with
  | none => rw [es] at e; cases e
  | some s =>
    rw [es] at e
    have hi : i < σ.length := by
      have := (List.getElem?_eq_some_iff.mp es).1
      omega
    have eo : σ[i]? = some σ[i] := List.getElem?_eq_getElem hi
    have h := r.sl i s _ es eo
    match s, h, e with
    | .vl true d, ⟨v, e1, h1⟩, e =>
      cases e
      exact ⟨v, by rw [eo, e1], q G H v (Ext.refl r.gh) h1⟩
    | .vl false d, ⟨v, e1, h1⟩, e =>
      cases e
      exact ⟨v, by rw [eo, e1], q G H v (Ext.refl r.gh) h1⟩
    | .ow xs, ⟨L, vs, e1, h1⟩, e =>
      cases e
      exact ⟨.ref L, by rw [eo, e1], q G H _ (Ext.refl r.gh) ⟨L, vs, xs, rfl, rfl, h1⟩⟩, fun B G0 G env σ H x r e => absurd e nmE_ne⟩
theorem de_nm (i : Nat) {x : Str} (hN : X.N[i]? = some x := by rfl) (hv : Vis X.env.scope x := by first | exact Or.inl rfl | exact Or.inr (Or.inl rfl) | exact Or.inr (Or.inr rfl)) (hd : (x == ("__debug__" : Str)) = false := by decide)
    (hcd : (x == ("__classdict__" : Str)) = false := by decide) : DE X W (.Name x pos) (tVar i) (nmE i) := ⟨pe_var hN hv hd hcd, ev_nm i⟩
end

/-- a two-place reading does what p says -/
structure Snd2 (K : PySem.W.Frag) (r : R2) (p : Vl → Vl → Res Vl) : Prop where
  ok : ∀ (B G0 G G' : Hp) (env : En) (σ : L2.St) (H H' : Hp) (u w z : Vl) (x y : V) (Q : VK), Rel K W B G0 G' env σ H' → Rp K B G' H H' u x → Rp K B G' H H' w y → p u w = .ok z →
    (∀ G2 H2 v, Ext G' H' G2 H2 → Rp K B G2 H' H2 z v → Q v H2) → r x y H' Q
  ne : ∀ u w x, p u w ≠ .ex x
theorem ev_bin {K : PySem.W.Frag} {W : Wi} {r : R2} {p : Vl → Vl → Res Vl} {ta tb : TE} {f g : En → Res Vl} (s : Snd2 K r p) (ha : EvD K W ta f) (hb : EvD K W tb g) : EvD K W (tOp r ta tb) (binE p f g) := ⟨fun B G0 G env σ H z rl e Q q => by
  obtain ⟨u, e1, e⟩ := Res.bind_eq e
  obtain ⟨w, e2, e⟩ := Res.bind_eq e
  exact ev_two ha hb rl e1 e2 fun G' H' x y xt r' h1 h2 => s.ok B G0 G G' env σ H H' u w z x y Q r' h1 h2 e fun G2 H2 v x2 h3 => q G2 H2 v (xt.trans x2) (h3.from xt.hh),
  fun B G0 G env σ H x rl e w Q => by
  rcases Res.bind_ex e with e1 | ⟨u, e1, e⟩
  · exact ha.ex B G0 G env σ H x rl e1 w _
  · rcases Res.bind_ex e with e2 | ⟨u2, e2, e⟩
    · exact ha.ok B G0 G env σ H u rl e1 _ fun G1 H1 v x1 h1 => hb.ex B G0 G1 env σ H1 x (rl.ext x1) e2 (w.ext x1) _
    · exact absurd e (s.ne _ _ _)⟩
theorem Snd2.or1 {K : PySem.W.Frag} {r r' : R2} {p : Vl → Vl → Res Vl} (h : Snd2 K r p) : Snd2 K (fun x y H Q => r x y H Q ∨ r' x y H Q) p := ⟨fun B G0 G G' env σ H H' u w z x y Q a b c d e => .inl (h.ok B G0 G G' env σ H H' u w z x y Q a b c d e), h.ne⟩
section
variable {X : Cx} {W : Wi} {pos : Pos} {a b : Expr} {ta tb : TE} {f g : En → Res Vl}
theorem de_bin {op : Operator} {r : R2} {p : Vl → Vl → Res Vl} (ho : OpR X (binaryOp op) r) (s : Snd2 X.K r p) (ha : DE X W a ta f) (hb : DE X W b tb g) : DE X W (.BinOp a op b pos) (tOp r ta tb) (binE p f g) := ⟨pe_op ho ha.pe hb.pe, ev_bin s ha.ev hb.ev⟩
theorem de_cmp {op : CmpOp} {r : R2} {p : Vl → Vl → Res Vl} (ho : OpR X (compareOp op) r) (s : Snd2 X.K r p) (ha : DE X W a ta f) (hb : DE X W b tb g) (hm : behindInMarks op b = false) : DE X W (.Compare a [op] [b] pos) (tOp r ta tb) (binE p f g) :=
  ⟨pe_cmpR ho ha.pe hb.pe hm, ev_bin s ha.ev hb.ev⟩
end
end DL

namespace DL
open PySem L2
/-! ### operators by data -/
def intP (g : Int → Int → Res D) : Vl → Vl → Res Vl := fun u w => match u.d, w.d with
  | .int i, .int j => (g i j).bind fun d => .ok ⟨.g, d⟩
  | _, _ => .no
def catP : Vl → Vl → Res Vl := fun u w => match u.d, w.d with
  | .lst xs, .lst ys => if u.k.it xs = true ∧ w.k.it ys = true ∧ xs.length + ys.length ≤ sizeLine then .ok ⟨.o, .lst (xs ++ ys)⟩ else .no
  | _, _ => .no
def scatP : Vl → Vl → Res Vl := fun u w => match u.d, w.d with
  | .str a, .str b => if a.length + b.length ≤ sizeLine then .ok ⟨.g, .str (a ++ b)⟩ else .no
  | _, _ => .no
def addI (i j : Int) : Res D := .ok (.int (i + j))
def addP : Vl → Vl → Res Vl := fun u w => match u.d, w.d with
  | .int _, _ => intP addI u w
  | .lst _, _ => catP u w
  | .str _, _ => scatP u w
  | _, _ => .no
def subI (i j : Int) : Res D := .ok (.int (i - j))
instance (i j : Int) : Decidable (CMulW i j) := by unfold CMulW; infer_instance
instance (i j : Int) : Decidable (CDivW i j) := by unfold CDivW; infer_instance
instance (i j : Int) : Decidable (CPow i j) := by unfold CPow; infer_instance
instance (i j : Int) : Decidable (CDiv i j) := by unfold CDiv; infer_instance
def mulI (i j : Int) : Res D := if CMulW i j then .ok (.int (i * j)) else .no
def divI (i j : Int) : Res D := if CDivW i j then .ok (.int (i / j)) else .no
def modI (i j : Int) : Res D := if 0 < j then .ok (.int (i % j)) else .no
def powI (i j : Int) : Res D := if CPow i j then .ok (.int (i ^ j.toNat)) else .no
def ltI (i j : Int) : Res D := .ok (.bl (decide (i < j)))
def leI (i j : Int) : Res D := .ok (.bl (decide (i ≤ j)))
def gtI (i j : Int) : Res D := .ok (.bl (decide (j < i)))
def geI (i j : Int) : Res D := .ok (.bl (decide (j ≤ i)))
theorem if_nx {α : Type} {c : Prop} [Decidable c] {a : α} {x : Exn} : (if c then Res.ok a else Res.no) ≠ Res.ex x := by
  split <;> exact fun z => nomatch z
theorem bind_nx {α β : Type} {r : Res α} {f : α → Res β} {x : Exn} (h : ∀ x, r ≠ .ex x) (h2 : ∀ a x, f a ≠ .ex x) : r.bind f ≠ .ex x := fun e => by
  rcases Res.bind_ex e with e | ⟨a, _, e⟩
  · exact h _ e
  · exact h2 _ _ e
theorem intP_nx {g : Int → Int → Res D} (h : ∀ i j x, g i j ≠ .ex x) (u w : Vl) (x : Exn) : intP g u w ≠ .ex x := by
  unfold intP
  split
  · exact bind_nx (h _ _) fun _ _ z => nomatch z
  · exact fun z => nomatch z
section
variable {K : PySem.W.Frag}
theorem intP_inv {g : Int → Int → Res D} {u w z : Vl} (h : intP g u w = .ok z) : ∃ i j d, u.d = .int i ∧ w.d = .int j ∧ g i j = .ok d ∧ z = ⟨.g, d⟩ := by
  unfold intP at h
  split at h
  · rename_i i j e1 e2
    obtain ⟨d, h1, h2⟩ := Res.bind_eq h
    cases h2
    exact ⟨i, j, d, e1, e2, h1, rfl⟩
  · cases h
/-- readings of two ints -/
theorem snd_I0 {g : Int → Int → V} {p : Int → Int → Res D} (h : ∀ i j d, p i j = .ok d → ∀ G, Rep K G (g i j) d) (hx : ∀ i j x, p i j ≠ .ex x := by first | exact fun _ _ _ => if_nx | exact fun _ _ _ z => by cases z) : Snd2 K (rI0 g) (intP p) := ⟨fun B G0 G G' env σ H H' u w z x y Q rl hu hw e q => by
  obtain ⟨i, j, d, e1, e2, e3, e4⟩ := intP_inv e
  subst e4
  have a := hu.look rl
  have b := hw.look rl
  rw [e1] at a
  rw [e2] at b
  exact ⟨i, j, a.int_inv, b.int_inv, q G' H' _ (Ext.refl rl.gh) (h i j d e3 G')⟩, intP_nx hx⟩
theorem snd_I {C : Int → Int → Prop} {g : Int → Int → V} {p : Int → Int → Res D} (h : ∀ i j d, p i j = .ok d → C i j ∧ ∀ G, Rep K G (g i j) d) (hx : ∀ i j x, p i j ≠ .ex x := by first | exact fun _ _ _ => if_nx | exact fun _ _ _ z => by cases z) : Snd2 K (rI C g) (intP p) := ⟨fun B G0 G G' env σ H H' u w z x y Q rl hu hw e q => by
  obtain ⟨i, j, d, e1, e2, e3, e4⟩ := intP_inv e
  subst e4
  have a := hu.look rl
  have b := hw.look rl
  rw [e1] at a
  rw [e2] at b
  exact ⟨i, j, a.int_inv, b.int_inv, (h i j d e3).1, q G' H' _ (Ext.refl rl.gh) ((h i j d e3).2 G')⟩, intP_nx hx⟩
theorem if_ok {α : Type} {c : Prop} [Decidable c] {a b : α} (h : (if c then Res.ok a else Res.no) = Res.ok b) : c ∧ a = b := by
  by_cases hc : c
  · rw [if_pos hc] at h
    cases h
    exact ⟨hc, rfl⟩
  · rw [if_neg hc] at h
    cases h
theorem snd_sub : Snd2 K (rI0 fun i j => .int (i - j)) (intP subI) := snd_I0 fun i j d e G => by cases e; exact .int _
theorem snd_add : Snd2 K (rI0 fun i j => .int (i + j)) (intP addI) := snd_I0 fun i j d e G => by cases e; exact .int _
theorem snd_mul : Snd2 K (rI CMulW fun i j => .int (i * j)) (intP mulI) := snd_I fun i j d e => by obtain ⟨c, rfl⟩ := if_ok e; exact ⟨c, fun G => .int _⟩
theorem snd_div : Snd2 K (rI CDivW fun i j => .int (i / j)) (intP divI) := snd_I fun i j d e => by obtain ⟨c, rfl⟩ := if_ok e; exact ⟨c, fun G => .int _⟩
theorem snd_mod : Snd2 K (rI (fun _ j => 0 < j) fun i j => .int (i % j)) (intP modI) := snd_I fun i j d e => by obtain ⟨c, rfl⟩ := if_ok e; exact ⟨c, fun G => .int _⟩
theorem snd_pow : Snd2 K (rI CPow fun i j => .int (i ^ j.toNat)) (intP powI) := snd_I fun i j d e => by obtain ⟨c, rfl⟩ := if_ok e; exact ⟨c, fun G => .int _⟩
theorem snd_lt : Snd2 K (rI0 fun i j => .bl (decide (i < j))) (intP ltI) := snd_I0 fun i j d e G => by cases e; exact .bl _
theorem snd_le : Snd2 K (rI0 fun i j => .bl (decide (i ≤ j))) (intP leI) := snd_I0 fun i j d e G => by cases e; exact .bl _
theorem snd_gt : Snd2 K (rI0 fun i j => .bl (decide (j < i))) (intP gtI) := snd_I0 fun i j d e G => by cases e; exact .bl _
theorem snd_ge : Snd2 K (rI0 fun i j => .bl (decide (j ≤ i))) (intP geI) := snd_I0 fun i j d e G => by cases e; exact .bl _
/-- a new list -/
theorem new_list {B G0 G' H' : Hp} {env : En} {σ : L2.St} {Q : VK} {vs : List V} {ds : List D} (rl : Rel K W B G0 G' env σ H') (r : RepL K G' vs ds) (q : ∀ G2 H2 v, Ext G' H' G2 H2 → Rp K B G2 H' H2 ⟨.o, .lst ds⟩ v → Q v H2) : ∀ p, H' p = none → Q (.ref p) (upd H' p (.lst vs)) := fun p hp =>
  q G' _ _ (Ext.new rl.gh hp) ⟨p, vs, ds, rfl, rfl, hp, rl.gh.free hp, upd_same, r⟩
theorem new_tup {B G0 G' H' : Hp} {env : En} {σ : L2.St} {Q : VK} {vs : List V} {ds : List D} (rl : Rel K W B G0 G' env σ H') (r : RepL K G' vs ds) (q : ∀ G2 H2 v, Ext G' H' G2 H2 → Rp K B G2 H' H2 ⟨.g, .tup ds⟩ v → Q v H2) : ∀ p, H' p = none → Q (.ref p) (upd H' p (.tup vs)) := fun p hp =>
  q _ _ _ (Ext.newG rl.gh hp) (.tup (SqT.of upd_same) (r.mono (same_upd (Same.refl _) (rl.gh.free hp))))
theorem snd_cat : Snd2 K rCat catP := ⟨fun B G0 G G' env σ H H' u w z x y Q rl hu hw e q => (by
  unfold catP at e
  split at e
  · rename_i xs ys e1 e2
    obtain ⟨⟨c1, c2, c3⟩, rfl⟩ := if_ok e
    obtain ⟨a, vs, rfl, h1, r1⟩ := hu.items rl e1 c1
    obtain ⟨b, ws, rfl, h2, r2⟩ := hw.items rl e2 c2
    exact ⟨a, b, vs, ws, rfl, rfl, h1, h2, by rw [r1.len, r2.len]; exact c3, new_list rl (r1.app r2) q⟩
  · cases e), fun u w x => by
  unfold catP
  split
  · exact if_nx
  · exact fun z => nomatch z⟩
theorem snd_scat : Snd2 K (fun x y H Q => ∃ i j, x = .str i ∧ y = .str j ∧ i.length + j.length ≤ sizeLine ∧ Q (.str (i ++ j)) H) scatP := ⟨fun B G0 G G' env σ H H' u w z x y Q rl hu hw e q => (by
  unfold scatP at e
  split at e
  · rename_i i j e1 e2
    obtain ⟨c, rfl⟩ := if_ok e
    have a := hu.look rl
    have b := hw.look rl
    rw [e1] at a
    rw [e2] at b
    exact ⟨i, j, a.str_inv, b.str_inv, c, q G' H' _ (Ext.refl rl.gh) (.str _)⟩
  · cases e), fun u w x => by
  unfold scatP
  split
  · exact if_nx
  · exact fun z => nomatch z⟩
def rAdd3 : R2 := fun x y H Q => rI0 (fun i j => .int (i + j)) x y H Q ∨ (rCat x y H Q ∨ ∃ i j, x = .str i ∧ y = .str j ∧ i.length + j.length ≤ sizeLine ∧ Q (.str (i ++ j)) H)
theorem op_add3 {X : Cx} : OpR X (binaryOp .Add) rAdd3 := op_add.or (op_cat.or op_add_str)
theorem snd_add3 : Snd2 K rAdd3 addP := ⟨fun B G0 G G' env σ H H' u w z x y Q rl hu hw e q => (by
  unfold addP at e
  split at e
  · exact .inl (snd_add.ok B G0 G G' env σ H H' u w z x y Q rl hu hw e q)
  · exact .inr (.inl (snd_cat.ok B G0 G G' env σ H H' u w z x y Q rl hu hw e q))
  · exact .inr (.inr (snd_scat.ok B G0 G G' env σ H H' u w z x y Q rl hu hw e q))
  · cases e), fun u w x => by
  unfold addP
  split
  · exact snd_add.ne (K := K) _ _ _
  · exact snd_cat.ne (K := K) _ _ _
  · exact snd_scat.ne (K := K) _ _ _
  · exact fun z => nomatch z⟩
end
section
variable {X : Cx} {W : Wi} {pos : Pos} {a b : Expr} {ta tb : TE} {f g : En → Res Vl}
theorem de_add (ha : DE X W a ta f) (hb : DE X W b tb g) : DE X W (.BinOp a .Add b pos) (tOp rAdd3 ta tb) (binE addP f g) := de_bin op_add3 snd_add3 ha hb
theorem de_sub (ha : DE X W a ta f) (hb : DE X W b tb g) : DE X W (.BinOp a .Sub b pos) (tOp (rI0 fun i j => .int (i - j)) ta tb) (binE (intP subI) f g) := de_bin op_sub snd_sub ha hb
theorem de_mul (ha : DE X W a ta f) (hb : DE X W b tb g) : DE X W (.BinOp a .Mult b pos) (tOp (rI CMulW fun i j => .int (i * j)) ta tb) (binE (intP mulI) f g) := de_bin op_mulW snd_mul ha hb
theorem de_div (ha : DE X W a ta f) (hb : DE X W b tb g) : DE X W (.BinOp a .FloorDiv b pos) (tOp (rI CDivW fun i j => .int (i / j)) ta tb) (binE (intP divI) f g) := de_bin op_fdivW snd_div ha hb
theorem de_mod (ha : DE X W a ta f) (hb : DE X W b tb g) : DE X W (.BinOp a .Mod b pos) (tOp (rI (fun _ j => 0 < j) fun i j => .int (i % j)) ta tb) (binE (intP modI) f g) := de_bin op_mod snd_mod ha hb
theorem de_pow (ha : DE X W a ta f) (hb : DE X W b tb g) : DE X W (.BinOp a .Pow b pos) (tOp (rI CPow fun i j => .int (i ^ j.toNat)) ta tb) (binE (intP powI) f g) := de_bin op_pow snd_pow ha hb
theorem de_lt (ha : DE X W a ta f) (hb : DE X W b tb g) : DE X W (.Compare a [.Lt] [b] pos) (tOp (rI0 fun i j => .bl (decide (i < j))) ta tb) (binE (intP ltI) f g) := de_cmp op_lt snd_lt ha hb (nomark _)
theorem de_le (ha : DE X W a ta f) (hb : DE X W b tb g) : DE X W (.Compare a [.LtE] [b] pos) (tOp (rI0 fun i j => .bl (decide (i ≤ j))) ta tb) (binE (intP leI) f g) := de_cmp op_le snd_le ha hb (nomark _)
theorem de_gt (ha : DE X W a ta f) (hb : DE X W b tb g) : DE X W (.Compare a [.Gt] [b] pos) (tOp (rI0 fun i j => .bl (decide (j < i))) ta tb) (binE (intP gtI) f g) := de_cmp op_gt snd_gt ha hb (nomark _)
theorem de_ge (ha : DE X W a ta f) (hb : DE X W b tb g) : DE X W (.Compare a [.GtE] [b] pos) (tOp (rI0 fun i j => .bl (decide (j ≤ i))) ta tb) (binE (intP geI) f g) := de_cmp op_ge snd_ge ha hb (nomark _)
end

/-! ### == -/
mutual
def toPy : D → PyData
  | .non => .none
  | .bl b => .bool b
  | .int i => .int i
  | .str x => .str x
  | .lst xs => .list (toPyL xs)
  | .tup xs => .tuple (toPyL xs)
  | .fz xs => .list (toPyL xs)
  | .obj _ _ _ => .dict []
  | .exn _ _ _ => .dict []
def toPyL : List D → List PyData
  | [] => []
  | x :: xs => toPy x :: toPyL xs
end
theorem canL_cons {d : D} {ds : List D} (h : PyData.canLayAll0 (toPyL (d :: ds)) = true) : (toPy d).canLay0 = true ∧ PyData.canLayAll0 (toPyL ds) = true := by
  have h' : PyData.canLayAll0 (toPy d :: toPyL ds) = true := h
  simpa [PyData.canLayAll0] using h'
mutual
theorem Rep.dp0 {K : PySem.W.Frag} {G : Hp} : ∀ {v : V} {d : D}, Rep K G v d → (toPy d).canLay0 = true → Dp K G v (toPy d)
  | _, _, .non, _ => .non
  | _, _, .bl b, _ => .bl b
  | _, _, .int i, _ => .int i
  | _, _, .str x, _ => .str x
  | _, _, .lst h l, c => .lst (SqL.of h) (RepL.dp0 l (by simpa [toPy, PyData.canLay0] using c))
  | _, _, .tup h l, c => .tup h (RepL.dp0 l (by simpa [toPy, PyData.canLay0] using c))
  | _, _, .fz h l, c => .lst h (RepL.dp0 l (by simpa [toPy, PyData.canLay0] using c))
  | _, _, .obj _ _ _ _ _, c => nomatch c
  | _, _, .exn0 _ _, c => nomatch c
  | _, _, .exn _ _ _ _ _, c => nomatch c
theorem RepL.dp0 {K : PySem.W.Frag} {G : Hp} : ∀ {vs : List V} {ds : List D}, RepL K G vs ds → PyData.canLayAll0 (toPyL ds) = true → DpAll K G vs (toPyL ds)
  | _, _, .nil, _ => .nil
  | _, _, .cons h l, c => .cons (Rep.dp0 h (canL_cons c).1) (RepL.dp0 l (canL_cons c).2)
end
theorem Rep.dp {K : PySem.W.Frag} {G : Hp} {v : V} {d : D} (h : Rep K G v d) (c : SeqAt.shaped (toPy d) = true) : Dp K G v (toPy d) := h.dp0 (SeqAt.canLay_of_shaped c)
def scalD : D → D → Option Bool
  | .int i, .int j => some (decide (i = j))
  | .str x, .str y => some (decide (x = y))
  | .bl a, .bl b => some (decide (a = b))
  | .non, .non => some true
  | .non, .int _ => some false
  | .int _, .non => some false
  | .non, .str _ => some false
  | .str _, .non => some false
  | .int _, .str _ => some false
  | .str _, .int _ => some false
  | _, _ => none
def eqB (neg : Bool) (u w : D) : Res Bool := match scalD u w with
  | some b => .ok (if neg then !b else b)
  | none => if SeqAt.shaped (toPy u) = true ∧ SeqAt.shaped (toPy w) = true then .ok (if neg then !PyData.eqv (toPy u) (toPy w) else PyData.eqv (toPy u) (toPy w)) else .no
def eqP (neg : Bool) : Vl → Vl → Res Vl := fun u w => (eqB neg u.d w.d).bind fun b => .ok ⟨.g, .bl b⟩
def rEq2 (K : PySem.W.Frag) : R2 := fun x y H Q => rEq x y H Q ∨ rEqD K x y H Q
def rNe2 (K : PySem.W.Frag) : R2 := fun x y H Q => rNe x y H Q ∨ rNeD K x y H Q
theorem scalD_V {K : PySem.W.Frag} {G G' : Hp} {x y : V} {d e : D} {b : Bool} (hx : Rep K G x d) (hy : Rep K G' y e) (h : scalD d e = some b) : scal x y = true ∧ decide (x = y) = b := by
  cases hx <;> cases hy <;> first
    | (simp [scalD] at h; done)
    | (simp [scalD] at h; subst h; simp [scal])
theorem eqP_nx {n : Bool} (u w : Vl) (x : Exn) : eqP n u w ≠ .ex x := by
  unfold eqP
  refine bind_nx (fun x => ?_) fun _ _ z => nomatch z
  unfold eqB
  split
  · exact fun z => nomatch z
  · exact if_nx
theorem snd_eq {K : PySem.W.Frag} : Snd2 K (rEq2 K) (eqP false) := ⟨fun B G0 G G' env σ H H' u w z x y Q rl hu hw e q => by
  obtain ⟨b, e1, e2⟩ := Res.bind_eq e
  cases e2
  have a := hu.look rl
  have c := hw.look rl
  unfold eqB at e1
  split at e1
  · rename_i b' es
    cases e1
    obtain ⟨s1, s2⟩ := scalD_V a c es
    exact .inl ⟨s1, by rw [s2]; exact q G' H' _ (Ext.refl rl.gh) (.bl _)⟩
  · obtain ⟨⟨c1, c2⟩, rfl⟩ := if_ok e1
    exact .inr ⟨_, _, a.dp c1, c.dp c2, c1, c2, q G' H' _ (Ext.refl rl.gh) (.bl _)⟩, eqP_nx⟩
theorem snd_ne {K : PySem.W.Frag} : Snd2 K (rNe2 K) (eqP true) := ⟨fun B G0 G G' env σ H H' u w z x y Q rl hu hw e q => by
  obtain ⟨b, e1, e2⟩ := Res.bind_eq e
  cases e2
  have a := hu.look rl
  have c := hw.look rl
  unfold eqB at e1
  split at e1
  · rename_i b' es
    cases e1
    obtain ⟨s1, s2⟩ := scalD_V a c es
    exact .inl ⟨s1, by rw [s2]; exact q G' H' _ (Ext.refl rl.gh) (.bl _)⟩
  · obtain ⟨⟨c1, c2⟩, rfl⟩ := if_ok e1
    exact .inr ⟨_, _, a.dp c1, c.dp c2, c1, c2, q G' H' _ (Ext.refl rl.gh) (.bl _)⟩, eqP_nx⟩
/-! ### is -/
def isP (neg : Bool) : Vl → Vl → Res Vl := fun u w => match w.d, u.d with
  | .non, .non => .ok ⟨.g, .bl (!neg)⟩
  | .non, _ => .ok ⟨.g, .bl neg⟩
  | .bl b, .bl a => .ok ⟨.g, .bl (if neg then !decide (a = b) else decide (a = b))⟩
  | .bl _, _ => .ok ⟨.g, .bl neg⟩
  | _, _ => .no
def rIs (neg : Bool) : R2 := fun x y H Q => (y = .non ∨ ∃ b, y = .bl b) ∧ Q (.bl (if neg then !decide (x = y) else decide (x = y))) H
theorem is_plain {x y : V} {v u : Value} (rx : RelV x v) (ry : RelV y u) (h : y = .non ∨ ∃ b, y = .bl b) : plainIs v u = true ∧ (v == u) = decide (x = y) := by
  rcases h with rfl | ⟨b, rfl⟩
  · cases ry
    cases x <;> first
      | (cases rx; exact ⟨rfl, rfl⟩)
      | (obtain ⟨t, rfl⟩ := rx; exact ⟨rfl, rfl⟩)
  · cases (show u = Value.bool b from ry)
    cases x <;> first
      | (obtain ⟨t, rfl⟩ := rx; exact ⟨rfl, rfl⟩)
      | (rename_i a; cases (show v = Value.bool a from rx); refine ⟨rfl, ?_⟩; rw [Bool.eq_iff_iff]; simp)
      | (cases rx; exact ⟨rfl, rfl⟩)
theorem op_is {X : Cx} : OpR X (compareOp .Is) (rIs false) := fun pins s σ H x y v u Q I rx ry ⟨h, q⟩ => by
  obtain ⟨h1, h2⟩ := is_plain rx ry h
  exact wpAny_is_plain h1 (fin_bl I q h2.symm)
theorem op_isNot {X : Cx} : OpR X (compareOp .IsNot) (rIs true) := fun pins s σ H x y v u Q I rx ry ⟨h, q⟩ => by
  obtain ⟨h1, h2⟩ := is_plain rx ry h
  exact wpAny_isNot_plain h1 (fin_bl I q (by rw [h2]; rfl))
theorem snd_is {K : PySem.W.Frag} (neg : Bool) : Snd2 K (rIs neg) (isP neg) := ⟨fun B G0 G G' env σ H H' u w z x y Q rl hu hw e q => (by
  have a := hu.look rl
  have c := hw.look rl
  have fin : ∀ b, z = ⟨.g, .bl b⟩ → Q (.bl b) H' := fun b e => by
    subst e
    exact q G' H' _ (Ext.refl rl.gh) (.bl _)
  obtain ⟨ku, du⟩ := u
  obtain ⟨kw, dw⟩ := w
  dsimp only [Vl.d] at a c
  unfold isP at e
  cases c with
  | non =>
    refine ⟨.inl rfl, fin _ ?_⟩
    cases a <;> (injection e with e; rw [← e]; cases neg <;> simp)
  | bl b =>
    refine ⟨.inr ⟨b, rfl⟩, fin _ ?_⟩
    cases a <;> (injection e with e; rw [← e]; cases neg <;> simp)
  | _ => cases e), fun u w x => by
  unfold isP
  split <;> exact fun z => nomatch z⟩
section
variable {X : Cx} {W : Wi} {pos : Pos} {a b : Expr} {ta tb : TE} {f g : En → Res Vl}
theorem de_eq (hu : X.A.units + 64 < cLine) (ha : DE X W a ta f) (hb : DE X W b tb g) : DE X W (.Compare a [.Eq] [b] pos) (tOp (fun x y H Q => rEq x y H Q ∨ rEqD X.K x y H Q) ta tb) (binE (eqP false) f g) := de_cmp (op_eq.or (op_eqD hu)) snd_eq ha hb (nomark _)
theorem de_ne (hu : X.A.units + 64 < cLine) (ha : DE X W a ta f) (hb : DE X W b tb g) : DE X W (.Compare a [.NotEq] [b] pos) (tOp (fun x y H Q => rNe x y H Q ∨ rNeD X.K x y H Q) ta tb) (binE (eqP true) f g) := de_cmp (op_ne.or (op_neD hu)) snd_ne ha hb (nomark _)
theorem de_is (ha : DE X W a ta f) (hb : DE X W b tb g) : DE X W (.Compare a [.Is] [b] pos) (tOp (rIs false) ta tb) (binE (isP false) f g) := de_cmp op_is (snd_is false) ha hb (nomark _)
theorem de_isNot (ha : DE X W a ta f) (hb : DE X W b tb g) : DE X W (.Compare a [.IsNot] [b] pos) (tOp (rIs true) ta tb) (binE (isP true) f g) := de_cmp op_isNot (snd_is true) ha hb (nomark _)
end
end DL

namespace DL
open PySem L2 PyProof.Rows
section
variable {prog : Program} {w : World} {A : Around} {E : Value → Shared → Prop} {s : Shared} {l : Addr} {its : List Value} {ns : List Int} {Q : Value → Shared → Prop}
theorem tup_lt {l : Addr} {its : Array Value} (hl : s.heap.IsTuple l its) : l < s.heap.objs.size := by obtain ⟨_, e, _⟩ := hl; exact Heap.lt_size e
theorem sum_tupRaw (hh : A.handled = none) (hl : s.heap.IsTuple l its.toArray) (hi : IntsAre its ns)
    (h : ∀ h' tk t', (∀ b o, s.heap.get? b = some o → h'.get? b = some o) → Q (.int ns.sum t') { s with heap := h', toks := tk }) : wpAny (model prog w) A (call (.builtin "sum") [.ref l]) Q E s := by
  obtain ⟨xs, e⟩ := hi.allInts.items
  have hn : numsOf (intItems xs).toList = ns := by rw [← e]; exact hi.numsOf
  rw [nums_intItems] at hn
  rw [e] at hl
  have hlt := tup_lt hl
  refine call_sum_walkG (wpAny_pyIter_tuple hl ?_)
  refine ⟨_, _, _, _, _, _, numAt xs, rfl, Walks.tuple (A := A.in1) hh _ l (Nat.ne_of_lt hlt) (intItems xs), ⟨⟨_, Heap.get?_push_size _ rfl, rfl, rfl⟩, hl.push _⟩, fun b hb => ?_, (fun _ _ => intItems_at), fun h' tk t' hk => ?_⟩
  · show b < (s.heap.push _).objs.size
    rw [Heap.size_push]
    rcases List.mem_cons.mp hb with rfl | hb
    · exact Nat.lt_succ_self _
    · rcases List.mem_cons.mp hb with rfl | hb
      · exact Nat.lt_succ_of_lt hlt
      · cases hb
  · have := h h' tk t' fun b o e => by
      refine hk b o (fun hm => ?_) (Heap.get?_push_of_some _ e)
      rcases List.mem_cons.mp hm with e1 | hm
      · exact absurd (e1 ▸ Heap.lt_size e) (Nat.lt_irrefl _)
      · cases hm
    have e2 : preSum (numAt xs) (intItems xs).size = ns.sum := by
      rw [preSum_eq, List.take_of_length_le (by simp [intItems]), hn]
    rw [e2]
    exact this
end
def rSumT (K : PySem.W.Frag) : List V → Hp → VK → Prop := fun vs H Q => ∃ (a : Addr) (ns : List Int), vs = [V.ref a] ∧ SqT K H a (ns.map V.int) ∧ Q (.int ns.sum) H
theorem cr_sumT {X : Cx} (hc : X.calm = true) : CallR X (.builtin "sum") (rSumT X.K) := by
  intro pins s σ H vs us Q I r h
  obtain ⟨a, ns, rfl, hs, q⟩ := h
  obtain ⟨its, rv, hl, _⟩ := I.tuple hs
  obtain ⟨o, h1, h2, n, h3⟩ := hl
  have hl : s.heap.IsTuple a its.toArray := ⟨o, h1, h2, n, h3⟩
  rw [Vals.ref1 r]
  exact sum_tupRaw (I.ok.hd hc) hl rv.ints fun h' tk t' hk => ⟨.int _, H, I.kept hk, ⟨_, rfl⟩, q⟩
def rSum2 (K : PySem.W.Frag) : List V → Hp → VK → Prop := fun xs H Q => rSum K xs H Q ∨ rSumT K xs H Q
end DL
namespace DL
open PySem L2
/-! ### tests -/
def boolD : D → Res Bool
  | .bl b => .ok b
  | _ => .no
def valT (f : En → Res Vl) : En → Res Bool := fun env => (f env).bind fun u => boolD u.d
def andT (f g : En → Res Bool) : En → Res Bool := fun env => (f env).bind fun b => match b with
  | true => g env
  | false => .ok false
def orT (f g : En → Res Bool) : En → Res Bool := fun env => (f env).bind fun b => match b with
  | true => .ok true
  | false => g env
def notT (f : En → Res Bool) : En → Res Bool := fun env => (f env).bind fun b => .ok (!b)
def truD : D → Res Bool
  | .non => .ok false
  | .bl b => .ok b
  | .int i => .ok (i != 0)
  | .str x => if x.length ≤ sizeLine then .ok ((x.length : Int) != 0) else .no
  | .lst xs => .ok (!xs.isEmpty)
  | .tup xs => .ok (!xs.isEmpty)
  | .fz xs => .ok (!xs.isEmpty)
  | _ => .no
def truT (f : En → Res Vl) : En → Res Bool := fun env => (f env).bind fun u => truD u.d
theorem boolD_inv {d : D} {b : Bool} (h : boolD d = .ok b) : d = .bl b := by
  cases d <;> cases h
  rfl
theorem isEmpty_rep {K : PySem.W.Frag} {G : Hp} {vs : List V} {ds : List D} (h : RepL K G vs ds) : vs.isEmpty = ds.isEmpty := by
  cases h <;> rfl
theorem truV_of {K : PySem.W.Frag} {H : Hp} {v : V} {d : D} {b : Bool} (h : Rep K H v d) (e : truD d = .ok b) : TruV K v H b := by
  cases h with
  | non => cases e; rfl
  | bl b => cases e; rfl
  | int i => cases e; rfl
  | str x => obtain ⟨c, rfl⟩ := if_ok e; exact ⟨c, rfl⟩
  | lst h l => cases e; exact .inl ⟨_, SqL.of h, by rw [isEmpty_rep l]⟩
  | tup h l => cases e; exact .inr (.inl ⟨_, h, by rw [isEmpty_rep l]⟩)
  | fz h l => cases e; exact .inl ⟨_, h, by rw [isEmpty_rep l]⟩
  | obj _ _ _ _ _ => cases e
  | exn0 _ _ => cases e
  | exn _ _ _ _ _ => cases e
theorem boolD_nx {d : D} {x : Exn} : boolD d ≠ .ex x := by
  unfold boolD
  split <;> exact fun z => nomatch z
theorem truD_nx {d : D} {x : Exn} : truD d ≠ .ex x := by
  unfold truD
  split <;> first
    | exact if_nx
    | exact fun z => nomatch z
section
variable {K : PySem.W.Frag} {W : Wi} {te : TE} {tt tu : TT} {f : En → Res Vl} {p q : En → Res Bool}
theorem evt_val (h : EvD K W te f) : EvT K W (tB te) (valT f) := ⟨fun B G0 G env σ H b r e Q k => (by
  obtain ⟨u, e1, e2⟩ := Res.bind_eq e
  refine h.ok B G0 G env σ H u r e1 _ fun G' H' v x hv => ?_
  have a := hv.look (r.ext x)
  rw [boolD_inv e2] at a
  exact ⟨b, a.bl_inv, k G' H' x⟩),
  fun B G0 G env σ H x r e w Q => by
  rcases Res.bind_ex e with e1 | ⟨u, e1, e⟩
  · exact h.ex B G0 G env σ H x r e1 w _
  · exact absurd e (boolD_nx)⟩
theorem evt_tru (h : EvD K W te f) : EvT K W (fun σ H Q => te σ H fun x H' => ∃ k, TruV K x H' k ∧ Q k H') (truT f) := ⟨fun B G0 G env σ H b r e Q k => (by
  obtain ⟨u, e1, e2⟩ := Res.bind_eq e
  exact h.ok B G0 G env σ H u r e1 _ fun G' H' v x hv => ⟨b, truV_of (hv.look (r.ext x)) e2, k G' H' x⟩),
  fun B G0 G env σ H x r e w Q => by
  rcases Res.bind_ex e with e1 | ⟨u, e1, e⟩
  · exact h.ex B G0 G env σ H x r e1 w _
  · exact absurd e (truD_nx)⟩
theorem evt_and (h1 : EvT K W tt p) (h2 : EvT K W tu q) : EvT K W (tAnd tt tu) (andT p q) := ⟨fun B G0 G env σ H b r e Q k => (by
  obtain ⟨c, e1, e2⟩ := Res.bind_eq e
  refine h1.ok B G0 G env σ H c r e1 _ fun G' H' x => ?_
  cases c with
  | true =>
    rw [if_pos rfl]
    exact h2.ok B G0 G' env σ H' b (r.ext x) e2 Q fun G2 H2 x2 => k G2 H2 (x.trans x2)
  | false =>
    rw [if_neg Bool.false_ne_true]
    cases e2
    exact k G' H' x),
  fun B G0 G env σ H x r e w Q => by
  rcases Res.bind_ex e with e1 | ⟨c, e1, e⟩
  · exact h1.ex B G0 G env σ H x r e1 w _
  · refine h1.ok B G0 G env σ H c r e1 _ fun G' H' x' => ?_
    cases c with
    | true =>
      rw [if_pos rfl]
      exact h2.ex B G0 G' env σ H' x (r.ext x') e (w.ext x') Q
    | false =>
      rw [if_neg Bool.false_ne_true]
      cases e⟩
theorem evt_or (h1 : EvT K W tt p) (h2 : EvT K W tu q) : EvT K W (tOr tt tu) (orT p q) := ⟨fun B G0 G env σ H b r e Q k => (by
  obtain ⟨c, e1, e2⟩ := Res.bind_eq e
  refine h1.ok B G0 G env σ H c r e1 _ fun G' H' x => ?_
  cases c with
  | true =>
    rw [if_pos rfl]
    cases e2
    exact k G' H' x
  | false =>
    rw [if_neg Bool.false_ne_true]
    exact h2.ok B G0 G' env σ H' b (r.ext x) e2 Q fun G2 H2 x2 => k G2 H2 (x.trans x2)),
  fun B G0 G env σ H x r e w Q => by
  rcases Res.bind_ex e with e1 | ⟨c, e1, e⟩
  · exact h1.ex B G0 G env σ H x r e1 w _
  · refine h1.ok B G0 G env σ H c r e1 _ fun G' H' x' => ?_
    cases c with
    | true =>
      rw [if_pos rfl]
      cases e
    | false =>
      rw [if_neg Bool.false_ne_true]
      exact h2.ex B G0 G' env σ H' x (r.ext x') e (w.ext x') Q⟩
theorem evt_not (h1 : EvT K W tt p) : EvT K W (tNot tt) (notT p) := ⟨fun B G0 G env σ H b r e Q k => (by
  obtain ⟨c, e1, e2⟩ := Res.bind_eq e
  cases e2
  exact h1.ok B G0 G env σ H c r e1 _ fun G' H' x => k G' H' x),
  fun B G0 G env σ H x r e w Q => by
  rcases Res.bind_ex e with e1 | ⟨u, e1, e⟩
  · exact h1.ex B G0 G env σ H x r e1 w _
  · exact absurd e (fun z => nomatch z)⟩
end
section
variable {X : Cx} {W : Wi} {pos : Pos} {a b : Expr} {rest : List Expr} {ta tb : TE} {tt tu : TT} {f g : En → Res Vl} {p q : En → Res Bool}
theorem dt_val (h : DE X W a ta f) (he : ∀ whole, isTrue a X.env whole = (do let v ← whole; standAt a.pos; holding [v] (truthy v)) := by intro _; rfl) : DT X W a (tB ta) (valT f) := ⟨pt_val h.pe he, evt_val h.ev⟩
theorem dt_tru {K : PySem.W.Frag} (h : DE X W a ta f) (he : ∀ whole, isTrue a X.env whole = (do let v ← whole; standAt a.pos; holding [v] (truthy v)) := by intro _; rfl) (hK : X.K = K := by rfl) : DT X W a (fun σ H Q => ta σ H fun x H' => ∃ k, TruV K x H' k ∧ Q k H') (truT f) := by
  subst hK
  exact ⟨pt_truth h.pe he, evt_tru h.ev⟩
theorem dw_and1 (h : DT X W a tt p) : DW X W (.BoolOp .And [a] pos) tt p := ⟨pw_and1 h.pt, h.ev⟩
theorem dw_and (h : DT X W a tt p) (k : DW X W (.BoolOp .And (b :: rest) pos) tu q) : DW X W (.BoolOp .And (a :: b :: rest) pos) (tAnd tt tu) (andT p q) := ⟨pw_and h.pt k.pw, evt_and h.ev k.ev⟩
theorem dw_or1 (h : DT X W a tt p) : DW X W (.BoolOp .Or [a] pos) tt p := ⟨pw_or1 h.pt, h.ev⟩
theorem dw_or (h : DT X W a tt p) (k : DW X W (.BoolOp .Or (b :: rest) pos) tu q) : DW X W (.BoolOp .Or (a :: b :: rest) pos) (tOr tt tu) (orT p q) := ⟨pw_or h.pt k.pw, evt_or h.ev k.ev⟩
theorem dt_w (h : DW X W a tt p) : DT X W a tt p := ⟨h.pw.pt, h.ev⟩
theorem dt_not (h : DT X W a tt p) : DT X W (.UnaryOp .Not a pos) (tNot tt) (notT p) := ⟨pt_not h.pt, evt_not h.ev⟩
end
/-! ### and, or, not as values -/
def andE (f g : En → Res Vl) : En → Res Vl := fun env => (f env).bind fun u => (boolD u.d).bind fun c => match c with
  | true => g env
  | false => .ok ⟨.g, .bl false⟩
def orE (f g : En → Res Vl) : En → Res Vl := fun env => (f env).bind fun u => (boolD u.d).bind fun c => match c with
  | true => .ok ⟨.g, .bl true⟩
  | false => g env
def notE (f : En → Res Vl) : En → Res Vl := fun env => (f env).bind fun u => (boolD u.d).bind fun c => .ok ⟨.g, .bl (!c)⟩
def ifE (p : En → Res Bool) (f g : En → Res Vl) : En → Res Vl := fun env => (p env).bind fun c => match c with
  | true => f env
  | false => g env
/-- a op b op' c, b once -/
def chainE (p p' : Vl → Vl → Res Vl) (f g h : En → Res Vl) : En → Res Vl := fun env => (f env).bind fun x => (g env).bind fun y => (p x y).bind fun z => (boolD z.d).bind fun c => match c with
  | true => (h env).bind fun w => p' y w
  | false => .ok ⟨.g, .bl false⟩
section
variable {K : PySem.W.Frag} {W : Wi} {ta tb tc : TE} {tt : TT} {f g h : En → Res Vl} {p : En → Res Bool}
theorem ev_and (h1 : EvD K W ta f) (h2 : EvD K W tb g) : EvD K W (tAndV ta tb) (andE f g) := ⟨fun B G0 G env σ H z r e Q k => (by
  obtain ⟨u, e1, e2⟩ := Res.bind_eq e
  obtain ⟨c, e3, e4⟩ := Res.bind_eq e2
  refine h1.ok B G0 G env σ H u r e1 _ fun G' H' v x hv => ?_
  have a := hv.look (r.ext x)
  rw [boolD_inv e3] at a
  refine ⟨c, a.bl_inv, ?_⟩
  cases c with
  | true =>
    rw [if_pos rfl]
    exact h2.ok B G0 G' env σ H' z (r.ext x) e4 Q fun G2 H2 v x2 hv => k G2 H2 v (x.trans x2) (hv.from x.hh)
  | false =>
    rw [if_neg Bool.false_ne_true]
    cases e4
    exact k G' H' _ x (.bl _)),
  fun B G0 G env σ H x r e w Q => by
  rcases Res.bind_ex e with e1 | ⟨u, e1, e⟩
  · exact h1.ex B G0 G env σ H x r e1 w _
  · rcases Res.bind_ex e with e3 | ⟨c, e3, e4⟩
    · exact absurd e3 boolD_nx
    · refine h1.ok B G0 G env σ H u r e1 _ fun G' H' v x' hv => ?_
      have a := hv.look (r.ext x')
      rw [boolD_inv e3] at a
      refine ⟨c, a.bl_inv, ?_⟩
      cases c with
      | true =>
        rw [if_pos rfl]
        exact h2.ex B G0 G' env σ H' x (r.ext x') e4 (w.ext x') Q
      | false =>
        rw [if_neg Bool.false_ne_true]
        cases e4⟩
theorem ev_or (h1 : EvD K W ta f) (h2 : EvD K W tb g) : EvD K W (tOrV ta tb) (orE f g) := ⟨fun B G0 G env σ H z r e Q k => (by
  obtain ⟨u, e1, e2⟩ := Res.bind_eq e
  obtain ⟨c, e3, e4⟩ := Res.bind_eq e2
  refine h1.ok B G0 G env σ H u r e1 _ fun G' H' v x hv => ?_
  have a := hv.look (r.ext x)
  rw [boolD_inv e3] at a
  refine ⟨c, a.bl_inv, ?_⟩
  cases c with
  | true =>
    rw [if_pos rfl]
    cases e4
    exact k G' H' _ x (.bl _)
  | false =>
    rw [if_neg Bool.false_ne_true]
    exact h2.ok B G0 G' env σ H' z (r.ext x) e4 Q fun G2 H2 v x2 hv => k G2 H2 v (x.trans x2) (hv.from x.hh)),
  fun B G0 G env σ H x r e w Q => by
  rcases Res.bind_ex e with e1 | ⟨u, e1, e⟩
  · exact h1.ex B G0 G env σ H x r e1 w _
  · rcases Res.bind_ex e with e3 | ⟨c, e3, e4⟩
    · exact absurd e3 boolD_nx
    · refine h1.ok B G0 G env σ H u r e1 _ fun G' H' v x' hv => ?_
      have a := hv.look (r.ext x')
      rw [boolD_inv e3] at a
      refine ⟨c, a.bl_inv, ?_⟩
      cases c with
      | true =>
        rw [if_pos rfl]
        cases e4
      | false =>
        rw [if_neg Bool.false_ne_true]
        exact h2.ex B G0 G' env σ H' x (r.ext x') e4 (w.ext x') Q⟩
theorem ev_not (h1 : EvD K W ta f) : EvD K W (tNotV ta) (notE f) := ⟨fun B G0 G env σ H z r e Q k => (by
  obtain ⟨u, e1, e2⟩ := Res.bind_eq e
  obtain ⟨c, e3, e4⟩ := Res.bind_eq e2
  cases e4
  refine h1.ok B G0 G env σ H u r e1 _ fun G' H' v x hv => ?_
  have a := hv.look (r.ext x)
  rw [boolD_inv e3] at a
  exact ⟨c, a.bl_inv, k G' H' _ x (.bl _)⟩),
  fun B G0 G env σ H x r e w Q => by
  rcases Res.bind_ex e with e1 | ⟨u, e1, e⟩
  · exact h1.ex B G0 G env σ H x r e1 w _
  · rcases Res.bind_ex e with e3 | ⟨c, e3, e4⟩
    · exact absurd e3 boolD_nx
    · cases e4⟩
theorem ev_if (h0 : EvT K W tt p) (h1 : EvD K W ta f) (h2 : EvD K W tb g) : EvD K W (tIf tt ta tb) (ifE p f g) := ⟨fun B G0 G env σ H z r e Q k => (by
  obtain ⟨c, e1, e2⟩ := Res.bind_eq e
  refine h0.ok B G0 G env σ H c r e1 _ fun G' H' x => ?_
  cases c with
  | true =>
    rw [if_pos rfl]
    exact h1.ok B G0 G' env σ H' z (r.ext x) e2 Q fun G2 H2 v x2 hv => k G2 H2 v (x.trans x2) (hv.from x.hh)
  | false =>
    rw [if_neg Bool.false_ne_true]
    exact h2.ok B G0 G' env σ H' z (r.ext x) e2 Q fun G2 H2 v x2 hv => k G2 H2 v (x.trans x2) (hv.from x.hh)),
  fun B G0 G env σ H x r e w Q => by
  rcases Res.bind_ex e with e1 | ⟨c, e1, e⟩
  · exact h0.ex B G0 G env σ H x r e1 w _
  · refine h0.ok B G0 G env σ H c r e1 _ fun G' H' x' => ?_
    cases c with
    | true =>
      rw [if_pos rfl]
      exact h1.ex B G0 G' env σ H' x (r.ext x') e (w.ext x') Q
    | false =>
      rw [if_neg Bool.false_ne_true]
      exact h2.ex B G0 G' env σ H' x (r.ext x') e (w.ext x') Q⟩
theorem ev_chain {r r' : R2} {p p' : Vl → Vl → Res Vl} (s : Snd2 K r p) (s' : Snd2 K r' p') (h1 : EvD K W ta f) (h2 : EvD K W tb g) (h3 : EvD K W tc h) : EvD K W (tChain r r' ta tb tc) (chainE p p' f g h) := ⟨fun B G0 G env σ H z rl e Q k => (by
  obtain ⟨u, e1, e⟩ := Res.bind_eq e
  obtain ⟨w, e2, e⟩ := Res.bind_eq e
  obtain ⟨m, e3, e⟩ := Res.bind_eq e
  obtain ⟨c, e4, e⟩ := Res.bind_eq e
  refine h1.ok B G0 G env σ H u rl e1 _ fun G1 H1 x x1 hx => h2.ok B G0 G1 env σ H1 w (rl.ext x1) e2 _ fun G2 H2 y x2 hy => ?_
  have rl2 := (rl.ext x1).ext x2
  refine s.ok B G0 G G2 env σ H H2 u w m x y _ rl2 (hx.mono x2) (hy.from x1.hh) e3 fun G3 H3 v x3 hv => ?_
  have rl3 := rl2.ext x3
  have a := hv.look rl3
  rw [boolD_inv e4] at a
  refine ⟨c, a.bl_inv, ?_⟩
  cases c with
  | true =>
    rw [if_pos rfl]
    obtain ⟨w2, e5, e6⟩ := Res.bind_eq e
    refine h3.ok B G0 G3 env σ H3 w2 rl3 e5 _ fun G4 H4 y2 x4 hy2 => ?_
    have rl4 := rl3.ext x4
    exact s'.ok B G0 G G4 env σ H H4 w w2 z y y2 _ rl4 (((hy.from x1.hh).mono x3).mono x4) (hy2.from ((x1.hh.trans x2.hh).trans x3.hh)) e6 fun G5 H5 v5 x5 hv5 => k G5 H5 v5 ((((x1.trans x2).trans x3).trans x4).trans x5) (hv5.from (((x1.hh.trans x2.hh).trans x3.hh).trans x4.hh))
  | false =>
    rw [if_neg Bool.false_ne_true]
    cases e
    exact k G3 H3 _ ((x1.trans x2).trans x3) (.bl _)),
  fun B G0 G env σ H x rl e w Q => by
  rcases Res.bind_ex e with e1 | ⟨u, e1, e⟩
  · exact h1.ex B G0 G env σ H x rl e1 w _
  rcases Res.bind_ex e with e2 | ⟨u2, e2, e⟩
  · exact h1.ok B G0 G env σ H u rl e1 _ fun G1 H1 v x1 _ => h2.ex B G0 G1 env σ H1 x (rl.ext x1) e2 (w.ext x1) _
  rcases Res.bind_ex e with e3 | ⟨m, e3, e⟩
  · exact absurd e3 (s.ne _ _ _)
  rcases Res.bind_ex e with e4 | ⟨c, e4, e⟩
  · exact absurd e4 boolD_nx
  refine h1.ok B G0 G env σ H u rl e1 _ fun G1 H1 y x1 hx => h2.ok B G0 G1 env σ H1 u2 (rl.ext x1) e2 _ fun G2 H2 y2 x2 hy => ?_
  have rl2 := (rl.ext x1).ext x2
  refine s.ok B G0 G G2 env σ H H2 u u2 m y y2 _ rl2 (hx.mono x2) (hy.from x1.hh) e3 fun G3 H3 v x3 hv => ?_
  have rl3 := rl2.ext x3
  have a := hv.look rl3
  rw [boolD_inv e4] at a
  refine ⟨c, a.bl_inv, ?_⟩
  cases c with
  | true =>
    rw [if_pos rfl]
    rcases Res.bind_ex e with e5 | ⟨w2, e5, e6⟩
    · exact h3.ex B G0 G3 env σ H3 x rl3 e5 (((w.ext x1).ext x2).ext x3) _
    · exact absurd e6 (s'.ne _ _ _)
  | false => cases e⟩
end
section
variable {X : Cx} {W : Wi} {pos : Pos} {a b c : Expr} {rest : List Expr} {ta tb tc : TE} {tt : TT} {f g h : En → Res Vl} {p : En → Res Bool}
theorem de_one {op} (k : DE X W a ta f) : DE X W (.BoolOp op [a] pos) ta f := ⟨pe_one k.pe, k.ev⟩
theorem de_and (h1 : DE X W a ta f) (h2 : DE X W (.BoolOp .And (b :: rest) pos) tb g) : DE X W (.BoolOp .And (a :: b :: rest) pos) (tAndV ta tb) (andE f g) := ⟨pe_and h1.pe h2.pe, ev_and h1.ev h2.ev⟩
theorem de_or (h1 : DE X W a ta f) (h2 : DE X W (.BoolOp .Or (b :: rest) pos) tb g) : DE X W (.BoolOp .Or (a :: b :: rest) pos) (tOrV ta tb) (orE f g) := ⟨pe_or h1.pe h2.pe, ev_or h1.ev h2.ev⟩
theorem de_not (h1 : DE X W a ta f) : DE X W (.UnaryOp .Not a pos) (tNotV ta) (notE f) := ⟨pe_not h1.pe, ev_not h1.ev⟩
theorem de_if (h0 : DT X W c tt p) (h1 : DE X W a ta f) (h2 : DE X W b tb g) : DE X W (.IfExp c a b pos) (tIf tt ta tb) (ifE p f g) := ⟨pe_ifExp h0.pt h1.pe h2.pe, ev_if h0.ev h1.ev h2.ev⟩
def negI (i : Int) : Int := -i
def negP : Vl → Res Vl := fun u => match u.d with
  | .int i => .ok ⟨.g, .int (-i)⟩
  | _ => .no
theorem de_neg (h1 : DE X W a ta f) : DE X W (.UnaryOp .USub a pos) (tUn (rU fun i => .int (-i)) ta) (unE negP f) := ⟨pe_un un_neg h1.pe, ⟨fun B G0 G env σ H z r e Q k => (by
  obtain ⟨u, e1, e2⟩ := Res.bind_eq e
  unfold negP at e2
  split at e2
  · rename_i i ed
    cases e2
    refine h1.ev.ok B G0 G env σ H u r e1 _ fun G' H' v x hv => ?_
    have y := hv.look (r.ext x)
    rw [ed] at y
    exact ⟨i, y.int_inv, k G' H' _ x (.int _)⟩
  · cases e2), fun B G0 G env σ H x r e w Q => by
  rcases Res.bind_ex e with e1 | ⟨u, e1, e⟩
  · exact h1.ev.ex B G0 G env σ H x r e1 w _
  · unfold negP at e
    split at e <;> cases e⟩⟩
end
/-! ### arguments, displays, calls -/
theorem Rp.now {K : PySem.W.Frag} {B G' H0 H' : Hp} {u : Vl} {v : V} (h : Rp K B G' H' H' u v) : Rp K B G' H0 H' u v := by
  obtain ⟨k, d⟩ := u
  cases k with
  | g => exact h
  | b => exact h
  | h => exact h
  | o =>
    obtain ⟨L, vs, ds, _, _, e1, _, e2, _⟩ := h
    rw [e1] at e2
    cases e2
theorem RpL.mono {K : PySem.W.Frag} {B G' G'' H' H'' : Hp} (x : Ext G' H' G'' H'') : ∀ {us : List Vl} {vs : List V}, RpL K B G' H' us vs → RpL K B G'' H'' us vs
  | [], _, h => h
  | u :: us, _, ⟨v, r, e, h, l⟩ => ⟨v, r, e, Rp.mono x h.now, RpL.mono x l⟩
theorem RpL.len {K : PySem.W.Frag} {B G' H' : Hp} : ∀ {us : List Vl} {vs : List V}, RpL K B G' H' us vs → vs.length = us.length
  | [], _, h => by rw [h]; rfl
  | u :: us, _, ⟨v, r, e, h, l⟩ => by rw [e, List.length_cons, List.length_cons, RpL.len l]
/-- all kept -/
theorem RpL.keep {K : PySem.W.Frag} {B G' H' : Hp} : ∀ {us : List Vl} {vs : List V}, us.all Vl.keep = true → RpL K B G' H' us vs → RepL K G' vs (us.map Vl.d)
  | [], _, _, h => by rw [h]; exact .nil
  | u :: us, _, n, ⟨v, r, e, h, l⟩ => by
    rw [List.all_cons, Bool.and_eq_true] at n
    subst e
    refine .cons ?_ (RpL.keep n.2 l)
    obtain ⟨k, d⟩ := u
    cases k with
    | g => exact h
    | b => exact Rep.flat (show Rep K B v d from h) n.1
    | h =>
      obtain ⟨L, vs, ds, e1, e2, _⟩ := h
      dsimp only at e2
      subst e2
      cases n.1
    | o =>
      obtain ⟨L, vs, ds, _, _, e1, _, e2, _⟩ := h
      rw [e1] at e2
      cases e2
theorem eva_nil {K : PySem.W.Frag} {W : Wi} : EvA K W tNil nilA := ⟨fun B G0 G env σ H us r e Q k => (by
  cases e
  exact k G H [] (Ext.refl r.gh) rfl),
  fun B G0 G env σ H x r e => nomatch e⟩
theorem eva_cons {K : PySem.W.Frag} {W : Wi} {te : TE} {ta : TA} {f : En → Res Vl} {g : En → Res (List Vl)} (h : EvD K W te f) (ht : EvA K W ta g) : EvA K W (tCons te ta) (consA f g) := ⟨fun B G0 G env σ H us r e Q k => (by
  obtain ⟨u, e1, e⟩ := Res.bind_eq e
  obtain ⟨ws, e2, e⟩ := Res.bind_eq e
  cases e
  refine h.ok B G0 G env σ H u r e1 _ fun G1 H1 v x hv => ?_
  obtain ⟨G2, x2, hv2⟩ := hv.arg x
  exact ht.ok B G0 G2 env σ H1 ws (r.ext x2) e2 _ fun G3 H3 vs x3 hl => k G3 H3 (v :: vs) (x2.trans x3) ⟨v, vs, rfl, Rp.mono x3 hv2.now, hl⟩),
  fun B G0 G env σ H x r e w Q => by
  rcases Res.bind_ex e with e1 | ⟨u, e1, e⟩
  · exact h.ex B G0 G env σ H x r e1 w _
  rcases Res.bind_ex e with e2 | ⟨ws, e2, e⟩
  · exact h.ok B G0 G env σ H u r e1 _ fun G1 H1 v x1 hv => ht.ex B G0 G1 env σ H1 x (r.ext x1) e2 (w.ext x1) _
  · cases e⟩
theorem RpL.from {K : PySem.W.Frag} {B G' H' : Hp} {us : List Vl} {vs : List V} (h : RpL K B G' H' us vs) : RpL K B G' H' us vs := h
section
variable {X : Cx} {W : Wi} {e : Expr} {es : List Expr} {te : TE} {ta : TA} {f : En → Res Vl} {g : En → Res (List Vl)}
theorem da_nil : DA X W [] tNil nilA := ⟨pa_nil, eva_nil⟩
theorem da_cons (h : DE X W e te f) (ht : DA X W es ta g) (hs : starEach (e :: es) X.env = (false, eval e X.env) :: starEach es X.env := by rfl) : DA X W (e :: es) (tCons te ta) (consA f g) := ⟨pa_cons h.pe ht.pa hs, eva_cons h.ev ht.ev⟩
end
def tupE (f : En → Res (List Vl)) : En → Res Vl := fun env => (f env).bind fun us => if us.all Vl.keep = true ∧ us.length ≤ sizeLine then .ok ⟨.g, .tup (us.map Vl.d)⟩ else .no
def lstE (f : En → Res (List Vl)) : En → Res Vl := fun env => (f env).bind fun us => if us.all Vl.keep = true ∧ us.length ≤ sizeLine then .ok ⟨.o, .lst (us.map Vl.d)⟩ else .no
section
variable {K : PySem.W.Frag} {W : Wi} {ta : TA} {f : En → Res (List Vl)}
theorem ev_tup (h : EvA K W ta f) : EvD K W (tTup ta) (tupE f) := ⟨fun B G0 G env σ H z r e Q k => (by
  obtain ⟨us, e1, e⟩ := Res.bind_eq e
  obtain ⟨⟨c1, c2⟩, rfl⟩ := if_ok e
  exact h.ok B G0 G env σ H us r e1 _ fun G' H' vs x hl => ⟨by rw [hl.len]; exact c2, new_tup (r.ext x) (hl.keep c1) fun G2 H2 v x2 hv => k G2 H2 v (x.trans x2) hv⟩),
  fun B G0 G env σ H x r e w Q => by
  rcases Res.bind_ex e with e1 | ⟨u, e1, e⟩
  · exact h.ex B G0 G env σ H x r e1 w _
  · exact absurd e (if_nx)⟩
theorem ev_lst (h : EvA K W ta f) : EvD K W (tLst ta) (lstE f) := ⟨fun B G0 G env σ H z r e Q k => (by
  obtain ⟨us, e1, e⟩ := Res.bind_eq e
  obtain ⟨⟨c1, c2⟩, rfl⟩ := if_ok e
  exact h.ok B G0 G env σ H us r e1 _ fun G' H' vs x hl => ⟨by rw [hl.len]; exact c2, new_list (r.ext x) (hl.keep c1) fun G2 H2 v x2 hv => k G2 H2 v (x.trans x2) (hv.from x.hh)⟩),
  fun B G0 G env σ H x r e w Q => by
  rcases Res.bind_ex e with e1 | ⟨u, e1, e⟩
  · exact h.ex B G0 G env σ H x r e1 w _
  · exact absurd e (if_nx)⟩
end
/-- a reading of values does what p says -/
structure SndC (K : PySem.W.Frag) (r : List V → Hp → VK → Prop) (p : List Vl → Res Vl) : Prop where
  ok : ∀ (B G0 G' : Hp) (env : En) (σ : L2.St) (H' : Hp) (us : List Vl) (z : Vl) (vs : List V) (Q : VK), Rel K W B G0 G' env σ H' → RpL K B G' H' us vs → p us = .ok z →
    (∀ G2 H2 v, Ext G' H' G2 H2 → Rp K B G2 H' H2 z v → Q v H2) → r vs H' Q
  ne : ∀ us x, p us ≠ .ex x
theorem ev_callB {K : PySem.W.Frag} {W : Wi} {r : List V → Hp → VK → Prop} {p : List Vl → Res Vl} {ta : TA} {f : En → Res (List Vl)} (s : SndC K r p) (h : EvA K W ta f) : EvD K W (tCB r ta) (callE p f) := ⟨fun B G0 G env σ H z rl e Q k => (by
  obtain ⟨us, e1, e⟩ := Res.bind_eq e
  exact h.ok B G0 G env σ H us rl e1 _ fun G' H' vs x hl => s.ok B G0 G' env σ H' us z vs Q (rl.ext x) hl e fun G2 H2 v x2 hv => k G2 H2 v (x.trans x2) (hv.from x.hh)),
  fun B G0 G env σ H x r e w Q => by
  rcases Res.bind_ex e with e1 | ⟨u, e1, e⟩
  · exact h.ex B G0 G env σ H x r e1 w _
  · exact absurd e (s.ne _ _)⟩
section
variable {X : Cx} {W : Wi} {pos p : Pos} {e : Expr} {es : List Expr} {ta : TA} {f : En → Res (List Vl)} {x : Str}
theorem de_tup {x1} (h : DA X W es ta f) : DE X W (.Tuple es x1 pos) (tTup ta) (tupE f) := ⟨pe_tup h.pa, ev_tup h.ev⟩
theorem de_lst (h : DA X W es ta f) : DE X W (.List es pos) (tLst ta) (lstE f) := ⟨pe_lst h.pa, ev_lst h.ev⟩
theorem de_callB {K : PySem.W.Frag} {id : String} {r : List V → Hp → VK → Prop} {q : List Vl → Res Vl} (hc : CallR X (.builtin id) r) (s : SndC K r q) (hv : bootBuiltins x = some (.builtin id)) (hm : X.mg x = none) (h : DA X W (e :: es) ta f) (hg : Gl X x := by rfl) (hn : x ≠ "__name__" := by decide) (hdb : (x == ("__debug__" : Str)) = false := by decide)
    (he : starEach (e :: es) X.env = (false, eval e X.env) :: starEach es X.env := by rfl) (hpl : (backTo pos (starEach es X.env)).any (·.1) = false := by rfl) (hK : X.K = K := by rfl) : DE X W (.Call (.Name x p) (e :: es) [] pos) (tCB r ta) (callE q f) := by
  subst hK
  exact ⟨pe_callB hc hg hm hv h.pa hn hdb he hpl, ev_callB s h.ev⟩
theorem de_callTy {K : PySem.W.Frag} {T : String} {r : List V → Hp → VK → Prop} {q : List Vl → Res Vl} (hc : CallR X (.type T) r) (s : SndC K r q) (hv : bootBuiltins x = some (.type T)) (hm : X.mg x = none) (h : DA X W (e :: es) ta f) (hg : Gl X x := by rfl) (hn : x ≠ "__name__" := by decide) (hdb : (x == ("__debug__" : Str)) = false := by decide)
    (he : starEach (e :: es) X.env = (false, eval e X.env) :: starEach es X.env := by rfl) (hpl : (backTo pos (starEach es X.env)).any (·.1) = false := by rfl) (hK : X.K = K := by rfl) : DE X W (.Call (.Name x p) (e :: es) [] pos) (tCB r ta) (callE q f) := by
  subst hK
  exact ⟨pe_callTy hc hg hm hv h.pa hn hdb he hpl, ev_callB s h.ev⟩
end
theorem Rp.look' {K : PySem.W.Frag} {B G0 G' H' : Hp} {env : En} {σ : L2.St} {u : Vl} {v : V} {us : List Vl} {vs : List V} (r : Rel K W B G0 G' env σ H') (h : RpL K B G' H' (u :: us) vs) : ∃ v w, vs = v :: w ∧ Rep K H' v u.d ∧ RpL K B G' H' us w := by
  obtain ⟨v, w, e, h, l⟩ := h
  exact ⟨v, w, e, h.look r, l⟩
/-! ### built-ins -/
def intC : List Vl → Res Vl := fun us => match us with
  | [⟨_, .int i⟩] => .ok ⟨.g, .int i⟩
  | [⟨_, .bl b⟩] => .ok ⟨.g, .int (if b then 1 else 0)⟩
  | _ => .no
def absC : List Vl → Res Vl := fun us => match us with
  | [⟨_, .int i⟩] => .ok ⟨.g, .int (if i < 0 then -i else i)⟩
  | _ => .no
def min2C : List Vl → Res Vl := fun us => match us with
  | [⟨_, .int i⟩, ⟨_, .int j⟩] => .ok ⟨.g, .int (if j < i then j else i)⟩
  | _ => .no
def max2C : List Vl → Res Vl := fun us => match us with
  | [⟨_, .int i⟩, ⟨_, .int j⟩] => .ok ⟨.g, .int (if j > i then j else i)⟩
  | _ => .no
def lenC : List Vl → Res Vl := fun us => match us with
  | [⟨_, .lst xs⟩] => .ok ⟨.g, .int xs.length⟩
  | [⟨_, .tup xs⟩] => .ok ⟨.g, .int xs.length⟩
  | [⟨_, .fz xs⟩] => .ok ⟨.g, .int xs.length⟩
  | [⟨_, .str x⟩] => if x.length ≤ sizeLine then .ok ⟨.g, .int x.length⟩ else .no
  | _ => .no
def divmodC : List Vl → Res Vl := fun us => match us with
  | [⟨_, .int i⟩, ⟨_, .int j⟩] => if CDiv i j then .ok ⟨.g, .tup [.int (i / j), .int (i % j)]⟩ else .no
  | _ => .no
def intsOf : List D → Option (List Int)
  | [] => some []
  | .int i :: r => (intsOf r).map (i :: ·)
  | _ => none
@[simp] theorem intsOf_map (ns : List Int) : intsOf (ns.map D.int) = some ns := by
  induction ns with
  | nil => rfl
  | cons n r ih => show (intsOf (r.map D.int)).map (n :: ·) = _; rw [ih]; rfl
theorem intsOf_inv : ∀ {ds : List D} {ns : List Int}, intsOf ds = some ns → ds = ns.map D.int
  | [], ns, h => by cases h; rfl
  | .int i :: r, ns, h => by
    unfold intsOf at h
    cases e : intsOf r with
    | none => rw [e] at h; cases h
    | some ms => rw [e] at h; cases h; rw [intsOf_inv e]; rfl
  | .non :: _, _, h => by cases h
  | .bl _ :: _, _, h => by cases h
  | .str _ :: _, _, h => by cases h
  | .lst _ :: _, _, h => by cases h
  | .tup _ :: _, _, h => by cases h
  | .fz _ :: _, _, h => by cases h
  | .obj _ _ _ :: _, _, h => by cases h
  | .exn _ _ _ :: _, _, h => by cases h
def sumC : List Vl → Res Vl := fun us => match us with
  | [⟨_, .lst xs⟩] => match intsOf xs with
    | some ns => .ok ⟨.g, .int ns.sum⟩
    | none => .no
  | [⟨_, .tup xs⟩] => match intsOf xs with
    | some ns => .ok ⟨.g, .int ns.sum⟩
    | none => .no
  | _ => .no
def minOf : List Int → Int
  | [] => 0
  | n :: r => r.foldl min n
def maxOf : List Int → Int
  | [] => 0
  | n :: r => r.foldl max n
theorem foldl_min (r : List Int) : ∀ n, (r.foldl min n ∈ n :: r) ∧ ∀ y ∈ n :: r, r.foldl min n ≤ y := by
  induction r with
  | nil => intro n; simp
  | cons a r ih =>
    intro n
    obtain ⟨h1, h2⟩ := ih (min n a)
    rw [List.foldl_cons]
    refine ⟨?_, fun y hy => ?_⟩
    · rcases List.mem_cons.mp h1 with h | h
      · rw [h]
        rcases Int.le_total n a with q | q
        · rw [Int.min_eq_left q]; exact List.mem_cons_self
        · rw [Int.min_eq_right q]; exact List.mem_cons_of_mem _ List.mem_cons_self
      · exact List.mem_cons_of_mem _ (List.mem_cons_of_mem _ h)
    · have hm := h2 (min n a) List.mem_cons_self
      rcases List.mem_cons.mp hy with rfl | hy
      · exact Int.le_trans hm (Int.min_le_left _ _)
      · rcases List.mem_cons.mp hy with rfl | hy
        · exact Int.le_trans hm (Int.min_le_right _ _)
        · exact h2 y (List.mem_cons_of_mem _ hy)
theorem foldl_max (r : List Int) : ∀ n, (r.foldl max n ∈ n :: r) ∧ ∀ y ∈ n :: r, y ≤ r.foldl max n := by
  induction r with
  | nil => intro n; simp
  | cons a r ih =>
    intro n
    obtain ⟨h1, h2⟩ := ih (max n a)
    rw [List.foldl_cons]
    refine ⟨?_, fun y hy => ?_⟩
    · rcases List.mem_cons.mp h1 with h | h
      · rw [h]
        rcases Int.le_total n a with q | q
        · rw [Int.max_eq_right q]; exact List.mem_cons_of_mem _ List.mem_cons_self
        · rw [Int.max_eq_left q]; exact List.mem_cons_self
      · exact List.mem_cons_of_mem _ (List.mem_cons_of_mem _ h)
    · have hm := h2 (max n a) List.mem_cons_self
      rcases List.mem_cons.mp hy with rfl | hy
      · exact Int.le_trans (Int.le_max_left _ _) hm
      · rcases List.mem_cons.mp hy with rfl | hy
        · exact Int.le_trans (Int.le_max_right _ _) hm
        · exact h2 y (List.mem_cons_of_mem _ hy)
theorem minOf_spec {ns : List Int} (h : ns ≠ []) : minOf ns ∈ ns ∧ ∀ y ∈ ns, minOf ns ≤ y := by
  cases ns with
  | nil => exact absurd rfl h
  | cons n r => exact foldl_min r n
theorem maxOf_spec {ns : List Int} (h : ns ≠ []) : maxOf ns ∈ ns ∧ ∀ y ∈ ns, y ≤ maxOf ns := by
  cases ns with
  | nil => exact absurd rfl h
  | cons n r => exact foldl_max r n
def minC : List Vl → Res Vl := fun us => match us with
  | [⟨_, .lst xs⟩] => match intsOf xs with
    | some ns => if ns ≠ [] then .ok ⟨.g, .int (minOf ns)⟩ else .no
    | none => .no
  | _ => .no
def maxC : List Vl → Res Vl := fun us => match us with
  | [⟨_, .lst xs⟩] => match intsOf xs with
    | some ns => if ns ≠ [] then .ok ⟨.g, .int (maxOf ns)⟩ else .no
    | none => .no
  | _ => .no
/-- list(xs): a new list -/
def listC : List Vl → Res Vl := fun us => match us with
  | [⟨k, .lst xs⟩] => if k.it xs = true then .ok ⟨.o, .lst xs⟩ else .no
  | [⟨k, .tup xs⟩] => if k.it xs = true then .ok ⟨.o, .lst xs⟩ else .no
  | [⟨k, .fz xs⟩] => if k.it xs = true then .ok ⟨.o, .lst xs⟩ else .no
  | _ => .no
def tupleC : List Vl → Res Vl := fun us => match us with
  | [⟨k, .lst xs⟩] => if k.it xs = true then .ok ⟨.g, .tup xs⟩ else .no
  | [⟨k, .tup xs⟩] => .ok ⟨k, .tup xs⟩
  | _ => .no
section
variable {K : PySem.W.Frag} {W : Wi} {B G0 G' H' : Hp} {env : En} {σ : L2.St}
theorem Rp.tupItems {u : Vl} {v : V} {xs : List D} (r : Rel K W B G0 G' env σ H') (h : Rp K B G' H' H' u v) (e : u.d = .tup xs) (hk : u.k.it xs = true) : ∃ a vs, v = .ref a ∧ SqT K H' a vs ∧ RepL K G' vs xs := by
  obtain ⟨k, d⟩ := u
  dsimp only at e hk
  subst e
  cases k with
  | g =>
    obtain ⟨a, vs, e, h1, h2⟩ := Rep.tup_inv h
    exact ⟨a, vs, e, Same.sqt r.gh h1, h2⟩
  | b =>
    obtain ⟨a, vs, e, h1, h2⟩ := Rep.tup_inv h
    exact ⟨a, vs, e, Same.sqt r.bh h1, h2.flat hk⟩
  | h => obtain ⟨L, vs, ds, e1, e2, _⟩ := h; cases e2
  | o => obtain ⟨L, vs, ds, e1, e2, _⟩ := h; cases e2
theorem Rp.fzItems {u : Vl} {v : V} {xs : List D} (r : Rel K W B G0 G' env σ H') (h : Rp K B G' H' H' u v) (e : u.d = .fz xs) (hk : u.k.it xs = true) : ∃ a vs, v = .ref a ∧ SqL K H' a vs ∧ RepL K G' vs xs := by
  obtain ⟨k, d⟩ := u
  dsimp only at e hk
  subst e
  cases k with
  | g =>
    obtain ⟨a, vs, e, h1, h2⟩ := Rep.fz_inv h
    exact ⟨a, vs, e, r.gh.seq h1, h2⟩
  | b =>
    obtain ⟨a, vs, e, h1, h2⟩ := Rep.fz_inv h
    exact ⟨a, vs, e, r.bh.seq h1, h2.flat hk⟩
  | h => obtain ⟨L, vs, ds, e1, e2, _⟩ := h; cases e2
  | o => obtain ⟨L, vs, ds, e1, e2, _⟩ := h; cases e2
theorem one_int (r : Rel K W B G0 G' env σ H') {k : Kd} {i : Int} {vs : List V} (h : RpL K B G' H' [⟨k, .int i⟩] vs) : vs = [.int i] := by
  obtain ⟨v, w, e, h, l⟩ := h
  subst e
  rw [show w = [] from l, (h.look r).int_inv]
theorem two_int (r : Rel K W B G0 G' env σ H') {k l : Kd} {i j : Int} {vs : List V} (h : RpL K B G' H' [⟨k, .int i⟩, ⟨l, .int j⟩] vs) : vs = [.int i, .int j] := by
  obtain ⟨v, w, e, h, q⟩ := h
  subst e
  rw [one_int r q, (h.look r).int_inv]
end
section
variable {K : PySem.W.Frag} {W : Wi}
theorem snc_int : SndC K (fun xs H Q => (∃ i, xs = [.int i] ∧ Q (.int i) H) ∨ ∃ k, xs = [.bl k] ∧ Q (.int (if k then 1 else 0)) H) intC := ⟨fun B G0 G' env σ H' us z vs Q r h e q => (by
  unfold intC at e
  split at e
  · cases e
    exact .inl ⟨_, one_int r h, q _ _ _ (Ext.refl r.gh) (.int _)⟩
  · cases e
    obtain ⟨v, w, e, h, l⟩ := h
    subst e
    rw [show w = [] from l, (h.look r).bl_inv]
    exact .inr ⟨_, rfl, q _ _ _ (Ext.refl r.gh) (.int _)⟩
  · cases e),
  fun us x => by
  unfold intC
  repeat' split
  all_goals exact fun z => by cases z⟩
theorem snc_abs : SndC K (fun xs H Q => ∃ i, xs = [.int i] ∧ Q (.int (if i < 0 then -i else i)) H) absC := ⟨fun B G0 G' env σ H' us z vs Q r h e q => (by
  unfold absC at e
  split at e
  · cases e
    exact ⟨_, one_int r h, q _ _ _ (Ext.refl r.gh) (.int _)⟩
  · cases e),
  fun us x => by
  unfold absC
  repeat' split
  all_goals exact fun z => by cases z⟩
theorem snc_min2 : SndC K (fun xs H Q => ∃ i j, xs = [.int i, .int j] ∧ Q (.int (if j < i then j else i)) H) min2C := ⟨fun B G0 G' env σ H' us z vs Q r h e q => (by
  unfold min2C at e
  split at e
  · cases e
    exact ⟨_, _, two_int r h, q _ _ _ (Ext.refl r.gh) (.int _)⟩
  · cases e),
  fun us x => by
  unfold min2C
  repeat' split
  all_goals exact fun z => by cases z⟩
theorem snc_max2 : SndC K (fun xs H Q => ∃ i j, xs = [.int i, .int j] ∧ Q (.int (if j > i then j else i)) H) max2C := ⟨fun B G0 G' env σ H' us z vs Q r h e q => (by
  unfold max2C at e
  split at e
  · cases e
    exact ⟨_, _, two_int r h, q _ _ _ (Ext.refl r.gh) (.int _)⟩
  · cases e),
  fun us x => by
  unfold max2C
  repeat' split
  all_goals exact fun z => by cases z⟩
theorem snc_len : SndC K (fun xs H Q => ∃ x n, xs = [x] ∧ LenV K x H n ∧ Q (.int n) H) lenC := ⟨fun B G0 G' env σ H' us z vs Q r h e q => (by
  have one : ∀ {u : Vl}, us = [u] → ∃ v, vs = [v] ∧ Rep K H' v u.d := fun {u} eu => by
    subst eu
    obtain ⟨v, w, e, h, l⟩ := h
    subst e
    exact ⟨v, by rw [show w = [] from l], h.look r⟩
  unfold lenC at e
  split at e
  · cases e
    obtain ⟨v, rfl, hv⟩ := one rfl
    obtain ⟨a, ws, rfl, h1, h2⟩ := hv.lst_inv
    exact ⟨_, _, rfl, .inl ⟨_, SqL.of h1, h2.len.symm⟩, q _ _ _ (Ext.refl r.gh) (.int _)⟩
  · cases e
    obtain ⟨v, rfl, hv⟩ := one rfl
    obtain ⟨a, ws, rfl, h1, h2⟩ := hv.tup_inv
    exact ⟨_, _, rfl, .inr ⟨_, h1, h2.len.symm⟩, q _ _ _ (Ext.refl r.gh) (.int _)⟩
  · cases e
    obtain ⟨v, rfl, hv⟩ := one rfl
    obtain ⟨a, ws, rfl, h1, h2⟩ := hv.fz_inv
    exact ⟨_, _, rfl, .inl ⟨_, h1, h2.len.symm⟩, q _ _ _ (Ext.refl r.gh) (.int _)⟩
  · obtain ⟨c, rfl⟩ := if_ok e
    obtain ⟨v, rfl, hv⟩ := one rfl
    rw [hv.str_inv]
    exact ⟨_, _, rfl, ⟨c, rfl⟩, q _ _ _ (Ext.refl r.gh) (.int _)⟩
  · cases e),
  fun us x => by
  unfold lenC
  repeat' split
  all_goals exact fun z => by cases z⟩
theorem snc_divmod : SndC K (fun xs H Q => ∃ i j, xs = [.int i, .int j] ∧ CDiv i j ∧ ∀ p, H p = none → Q (.ref p) (upd H p (.tup [.int (i / j), .int (i % j)]))) divmodC := ⟨fun B G0 G' env σ H' us z vs Q r h e q => (by
  unfold divmodC at e
  split at e
  · obtain ⟨c, rfl⟩ := if_ok e
    exact ⟨_, _, two_int r h, c, new_tup r (.cons (.int _) (.cons (.int _) .nil)) q⟩
  · cases e),
  fun us x => by
  unfold divmodC
  repeat' split
  all_goals exact fun z => by cases z⟩
theorem snc_sum : SndC K (rSum2 K) sumC := ⟨fun B G0 G' env σ H' us z vs Q r h e q => (by
  unfold sumC at e
  split at e
  · split at e
    · rename_i ns en
      cases e
      obtain ⟨v, w, e, h, l⟩ := h
      subst e
      obtain ⟨a, ws, rfl, h1, h2⟩ := (h.look r).lst_inv
      rw [intsOf_inv en] at h2
      rw [show w = [] from l]
      exact .inl ⟨a, ns, rfl, SqL.of (by rw [h1, h2.ints]), q _ _ _ (Ext.refl r.gh) (.int _)⟩
    · cases e
  · split at e
    · rename_i ns en
      cases e
      obtain ⟨v, w, e, h, l⟩ := h
      subst e
      obtain ⟨a, ws, rfl, h1, h2⟩ := (h.look r).tup_inv
      rw [intsOf_inv en] at h2
      rw [show w = [] from l]
      exact .inr ⟨a, ns, rfl, h2.ints ▸ h1, q _ _ _ (Ext.refl r.gh) (.int _)⟩
    · cases e
  · cases e),
  fun us x => by
  unfold sumC
  repeat' split
  all_goals exact fun z => by cases z⟩
theorem snc_min : SndC K (rMin K) minC := ⟨fun B G0 G' env σ H' us z vs Q r h e q => (by
  unfold minC at e
  split at e
  · split at e
    · rename_i ns en
      obtain ⟨c, rfl⟩ := if_ok e
      obtain ⟨v, w, e, h, l⟩ := h
      subst e
      obtain ⟨a, ws, rfl, h1, h2⟩ := (h.look r).lst_inv
      rw [intsOf_inv en] at h2
      rw [show w = [] from l]
      refine ⟨a, ns, rfl, SqL.of (by rw [h1, h2.ints]), List.length_pos_iff.mpr c, fun m hm hle => ?_⟩
      obtain ⟨m1, m2⟩ := minOf_spec c
      rw [Int.le_antisymm (hle _ m1) (m2 m hm)]
      exact q _ _ _ (Ext.refl r.gh) (.int _)
    · cases e
  · cases e),
  fun us x => by
  unfold minC
  repeat' split
  all_goals exact fun z => by cases z⟩
theorem snc_max : SndC K (rMax K) maxC := ⟨fun B G0 G' env σ H' us z vs Q r h e q => (by
  unfold maxC at e
  split at e
  · split at e
    · rename_i ns en
      obtain ⟨c, rfl⟩ := if_ok e
      obtain ⟨v, w, e, h, l⟩ := h
      subst e
      obtain ⟨a, ws, rfl, h1, h2⟩ := (h.look r).lst_inv
      rw [intsOf_inv en] at h2
      rw [show w = [] from l]
      refine ⟨a, ns, rfl, SqL.of (by rw [h1, h2.ints]), List.length_pos_iff.mpr c, fun m hm hle => ?_⟩
      obtain ⟨m1, m2⟩ := maxOf_spec c
      rw [Int.le_antisymm (m2 m hm) (hle _ m1)]
      exact q _ _ _ (Ext.refl r.gh) (.int _)
    · cases e
  · cases e),
  fun us x => by
  unfold maxC
  repeat' split
  all_goals exact fun z => by cases z⟩
theorem snc_list : SndC K (fun xs H Q => ∃ p ys, xs = [.ref p] ∧ (SqL K H p ys ∨ SqT K H p ys) ∧ ∀ l, H l = none → Q (.ref l) (upd H l (.lst ys))) listC := ⟨fun B G0 G' env σ H' us z vs Q r h e q => (by
  unfold listC at e
  split at e
  · obtain ⟨c, rfl⟩ := if_ok e
    obtain ⟨v, w, e, h, l⟩ := h
    subst e
    obtain ⟨a, ws, rfl, h1, h2⟩ := Rp.items r h rfl c
    rw [show w = [] from l]
    exact ⟨a, ws, rfl, .inl (SqL.of h1), new_list r h2 q⟩
  · obtain ⟨c, rfl⟩ := if_ok e
    obtain ⟨v, w, e, h, l⟩ := h
    subst e
    obtain ⟨a, ws, rfl, h1, h2⟩ := Rp.tupItems r h rfl c
    rw [show w = [] from l]
    exact ⟨a, ws, rfl, .inr h1, new_list r h2 q⟩
  · obtain ⟨c, rfl⟩ := if_ok e
    obtain ⟨v, w, e, h, l⟩ := h
    subst e
    obtain ⟨a, ws, rfl, h1, h2⟩ := Rp.fzItems r h rfl c
    rw [show w = [] from l]
    exact ⟨a, ws, rfl, .inl h1, new_list r h2 q⟩
  · cases e),
  fun us x => by
  unfold listC
  repeat' split
  all_goals exact fun z => by cases z⟩
theorem snc_tuple : SndC K (fun xs H Q => ∃ p ys, xs = [.ref p] ∧ ((SqL K H p ys ∧ ∀ l, H l = none → Q (.ref l) (upd H l (.tup ys))) ∨ (SqT K H p ys ∧ Q (.ref p) H))) tupleC := ⟨fun B G0 G' env σ H' us z vs Q r h e q => (by
  unfold tupleC at e
  split at e
  · obtain ⟨c, rfl⟩ := if_ok e
    obtain ⟨v, w, e, h, l⟩ := h
    subst e
    obtain ⟨a, ws, rfl, h1, h2⟩ := Rp.items r h rfl c
    rw [show w = [] from l]
    exact ⟨a, ws, rfl, .inl ⟨SqL.of h1, new_tup r h2 q⟩⟩
  · cases e
    obtain ⟨v, w, e, h, l⟩ := h
    subst e
    obtain ⟨a, ws, rfl, h1, h2⟩ := (h.look r).tup_inv
    rw [show w = [] from l]
    exact ⟨a, ws, rfl, .inr ⟨h1, q _ _ _ (Ext.refl r.gh) h⟩⟩
  · cases e),
  fun us x => by
  unfold tupleC
  repeat' split
  all_goals exact fun z => by cases z⟩
end
end DL
namespace DL
open PySem L2
/-! ### comparisons, as values and as tests -/
structure CmpR (X : Cx) (op : CmpOp) (r : R2) (p : Vl → Vl → Res Vl) : Prop where
  ho : OpR X (compareOp op) r
  s : Snd2 X.K r p
section
variable {X : Cx} {W : Wi} {pos : Pos} {a b c : Expr} {ta tb tc : TE} {f g h : En → Res Vl} {op op' : CmpOp} {r r' : R2} {p p' : Vl → Vl → Res Vl}
theorem cm_lt : CmpR X .Lt (rI0 fun i j => .bl (decide (i < j))) (intP ltI) := ⟨op_lt, snd_lt⟩
theorem cm_le : CmpR X .LtE (rI0 fun i j => .bl (decide (i ≤ j))) (intP leI) := ⟨op_le, snd_le⟩
theorem cm_gt : CmpR X .Gt (rI0 fun i j => .bl (decide (j < i))) (intP gtI) := ⟨op_gt, snd_gt⟩
theorem cm_ge : CmpR X .GtE (rI0 fun i j => .bl (decide (j ≤ i))) (intP geI) := ⟨op_ge, snd_ge⟩
theorem cm_eq {K : PySem.W.Frag} (hu : X.A.units + 64 < cLine) (hK : X.K = K := by rfl) : CmpR X .Eq (fun x y H Q => rEq x y H Q ∨ rEqD K x y H Q) (eqP false) := by
  subst hK
  exact ⟨op_eq.or (op_eqD hu), snd_eq⟩
theorem cm_ne {K : PySem.W.Frag} (hu : X.A.units + 64 < cLine) (hK : X.K = K := by rfl) : CmpR X .NotEq (fun x y H Q => rNe x y H Q ∨ rNeD K x y H Q) (eqP true) := by
  subst hK
  exact ⟨op_ne.or (op_neD hu), snd_ne⟩
theorem cm_is : CmpR X .Is (rIs false) (isP false) := ⟨op_is, snd_is false⟩
theorem cm_isNot : CmpR X .IsNot (rIs true) (isP true) := ⟨op_isNot, snd_is true⟩
theorem de_cm (k : CmpR X op r p) (ha : DE X W a ta f) (hb : DE X W b tb g) (hm : behindInMarks op b = false := by first | exact nomark _ | rfl) : DE X W (.Compare a [op] [b] pos) (tOp r ta tb) (binE p f g) := de_cmp k.ho k.s ha hb hm
theorem dt_cm (k : CmpR X op r p) (ha : DE X W a ta f) (hb : DE X W b tb g) (hm : behindInMarks op b = false := by first | exact nomark _ | rfl) : DT X W (.Compare a [op] [b] pos) (tTest (tOp r ta tb)) (valT (binE p f g)) := ⟨pt_cmpR k.ho ha.pe hb.pe hm, evt_val (ev_bin k.s ha.ev hb.ev)⟩
theorem de_ch (k : CmpR X op r p) (k' : CmpR X op' r' p') (ha : DE X W a ta f) (hb : DE X W b tb g) (hc : DE X W c tc h) (hm : lastMarks [op, op'] [b, c] = false := by with_unfolding_all rfl) : DE X W (.Compare a [op, op'] [b, c] pos) (tChain r r' ta tb tc) (chainE p p' f g h) := ⟨pe_chain k.ho k'.ho ha.pe hb.pe hc.pe hm, ev_chain k.s k'.s ha.ev hb.ev hc.ev⟩
theorem dt_ch (k : CmpR X op r p) (k' : CmpR X op' r' p') (ha : DE X W a ta f) (hb : DE X W b tb g) (hc : DE X W c tc h) (hm : lastMarks [op, op'] [b, c] = false := by with_unfolding_all rfl) : DT X W (.Compare a [op, op'] [b, c] pos) (tTest (tChain r r' ta tb tc)) (valT (chainE p p' f g h)) := ⟨pt_chain k.ho k'.ho ha.pe hb.pe hc.pe hm, evt_val (ev_chain k.s k'.s ha.ev hb.ev hc.ev)⟩
/-- the calls of built-ins, the written part by its name -/
theorem ck_len {K : PySem.W.Frag} (hK : X.K = K := by rfl) : CallR X (.builtin "len") (fun xs H Q => ∃ x n, xs = [x] ∧ LenV K x H n ∧ Q (.int n) H) := by subst hK; exact call_len
theorem ck_sum {K : PySem.W.Frag} (hc : X.calm = true) (hK : X.K = K := by rfl) : CallR X (.builtin "sum") (rSum2 K) := by subst hK; exact (cr_sum hc).or (cr_sumT hc)
theorem ck_min {K : PySem.W.Frag} (hc : X.calm = true) (hK : X.K = K := by rfl) : CallR X (.builtin "min") (rMin K) := by subst hK; exact cr_min hc
theorem ck_max {K : PySem.W.Frag} (hc : X.calm = true) (hK : X.K = K := by rfl) : CallR X (.builtin "max") (rMax K) := by subst hK; exact cr_max hc
def rLs (K : PySem.W.Frag) : List V → Hp → VK → Prop := fun xs H Q => ∃ p ys, xs = [.ref p] ∧ (SqL K H p ys ∨ SqT K H p ys) ∧ ∀ l, H l = none → Q (.ref l) (upd H l (.lst ys))
def rTp (K : PySem.W.Frag) : List V → Hp → VK → Prop := fun xs H Q => ∃ p ys, xs = [.ref p] ∧ ((SqL K H p ys ∧ ∀ l, H l = none → Q (.ref l) (upd H l (.tup ys))) ∨ (SqT K H p ys ∧ Q (.ref p) H))
theorem ck_list {K : PySem.W.Frag} (hK : X.K = K := by rfl) : CallR X (.type "list") (rLs K) := by subst hK; exact call_list_of
theorem ck_tuple {K : PySem.W.Frag} (hK : X.K = K := by rfl) : CallR X (.type "tuple") (rTp K) := by subst hK; exact call_tuple_of
end
end DL

namespace DL
open PySem L2
/-! ### x[i] -/
def atD (xs : List D) (i : Int) : Res D := match atI xs i with
  | some d => .ok d
  | none => .no
def ixP : Vl → Vl → Res Vl := fun u w => match w.d with
  | .int i => match u.d with
    | .lst xs => (atD xs i).bind fun d => .ok ⟨u.k.sub, d⟩
    | .tup xs => (atD xs i).bind fun d => .ok ⟨u.k.sub, d⟩
    | .fz xs => (atD xs i).bind fun d => .ok ⟨u.k.sub, d⟩
    | .str x => if x.length ≤ sizeLine then (match atI x.cps.toList i with
      | some c => .ok ⟨.g, .str ⟨#[c]⟩⟩
      | none => .no) else .no
    | _ => .no
  | _ => .no
section
variable {K : PySem.W.Frag} {B G0 G G' H H' : Hp} {env : En} {σ : L2.St}
theorem atI_rep {vs : List V} {ds : List D} {i : Int} {d : D} (h : RepL K G vs ds) (e : atI ds i = some d) : ∃ v, atI vs i = some v ∧ Rep K G v d := by
  unfold atI at e ⊢
  rw [h.len]
  cases q : ixN ds.length i with
  | none => rw [q] at e; cases e
  | some j =>
    rw [q] at e
    exact h.get' e
/-- an item lies as its list does -/
theorem Rp.item {u : Vl} {v : V} {xs : List D} {i : Int} {d : D} (r : Rel K W B G0 G' env σ H') (h : Rp K B G' H H' u v) (ex : u.d = .lst xs ∨ u.d = .tup xs ∨ u.d = .fz xs) (e : atI xs i = some d) :
    ∃ a vs y, v = .ref a ∧ (u.d = .lst xs → SqL K H' a vs) ∧ (u.d = .fz xs → SqL K H' a vs) ∧ (u.d = .tup xs → SqT K H' a vs) ∧ atI vs i = some y ∧ Rp K B G' H H' ⟨u.k.sub, d⟩ y := by
  obtain ⟨k, dd⟩ := u
  dsimp only at ex
  cases k with
  | g =>
    rcases ex with rfl | rfl | rfl
    · obtain ⟨a, vs, rfl, h1, h2⟩ := Rep.lst_inv h
      obtain ⟨y, e1, e2⟩ := atI_rep h2 e
      exact ⟨a, vs, y, rfl, fun _ => SqL.of (r.gh _ _ h1), (fun z => nomatch z), (fun z => nomatch z), e1, e2⟩
    · obtain ⟨a, vs, rfl, h1, h2⟩ := Rep.tup_inv h
      obtain ⟨y, e1, e2⟩ := atI_rep h2 e
      exact ⟨a, vs, y, rfl, (fun z => nomatch z), (fun z => nomatch z), (fun _ => Same.sqt r.gh h1), e1, e2⟩
    · obtain ⟨a, vs, rfl, h1, h2⟩ := Rep.fz_inv h
      obtain ⟨y, e1, e2⟩ := atI_rep h2 e
      exact ⟨a, vs, y, rfl, (fun z => nomatch z), (fun _ => r.gh.seq h1), (fun z => nomatch z), e1, e2⟩
  | b =>
    rcases ex with rfl | rfl | rfl
    · obtain ⟨a, vs, rfl, h1, h2⟩ := Rep.lst_inv h
      obtain ⟨y, e1, e2⟩ := atI_rep h2 e
      exact ⟨a, vs, y, rfl, fun _ => SqL.of (r.bh _ _ h1), (fun z => nomatch z), (fun z => nomatch z), e1, e2⟩
    · obtain ⟨a, vs, rfl, h1, h2⟩ := Rep.tup_inv h
      obtain ⟨y, e1, e2⟩ := atI_rep h2 e
      exact ⟨a, vs, y, rfl, (fun z => nomatch z), (fun z => nomatch z), (fun _ => Same.sqt r.bh h1), e1, e2⟩
    · obtain ⟨a, vs, rfl, h1, h2⟩ := Rep.fz_inv h
      obtain ⟨y, e1, e2⟩ := atI_rep h2 e
      exact ⟨a, vs, y, rfl, (fun z => nomatch z), (fun _ => r.bh.seq h1), (fun z => nomatch z), e1, e2⟩
  | h =>
    obtain ⟨L, vs, ds, rfl, e2, _, _, e3, e4⟩ := h
    dsimp only at e2
    subst e2
    rcases ex with q | q | q <;> cases q
    obtain ⟨y, e1, e2⟩ := atI_rep e4 e
    exact ⟨L, vs, y, rfl, fun _ => SqL.of e3, (fun z => nomatch z), (fun z => nomatch z), e1, e2⟩
  | o =>
    obtain ⟨L, vs, ds, rfl, e2, _, _, e3, e4⟩ := h
    dsimp only at e2
    subst e2
    rcases ex with q | q | q <;> cases q
    obtain ⟨y, e1, e2⟩ := atI_rep e4 e
    exact ⟨L, vs, y, rfl, fun _ => SqL.of e3, (fun z => nomatch z), (fun z => nomatch z), e1, e2⟩
theorem atD_inv {xs : List D} {i : Int} {d : D} (h : atD xs i = .ok d) : atI xs i = some d := by
  unfold atD at h
  split at h
  · cases h; assumption
  · cases h
theorem atD_nx {xs : List D} {i : Int} {x : Exn} : atD xs i ≠ .ex x := by
  unfold atD
  split <;> exact fun z => nomatch z
theorem ixP_nx (u w : Vl) (x : Exn) : ixP u w ≠ .ex x := by
  unfold ixP
  split
  · split
    · exact bind_nx (fun _ => atD_nx) fun _ _ z => nomatch z
    · exact bind_nx (fun _ => atD_nx) fun _ _ z => nomatch z
    · exact bind_nx (fun _ => atD_nx) fun _ _ z => nomatch z
    · repeat' split
      all_goals exact fun z => by cases z
    · exact fun z => nomatch z
  · exact fun z => nomatch z
theorem snd_ix : Snd2 K (rIx K) ixP := ⟨fun B G0 G G' env σ H H' u w z x y Q rl hu hw e q => (by
  have hy := hw.look rl
  unfold ixP at e
  split at e
  · rename_i i ei
    rw [ei] at hy
    rw [hy.int_inv]
    split at e
    · rename_i xs ex
      obtain ⟨d, e1, e2⟩ := Res.bind_eq e
      cases e2
      obtain ⟨a, vs, t, rfl, h1, h2, h3, h4, h5⟩ := hu.item rl (.inl ex) (atD_inv e1)
      exact .inl ⟨a, vs, i, t, rfl, rfl, h1 ex, h4, q G' H' _ (Ext.refl rl.gh) (fix h5)⟩
    · rename_i xs ex
      obtain ⟨d, e1, e2⟩ := Res.bind_eq e
      cases e2
      obtain ⟨a, vs, t, rfl, h1, h2, h3, h4, h5⟩ := hu.item rl (.inr (.inl ex)) (atD_inv e1)
      exact .inr (.inl ⟨a, vs, i, t, rfl, rfl, h3 ex, h4, q G' H' _ (Ext.refl rl.gh) (fix h5)⟩)
    · rename_i xs ex
      obtain ⟨d, e1, e2⟩ := Res.bind_eq e
      cases e2
      obtain ⟨a, vs, t, rfl, h1, h2, h3, h4, h5⟩ := hu.item rl (.inr (.inr ex)) (atD_inv e1)
      exact .inl ⟨a, vs, i, t, rfl, rfl, h2 ex, h4, q G' H' _ (Ext.refl rl.gh) (fix h5)⟩
    · rename_i z' ez
      have hx := hu.look rl
      rw [ez] at hx
      rw [hx.str_inv]
      split at e
      · split at e
        · rename_i c hc
          cases e
          exact .inr (.inr ⟨z', i, c, rfl, rfl, by assumption, hc, q G' H' _ (Ext.refl rl.gh) (.str _)⟩)
        · cases e
      · cases e
    · cases e
  · cases e),
  ixP_nx⟩
where
  fix {B G' H0 H' H1 : Hp} {k : Kd} {d : D} {v : V} (h : Rp K B G' H0 H' ⟨k.sub, d⟩ v) : Rp K B G' H1 H' ⟨k.sub, d⟩ v := by
    cases k <;> exact h
end
section
variable {X : Cx} {W : Wi} {pos : Pos} {a b : Expr} {ta tb : TE} {f g : En → Res Vl}
theorem de_ix {K : PySem.W.Frag} (ha : DE X W a ta f) (hb : DE X W b tb g) (hs : PlainIx b := by intro _ _; rfl) (hK : X.K = K := by rfl) : DE X W (.Subscript a b pos) (tOp (rIx K) ta tb) (binE ixP f g) := by
  subst hK
  exact ⟨pe_ix ix_seq ha.pe hb.pe hs, ev_bin snd_ix ha.ev hb.ev⟩
end
/-! ### slices of lists -/
def cutD (xs : List D) (lo hi : Option Int) : List D := (xs.drop (HT.sIx xs.length 0 lo)).take (HT.sIx xs.length xs.length hi - HT.sIx xs.length 0 lo)
def noPart : En → Res (Option Int) := fun _ => .ok none
def part (f : En → Res Vl) : En → Res (Option Int) := fun env => (f env).bind fun u => match u.d with
  | .int i => .ok (some i)
  | _ => .no
structure EvO (K : PySem.W.Frag) (W : Wi) (to : TO) (f : En → Res (Option Int)) : Prop where
  ok : ∀ (B G0 G : Hp) (env : En) (σ : L2.St) (H : Hp) (o : Option Int), Rel K W B G0 G env σ H → f env = .ok o → ∀ Q : Option Int → Hp → Prop, (∀ G' H', Ext G H G' H' → Q o H') → to σ H Q
  ex : ∀ (B G0 G : Hp) (env : En) (σ : L2.St) (H : Hp) (x : Exn), Rel K W B G0 G env σ H → f env = .ex x → XOk K G σ H W x → ∀ Q : Option Int → Hp → Prop, to σ H Q
structure DO (X : Cx) (W : Wi) (e : Option Expr) (to : TO) (f : En → Res (Option Int)) : Prop where
  po : PO X e to
  ev : EvO X.K W to f
theorem do_none {X : Cx} {W : Wi} : DO X W none tNoPart noPart := ⟨po_none, ⟨fun B G0 G env σ H o r e Q k => by cases e; exact k G H (Ext.refl r.gh), fun B G0 G env σ H x r e => nomatch e⟩⟩
theorem do_some {X : Cx} {W : Wi} {e : Expr} {te : TE} {f : En → Res Vl} (h : DE X W e te f) : DO X W (some e) (tPart te) (part f) := ⟨po_some h.pe, ⟨fun B G0 G env σ H o r e Q k => (by
  obtain ⟨u, e1, e2⟩ := Res.bind_eq e
  refine h.ev.ok B G0 G env σ H u r e1 _ fun G' H' v x hv => ?_
  have y := hv.look (r.ext x)
  split at e2
  · rename_i i ei
    cases e2
    rw [ei] at y
    exact ⟨i, y.int_inv, k G' H' x⟩
  · cases e2), fun B G0 G env σ H x r e w Q => by
  rcases Res.bind_ex e with e1 | ⟨u, e1, e⟩
  · exact h.ev.ex B G0 G env σ H x r e1 w _
  · split at e <;> cases e⟩⟩
def slP (u : Vl) (lo hi : Option Int) : Res Vl := match u.d with
  | .lst xs => if u.k.it xs = true then .ok ⟨.o, .lst (cutD xs lo hi)⟩ else .no
  | .fz xs => if u.k.it xs = true then .ok ⟨.o, .lst (cutD xs lo hi)⟩ else .no
  | .tup xs => if u.k.it xs = true ∧ ¬ (HT.sIx xs.length 0 lo = 0 ∧ HT.sIx xs.length xs.length hi = xs.length) then .ok ⟨.g, .tup (cutD xs lo hi)⟩ else .no
  | _ => .no
def rSl2 (K : PySem.W.Frag) : V → Option Int → Option Int → Hp → VK → Prop := fun x lo hi H Q => rSlL K x lo hi H Q ∨ rSlT K x lo hi H Q
def slE (f : En → Res Vl) (l h : En → Res (Option Int)) : En → Res Vl := fun env => (f env).bind fun u => (l env).bind fun lo => (h env).bind fun hi => slP u lo hi
theorem cut_rep {K : PySem.W.Frag} {G : Hp} {vs : List V} {ds : List D} (h : RepL K G vs ds) (lo hi : Option Int) : RepL K G (cutV vs lo hi) (cutD ds lo hi) := by
  unfold cutV cutD
  rw [h.len]
  exact (h.drop _).take _
theorem Rp.items2 {K : PySem.W.Frag} {B G0 G' H H' : Hp} {env : En} {σ : L2.St} {u : Vl} {v : V} {xs : List D} (r : Rel K W B G0 G' env σ H') (h : Rp K B G' H H' u v) (e : u.d = .fz xs) (hk : u.k.it xs = true) : ∃ a vs, v = .ref a ∧ SqL K H' a vs ∧ RepL K G' vs xs := by
  obtain ⟨k, d⟩ := u
  dsimp only at e hk
  subst e
  cases k with
  | g =>
    obtain ⟨a, vs, e, h1, h2⟩ := Rep.fz_inv h
    exact ⟨a, vs, e, r.gh.seq h1, h2⟩
  | b =>
    obtain ⟨a, vs, e, h1, h2⟩ := Rep.fz_inv h
    exact ⟨a, vs, e, r.bh.seq h1, h2.flat hk⟩
  | h => obtain ⟨L, vs, ds, e1, e2, _⟩ := h; cases e2
  | o => obtain ⟨L, vs, ds, e1, e2, _⟩ := h; cases e2
theorem Rp.items3 {K : PySem.W.Frag} {B G0 G' H H' : Hp} {env : En} {σ : L2.St} {u : Vl} {v : V} {xs : List D} (r : Rel K W B G0 G' env σ H') (h : Rp K B G' H H' u v) (e : u.d = .tup xs) (hk : u.k.it xs = true) : ∃ a vs, v = .ref a ∧ SqT K H' a vs ∧ RepL K G' vs xs := by
  obtain ⟨k, d⟩ := u
  dsimp only at e hk
  subst e
  cases k with
  | g =>
    obtain ⟨a, vs, e, h1, h2⟩ := Rep.tup_inv h
    exact ⟨a, vs, e, Same.sqt r.gh h1, h2⟩
  | b =>
    obtain ⟨a, vs, e, h1, h2⟩ := Rep.tup_inv h
    exact ⟨a, vs, e, Same.sqt r.bh h1, h2.flat hk⟩
  | h => obtain ⟨L, vs, ds, e1, e2, _⟩ := h; cases e2
  | o => obtain ⟨L, vs, ds, e1, e2, _⟩ := h; cases e2
theorem slP_nx {u : Vl} {lo hi : Option Int} {x : Exn} : slP u lo hi ≠ .ex x := by
  unfold slP
  split <;> first
    | exact if_nx
    | exact fun z => nomatch z
theorem ev_sl {K : PySem.W.Frag} {W : Wi} {te : TE} {tl th : TO} {f : En → Res Vl} {l h : En → Res (Option Int)} (h1 : EvD K W te f) (h2 : EvO K W tl l) (h3 : EvO K W th h) : EvD K W (tSl (rSl2 K) te tl th) (slE f l h) := ⟨fun B G0 G env σ H z rl e Q k => (by
  obtain ⟨u, e1, e⟩ := Res.bind_eq e
  obtain ⟨lo, e2, e⟩ := Res.bind_eq e
  obtain ⟨hi, e3, e⟩ := Res.bind_eq e
  refine h1.ok B G0 G env σ H u rl e1 _ fun G1 H1 v x1 hv => h2.ok B G0 G1 env σ H1 lo (rl.ext x1) e2 _ fun G2 H2 x2 => h3.ok B G0 G2 env σ H2 hi ((rl.ext x1).ext x2) e3 _ fun G3 H3 x3 => ?_
  have rl3 := ((rl.ext x1).ext x2).ext x3
  have hv3 := (hv.mono x2).mono x3
  unfold slP at e
  split at e
  · rename_i xs ex
    obtain ⟨c, rfl⟩ := if_ok e
    obtain ⟨a, vs, rfl, q1, q2⟩ := hv3.items rl3 ex c
    exact .inl ⟨a, vs, rfl, SqL.of q1, new_list rl3 (cut_rep q2 lo hi) fun G4 H4 w x4 hw => k G4 H4 w (((x1.trans x2).trans x3).trans x4) (hw.from ((x1.hh.trans x2.hh).trans x3.hh))⟩
  · rename_i xs ex
    obtain ⟨c, rfl⟩ := if_ok e
    obtain ⟨a, vs, rfl, q1, q2⟩ := hv3.items2 rl3 ex c
    exact .inl ⟨a, vs, rfl, q1, new_list rl3 (cut_rep q2 lo hi) fun G4 H4 w x4 hw => k G4 H4 w (((x1.trans x2).trans x3).trans x4) (hw.from ((x1.hh.trans x2.hh).trans x3.hh))⟩
  · rename_i xs ex
    obtain ⟨⟨c, c2⟩, rfl⟩ := if_ok e
    obtain ⟨a, vs, rfl, q1, q2⟩ := Rp.items3 rl3 hv3 ex c
    exact .inr ⟨a, vs, rfl, q1, by rw [q2.len]; exact c2, new_tup rl3 (cut_rep q2 lo hi) fun G4 H4 w x4 hw => k G4 H4 w (((x1.trans x2).trans x3).trans x4) (hw.from ((x1.hh.trans x2.hh).trans x3.hh))⟩
  · cases e),
  fun B G0 G env σ H x rl e w Q => by
  rcases Res.bind_ex e with e1 | ⟨u, e1, e⟩
  · exact h1.ex B G0 G env σ H x rl e1 w _
  rcases Res.bind_ex e with e2 | ⟨lo, e2, e⟩
  · exact h1.ok B G0 G env σ H u rl e1 _ fun G1 H1 v x1 hv => h2.ex B G0 G1 env σ H1 x (rl.ext x1) e2 (w.ext x1) _
  rcases Res.bind_ex e with e3 | ⟨hi, e3, e⟩
  · exact h1.ok B G0 G env σ H u rl e1 _ fun G1 H1 v x1 hv => h2.ok B G0 G1 env σ H1 lo (rl.ext x1) e2 _ fun G2 H2 x2 => h3.ex B G0 G2 env σ H2 x ((rl.ext x1).ext x2) e3 ((w.ext x1).ext x2) _
  · exact absurd e slP_nx⟩
theorem de_sl {K : PySem.W.Frag} {X : Cx} {W : Wi} {pos p2 : Pos} {a : Expr} {lo hi : Option Expr} {te : TE} {tl th : TO} {f : En → Res Vl} {l h : En → Res (Option Int)} (h1 : DE X W a te f) (h2 : DO X W lo tl l) (h3 : DO X W hi th h) (hK : X.K = K := by rfl) : DE X W (.Subscript a (.Slice lo hi none p2) pos) (tSl (rSl2 K) te tl th) (slE f l h) := by
  subst hK
  exact ⟨pe_slice (SlR.or sl_list sl_tup) h1.pe h2.po h3.po, ev_sl h1.ev h2.ev h3.ev⟩
/-! ### isinstance(x, T), T a built-in type -/
def tyD : D → String
  | .non => "NoneType"
  | .bl _ => "bool"
  | .int _ => "int"
  | .str _ => "str"
  | .lst _ => "list"
  | .tup _ => "tuple"
  | .fz _ => "list"
  | .obj _ _ _ => ""
  | .exn _ _ _ => ""
def isOb : D → Bool
  | .obj _ _ _ => true
  | .exn _ _ _ => true
  | _ => false
def isiB (T : String) : D → Bool
  | .non => T == "NoneType"
  | .bl _ => T == "bool" || T == "int"
  | .int _ => T == "int"
  | .str _ => T == "str"
  | .lst _ => T == "list"
  | .tup _ => T == "tuple"
  | .fz _ => T == "list"
  | .obj _ _ _ => false
  | .exn _ _ _ => false
def goodT (T : String) : Bool := T == "int" || T == "str" || T == "bool" || T == "list" || T == "tuple"
def isiE (T : String) (f : En → Res Vl) : En → Res Vl := fun env => (f env).bind fun u => if isOb u.d = true then .no else .ok ⟨.g, .bl (isiB T u.d)⟩
theorem ty_sqL {K : PySem.W.Frag} {H : Hp} {a : Addr} {xs : List V} (h : SqL K H a xs) : TyX K H (.ref a) (.type "list") := by
  rcases h with (h | ⟨o, h⟩) | ⟨o, its, n, h1, h2, h3, h4, h5⟩
  · exact .base (.lst h)
  · exact .base (.frz h)
  · exact .kList h1 h2
theorem ty_sqT {K : PySem.W.Frag} {H : Hp} {a : Addr} {xs : List V} (h : SqT K H a xs) : TyX K H (.ref a) (.type "tuple") := by
  rcases h with (h | ⟨o, h⟩) | ⟨o, its, n, h1, h2, h3, h4⟩
  · exact .base (.tup h)
  · exact .fTuple h
  · exact .kTuple h1 h2
theorem ty_rep {K : PySem.W.Frag} {H : Hp} {v : V} {d : D} (h : Rep K H v d) (ho : isOb d = false) : TyX K H v (.type (tyD d)) := by
  cases h with
  | non => exact .base .non
  | bl b => exact .base (.bl b)
  | int i => exact .base (.int i)
  | str x => exact .base (.str x)
  | lst h l => exact .base (.lst h)
  | tup h l => exact ty_sqT h
  | fz h l => exact ty_sqL h
  | obj _ _ _ _ _ => cases ho
  | exn0 _ _ => cases ho
  | exn _ _ _ _ _ => cases ho
theorem kit_tab : ∀ t ∈ ["NoneType", "bool", "int", "str", "list", "tuple"], ∀ T ∈ ["int", "str", "bool", "list", "tuple"], kitB t T = some (t == T || (t == "bool" && T == "int")) := by decide +kernel
theorem kit_isi {K : PySem.W.Frag} {T : String} (h : goodT T = true) (d : D) (ho : isOb d = false) : PySem.W.kitOne K (.type (tyD d)) (.type T) = some (isiB T d) := by
  have hT : T ∈ ["int", "str", "bool", "list", "tuple"] := by
    unfold goodT at h
    simp only [Bool.or_eq_true, beq_iff_eq] at h
    simp only [List.mem_cons, List.not_mem_nil, or_false]
    rcases h with (((h | h) | h) | h) | h
    · exact .inl h
    · exact .inr (.inl h)
    · exact .inr (.inr (.inl h))
    · exact .inr (.inr (.inr (.inl h)))
    · exact .inr (.inr (.inr (.inr h)))
  have e := kit_tab (tyD d) (by cases d <;> first | (cases ho; done) | simp [tyD]) T hT
  refine kit_ty (e.trans ?_)
  congr 1
  simp only [List.mem_cons, List.not_mem_nil, or_false] at hT
  rcases hT with rfl | rfl | rfl | rfl | rfl <;> cases d <;> first | (cases ho; done) | rfl | simp [tyD, isiB]
theorem de_isi {K : PySem.W.Frag} {X : Cx} {W : Wi} {pos p p2 : Pos} {a : Expr} {ta : TE} {f : En → Res Vl} {T : Str} {Ts : String} (hT : goodT Ts = true) (hv : bootBuiltins T = some (.type Ts)) (hm : X.mg "isinstance" = none) (hmT : X.mg T = none) (h : DE X W a ta f)
    (hg : Gl X "isinstance" := by rfl) (hgT : Gl X T := by rfl) (hn : T ≠ "__name__" := by decide) (hdb : (T == ("__debug__" : Str)) = false := by decide)
    (h1 : starEach (a :: [.Name T p2]) X.env = (false, eval a X.env) :: starEach [.Name T p2] X.env := by rfl) (hK : X.K = K := by rfl) : DE X W (.Call (.Name "isinstance" p) [a, .Name T p2] [] pos) (tCB (rIsi K) (tCons ta (tCons (tC (.ty Ts)) tNil))) (isiE Ts f) := by
  subst hK
  exact ⟨pe_callB call_isi hg hm (by decide +kernel) (pa_cons h.pe (pa_cons (pe_bltn hgT hmT hv rfl hn hdb) pa_nil) h1) (by decide) (by decide) h1, ⟨fun B G0 G env σ H z rl e Q k => (by
    obtain ⟨u, e1, e⟩ := Res.bind_eq e
    skip
    split at e
    · cases e
    · rename_i ho
      cases e
      have ho : isOb u.d = false := Bool.eq_false_iff.mpr ho
      exact h.ev.ok B G0 G env σ H u rl e1 _ fun G' H' v x hv => ⟨v, .ty Ts, .type (tyD u.d), .type Ts, _, rfl, .ty Ts, ty_rep (hv.look (rl.ext x)) ho, kit_isi hT u.d ho, k G' H' _ x (.bl _)⟩), fun B G0 G env σ H x rl e w Q => by
    rcases Res.bind_ex e with e1 | ⟨u, e1, e⟩
    · exact h.ev.ex B G0 G env σ H x rl e1 w _
    · skip
      split at e <;> cases e⟩⟩
end DL

namespace DL
open PySem L2
/-! ### statements -/
inductive Out where
  | nx (e : En) | rt (u : Vl) | bk (e : En) | ct (e : En) | ex (e : En) (x : Exn) | no
/-- what is wanted behind an outcome -/
def OutOk (K : PySem.W.Frag) (W : Wi) (B G0 G : Hp) (D : Ends) : Out → Prop
  | .nx e => ∀ G' σ' H', Same G G' → Rel K W B G0 G' e σ' H' → D.nx σ' H'
  | .bk e => ∀ G' σ' H', Same G G' → Rel K W B G0 G' e σ' H' → D.bk σ' H'
  | .ct e => ∀ G' σ' H', Same G G' → Rel K W B G0 G' e σ' H' → D.ct σ' H'
  | .rt u => ∀ G' H' v, Same G G' → Rel K W B G0 G' [] [] H' → Rp K B G' B H' u v → D.rt v H'
  | .ex e x => ∀ G' σ' H' cls d, Same G G' → Rel K W B G0 G' e σ' H' → RepX K G' H' x cls d → W.w cls d σ' H'
  | .no => False
def SvD (K : PySem.W.Frag) (W : Wi) (ts : TS) (f : En → Out) : Prop := ∀ (B G0 G : Hp) (env : En) (σ : L2.St) (H : Hp) (D : Ends), Rel K W B G0 G env σ H → OutOk K W B G0 G D (f env) → ts D σ H
structure DS (X : Cx) (W : Wi) (st : Stmt) (ts : TS) (f : En → Out) : Prop where
  ps : PS X st ts
  sv : SvD X.K W ts f
structure DSs (X : Cx) (W : Wi) (st : List Stmt) (ts : TS) (f : En → Out) : Prop where
  ps : PSs X st ts
  sv : SvD X.K W ts f
theorem OutOk.xok {K : PySem.W.Frag} {W : Wi} {B G0 G H : Hp} {D : Ends} {env : En} {σ : L2.St} {x : Exn} (r : Rel K W B G0 G env σ H) (h : OutOk K W B G0 G D (.ex env x)) : XOk K G σ H W x := fun G' H' cls d e q => h G' σ H' cls d e.gg (r.ext e) q
theorem OutOk.mono {K : PySem.W.Frag} {W : Wi} {B G0 G G' : Hp} {D : Ends} {o : Out} (s : Same G G') (h : OutOk K W B G0 G D o) : OutOk K W B G0 G' D o := by
  cases o with
  | nx e => exact fun G2 σ' H' q r => h G2 σ' H' (s.trans q) r
  | bk e => exact fun G2 σ' H' q r => h G2 σ' H' (s.trans q) r
  | ct e => exact fun G2 σ' H' q r => h G2 σ' H' (s.trans q) r
  | rt u => exact fun G2 H' v q r => h G2 H' v (s.trans q) r
  | ex e x => exact fun G2 σ' H' cls d q r => h G2 σ' H' cls d (s.trans q) r
  | no => exact h
def seqO (f g : En → Out) : En → Out := fun env => match f env with
  | .nx e => g e
  | o => o
theorem sv_seq {K : PySem.W.Frag} {W : Wi} {t u : TS} {f g : En → Out} (h1 : SvD K W t f) (h2 : SvD K W u g) : SvD K W (tSeq t u) (seqO f g) := fun B G0 G env σ H D r k => by
  refine h1 B G0 G env σ H _ r ?_
  unfold seqO at k
  cases e : f env with
  | nx e' =>
    rw [e] at k
    exact fun G' σ' H' s r' => h2 B G0 G' e' σ' H' D r' (k.mono s)
  | _ => rw [e] at k; exact k
section
variable {X : Cx} {W : Wi} {st : Stmt} {rest : List Stmt} {t u : TS} {f g : En → Out}
def nextO : En → Out := fun env => .nx env
theorem sv_next {K : PySem.W.Frag} {W : Wi} : SvD K W tNext nextO := fun B G0 G env σ H D r k => k G σ H (Same.refl G) r
theorem dss_nil : DSs X W [] tNext nextO := ⟨pss_nil, sv_next⟩
theorem dss_cons (h1 : DS X W st t f) (h2 : DSs X W rest u g) : DSs X W (st :: rest) (tSeq t u) (seqO f g) := ⟨pss_cons h1.ps h2.ps, sv_seq h1.sv h2.sv⟩
theorem dss_one (h1 : DS X W st t f) : DSs X W [st] t f := ⟨pss_one h1.ps, h1.sv⟩
theorem ds_pass {pos : Pos} : DS X W (.Pass pos) tNext nextO := ⟨ps_pass, sv_next⟩
theorem ds_break {pos : Pos} : DS X W (.Break pos) tBreak (fun env => .bk env) := ⟨ps_break, fun B G0 G env σ H D r k => k G σ H (Same.refl G) r⟩
theorem ds_continue {pos : Pos} : DS X W (.Continue pos) tCont (fun env => .ct env) := ⟨ps_continue, fun B G0 G env σ H D r k => k G σ H (Same.refl G) r⟩
end
/-- a list that stands in slot i is kept from now on -/
def frz1 (i : Nat) (env : En) : En := match env[i]? with
  | some (.ow xs) => env.set i (.vl true (.lst xs))
  | _ => env
def frz : List Nat → En → En
  | [], env => env
  | i :: is, env => frz is (frz1 i env)
def frzO (is : List Nat) (f : En → Out) : En → Out := fun env => f (frz is env)
section
variable {K : PySem.W.Frag} {W : Wi} {B G0 G G' H H' : Hp} {env : En} {σ : L2.St}
theorem set_get {α : Type} {l : List α} {i j : Nat} {x y : α} (h : (l.set i x)[j]? = some y) : (i = j ∧ y = x) ∨ (i ≠ j ∧ l[j]? = some y) := by
  by_cases e : i = j
  · subst e
    have hl : i < l.length := by
      have := (List.getElem?_eq_some_iff.mp h).1
      rwa [List.length_set] at this
    rw [List.getElem?_set_self hl] at h
    exact .inl ⟨rfl, (Option.some.inj h).symm⟩
  · rw [List.getElem?_set_ne e] at h
    exact .inr ⟨e, h⟩
theorem Rel.frz1 (r : Rel K W B G0 G env σ H) (i : Nat) : ∃ G', Same G G' ∧ Rel K W B G0 G' (frz1 i env) σ H := by
  unfold DL.frz1
  split
  · rename_i xs e
    have hi : i < σ.length := by
      have h1 := (List.getElem?_eq_some_iff.mp e).1
      have h2 := r.len
      omega
    have eo : σ[i]? = some σ[i] := List.getElem?_eq_getElem hi
    obtain ⟨L, vs, e1, b1, g1, h1, r1⟩ := r.sl i _ _ e eo
    have s1 : Same G (upd G L (.lst vs)) := same_upd (Same.refl _) g1
    refine ⟨upd G L (.lst vs), s1, r.g0.trans s1, fun b u q => ?_, r.bh, fun a q n => ?_, by rw [List.length_set]; exact r.len, fun j s o q1 q2 => ?_, fun j k xs' ys L' hjk q1 q2 q3 q4 => ?_⟩
    · by_cases z : b = L
      · subst z
        rw [upd_same] at q
        cases q
        exact h1
      · rw [upd_ne z] at q
        exact r.gh b u q
    · by_cases z : a = L
      · rw [z]; exact b1
      · rw [upd_ne z] at n
        exact r.fr a q n
    · rcases set_get q1 with ⟨rfl, rfl⟩ | ⟨ne, q1⟩
      · rw [eo] at q2
        cases q2
        exact ⟨.ref L, e1, .lst upd_same (r1.mono s1)⟩
      · have x := r.sl j s o q1 q2
        match s, x with
        | .no, _ => trivial
        | .vl true d, ⟨v, y1, y2⟩ => exact ⟨v, y1, y2.mono s1⟩
        | .vl false d, ⟨v, y1, y2⟩ => exact ⟨v, y1, y2⟩
        | .xc y, ⟨y1, y2⟩ => exact ⟨y1, y2.same s1⟩
        | .ow ys, ⟨L2, ws, y1, y2, y3, y4, y5⟩ =>
          refine ⟨L2, ws, y1, y2, ?_, y4, y5.mono s1⟩
          have : L2 ≠ L := fun z => r.ds i j xs ys L ne e q1 (by rw [eo, e1]) (by rw [q2, y1, z])
          rw [upd_ne this]
          exact y3
    · rcases set_get q1 with ⟨rfl, z⟩ | ⟨n1, q1⟩
      · cases z
      · rcases set_get q2 with ⟨rfl, z⟩ | ⟨n2, q2⟩
        · cases z
        · exact r.ds j k xs' ys L' hjk q1 q2 q3 q4
  · exact ⟨G, Same.refl G, r⟩
theorem Rel.frz : ∀ (is : List Nat) {G : Hp} {env : En}, Rel K W B G0 G env σ H → ∃ G', Same G G' ∧ Rel K W B G0 G' (frz is env) σ H
  | [], G, env, r => ⟨G, Same.refl G, r⟩
  | i :: is, G, env, r => by
    obtain ⟨G1, s1, r1⟩ := r.frz1 i
    obtain ⟨G2, s2, r2⟩ := Rel.frz is r1
    exact ⟨G2, s1.trans s2, r2⟩
/-- an own slot's value -/
def slotOf : Vl → Res Sl
  | ⟨.g, d⟩ => .ok (.vl true d)
  | ⟨.b, d⟩ => .ok (.vl false d)
  | ⟨.o, .lst xs⟩ => .ok (.ow xs)
  | ⟨_, _⟩ => .no
theorem list_ext {α : Type} {l : List α} {i : Nat} {x : α} (h : i < l.length) : l[i]? = some l[i] := List.getElem?_eq_getElem h
/-- a value goes into slot i -/
theorem Rel.put {u : Vl} {v : V} {s : Sl} (r : Rel K W B G0 G env σ H) (x : Ext G H G' H') (h : Rp K B G' H H' u v) (e : slotOf u = .ok s) (i : Nat) : Rel K W B G0 G' (env.set i s) (σ.set i (some v)) H' := by
  have r' := r.ext x
  refine ⟨r'.g0, r'.gh, r'.bh, r'.fr, by rw [List.length_set, List.length_set]; exact r'.len, fun j s' o q1 q2 => ?_, fun j k xs ys L hjk q1 q2 q3 q4 => ?_⟩
  · rcases set_get q1 with ⟨rfl, rfl⟩ | ⟨ne, q1⟩
    · rcases set_get q2 with ⟨_, rfl⟩ | ⟨ne, _⟩
      · obtain ⟨k, d⟩ := u
        cases k with
        | g => cases e; exact ⟨v, rfl, h⟩
        | b => cases e; exact ⟨v, rfl, h⟩
        | h =>
          cases d <;> cases e
        | o =>
          obtain ⟨L, vs, ds, e1, e2, e3, e4, e5, e6⟩ := h
          dsimp only at e2
          subst e2
          cases e
          exact ⟨L, vs, by rw [e1], r.bh.free e3, e4, e5, e6⟩
      · exact absurd rfl ne
    · rcases set_get q2 with ⟨z, _⟩ | ⟨_, q2⟩
      · exact absurd z ne
      · exact r'.sl j s' o q1 q2
  · have fresh : ∀ {j k : Nat} {xs ys : List D}, (i = j) → Sl.ow xs = s → i ≠ k → env[k]? = some (.ow ys) → σ[k]? = some (some (.ref L)) → v = .ref L → False := fun {j k xs ys} _ es nk q2 q4 ev => by
      obtain ⟨kk, d⟩ := u
      cases kk with
      | g => cases e; cases es
      | b => cases e; cases es
      | h => cases d <;> cases e
      | o =>
        obtain ⟨L', vs, ds, e1, e2, e3, e4, e5, e6⟩ := h
        obtain ⟨L2, ws, y1, y2, y3, y4, y5⟩ := r.sl k _ _ q2 q4
        have a1 : L' = L := by
          rw [e1] at ev
          cases ev
          rfl
        have a2 : L = L2 := by cases y1; rfl
        rw [← a2, ← a1, e3] at y4
        cases y4
    rcases set_get q1 with ⟨e1, z⟩ | ⟨n1, q1⟩
    · rcases set_get q2 with ⟨e2, _⟩ | ⟨n2, q2⟩
      · exact hjk (e1.symm.trans e2)
      · rcases set_get q3 with ⟨_, z3⟩ | ⟨n3, _⟩
        · rcases set_get q4 with ⟨z4, _⟩ | ⟨_, q4⟩
          · exact n2 z4
          · exact fresh e1 z n2 q2 q4 (Option.some.inj z3).symm
        · exact n3 e1
    · rcases set_get q2 with ⟨e2, z⟩ | ⟨n2, q2⟩
      · rcases set_get q4 with ⟨_, z4⟩ | ⟨n4, _⟩
        · rcases set_get q3 with ⟨z3, _⟩ | ⟨_, q3⟩
          · exact n1 z3
          · exact fresh e2 z n1 q1 q3 (Option.some.inj z4).symm
        · exact n4 e2
      · rcases set_get q3 with ⟨z3, _⟩ | ⟨_, q3⟩
        · exact n1 z3
        · rcases set_get q4 with ⟨z4, _⟩ | ⟨_, q4⟩
          · exact n2 z4
          · exact r'.ds j k xs ys L hjk q1 q2 q3 q4
theorem Rel.fin (r : Rel K W B G0 G env σ H) : Rel K W B G0 G [] [] H := ⟨r.g0, r.gh, r.bh, r.fr, rfl, fun i s o e => by simp at e, fun i j xs ys L _ e => by simp at e⟩
end
theorem slotOf_nx {u : Vl} {x : Exn} : slotOf u ≠ .ex x := by
  unfold slotOf
  split <;> exact fun z => nomatch z
def setO (i : Nat) (f : En → Res Vl) : En → Out := fun env => match (f env).bind slotOf with
  | .ok s => .nx (env.set i s)
  | .ex x => .ex env x
  | .no => .no
def retV : Vl → Res Vl
  | ⟨.g, d⟩ => .ok ⟨.g, d⟩
  | ⟨.o, d⟩ => .ok ⟨.o, d⟩
  | ⟨.h, d⟩ => .ok ⟨.o, d⟩
  | ⟨.b, d⟩ => if flat d = true then .ok ⟨.g, d⟩ else .no
theorem retV_nx {u : Vl} {x : Exn} : retV u ≠ .ex x := by
  unfold retV
  split <;> first
    | exact if_nx
    | exact fun z => nomatch z
def retO (f : En → Res Vl) : En → Out := fun env => match (f env).bind retV with
  | .ok u => .rt u
  | .ex x => .ex env x
  | .no => .no
def ifO (p : En → Res Bool) (f g : En → Out) : En → Out := fun env => match p env with
  | .ok true => f env
  | .ok false => g env
  | .ex x => .ex env x
  | .no => .no
def dropO (f : En → Res Vl) : En → Out := fun env => match f env with
  | .ok _ => .nx env
  | .ex x => .ex env x
  | .no => .no
section
variable {K : PySem.W.Frag} {W : Wi} {te : TE} {tt : TT} {ts tu : TS} {f : En → Res Vl} {p : En → Res Bool} {g h : En → Out}
theorem sv_set (i : Nat) (hf : EvD K W te f) : SvD K W (tAsg te (gName i)) (setO i f) := fun B G0 G env σ H D r k => by
  unfold setO at k
  split at k
  · rename_i s e
    obtain ⟨u, e1, e2⟩ := Res.bind_eq e
    exact hf.ok B G0 G env σ H u r e1 _ fun G' H' v x hv => k G' _ H' x.gg (r.put x hv e2 i)
  · rename_i y e
    rcases Res.bind_ex e with e1 | ⟨u, _, e2⟩
    · exact hf.ex B G0 G env σ H y r e1 (k.xok r) _
    · exact absurd e2 slotOf_nx
  · exact k.elim
theorem sv_ret (hf : EvD K W te f) : SvD K W (tRet te) (retO f) := fun B G0 G env σ H D r k => by
  unfold retO at k
  split at k
  · rename_i u e
    obtain ⟨w, e1, e2⟩ := Res.bind_eq e
    refine hf.ok B G0 G env σ H w r e1 _ fun G' H' v x hv => k G' H' v x.gg (r.ext x).fin ?_
    obtain ⟨kk, d⟩ := w
    cases kk with
    | g => cases e2; exact hv
    | o => cases e2; exact Rp.from r.bh hv
    | h =>
      cases e2
      obtain ⟨L, vs, ds, e1, e2, b, g, e3, e4⟩ := hv
      exact ⟨L, vs, ds, e1, e2, b, g, e3, e4⟩
    | b =>
      obtain ⟨c, rfl⟩ := if_ok e2
      exact Rep.flat (show Rep K B v d from hv) c
  · rename_i y e
    rcases Res.bind_ex e with e1 | ⟨u, _, e2⟩
    · exact hf.ex B G0 G env σ H y r e1 (k.xok r) _
    · exact absurd e2 retV_nx
  · exact k.elim
theorem sv_if (hp : EvT K W tt p) (h1 : SvD K W ts g) (h2 : SvD K W tu h) : SvD K W (tIfS tt ts tu) (ifO p g h) := fun B G0 G env σ H D r k => by
  unfold ifO at k
  split at k
  · rename_i e
    exact hp.ok B G0 G env σ H true r e _ fun G' H' x => by
      rw [if_pos rfl]
      exact h1 B G0 G' env σ H' D (r.ext x) (k.mono x.gg)
  · rename_i e
    exact hp.ok B G0 G env σ H false r e _ fun G' H' x => by
      rw [if_neg Bool.false_ne_true]
      exact h2 B G0 G' env σ H' D (r.ext x) (k.mono x.gg)
  · rename_i y e
    exact hp.ex B G0 G env σ H y r e (k.xok r) _
  · exact k.elim
theorem sv_frz (is : List Nat) (h1 : SvD K W ts g) : SvD K W ts (fun env => g (frz is env)) := fun B G0 G env σ H D r k => by
  obtain ⟨G', s, r'⟩ := r.frz is
  exact h1 B G0 G' (frz is env) σ H D r' (k.mono s)
theorem sv_drop (hf : EvD K W te f) : SvD K W (tDrop te) (dropO f) := fun B G0 G env σ H D r k => by
  unfold dropO at k
  split at k
  · rename_i u e
    exact hf.ok B G0 G env σ H u r e _ fun G' H' v x hv => k G' σ H' x.gg (r.ext x)
  · rename_i y e
    exact hf.ex B G0 G env σ H y r e (k.xok r) _
  · exact k.elim
end
section
variable {X : Cx} {W : Wi} {pos : Pos} {e : Expr} {te : TE} {tt : TT} {ts tu : TS} {f : En → Res Vl} {p : En → Res Bool} {g h : En → Out} {a b : List Stmt}
theorem ds_set (i : Nat) {x : Str} {pos' : Pos} (hN : X.N.Nodup) (he : DE X W e te f) (hi : X.N[i]? = some x := by rfl) (hx : Loc X.env.scope x := by first | exact Or.inl rfl | exact Or.inr rfl) (hs : swapsWith e (some (.Name x pos')) pos.line X.env = pure false := by rfl)
    (hf : X.fn x = true ∨ X.env.scope.names.lookup x = some .local := by first | exact .inl rfl | exact .inr rfl | assumption) : DS X W (.Assign [.Name x pos'] e pos) (tAsg te (gName i)) (setO i f) := ⟨ps_set hN hi hx he.pe hs hf, sv_set i he.ev⟩
theorem ds_ret (he : DE X W e te f) : DS X W (.Return (some e) pos) (tRet te) (retO f) := ⟨ps_ret he.pe, sv_ret he.ev⟩
theorem ds_retN : DS X W (.Return none pos) tRetN (fun _ => .rt ⟨.g, .non⟩) := ⟨ps_retN, fun B G0 G env σ H D r k => k G H .non (Same.refl G) r.fin .non⟩
theorem ds_if {c : Expr} (hc : DT X W c tt p) (ha : DSs X W a ts g) (hb : DSs X W b tu h) : DS X W (.If c a b pos) (tIfS tt ts tu) (ifO p g h) := ⟨ps_if hc.pt ha.ps hb.ps, sv_if hc.ev ha.sv hb.sv⟩
theorem ds_frz {st : Stmt} (is : List Nat) (h1 : DS X W st ts g) : DS X W st ts (frzO is g) := ⟨h1.ps, sv_frz is h1.sv⟩
theorem ds_expr (he : DE X W e te f) (hs : swapsWith e none pos.line X.env = pure false := by rfl) : DS X W (.Expr e pos) (tDrop te) (dropO f) := ⟨ps_expr he.pe hs, sv_drop he.ev⟩
end
end DL

namespace DL
open PySem L2
/-! ### lists that stand in slots, changed -/
section
variable {K : PySem.W.Frag} {W : Wi} {B G0 G G' H H' : Hp} {env : En} {σ : L2.St}
theorem Rel.slot (r : Rel K W B G0 G env σ H) {i : Nat} {s : Sl} (e : env[i]? = some s) : ∃ o, σ[i]? = some o ∧ SlOk K W B G H s o := by
  have hi : i < σ.length := by
    have h1 := (List.getElem?_eq_some_iff.mp e).1
    have h2 := r.len
    omega
  exact ⟨σ[i], List.getElem?_eq_getElem hi, r.sl i s _ e (List.getElem?_eq_getElem hi)⟩
/-- an object that no slot knows changes -/
theorem Rel.beside (r : Rel K W B G0 G env σ H) {L : Addr} {o : HO} (b : B L = none) (g : G L = none) (n : ∀ (i : Nat) xs, env[i]? = some (.ow xs) → σ[i]? ≠ some (some (.ref L))) : Rel K W B G0 G env σ (upd H L o) := by
  refine ⟨r.g0, fun x u q => ?_, fun x u q => ?_, r.fr, r.len, fun i s o' q1 q2 => ?_, r.ds⟩
  · rw [upd_ne (ne_of_none q g)]; exact r.gh x u q
  · rw [upd_ne (ne_of_none q b)]; exact r.bh x u q
  · have x := r.sl i s o' q1 q2
    match s, x, q1 with
    | .no, _, _ => trivial
    | .vl true d, x, _ => exact x
    | .vl false d, x, _ => exact x
    | .xc y, x, _ => exact x
    | .ow ys, ⟨L2, ws, y1, y2, y3, y4, y5⟩, q1 =>
      have : L2 ≠ L := fun z => n i ys q1 (by rw [q2, y1, z])
      exact ⟨L2, ws, y1, y2, y3, by rw [upd_ne this]; exact y4, y5⟩
theorem Rel.mut {i : Nat} {xs xs' : List D} {L : Addr} {vs' : List V} (r : Rel K W B G0 G env σ H) (e : env[i]? = some (.ow xs)) (eL : σ[i]? = some (some (.ref L))) (h : RepL K G vs' xs') : Rel K W B G0 G (env.set i (.ow xs')) σ (upd H L (.lst vs')) := by
  obtain ⟨L', vs, y1, y2, y3, y4, y5⟩ := r.sl i _ _ e eL
  cases y1
  have hi : i < env.length := (List.getElem?_eq_some_iff.mp e).1
  refine ⟨r.g0, fun x u q => ?_, fun x u q => ?_, r.fr, by rw [List.length_set]; exact r.len, fun j s o' q1 q2 => ?_, fun j k xs1 ys1 L1 hjk q1 q2 q3 q4 => ?_⟩
  · rw [upd_ne (ne_of_none q y3)]; exact r.gh x u q
  · rw [upd_ne (ne_of_none q y2)]; exact r.bh x u q
  · rcases set_get q1 with ⟨rfl, rfl⟩ | ⟨ne, q1⟩
    · rw [eL] at q2
      cases q2
      exact ⟨L, vs', rfl, y2, y3, upd_same, h⟩
    · have x := r.sl j s o' q1 q2
      match s, x, q1 with
      | .no, _, _ => trivial
      | .vl true d, x, _ => exact x
      | .vl false d, x, _ => exact x
      | .xc y, x, _ => exact x
      | .ow ys, ⟨L2, ws, z1, z2, z3, z4, z5⟩, q1 =>
        have : L2 ≠ L := fun z => r.ds i j xs ys L ne e q1 eL (by rw [q2, z1, z])
        exact ⟨L2, ws, z1, z2, z3, by rw [upd_ne this]; exact z4, z5⟩
  · rcases set_get q1 with ⟨e1, z⟩ | ⟨n1, q1⟩
    · rcases set_get q2 with ⟨e2, _⟩ | ⟨n2, q2⟩
      · exact hjk (e1.symm.trans e2)
      · exact r.ds i k xs ys1 L1 n2 e q2 (by rw [e1]; exact q3) q4
    · rcases set_get q2 with ⟨e2, _⟩ | ⟨n2, q2⟩
      · exact r.ds j i xs1 xs L1 (Ne.symm n1) q1 e q3 (by rw [e2]; exact q4)
      · exact r.ds j k xs1 ys1 L1 hjk q1 q2 q3 q4
end
theorem if_kx {α : Type} {c : Prop} [Decidable c] {a : α} {x : Exn} : (if c then Res.ok a else Res.no) ≠ Res.ex x := if_nx
def keepD (u : Vl) : Res D := if u.keep = true then .ok u.d else .no
def owAt (env : En) (i : Nat) : Res (List D) := match env[i]? with
  | some (.ow xs) => .ok xs
  | _ => .no
theorem owAt_inv {env : En} {i : Nat} {xs : List D} (h : owAt env i = .ok xs) : env[i]? = some (.ow xs) := by
  unfold owAt at h
  split at h
  · cases h; assumption
  · cases h
/-- x.append(e) -/
def appO (i : Nat) (f : En → Res Vl) : En → Out := fun env => match (f env).bind keepD with
  | .ok d => match owAt env i with
    | .ok xs => if xs.length < sizeLine then .nx (env.set i (.ow (xs ++ [d]))) else .no
    | _ => .no
  | .ex x => match owAt env i with
    | .ok _ => .ex env x
    | _ => .no
  | .no => .no
/-- x[j] = e -/
def putO (i : Nat) (f g : En → Res Vl) : En → Out := fun env => match (f env).bind keepD with
  | .ok d => match g env with
    | .ok ⟨_, .int j⟩ => match owAt env i with
      | .ok xs => match ixN xs.length j with
        | some m => .nx (env.set i (.ow (xs.set m d)))
        | none => .no
      | _ => .no
    | _ => .no
  | .ex x => .ex env x
  | .no => .no
/-- x.clear() -/
def clearO (i : Nat) : En → Out := fun env => match owAt env i with
  | .ok _ => .nx (env.set i (.ow []))
  | _ => .no
/-- i += e of ints -/
def augO (i : Nat) (p : Int → Int → Int) (f : En → Res Vl) : En → Out := fun env => match env[i]? with
  | some (.vl _ (.int a)) => match f env with
    | .ok ⟨_, .int b⟩ => .nx (env.set i (.vl true (.int (p a b))))
    | _ => .no
  | _ => .no
section
variable {K : PySem.W.Frag} {W : Wi} {te tj : TE} {f g : En → Res Vl}
theorem keepD_inv {u : Vl} {d : D} (h : keepD u = .ok d) : u.keep = true ∧ u.d = d := if_ok h
theorem tyV_lst {K : PySem.W.Frag} {p : Addr} {xs : List V} {H : Hp} (h : H p = some (.lst xs)) : tyV K "list" (.ref p) H := Or.inl ⟨rfl, _, Or.inl (Or.inl h)⟩
theorem sv_app (i : Nat) (hf : EvD K W te f) : SvD K W (tDrop (tBM K "list" rAppend (tVar i) (tCons te tNil))) (appO i f) := fun B G0 G env σ H D r k => by
  unfold appO at k
  split at k
  · rename_i d e
    obtain ⟨u, e1, e2⟩ := Res.bind_eq e
    obtain ⟨kp, rfl⟩ := keepD_inv e2
    split at k
    · rename_i xs ex
      have ex := owAt_inv ex
      split at k
      · rename_i hz
        obtain ⟨o, eo, L, vs, y1, y2, y3, y4, y5⟩ := r.slot ex
        subst y1
        refine ⟨.ref L, eo, tyV_lst y4, hf.ok B G0 G env σ H u r e1 _ fun G1 H1 v x hv => ?_⟩
        obtain ⟨G2, x2, s2, hd⟩ := hv.freeze x kp
        have r2 := r.ext x2
        refine ⟨L, vs, v, rfl, rfl, x2.hh _ _ y4, by rw [y5.len]; exact hz, ?_⟩
        exact k G2 σ _ x2.gg (r2.mut ex eo ((y5.mono x2.gg).app (.cons hd .nil)))
      · exact k.elim
    · exact k.elim
  · rename_i y e
    split at k
    · rename_i xs ex
      have ex := owAt_inv ex
      obtain ⟨o, eo, L, vs, y1, y2, y3, y4, y5⟩ := r.slot ex
      subst y1
      rcases Res.bind_ex e with e1 | ⟨u, _, e2⟩
      · exact ⟨.ref L, eo, tyV_lst y4, hf.ex B G0 G env σ H y r e1 (k.xok r) _⟩
      · exact absurd e2 if_nx
    · exact k.elim
  · exact k.elim
theorem ixN_rep {n : Nat} {i : Int} {m : Nat} (h : ixN n i = some m) : m < n := (ixN_seq h).2.1
theorem sv_put (i : Nat) (hf : EvD K W te f) (hg : EvD K W tj g) : SvD K W (tAsg te (gSub (tVar i) tj rSetL)) (putO i f g) := fun B G0 G env σ H D r k => by
  unfold putO at k
  split at k
  · rename_i d e
    obtain ⟨u, e1, e2⟩ := Res.bind_eq e
    obtain ⟨kp, rfl⟩ := keepD_inv e2
    split at k
    · rename_i kd j ej
      split at k
      · rename_i xs ex
        have ex := owAt_inv ex
        split at k
        · rename_i m em
          obtain ⟨o, eo, L, vs, y1, y2, y3, y4, y5⟩ := r.slot ex
          subst y1
          refine hf.ok B G0 G env σ H u r e1 _ fun G1 H1 v x hv => ?_
          obtain ⟨G2, x2, s2, hd⟩ := hv.freeze x kp
          have r2 := r.ext x2
          refine ⟨.ref L, eo, hg.ok B G0 G2 env σ H1 _ r2 ej _ fun G3 H3 w x3 hw => ?_⟩
          have r3 := r2.ext x3
          have hw' := hw.look r3
          refine ⟨L, vs, j, m, rfl, hw'.int_inv, x3.hh _ _ (x2.hh _ _ y4), by rw [y5.len]; exact em, ?_⟩
          exact k G3 σ _ (x2.gg.trans x3.gg) (r3.mut ex eo ((y5.mono (x2.gg.trans x3.gg)).set (hd.mono x3.gg) m))
        · exact k.elim
      · exact k.elim
    · exact k.elim
  · rename_i y e
    rcases Res.bind_ex e with e1 | ⟨u, _, e2⟩
    · exact hf.ex B G0 G env σ H y r e1 (k.xok r) _
    · exact absurd e2 if_nx
  · exact k.elim
theorem sv_clear (i : Nat) : SvD K W (tDrop (tBM0 K "list" rClear (tVar i))) (clearO i) := fun B G0 G env σ H D r k => by
  unfold clearO at k
  split at k
  · rename_i xs ex
    have ex := owAt_inv ex
    obtain ⟨o, eo, L, vs, y1, y2, y3, y4, y5⟩ := r.slot ex
    subst y1
    exact ⟨.ref L, eo, tyV_lst y4, L, vs, rfl, rfl, y4, k G σ _ (Same.refl G) (r.mut ex eo .nil)⟩
  · exact k.elim
theorem sv_aug (i : Nat) {p : Int → Int → Int} (hf : EvD K W te f) : SvD K W (tAug i te (ipI p)) (augO i p f) := fun B G0 G env σ H D r k => by
  unfold augO at k
  split at k
  · rename_i b a ea
    split at k
    · rename_i kd c ec
      obtain ⟨o, eo, so⟩ := r.slot ea
      have : ∃ v, o = some v ∧ v = V.int a := by
        cases b with
        | true => obtain ⟨v, e, h⟩ := so; exact ⟨v, e, h.int_inv⟩
        | false => obtain ⟨v, e, h⟩ := so; exact ⟨v, e, h.int_inv⟩
      obtain ⟨_, rfl, rfl⟩ := this
      refine ⟨.int a, eo, hf.ok B G0 G env σ H _ r ec _ fun G' H' v x hv => ?_⟩
      have hv' := hv.look (r.ext x)
      exact ⟨a, c, rfl, hv'.int_inv, k G' _ H' x.gg (Rel.put (u := ⟨.g, .int (p a c)⟩) r x (.int _) rfl i)⟩
    · exact k.elim
  · exact k.elim
end
section
variable {X : Cx} {W : Wi} {pos apos cpos p1 p2 p3 : Pos} {e j : Expr} {te tj : TE} {f g : En → Res Vl} {x : Str}
theorem ds_app (i : Nat) (he : DE X W e te f) (hN : X.N[i]? = some x := by rfl) (hv : Vis X.env.scope x := by first | exact Or.inl rfl | exact Or.inr (Or.inl rfl) | exact Or.inr (Or.inr rfl)) (hd : (x == ("__debug__" : Str)) = false := by decide)
    (hcd : (x == ("__classdict__" : Str)) = false := by decide) (hbase : attributeBase (.Name x p1) "append" X.env (eval (.Name x p1) X.env) = eval (.Name x p1) X.env := by rfl)
    (hfew : ((backTo cpos (starEach (e :: []) X.env)).all (fun x => !x.1) && (backToKw cpos (keywordEach [] X.env)).all (fun x => x.1.isSome)
      && decide ((e :: []).length + ([] : List Keyword).length + (if ([] : List Keyword).isEmpty then 0 else 1) < 30)) = true := by rfl)
    (hline : (apos.endLine == cpos.line) = true := by rfl) (hs : starEach (e :: []) X.env = (false, eval e X.env) :: starEach [] X.env := by rfl) (hplain : (backTo cpos (starEach [] X.env)).any (·.1) = false := by rfl)
    (hw : swapsWith (.Call (.Attribute (.Name x p1) "append" apos) [e] [] cpos) none pos.line X.env = pure false := by rfl) :
    DS X W (.Expr (.Call (.Attribute (.Name x p1) "append" apos) [e] [] cpos) pos) (tDrop (tBM X.K "list" rAppend (tVar i) (tCons te tNil))) (appO i f) :=
  ⟨ps_expr (pe_bm PySem.F.plainAttrs_list PySem.F.slot_list_append PySem.F.type_list_append mt_append (pe_var hN hv hd hcd) (pa_cons he.pe pa_nil hs) hbase hfew hline hs hplain) hw, sv_app i he.ev⟩
theorem ds_clear (i : Nat) (hN : X.N[i]? = some x := by rfl) (hv : Vis X.env.scope x := by first | exact Or.inl rfl | exact Or.inr (Or.inl rfl) | exact Or.inr (Or.inr rfl)) (hd : (x == ("__debug__" : Str)) = false := by decide)
    (hcd : (x == ("__classdict__" : Str)) = false := by decide) (hbase : attributeBase (.Name x p1) "clear" X.env (eval (.Name x p1) X.env) = eval (.Name x p1) X.env := by rfl) (hline : (apos.endLine == cpos.line) = true := by rfl)
    (hw : swapsWith (.Call (.Attribute (.Name x p1) "clear" apos) [] [] cpos) none pos.line X.env = pure false := by rfl) :
    DS X W (.Expr (.Call (.Attribute (.Name x p1) "clear" apos) [] [] cpos) pos) (tDrop (tBM0 X.K "list" rClear (tVar i))) (clearO i) :=
  ⟨ps_expr (pe_bm0 PySem.F.plainAttrs_list PySem.F.slot_list_clear PySem.F.type_list_clear mt_clear (pe_var hN hv hd hcd) hbase hline) hw, sv_clear i⟩
theorem ds_put (i : Nat) (he : DE X W e te f) (hj : DE X W j tj g) (hN : X.N[i]? = some x := by rfl) (hv : Vis X.env.scope x := by first | exact Or.inl rfl | exact Or.inr (Or.inl rfl) | exact Or.inr (Or.inr rfl)) (hd : (x == ("__debug__" : Str)) = false := by decide)
    (hcd : (x == ("__classdict__" : Str)) = false := by decide) (hs : swapsWithSole [.Subscript (.Name x p1) j p2] e pos.line X.env = pure false := by rfl) (hw : swappedStores [.Subscript (.Name x p1) j p2] e X.env = pure none := by rfl)
    (ha : ∀ v, assign (.Subscript (.Name x p1) j p2) X.env v = (do
      let ov ← holding [v] (eval (.Name x p1) X.env)
      let iv ← holding [v, ov] (eval j X.env)
      standAt p2
      holding [v, ov, iv] (setItem ov iv v)
      release [v, ov, iv] []) := by intro _; rfl) :
    DS X W (.Assign [.Subscript (.Name x p1) j p2] e pos) (tAsg te (gSub (tVar i) tj rSetL)) (putO i f g) := ⟨ps_asg he.pe (pg_sub (pe_var hN hv hd hcd) hj.pe set_list ha) hs hw, sv_put i he.ev hj.ev⟩
theorem ds_augAdd (i : Nat) {pos' : Pos} (hN : X.N.Nodup) (he : DE X W e te f) (hi : X.N[i]? = some x := by rfl) (hx : Loc X.env.scope x := by first | exact Or.inl rfl | exact Or.inr rfl)
    (hf : X.fn x = true ∨ X.env.scope.names.lookup x = some .local := by first | exact .inl rfl | exact .inr rfl | assumption) : DS X W (.AugAssign (.Name x pos') .Add e pos) (tAug i te (ipI fun i j => i + j)) (augO i (fun i j => i + j) f) := ⟨ps_aug hN hi hx he.pe ip_add hf, sv_aug i he.ev⟩
theorem ds_augSub (i : Nat) {pos' : Pos} (hN : X.N.Nodup) (he : DE X W e te f) (hi : X.N[i]? = some x := by rfl) (hx : Loc X.env.scope x := by first | exact Or.inl rfl | exact Or.inr rfl)
    (hf : X.fn x = true ∨ X.env.scope.names.lookup x = some .local := by first | exact .inl rfl | exact .inr rfl | assumption) : DS X W (.AugAssign (.Name x pos') .Sub e pos) (tAug i te (ipI fun i j => i - j)) (augO i (fun i j => i - j) f) := ⟨ps_aug hN hi hx he.pe ip_sub hf, sv_aug i he.ev⟩
end
/-! ### targets -/
abbrev Tg := Vl → En → Res En
/-- the target's reading does what t says; ws: the slots it writes -/
def TgD (K : PySem.W.Frag) (W : Wi) (g : TG) (t : Tg) (ws : List Nat) : Prop := ∀ (B G0 G G' : Hp) (env env' : En) (σ : L2.St) (H H' : Hp) (u : Vl) (v : V), Rel K W B G0 G env σ H → Ext G H G' H' → Rp K B G' H H' u v → t u env = .ok env' → ∀ Q : L2.St → Hp → Prop,
  (∀ σ', Rel K W B G0 G' env' σ' H' → (∀ vs : List Nat, (∀ i ∈ ws, i ∈ vs) → wipe σ' vs = wipe σ vs) → Q σ' H') → g v σ H' Q
structure DG (X : Cx) (W : Wi) (e : Expr) (g : TG) (t : Tg) (ws : List Nat) : Prop where
  pg : PG X e g
  tg : TgD X.K W g t ws
def TgsD (K : PySem.W.Frag) (W : Wi) (g : TGs) (t : Kd → List D → En → Res En) (ws : List Nat) : Prop := ∀ (B G0 G : Hp) (env env' : En) (σ : L2.St) (H : Hp) (k : Kd) (ds : List D) (vs : List V), Rel K W B G0 G env σ H → k ≠ .o → vs.length = ds.length → (∀ (i : Nat) v d, vs[i]? = some v → ds[i]? = some d → Rp K B G H H ⟨k, d⟩ v) → t k ds env = .ok env' →
  ∀ Q : L2.St → Hp → Prop, (∀ σ', Rel K W B G0 G env' σ' H → (∀ ks : List Nat, (∀ i ∈ ws, i ∈ ks) → wipe σ' ks = wipe σ ks) → Q σ' H) → g vs σ H Q
structure DGs (X : Cx) (W : Wi) (es : List Expr) (g : TGs) (t : Kd → List D → En → Res En) (ws : List Nat) : Prop where
  pgs : PGs X es g
  tg : TgsD X.K W g t ws
def nmT (i : Nat) : Tg := fun u env => (slotOf u).bind fun s => .ok (env.set i s)
def nilT : Kd → List D → En → Res En := fun _ ds env => match ds with
  | [] => .ok env
  | _ => .no
def consT (t : Tg) (r : Kd → List D → En → Res En) : Kd → List D → En → Res En := fun k ds env => match ds with
  | d :: ds => (t ⟨k, d⟩ env).bind fun env' => r k ds env'
  | [] => .no
def tupT (n : Nat) (r : Kd → List D → En → Res En) : Tg := fun u env => match u.d with
  | .tup ds => if ds.length = n then r u.k.sub ds env else .no
  | _ => .no
theorem wipe_set {i : Nat} {x : Option V} : ∀ {vs : List Nat} {σ : L2.St}, i ∈ vs → wipe (σ.set i x) vs = wipe σ vs
  | [], _, h => absurd h (by simp)
  | v :: vs, σ, h => by
    unfold wipe
    by_cases hm : i ∈ vs
    · rw [wipe_set hm]
    · have hv : i = v := by
        rcases List.mem_cons.mp h with h | h
        · exact h
        · exact absurd h hm
      subst hv
      rw [wipe_comm hm, List.set_set]
where
  wipe_comm {i : Nat} {x : Option V} : ∀ {vs : List Nat} {σ : L2.St}, i ∉ vs → wipe (σ.set i x) vs = (wipe σ vs).set i x
    | [], _, _ => rfl
    | v :: vs, σ, h => by
      unfold wipe
      rw [wipe_comm (fun z => h (List.mem_cons_of_mem _ z)), List.set_comm]
      exact fun z => h (by rw [z]; exact List.mem_cons_self)
section
variable {X : Cx} {W : Wi} {pos : Pos} {e : Expr} {es : List Expr} {g : TG} {gs : TGs} {t : Tg} {r : Kd → List D → En → Res En} {ws ws' : List Nat}
theorem tg_nm {K : PySem.W.Frag} {W : Wi} (i : Nat) : TgD K W (gName i) (nmT i) [i] := fun B G0 G G' env env' σ H H' u v rl x h e Q k => by
  obtain ⟨s, e1, e2⟩ := Res.bind_eq e
  cases e2
  exact k _ (rl.put x h e1 i) fun vs hv => wipe_set (hv i List.mem_cons_self)
theorem dg_nm (i : Nat) {x : Str} (hN : X.N.Nodup) (hi : X.N[i]? = some x := by rfl) (hx : Loc X.env.scope x := by first | exact Or.inl rfl | exact Or.inr rfl) (hf : X.fn x = true ∨ X.env.scope.names.lookup x = some .local := by first | exact .inl rfl | exact .inr rfl | assumption) :
    DG X W (.Name x pos) (gName i) (nmT i) [i] := ⟨pg_name hN hi hx hf, tg_nm i⟩
theorem dgs_nil : DGs X W [] gNil nilT [] := ⟨pgs_nil, fun B G0 G env env' σ H k ds vs rl ko hl hi e Q q => by
  unfold nilT at e
  split at e
  · cases e
    exact ⟨List.length_eq_zero_iff.mp hl, q σ rl fun _ _ => rfl⟩
  · cases e⟩
theorem tgs_cons {K : PySem.W.Frag} {W : Wi} (h1 : TgD K W g t ws) (h2 : TgsD K W gs r ws') : TgsD K W (gCons g gs) (consT t r) (ws ++ ws') := fun B G0 G env env' σ H k ds vs rl ko hl hi e Q q => by
  unfold consT at e
  split at e
  · rename_i d ds'
    obtain ⟨env1, e1, e2⟩ := Res.bind_eq e
    cases vs with
    | nil => cases hl
    | cons v vs' =>
      refine ⟨v, vs', rfl, h1 B G0 G G env env1 σ H H ⟨k, d⟩ v rl (Ext.refl rl.gh) (hi 0 v d rfl rfl) e1 _ fun σ1 r1 w1 => ?_⟩
      exact h2 B G0 G env1 env' σ1 H k ds' vs' r1 ko (by simpa using hl) (fun i v' d' a b => hi (i + 1) v' d' (by simpa using a) (by simpa using b)) e2 Q fun σ2 r2 w2 => q σ2 r2 fun ks hk => (w2 ks fun i hi => hk i (List.mem_append_right _ hi)).trans (w1 ks fun i hi => hk i (List.mem_append_left _ hi))
  · cases e
theorem dgs_cons (h1 : DG X W e g t ws) (h2 : DGs X W es gs r ws') (hs : (assignEach (e :: es) X.env).map (·.2) = assign e X.env :: (assignEach es X.env).map (·.2) := by rfl) : DGs X W (e :: es) (gCons g gs) (consT t r) (ws ++ ws') := ⟨pgs_cons h1.pg h2.pgs hs, tgs_cons h1.tg h2.tg⟩
theorem tg_tup {K : PySem.W.Frag} {W : Wi} {n : Nat} (h : TgsD K W gs r ws) : TgD K W (gTup K n gs) (tupT n r) ws := fun B G0 G G' env env' σ H H' u v rl x hv e Q k => by
  unfold tupT at e
  split at e
  · rename_i ds ed
    by_cases hn : ds.length = n
    · rw [if_pos hn] at e
      have rl' := rl.ext x
      obtain ⟨kk, d⟩ := u
      dsimp only at ed e
      subst ed
      cases kk with
      | g =>
        obtain ⟨a, vs, rfl, h1, h2⟩ := Rep.tup_inv hv
        refine ⟨a, vs, rfl, Same.sqt rl'.gh h1, by rw [h2.len]; exact hn, h B G0 G' env env' σ H' .g ds vs rl' (fun z => nomatch z) h2.len (fun i y d a b => ?_) e Q k⟩
        obtain ⟨d', q1, q2⟩ := h2.get a
        rw [b] at q1
        cases q1
        exact q2
      | b =>
        obtain ⟨a, vs, rfl, h1, h2⟩ := Rep.tup_inv hv
        refine ⟨a, vs, rfl, Same.sqt rl'.bh h1, by rw [h2.len]; exact hn, h B G0 G' env env' σ H' .b ds vs rl' (fun z => nomatch z) h2.len (fun i y d a b => ?_) e Q k⟩
        obtain ⟨d', q1, q2⟩ := h2.get a
        rw [b] at q1
        cases q1
        exact q2
      | h => obtain ⟨L, vs, ds, e1, e2, _⟩ := hv; cases e2
      | o => obtain ⟨L, vs, ds, e1, e2, _⟩ := hv; cases e2
    · rw [if_neg hn] at e
      cases e
  · cases e
theorem dg_tup {K : PySem.W.Frag} {k n : Nat} (hc : X.calm = true) (h : DGs X W es gs r ws) (hn : (assignEach es X.env).length = n := by rfl) (hst : (assignEach es X.env).findIdx? (·.1) = none := by rfl) (hK : X.K = K := by rfl) : DG X W (.Tuple es k pos) (gTup K n gs) (tupT n r) ws := by
  subst hK
  exact ⟨pg_tup hc h.pgs hn hst, tg_tup h.tg⟩
def asgO (t : Tg) (f : En → Res Vl) : En → Out := fun env => match f env with
  | .ok u => match t u env with
    | .ok e => .nx e
    | _ => .no
  | .ex x => .ex env x
  | .no => .no
theorem sv_asg {K : PySem.W.Frag} {W : Wi} {te : TE} {f : En → Res Vl} (hf : EvD K W te f) (ht : TgD K W g t ws) : SvD K W (tAsg te g) (asgO t f) := fun B G0 G env σ H D rl k => by
  unfold asgO at k
  split at k
  · rename_i u e1
    split at k
    · rename_i env' e2
      exact hf.ok B G0 G env σ H u rl e1 _ fun G' H' v x hv => ht B G0 G G' env env' σ H H' u v rl x hv e2 _ fun σ' r' _ => k G' σ' H' x.gg r'
    · exact k.elim
  · rename_i y e
    exact hf.ex B G0 G env σ H y rl e (k.xok rl) _
  · exact k.elim
theorem ds_asg {te : TE} {f : En → Res Vl} {tg e : Expr} (he : DE X W e te f) (ht : DG X W tg g t ws) (hs : swapsWithSole [tg] e pos.line X.env = pure false := by rfl) (hw : swappedStores [tg] e X.env = pure none := by rfl) (h1 : (assignEach [tg] X.env).map (·.2) = [assign tg X.env] := by rfl) : DS X W (.Assign [tg] e pos) (tAsg te g) (asgO t f) := ⟨ps_asg he.pe ht.pg hs hw h1, sv_asg he.ev ht.tg⟩
end
end DL

namespace DL
open PySem L2
/-! ### loops -/
/-- the iterator J goes over xs, of kind k, as long as the kept and the lent part stand -/
def Walks0 (K : PySem.W.Frag) (B G' : Hp) (J : It) (k : Kd) (xs : List D) : Prop := (k = .g ∨ k = .b) ∧ ∃ vs : List V, vs.length = xs.length ∧ (∀ (i : Nat) v d, vs[i]? = some v → xs[i]? = some d → ∀ G2 H, Same G' G2 → Rp K B G2 H H ⟨k, d⟩ v) ∧
  (∀ (i : Nat) H, Same G' H → Same B H → i < xs.length → J.go i H) ∧ (∀ (i : Nat) H x H', Same G' H → Same B H → J.yld i H x H' → H' = H ∧ (i < xs.length → vs[i]? = some x)) ∧ (∀ H, Same G' H → Same B H → J.stop xs.length H)
/-- the iterator J goes over xs; a turn may make new objects -/
def Walks (K : PySem.W.Frag) (B G' : Hp) (J : It) (k : Kd) (xs : List D) : Prop := (k = .g ∨ k = .b) ∧ (∀ (i : Nat) H, Same G' H → Same B H → i < xs.length → J.go i H) ∧
  (∀ (i : Nat) d G2 H x H', Same G' G2 → Same G2 H → Same B H → J.yld i H x H' → xs[i]? = some d → ∃ G3, Ext G2 H G3 H' ∧ Rp K B G3 H' H' ⟨k, d⟩ x) ∧ (∀ H, Same G' H → Same B H → J.stop xs.length H)
theorem Walks0.up {K : PySem.W.Frag} {B G' : Hp} {J : It} {k : Kd} {xs : List D} (h : Walks0 K B G' J k xs) : Walks K B G' J k xs := by
  obtain ⟨hk, vs, hl, hv, hgo, hy, hst⟩ := h
  refine ⟨hk, hgo, fun i d G2 H x H' s1 s2 s3 y e => ?_, hst⟩
  obtain ⟨rfl, hx⟩ := hy i H x H' (s1.trans s2) s3 y
  exact ⟨G2, Ext.refl s2, hv i x d (hx (List.getElem?_eq_some_iff.mp e).1) e G2 H' s1⟩
structure ItD (K : PySem.W.Frag) (W : Wi) (wi : TI) (f : En → Res (Kd × List D)) : Prop where
  ok : ∀ (B G0 G : Hp) (env : En) (σ : L2.St) (H : Hp) (k : Kd) (xs : List D), Rel K W B G0 G env σ H → f env = .ok (k, xs) → ∀ R : It → Hp → Prop, (∀ G' H' J, Ext G H G' H' → Walks K B G' J k xs → R J H') → wi σ H R
  ex : ∀ (B G0 G : Hp) (env : En) (σ : L2.St) (H : Hp) (x : Exn), Rel K W B G0 G env σ H → f env = .ex x → XOk K G σ H W x → ∀ R : It → Hp → Prop, wi σ H R
structure DI (X : Cx) (W : Wi) (tg iter : Expr) (wi : TI) (f : En → Res (Kd × List D)) : Prop where
  pi : PI X tg iter wi
  it : ItD X.K W wi f
def seqI (f : En → Res Vl) : En → Res (Kd × List D) := fun env => (f env).bind fun u => match u with
  | ⟨.g, .lst xs⟩ => .ok (.g, xs)
  | ⟨.o, .lst xs⟩ => .ok (.g, xs)
  | ⟨.b, .lst xs⟩ => .ok (.b, xs)
  | ⟨.g, .tup xs⟩ => .ok (.g, xs)
  | ⟨.b, .tup xs⟩ => .ok (.b, xs)
  | ⟨.g, .fz xs⟩ => .ok (.g, xs)
  | ⟨.b, .fz xs⟩ => .ok (.b, xs)
  | _ => .no
def rngD (lo : Int) (n : Nat) : List D := (List.range n).map fun (i : Nat) => .int (lo + i)
def rng1 (f : En → Res Vl) : En → Res (Kd × List D) := fun env => (f env).bind fun u => match u.d with
  | .int j => if -(2 ^ 62) ≤ j ∧ j < 2 ^ 62 then .ok (.g, rngD 0 j.toNat) else .no
  | _ => .no
def rng2 (f g : En → Res Vl) : En → Res (Kd × List D) := fun env => (f env).bind fun u => (g env).bind fun w => match u.d, w.d with
  | .int i, .int j => if -(2 ^ 62) ≤ i ∧ i < 2 ^ 62 ∧ -(2 ^ 62) ≤ j ∧ j < 2 ^ 62 then .ok (.g, rngD i (j - i).toNat) else .no
  | _, _ => .no
section
variable {K : PySem.W.Frag} {W : Wi} {B G0 G G' H H' : Hp} {env : En} {σ : L2.St}
theorem walks_list {a : Addr} {vs : List V} {ds : List D} (hs : ∀ H, Same G' H → Same B H → SqL K H a vs) (h : RepL K G' vs ds) : Walks0 K B G' (Itl K a) .g ds :=
  ⟨.inl rfl, vs, h.len, fun i v d e1 e2 G2 H s => by
    obtain ⟨d', q1, q2⟩ := h.get e1
    rw [e2] at q1
    cases q1
    exact q2.mono s, fun i H s1 s2 hi => ⟨vs, vs[i]'(by rw [h.len]; exact hi), hs H s1 s2, List.getElem?_eq_getElem _⟩, fun i H x H' s1 s2 ⟨e, y⟩ => ⟨e, fun _ => y vs (hs H s1 s2)⟩, fun H s1 s2 => ⟨vs, hs H s1 s2, by rw [h.len]; exact Nat.le_refl _⟩⟩
theorem walks_listB {a : Addr} {vs : List V} {ds : List D} (hs : ∀ H, Same G' H → Same B H → SqL K H a vs) (h : RepL K B vs ds) : Walks0 K B G' (Itl K a) .b ds :=
  ⟨.inr rfl, vs, h.len, fun i v d e1 e2 G2 H s => by
    obtain ⟨d', q1, q2⟩ := h.get e1
    rw [e2] at q1
    cases q1
    exact q2, fun i H s1 s2 hi => ⟨vs, vs[i]'(by rw [h.len]; exact hi), hs H s1 s2, List.getElem?_eq_getElem _⟩, fun i H x H' s1 s2 ⟨e, y⟩ => ⟨e, fun _ => y vs (hs H s1 s2)⟩, fun H s1 s2 => ⟨vs, hs H s1 s2, by rw [h.len]; exact Nat.le_refl _⟩⟩
theorem walks_tup {a : Addr} {vs : List V} {ds : List D} (hs : ∀ H, Same G' H → Same B H → SqT K H a vs) (h : RepL K G' vs ds) : Walks0 K B G' (Itt K a) .g ds :=
  ⟨.inl rfl, vs, h.len, fun i v d e1 e2 G2 H s => by
    obtain ⟨d', q1, q2⟩ := h.get e1
    rw [e2] at q1
    cases q1
    exact q2.mono s, fun i H s1 s2 hi => ⟨vs, vs[i]'(by rw [h.len]; exact hi), hs H s1 s2, List.getElem?_eq_getElem _⟩, fun i H x H' s1 s2 ⟨e, y⟩ => ⟨e, fun _ => y vs (hs H s1 s2)⟩, fun H s1 s2 => ⟨vs, hs H s1 s2, by rw [h.len]; exact Nat.le_refl _⟩⟩
theorem walks_tupB {a : Addr} {vs : List V} {ds : List D} (hs : ∀ H, Same G' H → Same B H → SqT K H a vs) (h : RepL K B vs ds) : Walks0 K B G' (Itt K a) .b ds :=
  ⟨.inr rfl, vs, h.len, fun i v d e1 e2 G2 H s => by
    obtain ⟨d', q1, q2⟩ := h.get e1
    rw [e2] at q1
    cases q1
    exact q2, fun i H s1 s2 hi => ⟨vs, vs[i]'(by rw [h.len]; exact hi), hs H s1 s2, List.getElem?_eq_getElem _⟩, fun i H x H' s1 s2 ⟨e, y⟩ => ⟨e, fun _ => y vs (hs H s1 s2)⟩, fun H s1 s2 => ⟨vs, hs H s1 s2, by rw [h.len]; exact Nat.le_refl _⟩⟩
theorem walks_rng {lo : Int} {n : Nat} : Walks0 K B G' (Itr lo n) .g (rngD lo n) := by
  refine ⟨.inl rfl, (List.range n).map fun (i : Nat) => V.int (lo + i), by simp [rngD], fun i v d e1 e2 G2 H s => ?_, fun i H s1 s2 hi => (show i < n by simpa [rngD] using hi), fun i H x H' s1 s2 ⟨e, y⟩ => ⟨e, fun hi => ?_⟩, fun H s1 s2 => by simp [rngD, Itr]⟩
  · rw [rngD, List.getElem?_map] at e2
    rw [List.getElem?_map] at e1
    cases q : (List.range n)[i]? with
    | none => rw [q] at e1; cases e1
    | some j =>
      rw [q] at e1 e2
      cases e1
      cases e2
      exact .int _
  · have hn : i < n := by simpa [rngD] using hi
    rw [List.getElem?_map, List.getElem?_range hn, y]
    rfl
/-- list or tuple -/
theorem it_seq {te : TE} {f : En → Res Vl} (h : EvD K W te f) : ItD K W (fun σ H R => iList K te σ H R ∨ iTup K te σ H R) (seqI f) := ⟨fun B G0 G env σ H k xs r e R q => (by
  obtain ⟨u, e1, e2⟩ := Res.bind_eq e
  have L : ∀ ds, u.d = .lst ds → (∀ G' H' v, Ext G H G' H' → Rp K B G' H H' u v → ∃ a, v = .ref a ∧ ∃ G2, Ext G H G2 H' ∧ (∃ zs, SqL K H' a zs) ∧ Walks K B G2 (Itl K a) k xs) → iList K te σ H R ∨ iTup K te σ H R := fun ds _ hh =>
    .inl (h.ok B G0 G env σ H u r e1 _ fun G' H' v x hv => by
      obtain ⟨a, rfl, G2, x2, hz, w⟩ := hh G' H' v x hv
      exact ⟨a, rfl, hz, q G2 H' _ x2 w⟩)
  obtain ⟨kk, d⟩ := u
  cases kk with
  | g =>
    cases d with
    | lst ds =>
      cases e2
      exact .inl (h.ok B G0 G env σ H _ r e1 _ fun G' H' v x hv => by
        obtain ⟨a, vs, rfl, h1, h2⟩ := Rep.lst_inv hv
        exact ⟨a, rfl, ⟨vs, SqL.of (x.gh _ _ h1)⟩, q G' H' _ x (walks_list (fun H s1 s2 => SqL.of (s1 _ _ h1)) h2).up⟩)
    | tup ds =>
      cases e2
      exact .inr (h.ok B G0 G env σ H _ r e1 _ fun G' H' v x hv => by
        obtain ⟨a, vs, rfl, h1, h2⟩ := Rep.tup_inv hv
        exact ⟨a, rfl, ⟨vs, Same.sqt x.gh h1⟩, q G' H' _ x (walks_tup (fun H s1 s2 => Same.sqt s1 h1) h2).up⟩)
    | fz ds =>
      cases e2
      exact .inl (h.ok B G0 G env σ H _ r e1 _ fun G' H' v x hv => by
        obtain ⟨a, vs, rfl, h1, h2⟩ := Rep.fz_inv hv
        exact ⟨a, rfl, ⟨vs, x.gh.seq h1⟩, q G' H' _ x (walks_list (fun H s1 s2 => s1.seq h1) h2).up⟩)
    | _ => cases e2
  | b =>
    cases d with
    | lst ds =>
      cases e2
      exact .inl (h.ok B G0 G env σ H _ r e1 _ fun G' H' v x hv => by
        obtain ⟨a, vs, rfl, h1, h2⟩ := Rep.lst_inv hv
        exact ⟨a, rfl, ⟨vs, SqL.of (x.hh _ _ (r.bh _ _ h1))⟩, q G' H' _ x (walks_listB (fun H s1 s2 => SqL.of (s2 _ _ h1)) h2).up⟩)
    | tup ds =>
      cases e2
      exact .inr (h.ok B G0 G env σ H _ r e1 _ fun G' H' v x hv => by
        obtain ⟨a, vs, rfl, h1, h2⟩ := Rep.tup_inv hv
        exact ⟨a, rfl, ⟨vs, Same.sqt (r.bh.trans x.hh) h1⟩, q G' H' _ x (walks_tupB (fun H s1 s2 => Same.sqt s2 h1) h2).up⟩)
    | fz ds =>
      cases e2
      exact .inl (h.ok B G0 G env σ H _ r e1 _ fun G' H' v x hv => by
        obtain ⟨a, vs, rfl, h1, h2⟩ := Rep.fz_inv hv
        exact ⟨a, rfl, ⟨vs, (r.bh.trans x.hh).seq h1⟩, q G' H' _ x (walks_listB (fun H s1 s2 => s2.seq h1) h2).up⟩)
    | _ => cases e2
  | h => cases d <;> cases e2
  | o =>
    cases d with
    | lst ds =>
      cases e2
      exact .inl (h.ok B G0 G env σ H _ r e1 _ fun G' H' v x hv => by
        obtain ⟨G2, x2, s2, hv2⟩ := hv.freeze x rfl
        obtain ⟨a, vs, rfl, h1, h2⟩ := Rep.lst_inv hv2
        exact ⟨a, rfl, ⟨vs, SqL.of (x2.gh _ _ h1)⟩, q G2 H' _ x2 (walks_list (fun H s1 s2 => SqL.of (s1 _ _ h1)) h2).up⟩)
    | _ => cases e2),
  fun B G0 G env σ H x r e w R => by
  rcases Res.bind_ex e with e1 | ⟨u, e1, e⟩
  · exact .inl (h.ex B G0 G env σ H x r e1 w _)
  · exact absurd e (by
    split <;> exact fun z => nomatch z)⟩
theorem it_rng1 {te : TE} {f : En → Res Vl} (h : EvD K W te f) : ItD K W (iRng1 (tCons te tNil)) (rng1 f) := ⟨fun B G0 G env σ H k xs r e R q => (by
  obtain ⟨u, e1, e2⟩ := Res.bind_eq e
  refine h.ok B G0 G env σ H u r e1 _ fun G' H' v x hv => ?_
  have y := hv.look (r.ext x)
  split at e2
  · rename_i j ej
    obtain ⟨⟨c1, c2⟩, e3⟩ := if_ok e2
    cases e3
    rw [ej] at y
    exact ⟨j, by rw [y.int_inv], c1, c2, q G' H' _ x walks_rng.up⟩
  · cases e2),
  fun B G0 G env σ H x r e w R => by
  rcases Res.bind_ex e with e1 | ⟨u, e1, e⟩
  · exact (h.ex B G0 G env σ H x r e1 w _)
  · exact absurd e (by
    split <;> first
      | exact if_nx
      | exact fun z => nomatch z)⟩
theorem it_rng2 {ta tb : TE} {f g : En → Res Vl} (h1 : EvD K W ta f) (h2 : EvD K W tb g) : ItD K W (iRng2 (tCons ta (tCons tb tNil))) (rng2 f g) := ⟨fun B G0 G env σ H k xs r e R q => (by
  obtain ⟨u, e1, e2⟩ := Res.bind_eq e
  obtain ⟨w, e3, e4⟩ := Res.bind_eq e2
  exact ev_two h1 h2 r e1 e3 fun G' H' x y xt r' hx hy => by
    have a := hx.look r'
    have b := hy.look r'
    split at e4
    · rename_i i j ei ej
      obtain ⟨c, e5⟩ := if_ok e4
      cases e5
      rw [ei] at a
      rw [ej] at b
      exact ⟨i, j, by rw [a.int_inv, b.int_inv], c, q G' H' _ xt walks_rng.up⟩
    · cases e4),
  fun B G0 G env σ H x r e w R => by
  rcases Res.bind_ex e with e1 | ⟨u, e1, e⟩
  · exact h1.ex B G0 G env σ H x r e1 w _
  rcases Res.bind_ex e with e2 | ⟨u2, e2, e⟩
  · exact h1.ok B G0 G env σ H u r e1 _ fun G1 H1 v x1 hv => h2.ex B G0 G1 env σ H1 x (r.ext x1) e2 (w.ext x1) _
  · exact absurd e (by
    split <;> first
      | exact if_nx
      | exact fun z => nomatch z)⟩
end
section
variable {X : Cx} {W : Wi} {tg : Expr} {p pos : Pos} {a b : Expr} {ta tb : TE} {f g : En → Res Vl}
theorem pi_or {wi wj : TI} {e : Expr} (h1 : PI X tg e wi) (h2 : PI X tg e wj) : PI X tg e (fun σ H R => wi σ H R ∨ wj σ H R) := ⟨fun pins s σ H R I h => by
  rcases h with h | h
  · exact h1.run pins s σ H R I h
  · exact h2.run pins s σ H R I h⟩
theorem di_seq (h : DE X W a ta f) : DI X W tg a (fun σ H R => iList X.K ta σ H R ∨ iTup X.K ta σ H R) (seqI f) := ⟨pi_or (pi_list h.pe) (pi_tup h.pe), it_seq h.ev⟩
theorem di_rng1 (hm : X.mg "range" = none) (h : DE X W a ta f) (hg : Gl X "range" := by rfl) (hs : starEach [a] X.env = [(false, eval a X.env)] := by rfl) (hs' : starEach (a :: []) X.env = (false, eval a X.env) :: starEach [] X.env := by rfl) : DI X W tg (.Call (.Name "range" p) [a] [] pos) (iRng1 (tCons ta tNil)) (rng1 f) := ⟨pi_range1 hg hm (pa_cons h.pe pa_nil hs') hs, it_rng1 h.ev⟩
theorem di_rng2 (hm : X.mg "range" = none) (h : DE X W a ta f) (h2 : DE X W b tb g) (hg : Gl X "range" := by rfl) (hs : starEach [a, b] X.env = [(false, eval a X.env), (false, eval b X.env)] := by rfl) (hs2 : starEach [b] X.env = [(false, eval b X.env)] := by rfl)
    (hs3 : starEach (a :: [b]) X.env = (false, eval a X.env) :: starEach [b] X.env := by rfl) (hs4 : starEach (b :: []) X.env = (false, eval b X.env) :: starEach [] X.env := by rfl) : DI X W tg (.Call (.Name "range" p) [a, b] [] pos) (iRng2 (tCons ta (tCons tb tNil))) (rng2 f g) :=
  ⟨pi_range2 hg hm (pa_cons h.pe (pa_cons h2.pe pa_nil hs4) hs3) hs hs2, it_rng2 h.ev h2.ev⟩
end
def forO (t : Tg) (b : En → Out) (k : Kd) : List D → En → Out
  | [], env => .nx env
  | x :: xs, env => match t ⟨k, x⟩ env with
    | .no => .no
    | .ex _ => .no
    | .ok e => match b e with
      | .nx e' => forO t b k xs e'
      | .ct e' => forO t b k xs e'
      | .bk e' => .nx e'
      | .rt u => .rt u
      | .ex e' x => .ex e' x
      | .no => .no
def forS (it : En → Res (Kd × List D)) (t : Tg) (b : En → Out) : En → Out := fun env => match it env with
  | .ok (k, xs) => forO t b k xs env
  | .ex x => .ex env x
  | .no => .no
theorem sv_for {K : PySem.W.Frag} {W : Wi} {wi : TI} {g : TG} {tb : TS} {it : En → Res (Kd × List D)} {t : Tg} {ws : List Nat} {b : En → Out} (hi : ItD K W wi it) (hg : TgD K W g t ws) (hb : SvD K W tb b) : SvD K W (tFor wi g tb) (forS it t b) := fun B G0 G env σ H D r q => by
  unfold forS at q
  split at q
  · rename_i k xs e
    refine hi.ok B G0 G env σ H k xs r e _ fun G1 H1 J x1 ⟨hk, hgo, hy, hst⟩ => ?_
    refine ⟨fun i m σ' H' => m = xs.length - i ∧ i ≤ xs.length ∧ ∃ G2 env', Same G1 G2 ∧ Rel K W B G0 G2 env' σ' H' ∧ OutOk K W B G0 G2 D (forO t b k (xs.drop i) env'), ⟨xs.length, by simp, Nat.zero_le _, G1, env, Same.refl _, r.ext x1, by rw [List.drop_zero]; exact q.mono x1.gg⟩, ?_⟩
    rintro i m σ' H' ⟨rfl, hle, G2, env', s2, r2, o⟩
    by_cases hlt : i < xs.length
    · refine .inr ⟨hgo i H' (s2.trans r2.gh) r2.bh hlt, fun σ'' H'' => i + 1 ≤ xs.length ∧ ∃ G3 env'', Same G1 G3 ∧ Rel K W B G0 G3 env'' σ'' H'' ∧ OutOk K W B G0 G3 D (forO t b k (xs.drop (i + 1)) env''), fun σ'' H'' ⟨a, b⟩ => ⟨xs.length - (i + 1), by omega, rfl, a, b⟩, fun x H3 y => ?_⟩
      have ed : xs[i]? = some xs[i] := List.getElem?_eq_getElem hlt
      obtain ⟨G3, x3, hrp⟩ := hy i xs[i] G2 H' x H3 s2 r2.gh r2.bh y ed
      have r3 := r2.ext x3
      have edrop : xs.drop i = xs[i] :: xs.drop (i + 1) := List.drop_eq_getElem_cons hlt
      rw [edrop] at o
      unfold forO at o
      split at o
      · exact o.elim
      · exact o.elim
      · rename_i e1 et
        refine hg B G0 G3 G3 env' e1 σ' H3 H3 ⟨k, xs[i]⟩ x r3 (Ext.refl r3.gh) hrp et _ fun σ4 r4 _ => ?_
        refine hb B G0 G3 e1 σ4 H3 _ r4 ?_
        have s3 := s2.trans x3.gg
        have o := o.mono x3.gg
        revert o
        intro o
        split at o <;> rename_i eb <;> rw [eb]
        · exact fun G5 σ5 H5 s5 r5 => ⟨hlt, G5, _, s3.trans s5, r5, o.mono s5⟩
        · exact fun G5 σ5 H5 s5 r5 => ⟨hlt, G5, _, s3.trans s5, r5, o.mono s5⟩
        · exact fun G5 σ5 H5 s5 r5 => o G5 σ5 H5 s5 r5
        · exact fun G5 H5 v s5 r5 h5 => o G5 H5 v s5 r5 h5
        · exact fun G5 σ5 H5 cls d s5 r5 h5 => o G5 σ5 H5 cls d s5 r5 h5
        · exact o
    · have ei : i = xs.length := by omega
      subst ei
      rw [List.drop_length] at o
      exact .inl ⟨hst H' (s2.trans r2.gh) r2.bh, o G2 σ' H' (Same.refl _) r2⟩
  · rename_i y e
    exact hi.ex B G0 G env σ H y r e (q.xok r) _
  · exact q.elim
theorem ds_for {X : Cx} {W : Wi} {tg iter : Expr} {body : List Stmt} {wi : TI} {g : TG} {tb : TS} {it : En → Res (Kd × List D)} {t : Tg} {ws : List Nat} {b : En → Out} {pos : Pos} (hp : PassesOwn (model X.prog X.w) X.A X.env X.xe) (hc : X.calm = true) (hi : DI X W tg iter wi it) (hg : DG X W tg g t ws) (hb : DSs X W body tb b)
    (hs : ∀ x, foldedSetIterable iter X.env x = pure x := by intro _; rfl) : DS X W (.For tg iter body [] pos) (tFor wi g tb) (forS it t b) := ⟨ps_for hp hc hi.pi hg.pg hb.ps hs, sv_for hi.it hg.tg hb.sv⟩
end DL

namespace DL
open PySem L2
/-! ### comprehensions -/
def wipeE (env : En) : List Nat → En
  | [] => env
  | v :: vs => (wipeE env vs).set v .no
def lcO (t : Tg) (c : En → Res Bool) (f : En → Res Vl) (k : Kd) (env : En) : List D → Res (List D)
  | [] => .ok []
  | x :: xs => (t ⟨k, x⟩ env).bind fun e => (c e).bind fun b => match b with
    | true => ((f e).bind keepD).bind fun d => (lcO t c f k env xs).bind fun ds => .ok (d :: ds)
    | false => lcO t c f k env xs
/-- an exception is not told -/
def Res.nx {α : Type} : Res α → Res α
  | .ok a => .ok a
  | _ => .no
theorem Res.nx_ok {α : Type} {r : Res α} {a : α} (h : r.nx = .ok a) : r = .ok a := by
  cases r with
  | ok b => exact h
  | ex x => cases h
  | no => cases h
theorem Res.nx_ne {α : Type} {r : Res α} {x : Exn} : r.nx ≠ .ex x := by
  cases r <;> exact fun z => nomatch z
def lcE (it : En → Res (Kd × List D)) (t : Tg) (c : En → Res Bool) (f : En → Res Vl) (own : List Nat) : En → Res Vl := fun env => (it env).bind fun p => if p.2.length < sizeLine then (lcO t c f p.1 (wipeE env own) p.2).nx.bind fun ds => .ok ⟨.o, .lst ds⟩ else .no
theorem lcO_len {t : Tg} {c : En → Res Bool} {f : En → Res Vl} {k : Kd} {env : En} : ∀ {xs ds : List D}, lcO t c f k env xs = .ok ds → ds.length ≤ xs.length
  | [], ds, h => by cases h; exact Nat.le_refl _
  | x :: xs, ds, h => by
    unfold lcO at h
    obtain ⟨e, _, h⟩ := Res.bind_eq h
    obtain ⟨b, _, h⟩ := Res.bind_eq h
    cases b with
    | true =>
      obtain ⟨d, _, h⟩ := Res.bind_eq h
      obtain ⟨ds', h1, h⟩ := Res.bind_eq h
      cases h
      have := lcO_len h1
      simp only [List.length_cons]
      omega
    | false =>
      have := lcO_len (show lcO t c f k env xs = .ok ds from h)
      simp only [List.length_cons]
      omega
section
variable {K : PySem.W.Frag} {W : Wi} {B G0 G G' H H' : Hp} {env : En} {σ : L2.St}
theorem Rel.unset (r : Rel K W B G0 G env σ H) (i : Nat) : Rel K W B G0 G (env.set i .no) (σ.set i none) H := by
  refine ⟨r.g0, r.gh, r.bh, r.fr, by rw [List.length_set, List.length_set]; exact r.len, fun j s o q1 q2 => ?_, fun j k xs ys L hjk q1 q2 q3 q4 => ?_⟩
  · rcases set_get q1 with ⟨_, rfl⟩ | ⟨n1, q1⟩
    · trivial
    · rcases set_get q2 with ⟨z, _⟩ | ⟨_, q2⟩
      · exact absurd z n1
      · exact r.sl j s o q1 q2
  · rcases set_get q1 with ⟨_, z⟩ | ⟨n1, q1⟩
    · cases z
    · rcases set_get q2 with ⟨_, z⟩ | ⟨n2, q2⟩
      · cases z
      · rcases set_get q3 with ⟨z, _⟩ | ⟨_, q3⟩
        · exact n1 z
        · rcases set_get q4 with ⟨z, _⟩ | ⟨_, q4⟩
          · exact n2 z
          · exact r.ds j k xs ys L hjk q1 q2 q3 q4
theorem Rel.wipe (r : Rel K W B G0 G env σ H) : ∀ vs : List Nat, Rel K W B G0 G (wipeE env vs) (L2.wipe σ vs) H
  | [] => r
  | v :: vs => (Rel.wipe r vs).unset v
theorem wipe_idem : ∀ (vs ws : List Nat) (σ : L2.St), (∀ i ∈ ws, i ∈ vs) → L2.wipe (L2.wipe σ ws) vs = L2.wipe σ vs
  | vs, [], σ, _ => rfl
  | vs, w :: ws, σ, h => by
    show L2.wipe ((L2.wipe σ ws).set w none) vs = _
    rw [wipe_set (h w List.mem_cons_self)]
    exact wipe_idem vs ws σ fun i hi => h i (List.mem_cons_of_mem _ hi)
theorem ev_lc {wi : TI} {g : TG} {tt : TT} {te : TE} {it : En → Res (Kd × List D)} {t : Tg} {ws own : List Nat} {c : En → Res Bool} {f : En → Res Vl} (hi : ItD K W wi it) (hg : TgD K W g t ws) (hw : ∀ i ∈ ws, i ∈ own) (hc : EvT K W tt c) (hf : EvD K W te f) : EvD K W (tLc wi g tt te own) (lcE it t c f own) := ⟨fun B G0 G env σ H z r e Q q => (by
  obtain ⟨⟨k, xs⟩, e1, e2⟩ := Res.bind_eq e
  dsimp only at e2
  by_cases hz : xs.length < sizeLine
  · rw [if_pos hz] at e2
    obtain ⟨ds, e3, e4⟩ := Res.bind_eq e2
    have e3 := Res.nx_ok e3
    cases e4
    refine hi.ok B G0 G env σ H k xs r e1 _ fun G1 H1 J x1 ⟨hk, hgo, hy, hst⟩ D hD => ?_
    have r1 := (r.ext x1).wipe own
    have gD : G1 D = none := x1.gh.free hD
    have bD : B D = none := (r.ext x1).bh.free hD
    have nD : ∀ (i : Nat) ys, (wipeE env own)[i]? = some (.ow ys) → (L2.wipe σ own)[i]? ≠ some (some (.ref D)) := fun i ys a b => by
      obtain ⟨o, eo, so⟩ := r1.slot a
      rw [b] at eo
      cases eo
      obtain ⟨L, zs, y1, y2, y3, y4, y5⟩ := so
      cases y1
      rw [hD] at y4
      cases y4
    refine ⟨fun i m H' => m = xs.length - i ∧ i ≤ xs.length ∧ ∃ G2 acc da db, Ext G1 H1 G2 H' ∧ G2 D = none ∧ Rel K W B G0 G2 (wipeE env own) (L2.wipe σ own) H' ∧ H' D = some (.lst acc) ∧ RepL K G2 acc da ∧ acc.length ≤ i ∧ lcO t c f k (wipeE env own) (xs.drop i) = .ok db ∧ ds = da ++ db,
      ⟨xs.length, by simp, Nat.zero_le _, G1, [], [], ds, Ext.new (r.ext x1).gh hD, gD, r1.beside bD gD nD, upd_same, .nil, Nat.le_refl _, by rw [List.drop_zero]; exact e3, rfl⟩, ?_⟩
    rintro i m H' ⟨rfl, hle, G2, acc, da, db, x2, g2, r2, hD2, ra, hla, el, ed⟩
    by_cases hlt : i < xs.length
    · refine .inr ⟨hgo i H' (x2.gg.trans r2.gh) r2.bh hlt, fun H'' => i + 1 ≤ xs.length ∧ ∃ G3 acc da db, Ext G1 H1 G3 H'' ∧ G3 D = none ∧ Rel K W B G0 G3 (wipeE env own) (L2.wipe σ own) H'' ∧ H'' D = some (.lst acc) ∧ RepL K G3 acc da ∧ acc.length ≤ i + 1 ∧ lcO t c f k (wipeE env own) (xs.drop (i + 1)) = .ok db ∧ ds = da ++ db,
        fun H'' ⟨a, b⟩ => ⟨xs.length - (i + 1), by omega, rfl, a, b⟩, fun x H3 y => ?_⟩
      have exd : xs[i]? = some xs[i] := List.getElem?_eq_getElem hlt
      obtain ⟨G3, y3, hrp⟩ := hy i xs[i] G2 H' x H3 x2.gg r2.gh r2.bh y exd
      have r3 := r2.ext y3
      have g3 : G3 D = none := y3.out g2 hD2
      have hD3 : H3 D = some (.lst acc) := y3.hh _ _ hD2
      have x3 := x2.trans y3
      rw [List.drop_eq_getElem_cons hlt] at el
      unfold lcO at el
      obtain ⟨e', et, el⟩ := Res.bind_eq el
      obtain ⟨b, eb, el⟩ := Res.bind_eq el
      refine hg B G0 G3 G3 (wipeE env own) e' (L2.wipe σ own) H3 H3 ⟨k, xs[i]⟩ x r3 (Ext.refl r3.gh) hrp et _ fun σ4 r4 w4 => ⟨(w4 own hw).trans (wipe_idem own own σ fun _ h => h), ?_⟩
      refine hc.ok B G0 G3 e' σ4 H3 b r4 eb _ fun G5 H5 x5 => ?_
      have g5 : G5 D = none := x5.out g3 hD3
      cases b with
      | true =>
        rw [if_pos rfl]
        obtain ⟨d, e5, el⟩ := Res.bind_eq el
        obtain ⟨u, e6, e7⟩ := Res.bind_eq e5
        obtain ⟨kp, rfl⟩ := keepD_inv e7
        obtain ⟨db', e8, el⟩ := Res.bind_eq el
        cases el
        refine hf.ok B G0 G5 e' σ4 H5 u (r4.ext x5) e6 _ fun G6 H6 v x6 hv6 => ?_
        obtain ⟨G7, x7, s7, hd7⟩ := hv6.freeze x6 kp
        have x57 := x5.trans x7
        have hD6 : H6 D = some (.lst acc) := x57.hh _ _ hD3
        have g7 : G7 D = none := x57.out g3 hD3
        refine ⟨acc, hD6, Nat.lt_of_le_of_lt hla (Nat.lt_of_lt_of_le hlt (Nat.le_of_lt hz)), hlt, G7, acc ++ [v], da ++ [u.d], db', ?_, g7, (r3.ext x57).beside bD g7 nD, upd_same, (ra.mono (y3.gg.trans x57.gg)).app (.cons hd7 .nil), by rw [List.length_append, List.length_singleton]; omega, e8, by rw [ed, List.append_assoc]; rfl⟩
        have xx := x3.trans x57
        exact ⟨xx.gg, same_upd xx.hh hD, same_upd xx.gh g7, xx.fr⟩
      | false =>
        rw [if_neg Bool.false_ne_true]
        exact ⟨hlt, G5, acc, da, db, x3.trans x5, g5, r3.ext x5, x5.hh _ _ hD3, ra.mono (y3.gg.trans x5.gg), Nat.le_succ_of_le hla, el, ed⟩
    · have ei : i = xs.length := by omega
      subst ei
      rw [List.drop_length] at el
      cases el
      rw [List.append_nil] at ed
      subst ed
      exact .inl ⟨hst H' (x2.gg.trans r2.gh) r2.bh, q G2 H' _ (x1.trans x2) ⟨D, acc, _, rfl, rfl, x1.hh.free hD, g2, hD2, ra⟩⟩
  · rw [if_neg hz] at e2
    cases e2),
  fun B G0 G env σ H x r e w Q => by
  rcases Res.bind_ex e with e1 | ⟨⟨k, xs⟩, e1, e2⟩
  · exact hi.ex B G0 G env σ H x r e1 w _
  · exfalso
    dsimp only at e2
    by_cases hz : xs.length < sizeLine
    · rw [if_pos hz] at e2
      rcases Res.bind_ex e2 with e3 | ⟨ds, _, e4⟩
      · exact Res.nx_ne e3
      · cases e4
    · rw [if_neg hz] at e2
      cases e2⟩
def yesT : En → Res Bool := fun _ => .ok true
theorem evt_yes : EvT K W tYes yesT := ⟨fun B G0 G env σ H b r e Q k => by cases e; exact k G H (Ext.refl r.gh),
  fun B G0 G env σ H x r e => nomatch e⟩
end
structure DTs (X : Cx) (W : Wi) (es : List Expr) (tt : TT) (f : En → Res Bool) : Prop where
  pts : PTs X es tt
  ev : EvT X.K W tt f
section
variable {X : Cx} {W : Wi} {elt tg iter : Expr} {ifs : List Expr} {scope : Scope} {own : List (Str × Nat)} {pos spos py : Pos} {wi : TI} {g : TG} {tt : TT} {te : TE} {it : En → Res (Kd × List D)} {t : Tg} {ws : List Nat} {c : En → Res Bool} {f : En → Res Vl} {y : Str}
theorem dts_nil : DTs X W [] tYes yesT := ⟨pts_nil, evt_yes⟩
theorem dts_one {e : Expr} (h : DT X W e tt c) : DTs X W [e] tt c := ⟨pts_one h.pt, h.ev⟩
theorem de_lc (hc : X.calm = true) (hN : X.N.Nodup) (hi : DI X W tg iter wi it) (ok : BlkOk X.N X.env.scope scope own)
    (hg : ∀ (s : Shared) (H : Hp) (C : Addr) (cl : List (Str × Addr)) (fp : List Addr), DG (X.blk s H scope (compEnvC scope cl C X.env) fp) W tg g t ws) (ht : ∀ (s : Shared) (H : Hp) (C : Addr) (cl : List (Str × Addr)) (fp : List Addr), DTs (X.blk s H scope (compEnvC scope cl C X.env) fp) W ifs tt c)
    (he : ∀ (s : Shared) (H : Hp) (C : Addr) (cl : List (Str × Addr)) (fp : List Addr), DE (X.blk s H scope (compEnvC scope cl C X.env) fp) W elt te f) (hw : ∀ i ∈ ws, i ∈ own.map (·.2) := by decide) (hs : ∀ x, foldedSetIterable iter X.env x = pure x := by intro _; rfl) (z1 : Shared) (z2 : Hp) :
    DE X W (.ListComp elt [⟨tg, iter, ifs, 0⟩] scope pos) (tLc wi g tt te (own.map (·.2))) (lcE it t c f (own.map (·.2))) :=
  ⟨pe_lc hc hN hi.pi ok (fun s H C cl fp => (hg s H C cl fp).pg) (fun s H C cl fp => (ht s H C cl fp).pts) (fun s H C cl fp => (he s H C cl fp).pe) hs,
    ev_lc (K := X.K) hi.it (hg z1 z2 0 [] []).tg hw (ht z1 z2 0 [] []).ev (he z1 z2 0 [] []).ev⟩
theorem ds_setLc (i : Nat) (hc : X.calm = true) (hN : X.N.Nodup) (hi : DI X W tg iter wi it) (ok : BlkOk X.N X.env.scope scope own)
    (hg : ∀ (s : Shared) (H : Hp) (C : Addr) (cl : List (Str × Addr)) (fp : List Addr), DG (X.blk s H scope (compEnvC scope cl C X.env) fp) W tg g t ws) (ht : ∀ (s : Shared) (H : Hp) (C : Addr) (cl : List (Str × Addr)) (fp : List Addr), DTs (X.blk s H scope (compEnvC scope cl C X.env) fp) W ifs tt c)
    (he : ∀ (s : Shared) (H : Hp) (C : Addr) (cl : List (Str × Addr)) (fp : List Addr), DE (X.blk s H scope (compEnvC scope cl C X.env) fp) W elt te f) (z1 : Shared) (z2 : Hp)
    (hsw : swapsWith (.ListComp elt [⟨tg, iter, ifs, 0⟩] scope pos) (some (.Name y py)) spos.line X.env = pure true) (hy : X.N[i]? = some y := by rfl) (hyl : X.env.scope.names.lookup y = some .local := by rfl) (hw : ∀ i ∈ ws, i ∈ own.map (·.2) := by decide) (hs : ∀ x, foldedSetIterable iter X.env x = pure x := by intro _; rfl) :
    DS X W (.Assign [.Name y py] (.ListComp elt [⟨tg, iter, ifs, 0⟩] scope pos) spos) (tAsg (tLc wi g tt te (own.map (·.2))) (gName i)) (setO i (lcE it t c f (own.map (·.2)))) :=
  ⟨ps_setLc hc hN hy hyl hsw hi.pi ok (fun s H C cl fp => (hg s H C cl fp).pg) (fun s H C cl fp => (ht s H C cl fp).pts) (fun s H C cl fp => (he s H C cl fp).pe) hs,
    sv_set i (ev_lc (K := X.K) hi.it (hg z1 z2 0 [] []).tg hw (ht z1 z2 0 [] []).ev (he z1 z2 0 [] []).ev)⟩
end
/-! ### a def's promise -/
def ArgOk (K : PySem.W.Frag) (G H : Hp) : Bool × D → V → Prop
  | (true, d), v => Rep K G v d
  | (false, d), v => Rep K H v d
def ArgsOk (K : PySem.W.Frag) (G H : Hp) : List (Bool × D) → List V → Prop
  | [], vs => vs = []
  | a :: as, vs => ∃ v r, vs = v :: r ∧ ArgOk K G H a v ∧ ArgsOk K G H as r
abbrev Fn := List (Bool × D) → Res Vl
def spD (K : PySem.W.Frag) (n : Nat) (F : Fn) : Sp := fun vs H Q _ => ∃ (G : Hp) (as : List (Bool × D)) (z : Vl), Same G H ∧ as.length = n ∧ ArgsOk K G H as vs ∧ F as = .ok z ∧ (∀ G' H' v, Ext G H G' H' → Rp K H G' H H' z v → Q v H')
def Vl.ba (u : Vl) : Bool × D := (u.keep, u.d)
def fin (z : Vl) : Res Vl := match z.k with
  | .g => .ok z
  | .o => .ok z
  | _ => .no
/-- f(..), the defaults behind -/
def callF (F : Fn) (ds : List D) (f : En → Res (List Vl)) : En → Res Vl := fun env => (f env).bind fun us => (F (us.map Vl.ba ++ ds.map fun d => (true, d))).nx.bind fin
/-- a call that may raise -/
def callX (F : Fn) (ds : List D) (f : En → Res (List Vl)) : En → Res Vl := fun env => (f env).bind fun us => (F (us.map Vl.ba ++ ds.map fun d => (true, d))).bind fin
theorem fin_nx {z : Vl} {x : Exn} : fin z ≠ .ex x := by
  unfold fin
  split <;> exact fun z => nomatch z
section
variable {K : PySem.W.Frag} {W : Wi} {B G0 G G' H H' : Hp} {env : En} {σ : L2.St}
theorem ArgsOk.len : ∀ {as : List (Bool × D)} {vs : List V}, ArgsOk K G H as vs → vs.length = as.length
  | [], _, h => by rw [h]; rfl
  | a :: as, _, ⟨v, r, e, _, l⟩ => by rw [e, List.length_cons, List.length_cons, ArgsOk.len l]
theorem ArgsOk.app : ∀ {as bs : List (Bool × D)} {vs ws : List V}, ArgsOk K G H as vs → ArgsOk K G H bs ws → ArgsOk K G H (as ++ bs) (vs ++ ws)
  | [], _, _, _, h, k => by rw [h]; exact k
  | a :: as, _, _, ws, ⟨v, r, e, h, l⟩, k => ⟨v, r ++ ws, by rw [e]; rfl, h, ArgsOk.app l k⟩
theorem RpL.args (r : Rel K W B G0 G' env σ H') : ∀ {us : List Vl} {vs : List V}, RpL K B G' H' us vs → ArgsOk K G' H' (us.map Vl.ba) vs
  | [], _, h => h
  | u :: us, _, ⟨v, w, e, h, l⟩ => by
    refine ⟨v, w, e, ?_, RpL.args r l⟩
    show ArgOk K G' H' (u.keep, u.d) v
    cases hk : u.keep with
    | true =>
      obtain ⟨k, d⟩ := u
      cases k with
      | g => exact h
      | b => exact Rep.flat (show Rep K B v d from h) hk
      | h =>
        obtain ⟨L, vs, ds, _, e2, _⟩ := h
        dsimp only at e2
        subst e2
        cases hk
      | o =>
        obtain ⟨L, vs, ds, _, _, e1, _, e2, _⟩ := h
        rw [e1] at e2
        cases e2
    | false => exact h.look r
theorem ev_call {F : Fn} {n : Nat} {ds : List D} {dvs : List V} {E : XK} {ta : TA} {f : En → Res (List Vl)} (hd : ∀ G, ArgsOk K G G (ds.map fun d => (true, d)) dvs) (hn : ∀ as z, F as = .ok z → as.length = n) (h : EvA K W ta f) : EvD K W (tCall (spD K n F) dvs E ta) (callF F ds f) := ⟨fun B G0 G env σ H z r e Q q => (by
  obtain ⟨us, e1, e⟩ := Res.bind_eq e
  obtain ⟨w, e2, e3⟩ := Res.bind_eq e
  have e2 := Res.nx_ok e2
  have hw : z = w ∧ (w.k = .g ∨ w.k = .o) := by
    unfold fin at e3
    split at e3 <;> cases e3
    · exact ⟨rfl, .inl (by assumption)⟩
    · exact ⟨rfl, .inr (by assumption)⟩
  obtain ⟨rfl, hk⟩ := hw
  refine h.ok B G0 G env σ H us r e1 _ fun G1 H1 vs x hl => ?_
  have r1 := r.ext x
  have hd' : ArgsOk K G1 H1 (ds.map fun d => (true, d)) dvs := dflt (hd G1)
  refine ⟨G1, us.map Vl.ba ++ ds.map fun d => (true, d), z, r1.gh, hn _ _ e2, (hl.args r1).app hd', e2, fun G2 H2 v x2 hv => q G2 H2 v (x.trans x2) ?_⟩
  obtain ⟨k, d⟩ := z
  rcases hk with rfl | rfl
  · exact hv
  · exact Rp.from x.hh (show Rp K B G2 H1 H2 ⟨.o, d⟩ v from hv)), fun B G0 G env σ H x r e w Q => by
  rcases Res.bind_ex e with e1 | ⟨us, e1, e⟩
  · exact h.ex B G0 G env σ H x r e1 w _
  · rcases Res.bind_ex e with e2 | ⟨z, _, e3⟩
    · exact absurd e2 Res.nx_ne
    · exact absurd e3 fin_nx⟩
where
  dflt {G H : Hp} : ∀ {ds : List D} {vs : List V}, ArgsOk K G G (ds.map fun d => (true, d)) vs → ArgsOk K G H (ds.map fun d => (true, d)) vs
    | [], _, h => h
    | d :: ds, _, ⟨v, r, e, h, l⟩ => ⟨v, r, e, h, dflt l⟩
end
section
variable {X : Cx} {W : Wi} {k n : Nat} {fa : Addr} {fd : FuncData} {ps : List Str} {F : Fn} {dvs : List V} {dds : List D} {ds : List Value} {x : Str} {p pos : Pos} {e : Expr} {es : List Expr} {ta : TA} {f : En → Res (List Vl)}
/-- a call of a def of the text -/
theorem de_call (G : FnOk X.prog X.w X.K X.mg X.base CX0 k fa fd ps (spD X.K n F)) (hr : Room k X.A) (hm : X.mg x = some (.ref fa)) (hk : PySem.W.keepIn X.K (.ref fa) = true) (hb : Binds X.K fd ps ds) (hd : Vals dvs ds) (hd2 : ∀ G, ArgsOk X.K G G (dds.map fun d => (true, d)) dvs) (hn : ∀ as z, F as = .ok z → as.length = n)
    (ha : DA X W (e :: es) ta f) (hg : Gl X x := by rfl) (hdb : (x == ("__debug__" : Str)) = false := by decide) (he : starEach (e :: es) X.env = (false, eval e X.env) :: starEach es X.env := by rfl) (hpl : (backTo pos (starEach es X.env)).any (·.1) = false := by rfl) :
    DE X W (.Call (.Name x p) (e :: es) [] pos) (tCall (spD X.K n F) dvs E0 ta) (callF F dds f) := ⟨pe_call G hr hg hm hk hb hd pass0 ha.pa hdb he hpl, ev_call hd2 hn ha.ev⟩
end
/-- no exception leaves -/
abbrev noW : Wi := ⟨fun _ _ _ _ => False, 0, .none, none⟩
def startE (n : Nat) (as : List (Bool × D)) : En := as.map (fun a => .vl a.1 a.2) ++ List.replicate (n - as.length) .no
/-- what a body hands back -/
def runF (m n : Nat) (b : En → Out) : Fn := fun as => if as.length = m then match b (startE n as) with
  | .rt u => .ok u
  | .nx _ => .ok ⟨.g, .non⟩
  | .ex _ x => .ex x
  | _ => .no else .no
theorem runF_len {m n : Nat} {b : En → Out} : ∀ as z, runF m n b as = .ok z → as.length = m := fun as z h => by
  unfold runF at h
  by_cases e : as.length = m
  · exact e
  · rw [if_neg e] at h; cases h
theorem args_slot {K : PySem.W.Frag} {W : Wi} {G H : Hp} : ∀ {as : List (Bool × D)} {vs : List V} {i : Nat} {s : Sl} {o : Option V}, ArgsOk K G H as vs → (as.map fun a => Sl.vl a.1 a.2)[i]? = some s → (vs.map some)[i]? = some o → SlOk K W H G H s o
  | [], _, _, _, _, h, e, _ => by simp at e
  | a :: as, _, 0, s, o, ⟨v, r, e, h, l⟩, e1, e2 => by
    subst e
    simp at e1 e2
    subst e1 e2
    obtain ⟨b, d⟩ := a
    cases b with
    | true => exact ⟨v, rfl, h⟩
    | false => exact ⟨v, rfl, h⟩
  | a :: as, _, i + 1, s, o, ⟨v, r, e, h, l⟩, e1, e2 => by
    subst e
    exact args_slot (i := i) l (by simpa using e1) (by simpa using e2)
theorem start_rel {K : PySem.W.Frag} {W : Wi} {G H : Hp} {N : List Str} {as : List (Bool × D)} {vs : List V} (gh : Same G H) (h : ArgsOk K G H as vs) : Rel K W H G G (startE N.length as) (L2.start N vs) H := by
  have hl := h.len
  refine ⟨Same.refl _, gh, Same.refl _, fun a e n => absurd e n, by unfold startE L2.start; simp [hl], fun i s o q1 q2 => ?_, fun i j xs ys L _ q1 => ?_⟩
  · unfold startE at q1
    unfold L2.start at q2
    by_cases hi : i < as.length
    · rw [List.getElem?_append_left (by simpa using hi)] at q1
      rw [List.getElem?_append_left (by simpa [hl] using hi)] at q2
      exact args_slot h q1 q2
    · rw [List.getElem?_append_right (by simpa using Nat.le_of_not_lt hi)] at q1
      rw [List.getElem?_replicate] at q1
      split at q1
      · cases q1; trivial
      · cases q1
  · exfalso
    unfold startE at q1
    by_cases hi : i < as.length
    · rw [List.getElem?_append_left (by simpa using hi), List.getElem?_map] at q1
      cases e : as[i]? with
      | none => rw [e] at q1; cases q1
      | some a => rw [e] at q1; cases q1
    · rw [List.getElem?_append_right (by simpa using Nat.le_of_not_lt hi), List.getElem?_replicate] at q1
      split at q1 <;> cases q1
/-- THE RULE for a def -/
theorem fn_ok {P : Program} {w : World} {K : PySem.W.Frag} {mg : Str → Option Value} {base : Heap} {x qual : Str} {st : Stmt} {fa : Addr} {fd : FuncData} {N ps : List Str} {k m n : Nat} {b : En → Out} (F : Fun K x qual st fa fd) (S : FnScope N ps (defScope st)) (hm : m = ps.length) (hn : n = N.length)
    (h : ∀ (cdv : Value) (A : Around) (outer : List Env) (s : Shared) (H : Hp) (E : XK), Room k (A.deeper (PyProof.Rows.envOfC qual (defScope st) s.heap.objs.size fa cdv)) → ∃ t, DSs (cxOf CX0 P w K mg base N qual (defScope st) fa cdv A outer s H E).nox noW (defBody st) t b) :
    FnOk P w K mg base CX0 (k + 1) fa fd ps (spD K m (runF m n b)) := by
  subst hm hn
  refine F.ok S (fun vs H Q E hs => ?_) (fun cdv A outer s H vs Q E hr hs => ?_)
  · obtain ⟨G, as, z, _, hl, ha, _⟩ := hs
    rw [ha.len, hl]
  · obtain ⟨t, ht⟩ := h cdv A outer s H E hr
    obtain ⟨G, as, z, gh, hl, ha, hz, q⟩ := hs
    refine ⟨t, ht.ps, ?_⟩
    have r : Rel K noW H G G (startE N.length as) (L2.start N vs) H := start_rel gh ha
    refine ht.sv H G G _ _ H _ r ?_
    unfold runF at hz
    rw [if_pos hl] at hz
    split at hz
    · rename_i u eu
      cases hz
      rw [eu]
      exact fun G' H' v s r' hv => q G' H' v ⟨s, r'.bh, r'.gh, r'.fr⟩ hv
    · rename_i e' ee
      cases hz
      rw [ee]
      exact fun G' σ' H' s r' => q G' H' .non ⟨s, r'.bh, r'.gh, r'.fr⟩ .non
    · cases hz
    · cases hz
end DL

namespace DL
open PySem L2
def vOf : D → V
  | .bl b => .bl b
  | .int i => .int i
  | .str x => .str x
  | _ => .non
theorem args_flat {K : PySem.W.Frag} {G : Hp} : ∀ {ds : List D}, ds.all flat = true → ArgsOk K G G (ds.map fun d => (true, d)) (ds.map vOf)
  | [], _ => rfl
  | d :: ds, h => by
    rw [List.all_cons, Bool.and_eq_true] at h
    refine ⟨vOf d, ds.map vOf, rfl, ?_, args_flat h.2⟩
    cases d <;> first
      | exact .non
      | exact .bl _
      | exact .int _
      | exact .str _
      | cases h.1
/-- a def that may be called -/
structure Cl (P : Program) (w : World) (K : PySem.W.Frag) (mg : Str → Option Value) (base : Heap) (k : Nat) (x : Str) (n : Nat) (F : Fn) (dds : List D) : Prop where
  ex : ∃ (fa : Addr) (fd : FuncData) (ps : List Str) (ds : List Value), FnOk P w K mg base CX0 k fa fd ps (spD K n F) ∧ mg x = some (.ref fa) ∧ PySem.W.keepIn K (.ref fa) = true ∧ Binds K fd ps ds ∧ Vals (dds.map vOf) ds
  fl : dds.all flat = true
  len : ∀ as z, F as = .ok z → as.length = n
section
variable {X : Cx} {W : Wi} {k j n : Nat} {F : Fn} {dds : List D} {x : Str} {p pos : Pos} {e : Expr} {es : List Expr} {ta : TA} {f : En → Res (List Vl)}
theorem de_c {K : PySem.W.Frag} (c : Cl X.prog X.w X.K X.mg X.base k x n F dds) (hr : Room j X.A) (ha : DA X W (e :: es) ta f) (hkj : k ≤ j := by decide) (hg : Gl X x := by rfl) (hdb : (x == ("__debug__" : Str)) = false := by decide) (he : starEach (e :: es) X.env = (false, eval e X.env) :: starEach es X.env := by rfl) (hpl : (backTo pos (starEach es X.env)).any (·.1) = false := by rfl) (hK : X.K = K := by rfl) :
    DE X W (.Call (.Name x p) (e :: es) [] pos) (tCall (spD K n F) (dds.map vOf) E0 ta) (callF F dds f) := by
  subst hK
  obtain ⟨fa, fd, ps, ds, G, hm, hk, hb, hd⟩ := c.ex
  exact de_call G (hr.mono hkj) hm hk hb hd (fun _ => args_flat c.fl) c.len ha hg hdb he hpl
/-- a constant of the module -/
theorem de_glob {d : D} (h : ∃ u, X.mg x = some u ∧ RelV (vOf d) u) (hf : flat d = true := by rfl) (hg : Gl X x := by rfl) (hd : (x == ("__debug__" : Str)) = false := by decide) : DE X W (.Name x pos) (tC (vOf d)) (cE d) := by
  obtain ⟨u, hm, r⟩ := h
  refine ⟨pe_glob hg hm r hd, ev_c fun G => ?_⟩
  cases d <;> first
    | exact .non
    | exact .bl _
    | exact .int _
    | exact .str _
    | cases hf
end
/-- a def of the text, all whose parameters are given -/
structure Dn (K : PySem.W.Frag) (mg : Str → Option Value) (x : Str) (st : Stmt) (ps : List Str) : Prop where
  ex : ∃ (fa : Addr) (fd : FuncData), Fun K x x st fa fd ∧ mg x = some (.ref fa) ∧ Binds K fd ps []
theorem dn_mk {K : PySem.W.Frag} {h : Heap} {mg : Str → Option Value} {x : Str} {st : Stmt} {ps : List Str} {f : Addr} {oc : Value} {od an : Option Addr} {sl : Array (Option Value)} {kV dc pm cd ct : Value} (X : K.In h) (G : h.Ns mainGlobals mg) (a : PySem.W.nsIn K mainGlobals x = some (some (.ref f)))
    (l : K.lookup f = some ⟨oc, od, .func (PySem.W.fnOf x x (defArgs st) (defBody st) (defScope st) .none kV dc pm an cd ct), sl⟩) (c : PySem.W.codeIn K cd x = true) (k : PySem.W.keepIn K (.ref f) = true)
    (hb : ∀ (kV doc pm : Value) (an : Option Addr) (cdv ct : Value) (us : List Value), us.length = ps.length → bindArgs (PySem.W.fnOf x x (defArgs st) (defBody st) (defScope st) .none kV doc pm an cdv ct) ⟨us, []⟩ = pure (ps.zip us)) : Dn K mg x st ps :=
  ⟨f, _, fun_mk l c k, PySem.W.mg_of X G a, (fun_mk l c k).binds hb⟩
/-- THE RULE for a def of the text -/
theorem cl_mk {P : Program} {w : World} {K : PySem.W.Frag} {mg : Str → Option Value} {base : Heap} {x : Str} {st : Stmt} {N ps : List Str} {k m n : Nat} {b : En → Out} (d : Dn K mg x st ps) (S : FnScope N ps (defScope st)) (hm : m = ps.length) (hn : n = N.length)
    (h : ∀ (fa : Addr) (cdv : Value) (A : Around) (outer : List Env) (s : Shared) (H : Hp) (E : XK), Room k (A.deeper (PyProof.Rows.envOfC x (defScope st) s.heap.objs.size fa cdv)) → ∃ t, DSs (cxOf CX0 P w K mg base N x (defScope st) fa cdv A outer s H E).nox noW (defBody st) t b) :
    Cl P w K mg base (k + 1) x m (runF m n b) [] := by
  obtain ⟨fa, fd, F, hm', hb⟩ := d.ex
  exact ⟨⟨fa, fd, ps, [], fn_ok F S hm hn (fun cdv A outer s H E hr => h fa cdv A outer s H E hr), hm', F.kp, hb, .nil⟩, rfl, runF_len⟩
theorem cl_no {P : Program} {w : World} {K : PySem.W.Frag} {mg : Str → Option Value} {base : Heap} {x : Str} {st : Stmt} {ps : List Str} {m k : Nat} (d : Dn K mg x st ps) : Cl P w K mg base k x m (fun _ => .no) [] := by
  obtain ⟨fa, fd, F, hm', hb⟩ := d.ex
  exact ⟨⟨fa, fd, ps, [], ⟨fun vs H Q E ⟨_, _, _, _, _, _, h, _⟩ => (nomatch h), fun A outer s H args us vs Q E _ _ _ _ ⟨_, _, _, _, _, _, h, _⟩ => (nomatch h)⟩, hm', F.kp, hb, .nil⟩, rfl, fun as z h => nomatch h⟩
end DL

namespace DL
open PySem L2
/-! ### defs with defaults; keywords -/
structure DK (X : Cx) (W : Wi) (kws : List Keyword) (tk : TA) (f : En → Res (List Vl)) : Prop where
  pk : PK X kws tk
  ev : EvA X.K W tk f
theorem dk_nil {X : Cx} {W : Wi} : DK X W [] tNil nilA := ⟨pk_nil, eva_nil⟩
theorem dk_cons {X : Cx} {W : Wi} {e : Expr} {te : TE} {f : En → Res Vl} {kws : List Keyword} {tk : TA} {g : En → Res (List Vl)} {nm : Option Str} {kpos : Pos} (h : DE X W e te f) (ht : DK X W kws tk g) : DK X W (⟨nm, e, kpos⟩ :: kws) (tCons te tk) (consA f g) := ⟨pk_cons h.pe ht.pk, eva_cons h.ev ht.ev⟩
/-- f(e, .., k = v, ..), the keywords behind in the parameters' order -/
def callK (F : Fn) (n m : Nat) (f g : En → Res (List Vl)) : En → Res Vl := fun env => (f env).bind fun us => (g env).bind fun ws => if us.length = n ∧ ws.length = m then (F ((us ++ ws).map Vl.ba)).nx.bind fin else .no
structure ClK (P : Program) (w : World) (K : PySem.W.Frag) (mg : Str → Option Value) (base : Heap) (k : Nat) (x : Str) (n : Nat) (ks : List Str) (F : Fn) : Prop where
  ex : ∃ (fa : Addr) (fd : FuncData) (ps : List Str), FnOk P w K mg base CX0 k fa fd ps (spD K (n + ks.length) F) ∧ mg x = some (.ref fa) ∧ PySem.W.keepIn K (.ref fa) = true ∧ KBn K fd ps n ks (fun us ws => us ++ ws) (fun vs zs => vs ++ zs)
theorem RpL.app {K : PySem.W.Frag} {B G' H' : Hp} : ∀ {us ws : List Vl} {vs zs : List V}, RpL K B G' H' us vs → RpL K B G' H' ws zs → RpL K B G' H' (us ++ ws) (vs ++ zs)
  | [], _, _, _, h, k => by rw [h]; exact k
  | u :: us, _, _, zs, ⟨v, r, e, h, l⟩, k => ⟨v, r ++ zs, by rw [e]; rfl, h, RpL.app l k⟩
theorem ev_callK {K : PySem.W.Frag} {W : Wi} {F : Fn} {n m : Nat} {E : XK} {ta tk : TA} {f g : En → Res (List Vl)} (h : EvA K W ta f) (h2 : EvA K W tk g) : EvD K W (tCallN n m (spD K (n + m) F) (fun vs zs => vs ++ zs) E ta tk) (callK F n m f g) := ⟨fun B G0 G env σ H z r e Q q => (by
  obtain ⟨us, e1, e⟩ := Res.bind_eq e
  obtain ⟨ws, e2, e⟩ := Res.bind_eq e
  by_cases hl : us.length = n ∧ ws.length = m
  · rw [if_pos hl] at e
    obtain ⟨w, e3, e4⟩ := Res.bind_eq e
    have e3 := Res.nx_ok e3
    have hw : z = w ∧ (w.k = .g ∨ w.k = .o) := by
      unfold fin at e4
      split at e4 <;> cases e4
      · exact ⟨rfl, .inl (by assumption)⟩
      · exact ⟨rfl, .inr (by assumption)⟩
    obtain ⟨rfl, hk⟩ := hw
    refine h.ok B G0 G env σ H us r e1 _ fun G1 H1 vs x1 l1 => h2.ok B G0 G1 env σ H1 ws (r.ext x1) e2 _ fun G2 H2 zs x2 l2 => ?_
    have r2 := (r.ext x1).ext x2
    have l1' := l1.mono x2
    refine ⟨by rw [l1.len, hl.1], by rw [l2.len, hl.2], G2, (us ++ ws).map Vl.ba, z, r2.gh, by simp [hl.1, hl.2], (l1'.app l2).args r2, e3, fun G3 H3 v x3 hv => q G3 H3 v ((x1.trans x2).trans x3) ?_⟩
    obtain ⟨k, d⟩ := z
    rcases hk with rfl | rfl
    · exact hv
    · exact Rp.from (x1.hh.trans x2.hh) (show Rp K B G3 H2 H3 ⟨.o, d⟩ v from hv)
  · rw [if_neg hl] at e
    cases e),
  fun B G0 G env σ H x r e w Q => by
  rcases Res.bind_ex e with e1 | ⟨us, e1, e⟩
  · exact h.ex B G0 G env σ H x r e1 w _
  rcases Res.bind_ex e with e2 | ⟨ws, e2, e⟩
  · exact h.ok B G0 G env σ H us r e1 _ fun G1 H1 vs x1 l1 => h2.ex B G0 G1 env σ H1 x (r.ext x1) e2 (w.ext x1) _
  exfalso
  by_cases hl : us.length = n ∧ ws.length = m
  · rw [if_pos hl] at e
    rcases Res.bind_ex e with e3 | ⟨z, _, e4⟩
    · exact Res.nx_ne e3
    · exact fin_nx e4
  · rw [if_neg hl] at e
    cases e⟩
theorem de_ck {K : PySem.W.Frag} {X : Cx} {W : Wi} {k j n : Nat} {ks : List Str} {F : Fn} {x : Str} {p pos : Pos} {e : Expr} {es : List Expr} {kws : List Keyword} {ta tk : TA} {f g : En → Res (List Vl)} (c : ClK X.prog X.w X.K X.mg X.base k x n ks F) (hr : Room j X.A) (ha : DA X W (e :: es) ta f) (hkw : DK X W kws tk g)
    (hkj : k ≤ j := by decide) (hg : Gl X x := by rfl) (hall : (backToKw pos (keywordEach kws X.env)).all (·.1.isSome) = true := by rfl) (hks : (backToKw pos (keywordEach kws X.env)).filterMap (·.1) = ks := by rfl)
    (hdb : (x == ("__debug__" : Str)) = false := by decide) (he : starEach (e :: es) X.env = (false, eval e X.env) :: starEach es X.env := by rfl)
    (hpl : ((backTo pos (starEach (e :: es) X.env)).any (·.1) || (backToKw pos (keywordEach kws X.env)).any (·.1.isNone)) = false := by rfl) (hK : X.K = K := by rfl) :
    DE X W (.Call (.Name x p) (e :: es) kws pos) (tCallN n ks.length (spD K (n + ks.length) F) (fun vs zs => vs ++ zs) E0 ta tk) (callK F n ks.length f g) := by
  subst hK
  obtain ⟨fa, fd, ps, G, hm, hk, hb⟩ := c.ex
  exact ⟨pe_callN G (hr.mono hkj) hg hm hk hb pass0 ha.pa hkw.pk hall hks hdb he hpl, ev_callK ha.ev hkw.ev⟩
/-- a def with defaults -/
structure DnD (K : PySem.W.Frag) (mg : Str → Option Value) (x : Str) (st : Stmt) (dds : List D) : Prop where
  ex : ∃ (fa : Addr) (fd : FuncData), FunD K x x (defArgs st) (defBody st) (defScope st) (dds.map vOf) [] fa fd ∧ mg x = some (.ref fa)
theorem fnD_ok {P : Program} {w : World} {K : PySem.W.Frag} {mg : Str → Option Value} {base : Heap} {x : Str} {st : Stmt} {dvs : List V} {fa : Addr} {fd : FuncData} {N ps : List Str} {k m n : Nat} {b : En → Out} (F : FunD K x x (defArgs st) (defBody st) (defScope st) dvs [] fa fd) (S : FnScope N ps (defScope st)) (hm : m = ps.length) (hn : n = N.length)
    (h : ∀ (fa : Addr) (cdv : Value) (A : Around) (outer : List Env) (s : Shared) (H : Hp) (E : XK), Room k (A.deeper (PyProof.Rows.envOfC x (defScope st) s.heap.objs.size fa cdv)) → ∃ t, DSs (cxOf CX0 P w K mg base N x (defScope st) fa cdv A outer s H E).nox noW (defBody st) t b) :
    FnOk P w K mg base CX0 (k + 1) fa fd ps (spD K m (runF m n b)) := by
  subst hm hn
  refine F.ok S (fun vs H Q E hs => ?_) (fun cdv A outer s H vs Q E hr hs => ?_)
  · obtain ⟨G, as, z, _, hl, ha, _⟩ := hs
    rw [ha.len, hl]
  · obtain ⟨t, ht⟩ := h fa cdv A outer s H E hr
    obtain ⟨G, as, z, gh, hl, ha, hz, q⟩ := hs
    refine ⟨t, ht.ps.nox, ?_⟩
    have r : Rel K noW H G G (startE N.length as) (L2.start N vs) H := start_rel gh ha
    refine ht.sv H G G _ _ H _ r ?_
    unfold runF at hz
    rw [if_pos hl] at hz
    split at hz
    · rename_i u eu
      cases hz
      rw [eu]
      exact fun G' H' v s r' hv => q G' H' v ⟨s, r'.bh, r'.gh, r'.fr⟩ hv
    · rename_i e' ee
      cases hz
      rw [ee]
      exact fun G' σ' H' s r' => q G' H' .non ⟨s, r'.bh, r'.gh, r'.fr⟩ .non
    · cases hz
    · cases hz
/-- its promise, and how it may be called -/
structure Fd (P : Program) (w : World) (K : PySem.W.Frag) (mg : Str → Option Value) (base : Heap) (k : Nat) (x : Str) (st : Stmt) (ps : List Str) (dds : List D) (F : Fn) : Prop where
  ex : ∃ (fa : Addr) (fd : FuncData), FunD K x x (defArgs st) (defBody st) (defScope st) (dds.map vOf) [] fa fd ∧ mg x = some (.ref fa) ∧ FnOk P w K mg base CX0 k fa fd ps (spD K ps.length F)
  len : ∀ as z, F as = .ok z → as.length = ps.length
theorem fd_mk {P : Program} {w : World} {K : PySem.W.Frag} {mg : Str → Option Value} {base : Heap} {x : Str} {st : Stmt} {dds : List D} {N ps : List Str} {k m n : Nat} {b : En → Out} (d : DnD K mg x st dds) (S : FnScope N ps (defScope st)) (hm : m = ps.length) (hn : n = N.length)
    (h : ∀ (fa : Addr) (cdv : Value) (A : Around) (outer : List Env) (s : Shared) (H : Hp) (E : XK), Room k (A.deeper (PyProof.Rows.envOfC x (defScope st) s.heap.objs.size fa cdv)) → ∃ t, DSs (cxOf CX0 P w K mg base N x (defScope st) fa cdv A outer s H E).nox noW (defBody st) t b) :
    Fd P w K mg base (k + 1) x st ps dds (runF m n b) := by
  obtain ⟨fa, fd, F, hm'⟩ := d.ex
  subst hm
  exact ⟨⟨fa, fd, F, hm', fnD_ok F S rfl hn h⟩, runF_len⟩
section
variable {P : Program} {w : World} {K : PySem.W.Frag} {mg : Str → Option Value} {base : Heap} {k : Nat} {x : Str} {st : Stmt} {ps : List Str} {dds : List D} {F : Fn}
/-- n values are written, the defaults behind the first j fill up -/
theorem Fd.cl (c : Fd P w K mg base k x st ps dds F) (n j : Nat) (hd : dds ≠ []) (hf : (dds.drop j).all flat = true) (hn : n + (dds.length - j) = ps.length)
    (h : ∀ (T : Addr) (kV doc pm : Value) (an : Option Addr) (cdv ct : Value) (us its : List Value), us.length = n → its.length = dds.length →
      ∃ k, bindArgs (PySem.W.fnOf x x (defArgs st) (defBody st) (defScope st) (.ref T) kV doc pm an cdv ct) ⟨us, []⟩ = seqItems? (.ref T) >>= k ∧ k (some its.toArray) = pure (ps.zip (us ++ its.drop j))) : Cl P w K mg base k x ps.length F (dds.drop j) := by
  obtain ⟨fa, fd, G, hm, ho⟩ := c.ex
  obtain ⟨ds, r, b⟩ := G.binds1 n j (by simpa using hd) (by simpa using hn) (by simpa using h)
  exact ⟨⟨fa, fd, ps, ds, ho, hm, G.kp, b, by rw [List.map_drop]; exact r⟩, hf, c.len⟩
theorem Fd.clK (c : Fd P w K mg base k x st ps dds F) (n : Nat) (ks : List Str) (hd : dds ≠ []) (hn : n + ks.length = ps.length)
    (h : ∀ (T : Addr) (kV doc pm : Value) (an : Option Addr) (cdv ct : Value) (us ws its : List Value), us.length = n → ws.length = ks.length → its.length = dds.length →
      ∃ k, bindArgs (PySem.W.fnOf x x (defArgs st) (defBody st) (defScope st) (.ref T) kV doc pm an cdv ct) ⟨us, ks.zip ws⟩ = seqItems? (.ref T) >>= k ∧ k (some its.toArray) = pure (ps.zip (us ++ ws))) : ClK P w K mg base k x n ks F := by
  obtain ⟨fa, fd, G, hm, ho⟩ := c.ex
  refine ⟨fa, fd, ps, by rw [hn]; exact ho, hm, G.kp, ⟨fun s us ws X l1 l2 => ?_, fun r1 r2 => r1.append r2⟩⟩
  obtain ⟨oc, od, dV, kV, doc, pm, an, cdv, ct, osl, rfl, lk, hcd, hD, hK⟩ := G.ex
  rcases hD with ⟨e, _⟩ | ⟨_, T, o, its, m, rfl, lT, oT, rT⟩
  · exact absurd e (by simpa using hd)
  · obtain ⟨k', e1, e2⟩ := h T kV doc pm an cdv ct us ws its l1 l2 (by rw [← rT.length, List.length_map])
    refine BindsTo.of_looks fun M => ?_
    rw [e1]
    exact looks_items X lT oT (.of_pure e2)
end
theorem dnd_mk {K : PySem.W.Frag} {h : Heap} {mg : Str → Option Value} {x : Str} {st : Stmt} {dds : List D} {f T : Addr} {oc : Value} {od an : Option Addr} {sl : Array (Option Value)} {kV dc pm cd ct : Value} {o : Obj} {its : List Value} {n : Nat} (X : K.In h) (G : h.Ns mainGlobals mg) (a : PySem.W.nsIn K mainGlobals x = some (some (.ref f)))
    (l : K.lookup f = some ⟨oc, od, .func (PySem.W.fnOf x x (defArgs st) (defBody st) (defScope st) (.ref T) kV dc pm an cd ct), sl⟩) (c : PySem.W.codeIn K cd x = true) (k : PySem.W.keepIn K (.ref f) = true) (t : K.lookup T = some o) (td : o.data = .seq its.toArray n) (r : Vals (dds.map vOf) its) (hd : dds ≠ []) : DnD K mg x st dds :=
  ⟨f, _, ⟨⟨oc, od, _, kV, dc, pm, an, cd, ct, sl, rfl, l, c, .inr ⟨by simpa using hd, T, o, its, n, rfl, t, td, r⟩, .inl rfl⟩, k⟩, PySem.W.mg_of X G a⟩
end DL

namespace DLong
open PySem
open Sem (wp)
open AutoSeq1 (wpAny_loadPart')
section
variable {prog : Program} {w : World} {A : Around} {E : Value → Shared → Prop} {s : Shared}
theorem ext_long {R : Result → Shared → Prop} {r : Addr} {a b c : Int} {t u v : Tok} {n : Nat} (hh : A.handled = none) (hr : IsRange s.heap r a b c t u v) (big : Builtin.Range.small a b c = false)
    (hn : Builtin.Range.rangeSize a b c = n) (nl : n ≤ 2 ^ 24) (S : Addr) (res : Value) (c₀ : Nat) (hS : s.heap.get? S = some { cls := .type "list", data := .seq #[] c₀ })
    (kR : ∀ h' tk ac c', (∀ b o, b ≠ S → s.heap.get? b = some o → h'.get? b = some o) → h'.get? S = some { cls := .type "list", dict := none, data := .seq ac c', slots := #[] } →
      ItemsOf (fun i v => ∃ t, v = .int (a + i * c) t) ac n → R (.ok (.ret res)) { s with heap := h', toks := tk }) :
    wpAny (model prog w) A.in1 (Builtin.List.listExtendWith (.ref S) (.ref r) res)
      (fun fin s' => match fin with | .done f => R (.ok f) s' | .again c' => c'.quiet = true ∧ codeAny (model prog w) A c' R s') (fun e s' => R (.error e) s') s := by
  have nSr : S ≠ r := fun e => by rw [e, hr] at hS; simp at hS
  have lS : S < s.heap.objs.size := Heap.lt_size hS
  have nSI : S ≠ s.heap.objs.size := Nat.ne_of_lt lS
  have fS : S ∉ [s.heap.objs.size] := fun hm => nSI (List.mem_singleton.mp hm)
  have W := (Walks.longrange (prog := prog) (w := w) (A := A.in1) hh s.heap.objs.size a c n).toS

  have key : ∀ (h : Heap) (c₁ tk : Nat), IsLongIter h s.heap.objs.size (a + ((0 : Nat) : Int) * c) ((n : Int) - ((0 : Nat) : Int)) c → (∀ b o, b ≠ S → s.heap.get? b = some o → h.get? b = some o) →
      h.get? S = some { cls := .type "list", data := .seq #[] c₁ } → codeAny (model prog w) A (.builtin "list.extend.loop" ⟨[.ref S, .ref s.heap.objs.size, res], []⟩) R { s with heap := h, toks := tk } := by
    intro h c₁ tk i0 kp s1
    refine codeAny_extend_loopS W (by rw [sizeLine_eq]; omega) S fS res n 0 _ #[] c₁ rfl (Nat.zero_le _) i0 s1 (ItemsOf.nil _) fun s' ac c' hm sS ha => ?_
    rw [Moved.eq_with hm]
    refine kR s'.heap s'.toks ac c' (fun b o hb e => hm.heap b o (fun hmem => ?_) (kp b o hb e)) sS ha
    rcases List.mem_cons.mp hmem with e' | hmem
    · exact hb e'
    · exact absurd (Heap.lt_size e) (by rw [List.mem_singleton.mp hmem]; exact Nat.lt_irrefl _)
  unfold Builtin.List.listExtendWith
  refine wpAny_bind (wpAny_typeOf (T := "range") ⟨_, hr, rfl⟩ ?_)
  have h1 : Builtin.List.listSameRef (.ref S) (.ref r) = false := by simp [Builtin.List.listSameRef, nSr]
  have h2 : (Value.type "range" == Value.type "list") = false := by decide
  have h3 : (Value.type "range" == Value.type "tuple") = false := by decide
  simp only [h1, h2, h3, Bool.or_false, Bool.false_eq_true, if_false]
  refine wpAny_bind (wpAny_pyIter_longrange hr big ?_)
  refine wpAny_bind (wpAny_holding (wpAny_hint_range (n := n) (Heap.get?_push_of_some _ hr) hn nl ?_))
  have i1 : IsLongIter (s.heap.push { cls := .type "longrange_iterator", data := .fields #[rawInt a, rawInt (Builtin.Range.rangeSize a b c), rawInt c] }) s.heap.objs.size (a + ((0 : Nat) : Int) * c) ((n : Int) - ((0 : Nat) : Int)) c := by
    show IsLongIter _ _ _ _ _; rw [hn]; simpa using Heap.get?_push_size _ rfl
  have s1 := Heap.get?_push_of_some { cls := .type "longrange_iterator", data := .fields #[rawInt a, rawInt (Builtin.Range.rangeSize a b c), rawInt c] } hS
  refine wpAny_ite_split (fun _ => ?_) (fun _ => wpAny_pure ⟨plainId_quiet F.plain_extend_loop _, key _ c₀ _ i1 (fun b o _ e => Heap.get?_push_of_some _ e) s1⟩)
  refine wpAny_bind (wpAny_rule ?_)
  refine wpAny_bind ?_
  show wpAny _ _ (updateSeq S (·.push .none) >>= fun _ => updateSeq S (·.pop)) _ _ _
  refine wpAny_bind (wpAny_updateSeq s1 rfl ?_)
  have s2 := Heap.get?_update_self (Obj.mapSeq (·.push Value.none)) s1 rfl
  refine wpAny_updateSeq (hz := by seq_fits) s2 rfl ?_
  have s3 := Heap.get?_update_self (Obj.mapSeq (·.pop)) s2 rfl
  refine wpAny_pure ⟨plainId_quiet F.plain_extend_loop _, key _ _ _ ?_ (fun b o hb e => ?_) s3⟩
  · exact (Heap.get?_update_other _ _ nSI).trans ((Heap.get?_update_other _ _ nSI).trans i1)
  · exact (Heap.get?_update_other _ _ (Ne.symm hb)).trans ((Heap.get?_update_other _ _ (Ne.symm hb)).trans (Heap.get?_push_of_some _ e))

theorem init_long {R : Result → Shared → Prop} {r : Addr} {a b c : Int} {t u v : Tok} {n : Nat} (hh : A.handled = none) (hr : IsRange s.heap r a b c t u v) (big : Builtin.Range.small a b c = false)
    (hn : Builtin.Range.rangeSize a b c = n) (nl : n ≤ 2 ^ 24) (S : Addr) (hS : s.heap.get? S = some { cls := .type "list", data := .seq #[] })
    (kR : ∀ h' tk ac c', (∀ b o, b ≠ S → s.heap.get? b = some o → h'.get? b = some o) → h'.get? S = some { cls := .type "list", dict := none, data := .seq ac c', slots := #[] } →
      ItemsOf (fun i v => ∃ t, v = .int (a + i * c) t) ac n → R (.ok (.ret .none)) { s with heap := h', toks := tk }) :
    wpAny (model prog w) A.in1 (Builtin.«list.__init__» ⟨[.ref S, .ref r], []⟩)
      (fun fin s' => match fin with | .done f => R (.ok f) s' | .again c' => c'.quiet = true ∧ codeAny (model prog w) A c' R s') (fun e s' => R (.error e) s') s := by
  have nSr : S ≠ r := fun e => by rw [e, hr] at hS; simp at hS
  show wpAny _ _ (do let old ← Builtin.List.listItems (.ref S); Builtin.List.listUpdate (.ref S) (fun _ => #[]); letGo old.toList.reverse; Builtin.List.listExtendWith (.ref S) (.ref r) .none) _ _ s
  refine wpAny_bind ?_
  unfold Builtin.List.listItems
  refine wpAny_bind (wpAny_seqItems hS rfl (wpAny_pure ?_))
  show wpAny _ _ (updateSeq S (fun _ => #[]) >>= fun _ => letGo (#[] : Array Value).toList.reverse >>= fun _ => Builtin.List.listExtendWith (.ref S) (.ref r) .none) _ _ s
  refine wpAny_bind (wpAny_updateSeq hS rfl ?_)
  have s2 := Heap.get?_update_self (Obj.mapSeq (fun _ => (#[] : Array Value))) hS rfl
  have oth : ∀ b o, b ≠ S → s.heap.get? b = some o → (s.heap.update S (Obj.mapSeq (fun _ => (#[] : Array Value)))).get? b = some o :=
    fun b o hb e => (Heap.get?_update_other _ _ (Ne.symm hb)).trans e
  refine wpAny_bind (wpAny_letGo ?_)
  refine ext_long hh (oth r _ (Ne.symm nSr) hr) big hn nl S .none _ s2 fun h' tk ac c' kp sS ha => ?_
  exact kR h' tk ac c' (fun b o hb e => kp b o hb (oth b o hb e)) sS ha
theorem list_long {Q : Value → Shared → Prop} {r : Addr} {a b c : Int} {t u v : Tok} {n : Nat} (hh : A.handled = none) (hr : IsRange s.heap r a b c t u v) (big : Builtin.Range.small a b c = false)
    (hn : Builtin.Range.rangeSize a b c = n) (nl : n ≤ 2 ^ 24)
    (kQ : ∀ h' tk ac c', (∀ b o, s.heap.get? b = some o → h'.get? b = some o) →
      h'.get? s.heap.objs.size = some { cls := .type "list", dict := none, data := .seq ac c', slots := #[] } → ItemsOf (fun i v => ∃ t, v = .int (a + i * c) t) ac n → Q (.ref s.heap.objs.size) { s with heap := h', toks := tk }) :
    wpAny (model prog w) A (call (.type "list") [.ref r]) Q E s := by
  refine callType_codes (Q₁ := fun obj s₁ => obj = .ref s.heap.objs.size ∧ s₁ = { s with heap := s.heap.push { cls := .type "list", data := .seq #[] } }) F.called_list (F.typeCall_list_1 _) F.entry_list_init
    (code_list_new _ ⟨rfl, rfl⟩) fun obj s₁ h₁ => ?_
  obtain ⟨rfl, rfl⟩ := h₁
  have hS : (s.heap.push { cls := .type "list", data := .seq #[] }).get? s.heap.objs.size = some { cls := .type "list", data := .seq #[] } := Heap.get?_push_size _ rfl
  refine ⟨⟨_, hS, rfl⟩, F.args_list_init_2 _ _, init_long (A := A.in1) hh (Heap.get?_push_of_some _ hr) big hn nl _ hS fun h' tk ac c' kp sS ha => ?_⟩
  exact ⟨rfl, kQ h' tk ac c' (fun b o e => kp b o (Nat.ne_of_lt (Heap.lt_size e)) (Heap.get?_push_of_some _ e)) sS ha⟩
end
end DLong
namespace DL
open PySem L2 PySem.Spec PyProof.Rows
section
variable {X : Cx} {W : Wi} {e a b : Expr} {ta tb : TE} {f g : En → Res Vl} {te : L2.St → Hp → (Int → Int → Hp → Prop) → Prop}
/-- list(range(..)), whatever its bounds; its length is bounded -/
def tLsR (te : L2.St → Hp → (Int → Int → Hp → Prop) → Prop) : TE := fun σ H Q => te σ H fun a b H1 => (b - a).toNat ≤ 2 ^ 24 ∧ ∀ q, H1 q = none → Q (.ref q) (upd H1 q (.lst (rgV a b)))
theorem pe_lsR {p pos : Pos} (hc : X.calm = true) (hg : Gl X "list") (hm : X.mg "list" = none) (he : PRg X e te) (na : starEach [e] X.env = (false, eval e X.env) :: starEach [] X.env) : PE X (.Call (.Name "list" p) [e] [] pos) (tLsR te) := by
  refine ⟨fun pins s σ H Q I h => Call_ (ld_blt I hg hm PyProof.Rows.boot_list (PyProof.Rows.callWith_type1 (PyProof.Rows.args_cons (thn (he pins s σ H _ I h) fun x s1 ⟨r, i, j, t, u, v, H1, ex, hr, I1, nl, q⟩ => PyProof.Rows.args_nil ?_) na) na))⟩
  subst ex
  have fin : ∀ (h' : Heap) (tk : Nat) (acc : Array Value) (c' : Nat), (∀ b o, s1.heap.get? b = some o → h'.get? b = some o) → h'.get? s1.heap.objs.size = some { cls := .type "list", dict := none, data := .seq acc c', slots := #[] } →
      ItemsOf (fun n v => ∃ t, v = .int (i + n * 1) t) acc (j - i).toNat → EP X pins σ Q (.ref s1.heap.objs.size) { s1 with heap := h', toks := tk } := fun h' tk acc c' hk e' hi => by
    refine ⟨.ref s1.heap.objs.size, upd H1 s1.heap.objs.size (.lst (rgV i j)), I1.laid hk (Nat.le_refl _) (show ObjOk X.prog X.w _ _ _ (.lst (rgV i j)) from ⟨?_, acc.toList, c', vals_rg hi, ?_⟩), rfl, q _ (I1.hok.fresh (Nat.le_refl _))⟩
    · rw [rgV_length, sizeLine_eq]
      exact nl
    · rw [Array.toArray_toList]
      exact e'
  cases hs : Builtin.Range.small i j 1 with
  | true => exact call_list_range (n := (j - i).toNat) (I1.ok.hd hc) hr hs (PyProof.Rows.rangeSize_nat i j) nl fin
  | false => exact DLong.list_long (n := (j - i).toNat) (I1.ok.hd hc) hr hs (PyProof.Rows.rangeSize_nat i j) nl fin
def lsR1 (f : En → Res Vl) : En → Res Vl := fun env => (f env).bind fun u => match u.d with
  | .int j => if j.toNat ≤ 2 ^ 24 then .ok ⟨.o, .lst (rngD 0 j.toNat)⟩ else .no
  | _ => .no
def lsR2 (f g : En → Res Vl) : En → Res Vl := fun env => (f env).bind fun u => (g env).bind fun w => match u.d, w.d with
  | .int i, .int j => if (j - i).toNat ≤ 2 ^ 24 then .ok ⟨.o, .lst (rngD i (j - i).toNat)⟩ else .no
  | _, _ => .no
theorem rep_rgV {K : PySem.W.Frag} {G : Hp} (a b : Int) : RepL K G (rgV a b) (rngD a (b - a).toNat) := by
  unfold rgV rngD
  generalize (b - a).toNat = n
  have : ∀ l : List Nat, RepL K G (l.map fun i => V.int (a + (i : Nat))) (l.map fun (i : Nat) => D.int (a + i)) := fun l => by
    induction l with
    | nil => exact .nil
    | cons x l ih => exact .cons (.int _) ih
  exact this _
theorem de_lsR1 {p p2 pos pos2 : Pos} (hm : X.mg "list" = none) (hmr : X.mg "range" = none) (ha : DE X W a ta f) (hc : X.calm = true := by rfl) (hg : Gl X "list" := by rfl) (hgr : Gl X "range" := by rfl) (na : starEach [a] X.env = (false, eval a X.env) :: starEach [] X.env := by rfl)
    (nb : starEach [.Call (.Name "range" p2) [a] [] pos2] X.env = (false, eval (.Call (.Name "range" p2) [a] [] pos2) X.env) :: starEach [] X.env := by rfl) : DE X W (.Call (.Name "list" p) [.Call (.Name "range" p2) [a] [] pos2] [] pos) (tLsR (tRg1 ta)) (lsR1 f) :=
  ⟨pe_lsR hc hg hm (prg_1 hgr hmr ha.pe na) nb, ⟨fun B G0 G env σ H z r e Q k => (by
    obtain ⟨u, e1, e2⟩ := Res.bind_eq e
    refine ha.ev.ok B G0 G env σ H u r e1 _ fun G' H' v x hv => ?_
    have y := hv.look (r.ext x)
    split at e2
    · rename_i j ej
      obtain ⟨c, rfl⟩ := if_ok e2
      rw [ej] at y
      refine ⟨j, y.int_inv, by simpa using c, new_list (r.ext x) (by have := rep_rgV (K := X.K) (G := G') 0 j; simpa using this) fun G2 H2 w x2 hw => k G2 H2 w (x.trans x2) (hw.from x.hh)⟩
    · cases e2), fun B G0 G env σ H x r e w Q => by
    rcases Res.bind_ex e with e1 | ⟨u, e1, e⟩
    · exact ha.ev.ex B G0 G env σ H x r e1 w _
    · exact absurd e (by
        split <;> first
          | exact if_nx
          | exact fun z => nomatch z)⟩⟩
theorem de_lsR2 {p p2 pos pos2 : Pos} (hm : X.mg "list" = none) (hmr : X.mg "range" = none) (ha : DE X W a ta f) (hb : DE X W b tb g) (hc : X.calm = true := by rfl) (hg : Gl X "list" := by rfl) (hgr : Gl X "range" := by rfl) (na : starEach [a, b] X.env = (false, eval a X.env) :: starEach [b] X.env := by rfl)
    (nb : starEach [b] X.env = (false, eval b X.env) :: starEach [] X.env := by rfl) (np : (backTo pos2 (starEach [b] X.env)).any (·.1) = false := by rfl)
    (nc : starEach [.Call (.Name "range" p2) [a, b] [] pos2] X.env = (false, eval (.Call (.Name "range" p2) [a, b] [] pos2) X.env) :: starEach [] X.env := by rfl) : DE X W (.Call (.Name "list" p) [.Call (.Name "range" p2) [a, b] [] pos2] [] pos) (tLsR (tRg2 ta tb)) (lsR2 f g) :=
  ⟨pe_lsR hc hg hm (prg_2 hgr hmr ha.pe hb.pe na nb np) nc, ⟨fun B G0 G env σ H z r e Q k => (by
    obtain ⟨u, e1, e2⟩ := Res.bind_eq e
    obtain ⟨w, e3, e4⟩ := Res.bind_eq e2
    exact ev_two ha.ev hb.ev r e1 e3 fun G' H' x y xt r' hx hy => by
      have a1 := hx.look r'
      have b1 := hy.look r'
      split at e4
      · rename_i i j ei ej
        obtain ⟨c, rfl⟩ := if_ok e4
        rw [ei] at a1
        rw [ej] at b1
        exact ⟨i, j, a1.int_inv, b1.int_inv, c, new_list r' (rep_rgV i j) fun G2 H2 w x2 hw => k G2 H2 w (xt.trans x2) (hw.from xt.hh)⟩
      · cases e4), fun B G0 G env σ H x r e w Q => by
    rcases Res.bind_ex e with e1 | ⟨u, e1, e⟩
    · exact ha.ev.ex B G0 G env σ H x r e1 w _
    rcases Res.bind_ex e with e2 | ⟨u2, e2, e⟩
    · exact ha.ev.ok B G0 G env σ H u r e1 _ fun G1 H1 v x1 hv => hb.ev.ex B G0 G1 env σ H1 x (r.ext x1) e2 (w.ext x1) _
    · exact absurd e (by
        split <;> first
          | exact if_nx
          | exact fun z => nomatch z)⟩⟩
end
end DL

namespace DL
open PySem L2
/-! the law itself -/
structure DnL (K : PySem.W.Frag) (mg : Str → Option Value) (x : Str) (st : Stmt) (p : Str) : Prop where
  ex : ∃ (fa : Addr) (fd : FuncData), Fun K x x st fa fd ∧ mg x = some (.ref fa) ∧ ∀ (s : Shared) (v : Value), BindsTo s fd ⟨[v], []⟩ [(p, v)]
theorem dnl_mk {K : PySem.W.Frag} {h : Heap} {mg : Str → Option Value} {x : Str} {st : Stmt} {p : Str} {f : Addr} {oc : Value} {od an : Option Addr} {sl : Array (Option Value)} {kV dc pm cd ct : Value} (X : K.In h) (G : h.Ns mainGlobals mg) (a : PySem.W.nsIn K mainGlobals x = some (some (.ref f)))
    (l : K.lookup f = some ⟨oc, od, .func (PySem.W.fnOf x x (defArgs st) (defBody st) (defScope st) .none kV dc pm an cd ct), sl⟩) (c : PySem.W.codeIn K cd x = true) (k : PySem.W.keepIn K (.ref f) = true)
    (hb : ∀ (kV doc pm : Value) (an : Option Addr) (cdv ct v : Value), bindArgs (PySem.W.fnOf x x (defArgs st) (defBody st) (defScope st) .none kV doc pm an cdv ct) ⟨[v], []⟩ = pure [(p, v)]) : DnL K mg x st p :=
  ⟨f, _, fun_mk l c k, PySem.W.mg_of X G a, fun s v => .of_eq (hb _ _ _ _ _ _ v)⟩
def LawOk (P : Program) (w : World) (K : PySem.W.Frag) (mg : Str → Option Value) (k : Nat) (x p : Str) (F : Fn) : Prop := ∃ (fa : Addr) (fd : FuncData), mg x = some (.ref fa) ∧ (∀ (s : Shared) (v : Value), BindsTo s fd ⟨[v], []⟩ [(p, v)]) ∧ ∀ base : Heap, FnOk P w K mg base CX0 k fa fd [p] (spD K 1 F)
theorem law_mk {P : Program} {w : World} {K : PySem.W.Frag} {mg : Str → Option Value} {x : Str} {st : Stmt} {N : List Str} {p : Str} {k n : Nat} {b : En → Out} (d : DnL K mg x st p) (S : FnScope N [p] (defScope st)) (hn : n = N.length)
    (h : ∀ (base : Heap) (fa : Addr) (cdv : Value) (A : Around) (outer : List Env) (s : Shared) (H : Hp) (E : XK), Room k (A.deeper (PyProof.Rows.envOfC x (defScope st) s.heap.objs.size fa cdv)) → ∃ t, DSs (cxOf CX0 P w K mg base N x (defScope st) fa cdv A outer s H E).nox noW (defBody st) t b) :
    LawOk P w K mg (k + 1) x p (runF 1 n b) := by
  obtain ⟨fa, fd, F, hm', hb⟩ := d.ex
  exact ⟨fa, fd, hm', hb, fun base => fn_ok F S rfl hn (fun cdv A outer s H E hr => h base fa cdv A outer s H E hr)⟩
theorem law_walk {l : PySem.W.OpenLaw} {k : Nat} {q : Program} {loose : List Str} {XP : (Str → Option Value) → Heap → Prop} {YP : World → Heap → Prop} {d : DefRec} {K : Params → PySem.W.Frag} {x p : Str} {Fl : Fn} (hF : ∀ ns : List Int, Fl [(true, .fz (ns.map D.int))] = .ok ⟨.g, .bl true⟩)
    (hn : l.most = some 63) (hdf : d.params.defaults = []) (hr : Room k callerA) (hx : d.name = x)
    (hY : ∀ (w : World) (h : Heap), YP w h → (K w.params).In h)
    (F : ∀ (w : World) (mg : Str → Option Value) (h : Heap), (K w.params).In h → h.Ns mainGlobals mg → LawOk l.prog w (K w.params) mg k x p Fl) :
    PySem.W.WalkO q loose XP YP l.row.toRowW d [] (fun f vs => PySem.call f vs) := by
  refine L2.walk_of (n := 63) (k := k) (x := p) (CX := fun _ => CX0) (sp := fun w => spD (K w.params) 1 Fl) hn (by decide) hdf hr hY ?_ ?_ fun _ _ _ _ _ z => z
  · intro w mg fa h KX G hmg
    obtain ⟨fa', fd, hm, hb, hf⟩ := F w mg h KX G
    rw [hx, hm] at hmg
    cases hmg
    exact ⟨fd, hb, fun base _ _ => hf base⟩
  · intro w H a ns hl hO hS
    refine ⟨H, [(true, .fz (ns.map D.int))], ⟨.g, .bl true⟩, Same.refl H, rfl, ?_, hF ns, ?_⟩
    · exact ⟨.ref a, [], rfl, .fz hS (RepL.ofInts _), rfl⟩
    · intro G' H' v x hv
      cases hv
      rfl
end DL

namespace DL
open PySem L2
/-! ### defs that may raise -/
def spX (K : PySem.W.Frag) (n : Nat) (F : Fn) : Sp := fun vs H Q E => ∃ (G : Hp) (as : List (Bool × D)), Same G H ∧ as.length = n ∧ ArgsOk K G H as vs ∧
  ((∃ z, F as = .ok z ∧ ∀ G' H' v, Ext G H G' H' → Rp K H G' H H' z v → Q v H') ∨ ∃ x, F as = .ex x ∧ ∀ G' H' cls d, Ext G H G' H' → RepX K G' H' x cls d → E cls d H')
/-- what leaves a def -/
abbrev outW (E : XK) : Wi := ⟨fun cls d _ H => E cls d H, 0, .none, none⟩
theorem fnX_ok {P : Program} {w : World} {K : PySem.W.Frag} {mg : Str → Option Value} {base : Heap} {x qual : Str} {st : Stmt} {fa : Addr} {fd : FuncData} {N ps : List Str} {k m n : Nat} {b : En → Out} (F : Fun K x qual st fa fd) (S : FnScope N ps (defScope st)) (hm : m = ps.length) (hn : n = N.length)
    (h : ∀ (cdv : Value) (A : Around) (outer : List Env) (s : Shared) (H : Hp) (E : XK), Room k (A.deeper (PyProof.Rows.envOfC qual (defScope st) s.heap.objs.size fa cdv)) → Takes (cxOf (L2.CX P w) P w K mg base N qual (defScope st) fa cdv A outer s H E) (outW E).w → ∃ t, DSs (cxOf (L2.CX P w) P w K mg base N qual (defScope st) fa cdv A outer s H E) (outW E) (defBody st) t b) :
    FnOk P w K mg base (L2.CX P w) (k + 1) fa fd ps (spX K m (runF m n b)) := by
  subst hm hn
  obtain ⟨oc, od, kV, doc, pm, an, cdv, ct, osl, rfl, lk, hcd⟩ := F.ex
  refine fn_of lk hcd S (fun vs H Q E hs => ?_) fun A outer s H vs Q E hr hs => ?_
  · obtain ⟨G, as, _, hl, ha, _⟩ := hs
    rw [ha.len, hl]
  · obtain ⟨t, ht⟩ := h cdv A outer s H E hr (takes_of rfl rfl rfl rfl)
    obtain ⟨G, as, gh, hl, ha, hz⟩ := hs
    refine ⟨t, ht.ps, ?_⟩
    have r : Rel K (outW E) H G G (startE N.length as) (L2.start N vs) H := start_rel gh ha
    refine ht.sv H G G _ _ H _ r ?_
    rcases hz with ⟨z, hz, q⟩ | ⟨y, hz, q⟩
    · unfold runF at hz
      rw [if_pos hl] at hz
      split at hz
      · rename_i u eu
        cases hz
        rw [eu]
        exact fun G' H' v s r' hv => q G' H' v ⟨s, r'.bh, r'.gh, r'.fr⟩ hv
      · rename_i e' ee
        cases hz
        rw [ee]
        exact fun G' σ' H' s r' => q G' H' .non ⟨s, r'.bh, r'.gh, r'.fr⟩ .non
      · cases hz
      · cases hz
    · unfold runF at hz
      rw [if_pos hl] at hz
      split at hz
      · cases hz
      · cases hz
      · rename_i e' y' ee
        cases hz
        rw [ee]
        exact fun G' σ' H' cls d s r' hx => q G' H' cls d ⟨s, r'.bh, r'.gh, r'.fr⟩ hx
      · cases hz
/-- a def that may be called and may raise -/
structure ClX (P : Program) (w : World) (K : PySem.W.Frag) (mg : Str → Option Value) (base : Heap) (k : Nat) (x : Str) (n : Nat) (F : Fn) : Prop where
  ex : ∃ (fa : Addr) (fd : FuncData) (ps : List Str), FnOk P w K mg base (L2.CX P w) k fa fd ps (spX K n F) ∧ mg x = some (.ref fa) ∧ PySem.W.keepIn K (.ref fa) = true ∧ Binds K fd ps []
  len : ∀ as z, F as = .ok z → as.length = n
  lex : ∀ as z, F as = .ex z → as.length = n
theorem runF_lex {m n : Nat} {b : En → Out} : ∀ as x, runF m n b as = .ex x → as.length = m := fun as x h => by
  unfold runF at h
  by_cases e : as.length = m
  · exact e
  · rw [if_neg e] at h; cases h
theorem clX_mk {P : Program} {w : World} {K : PySem.W.Frag} {mg : Str → Option Value} {base : Heap} {x : Str} {st : Stmt} {N ps : List Str} {k m n : Nat} {b : En → Out} (d : Dn K mg x st ps) (S : FnScope N ps (defScope st)) (hm : m = ps.length) (hn : n = N.length)
    (h : ∀ (fa : Addr) (cdv : Value) (A : Around) (outer : List Env) (s : Shared) (H : Hp) (E : XK), Room k (A.deeper (PyProof.Rows.envOfC x (defScope st) s.heap.objs.size fa cdv)) → Takes (cxOf (L2.CX P w) P w K mg base N x (defScope st) fa cdv A outer s H E) (outW E).w → ∃ t, DSs (cxOf (L2.CX P w) P w K mg base N x (defScope st) fa cdv A outer s H E) (outW E) (defBody st) t b) :
    ClX P w K mg base (k + 1) x m (runF m n b) := by
  obtain ⟨fa, fd, F, hm', hb⟩ := d.ex
  exact ⟨⟨fa, fd, ps, fnX_ok F S hm hn (fun cdv A outer s H E hr tk => h fa cdv A outer s H E hr tk), hm', F.kp, hb⟩, runF_len, runF_lex⟩
section
variable {K : PySem.W.Frag} {W : Wi}
theorem ev_callX {F : Fn} {n : Nat} {ta : TA} {f : En → Res (List Vl)} (hn : ∀ as z, F as = .ok z → as.length = n) (hx : ∀ as z, F as = .ex z → as.length = n) (h : EvA K W ta f) : EvD K W (tCallS (spX K n F) (WE W.w) ta) (callX F [] f) := ⟨fun B G0 G env σ H z r e Q q => (by
  obtain ⟨us, e1, e⟩ := Res.bind_eq e
  obtain ⟨w, e2, e3⟩ := Res.bind_eq e
  have hw : z = w ∧ (w.k = .g ∨ w.k = .o) := by
    unfold fin at e3
    split at e3 <;> cases e3
    · exact ⟨rfl, .inl (by assumption)⟩
    · exact ⟨rfl, .inr (by assumption)⟩
  obtain ⟨rfl, hk⟩ := hw
  refine h.ok B G0 G env σ H us r e1 _ fun G1 H1 vs x hl => ?_
  have r1 := r.ext x
  rw [List.map_nil, List.append_nil] at e2
  refine ⟨G1, us.map Vl.ba, r1.gh, hn _ _ e2, hl.args r1, .inl ⟨z, e2, fun G2 H2 v x2 hv => q G2 H2 v (x.trans x2) ?_⟩⟩
  obtain ⟨k, d⟩ := z
  rcases hk with rfl | rfl
  · exact hv
  · exact Rp.from x.hh (show Rp K B G2 H1 H2 ⟨.o, d⟩ v from hv)), fun B G0 G env σ H y r e w Q => by
  rcases Res.bind_ex e with e1 | ⟨us, e1, e⟩
  · exact h.ex B G0 G env σ H y r e1 w _
  rcases Res.bind_ex e with e2 | ⟨z, _, e3⟩
  · refine h.ok B G0 G env σ H us r e1 _ fun G1 H1 vs x hl => ?_
    have r1 := r.ext x
    rw [List.map_nil, List.append_nil] at e2
    exact ⟨G1, us.map Vl.ba, r1.gh, hx _ _ e2, hl.args r1, .inr ⟨y, e2, fun G2 H2 cls d x2 hv => w G2 H2 cls d (x.trans x2) hv⟩⟩
  · exact absurd e3 fin_nx⟩
end
section
variable {X : Cx} {W : Wi} {k j n : Nat} {F : Fn} {x : Str} {p pos : Pos} {e : Expr} {es : List Expr} {ta : TA} {f : En → Res (List Vl)}
theorem de_cx {K : PySem.W.Frag} (c : ClX X.prog X.w X.K X.mg X.base k x n F) (tk : Takes X W.w) (hr : Room j X.A) (ha : DA X W (e :: es) ta f) (hkj : k ≤ j := by decide) (hg : Gl X x := by rfl) (hdb : (x == ("__debug__" : Str)) = false := by decide) (he : starEach (e :: es) X.env = (false, eval e X.env) :: starEach es X.env := by rfl) (hpl : (backTo pos (starEach es X.env)).any (·.1) = false := by rfl) (hK : X.K = K := by rfl) :
    DE X W (.Call (.Name x p) (e :: es) [] pos) (tCallS (spX K n F) (WE W.w) ta) (callX F [] f) := by
  subst hK
  obtain ⟨fa, fd, ps, G, hm, hk, hb⟩ := c.ex
  exact ⟨pe_callS G (hr.mono hkj) hg hm hk hb (fun σ => passAt tk σ) ha.pa hdb he hpl, ev_callX c.len c.lex ha.ev⟩
end
/-! ### raise -/
structure DM (X : Cx) (W : Wi) (e : Expr) (t : St → Hp → XK → Prop) (f : En → Res Exn) : Prop where
  pm : PMk X e t
  ok : ∀ (B G0 G : Hp) (env : En) (σ : L2.St) (H : Hp) (x : Exn), Rel X.K W B G0 G env σ H → f env = .ok x → ∀ Q : XK, (∀ G' H' cls d, Ext G H G' H' → RepX X.K G' H' x cls d → Q cls d H') → t σ H Q
  ne : ∀ env x, f env ≠ .ex x
def raiseO (f : En → Res Exn) : En → Out := fun env => match f env with
  | .ok x => .ex env x
  | _ => .no
theorem ds_raise {X : Cx} {W : Wi} {e : Expr} {t : St → Hp → XK → Prop} {f : En → Res Exn} {pos : Pos} (hc : X.calm = true) (tk : Takes X W.w) (h : DM X W e t f) : DS X W (.Raise (some e) none pos) (fun _ σ H => t σ H fun cls d H' => W.w cls d σ H') (raiseO f) := ⟨ps_raise hc tk h.pm, fun B G0 G env σ H D r k => by
  unfold raiseO at k
  split at k
  · rename_i x e
    exact h.ok B G0 G env σ H x r e _ (k.xok r)
  · exact k.elim⟩
end DL

namespace DL
open PySem L2
/-! ### own exceptions, made to be raised -/
/-- what __init__(self, f, g) that stores both promises -/
def spI (K : PySem.W.Frag) (C : Addr) : List Str → Sp
  | [f] => fun vs H Q _ => ∃ (a : Addr) (u : V), vs = [.ref a, u] ∧ H a = some (exo a C none) ∧ ∀ dx, H dx = none → dx ≠ a → Q .non (upd (upd H dx (exd dx [(f, u)])) a (exo a C (some dx)))
  | [f, g] => fun vs H Q _ => ∃ (a : Addr) (u v : V), vs = [.ref a, u, v] ∧ H a = some (exo a C none) ∧ ∀ dx, H dx = none → dx ≠ a → Q .non (upd (upd (upd H dx (exd dx [(f, u)])) a (exo a C (some dx))) dx (exd dx [(g, v), (f, u)]))
  | _ => fun _ _ _ _ => False
theorem init1 {P : Program} {w : World} {K : PySem.W.Frag} {mg : Str → Option Value} {base : Heap} {qual : Str} {st : Stmt} {fI C : Addr} {fd : FuncData} {k : Nat} {f : Str} (T : OexC K C) (hf : PySem.W.findIn K (.ref C) f = some none) (F : Fun K "__init__" qual st fI fd) (S : FnScope ["self", f] ["self", f] (defScope st))
    (h : ∀ (cdv : Value) (A : Around) (outer : List Env) (s : Shared) (H : Hp) (E : XK), PSs (cxOf CX0 P w K mg base ["self", f] qual (defScope st) fI cdv A outer s H E).nox (defBody st) (tOst K f (tVar 0) (tVar 1))) :
    FnOk P w K mg base CX0 (k + 1) fI fd ["self", f] (spI K C [f]) := by
  refine F.ok S (fun vs H Q E hs => ?_) (fun cdv A outer s H vs Q E hr hs => ?_)
  · obtain ⟨a, u, rfl, _⟩ := hs; rfl
  · obtain ⟨a, u, rfl, ha, q⟩ := hs
    exact ⟨_, h cdv A outer s H E, u, rfl, .ref a, rfl, a, C, rfl, T, hf, .inl ⟨ha, fun dx n ne => q dx n ne⟩⟩
theorem init2 {P : Program} {w : World} {K : PySem.W.Frag} {mg : Str → Option Value} {base : Heap} {qual : Str} {st : Stmt} {fI C : Addr} {fd : FuncData} {k : Nat} {f g : Str} (T : OexC K C) (hf : PySem.W.findIn K (.ref C) f = some none) (hg : PySem.W.findIn K (.ref C) g = some none) (F : Fun K "__init__" qual st fI fd) (S : FnScope ["self", f, g] ["self", f, g] (defScope st))
    (h : ∀ (cdv : Value) (A : Around) (outer : List Env) (s : Shared) (H : Hp) (E : XK), PSs (cxOf CX0 P w K mg base ["self", f, g] qual (defScope st) fI cdv A outer s H E).nox (defBody st) (tSeq (tOst K f (tVar 0) (tVar 1)) (tOst K g (tVar 0) (tVar 2)))) :
    FnOk P w K mg base CX0 (k + 1) fI fd ["self", f, g] (spI K C [f, g]) := by
  refine F.ok S (fun vs H Q E hs => ?_) (fun cdv A outer s H vs Q E hr hs => ?_)
  · obtain ⟨a, u, v, rfl, _⟩ := hs; rfl
  · obtain ⟨a, u, v, rfl, ha, q⟩ := hs
    refine ⟨_, h cdv A outer s H E, u, rfl, .ref a, rfl, a, C, rfl, T, hf, .inl ⟨ha, fun dx n ne => ?_⟩⟩
    exact ⟨v, rfl, .ref a, rfl, a, C, rfl, T, hg, .inr ⟨dx, [(f, u)], upd_same, by rw [upd_ne ne, upd_same], (by show 1 ≤ 900; decide), q dx n ne⟩⟩
/-- an own exception class whose __init__ stores ns -/
structure DX (P : Program) (w : World) (K : PySem.W.Frag) (mg : Str → Option Value) (base : Heap) (x : Str) (ns : List Str) : Prop where
  ex : ∃ (C fI : Addr) (fd : FuncData) (ps : List Str), mg x = some (.ref C) ∧ PySem.W.nsIn K mainGlobals x = some (some (.ref C)) ∧ OexC K C ∧ PySem.W.findIn K (.ref C) "__init__" = some (some (.ref fI)) ∧ PySem.W.typeIn K (.ref fI) = some (.type "function") ∧ Binds K fd ps [] ∧ FnOk P w K mg base CX0 1 fI fd ps (spI K C ns)
  few : ns.length = 1 ∨ ∃ f g, ns = [f, g] ∧ f ≠ g
/-- where the class x stands -/
def adr (K : PySem.W.Frag) (x : Str) : Addr := match PySem.W.nsIn K mainGlobals x with
  | some (some (.ref C)) => C
  | _ => 0
theorem adr_eq {K : PySem.W.Frag} {x : Str} {C : Addr} (h : PySem.W.nsIn K mainGlobals x = some (some (.ref C))) : adr K x = C := by
  unfold adr
  rw [h]
def mkE (x : Str) (ns : List Str) (f : En → Res (List Vl)) : En → Res Exn := fun env => match f env with
  | .ok us => if us.all Vl.keep = true ∧ us.length = ns.length then .ok ⟨x, ns.zip (us.map Vl.d)⟩ else .no
  | _ => .no
theorem spI_mono {K : PySem.W.Frag} {C : Addr} {ns : List Str} {vs : List V} {H : Hp} {Q Q' : VK} {E E' : XK} (h : spI K C ns vs H Q E) (k : ∀ v H', Q v H' → Q' v H') : spI K C ns vs H Q' E' := by
  match ns, h with
  | [f], ⟨a, u, e, ha, q⟩ => exact ⟨a, u, e, ha, fun dx n ne => k _ _ (q dx n ne)⟩
  | [f, g], ⟨a, u, v, e, ha, q⟩ => exact ⟨a, u, v, e, ha, fun dx n ne => k _ _ (q dx n ne)⟩
section
variable {X : Cx} {W : Wi} {j : Nat} {x : Str} {ns : List Str} {p pos : Pos} {e : Expr} {es : List Expr} {ta : TA} {f : En → Res (List Vl)}
theorem dm_mk {K : PySem.W.Frag} (c : DX X.prog X.w X.K X.mg X.base x ns) (hr : Room j X.A) (ha : DA X W (e :: es) ta f) (hkj : 2 ≤ j := by decide) (hg : Gl X x := by rfl) (hdb : (x == ("__debug__" : Str)) = false := by decide) (he : starEach (e :: es) X.env = (false, eval e X.env) :: starEach es X.env := by rfl) (hpl : (backTo pos (starEach es X.env)).any (·.1) = false := by rfl) (hK : X.K = K := by rfl) :
    DM X W (.Call (.Name x p) (e :: es) [] pos) (tMkO (adr K x) (spI K (adr K x) ns) [] ta) (mkE x ns f) := by
  subst hK
  obtain ⟨⟨C, fI, fd, ps, hm, hn, T, iC, tI, hb, F⟩, few⟩ := c
  rw [adr_eq hn]
  refine ⟨pmk_oex T iC tI F (hr.mono hkj) hb .nil pass0 hg hm ha.pa hdb he hpl, fun B G0 G env σ H y r e Q q => ?_, fun env y h => ?_⟩
  · unfold mkE at e
    split at e
    · rename_i us e1
      obtain ⟨⟨hk, hl⟩, rfl⟩ := if_ok e
      refine ha.ev.ok B G0 G env σ H us r e1 _ fun G1 H1 vs x1 l1 => ⟨?_, fun a hna => ?_⟩
      · rw [l1.len, hl]
        rcases few with h | ⟨f, g, rfl, _⟩
        · rw [h]; decide
        · show 2 ≤ 1000; decide
      · have rl := r.ext x1
        have rep := l1.keep hk
        have hlen : vs.length = ns.length := by rw [l1.len, hl]
        have hnz : ns.zip (us.map Vl.d) ≠ [] := by
          intro z
          have hz := congrArg List.length z
          rw [List.length_zip, List.length_map, hl, Nat.min_self] at hz
          rcases few with h | ⟨f, g, rfl, _⟩
          · rw [h] at hz; cases hz
          · cases hz
        have fin : ∀ (d : Addr) (fs : List (Str × V)) (H2 : Hp), H1 d = none → d ≠ a → (∀ b o, H1 b = some o → b ≠ a → b ≠ d → H2 b = some o) → (∀ fn y, (fn, y) ∈ ns.zip (us.map Vl.d) → ∃ v, fs.lookup fn = some v ∧ Rep X.K G1 v y) → Q (.ref C) (some d) (upd (del H2 a) d (.xd fs)) := by
          intro d fs H2 hd hda hb2 hfs
          have sm : Same H1 (upd (del H2 a) d (.xd fs)) := fun b o hbo => by
            have nb : b ≠ a := fun z => by rw [z, hna] at hbo; cases hbo
            have nd : b ≠ d := fun z => by rw [z, hd] at hbo; cases hbo
            rw [upd_ne nd, del_ne nb]
            exact hb2 b o hbo nb nd
          have gd : G1 d = none := x1.gh.free hd
          have sg : Same G1 (upd G1 d (.xd fs)) := same_upd (Same.refl _) gd
          refine q (upd G1 d (.xd fs)) _ _ _ ⟨x1.gg.trans sg, x1.hh.trans sm, fun b o hb => ?_, fun b g1 g2 => ?_⟩ ⟨C, rfl, hn, fun z => absurd z hnz, fun _ => ⟨d, fs, rfl, upd_same, fun fn y m => ?_⟩⟩
          · by_cases z : b = d
            · rw [z, upd_same] at hb ⊢; exact hb
            · rw [upd_ne z] at hb
              exact sm b o (x1.gh b o hb)
          · by_cases z : b = d
            · rw [z]; exact x1.hh.free hd
            · rw [upd_ne z] at g2
              exact x1.fr b g1 g2
          · obtain ⟨v, e1, e2⟩ := hfs fn y m
            exact ⟨v, e1, e2.mono sg⟩
        rcases few with h1 | ⟨f1, f2, rfl, hne⟩
        · match ns, vs, us, h1, hlen, hl, rep with
          | [f1], [u1], [w1], _, _, _, rep =>
            refine ⟨a, u1, rfl, upd_same, fun d hd hda => ⟨rfl, d, [(f1, u1)], upd_same, by rw [upd_ne hda, upd_same], by rw [upd_ne hda] at hd; exact hd, ?_⟩⟩
            rw [upd_ne hda] at hd
            refine fin d _ _ hd hda (fun b o hbo nb nd => by rw [upd_ne nb, upd_ne nd, upd_ne nb]; exact hbo) fun fn y hy => ?_
            cases rep with
            | cons r1 _ =>
              rcases List.mem_cons.1 hy with z | z
              · cases z
                exact ⟨u1, by simp [List.lookup], r1⟩
              · cases z
        · match vs, us, hlen, hl, rep with
          | [u1, u2], [w1, w2], _, _, rep =>
            refine ⟨a, u1, u2, rfl, upd_same, fun d hd hda => ⟨rfl, d, [(f2, u2), (f1, u1)], by rw [upd_ne (Ne.symm hda), upd_same], upd_same, by rw [upd_ne hda] at hd; exact hd, ?_⟩⟩
            rw [upd_ne hda] at hd
            refine fin d _ _ hd hda (fun b o hbo nb nd => by rw [upd_ne nd, upd_ne nb, upd_ne nd, upd_ne nb]; exact hbo) fun fn y hy => ?_
            cases rep with
            | cons r1 rr =>
              cases rr with
              | cons r2 _ =>
                rcases List.mem_cons.1 hy with z | z
                · cases z
                  have : (f1 == f2) = false := by simpa using hne
                  exact ⟨u1, by simp [List.lookup, this], r1⟩
                · rcases List.mem_cons.1 z with z | z
                  · cases z
                    exact ⟨u2, by simp [List.lookup], r2⟩
                  · cases z
    · cases e
  · unfold mkE at h
    split at h
    · exact if_nx h
    · cases h
/-- an own exception class without fields -/
structure DX0 (K : PySem.W.Frag) (mg : Str → Option Value) (x : Str) : Prop where
  ex : ∃ (C : Addr) (bmB : List Value) (B newId initId : String), mg x = some (.ref C) ∧ PySem.W.nsIn K mainGlobals x = some (some (.ref C)) ∧ ExcBaseFacts B newId initId bmB ∧ PySem.W.excIn K C bmB newId = true ∧ PySem.W.keepIn K (.ref C) = true ∧ PySem.W.subIn K (.ref C) (.type "BaseException") = some true ∧ PySem.W.typeIn K (.ref C) = some (.type "type")
theorem pmk_own0 {C : Addr} {bmB : List Value} {B newId initId : String} (F : ExcBaseFacts B newId initId bmB) (q : PySem.W.excIn X.K C bmB newId = true) (gC : X.mg x = some (.ref C)) (kC : PySem.W.keepIn X.K (.ref C) = true) (r : Raises X (.ref C)) (hg : Gl X x)
    (hdb : (x == ("__debug__" : Str)) = false := by decide) : PMk X (.Call (.Name x p) [] [] pos) (fun _ H Q => Q (.ref C) none H) := by
  intro pn sh st H0 Q inv hq
  refine wpAny_Call_Name_kw (ld_glob inv hg gC (PySem.W.callWith_K0 inv.kIn kC ?_) hdb)
  obtain ⟨z1, z2, z3, z4, z5, z6, z7, z8, z9, y0, y1, y2, y3, y4, y5, y6, y7, atC, atN, noI, tab⟩ := exc_obj inv.kIn q
  exact wpAny_call_exc_subT F tab atC atN noI (fun new b made => mk_of inv made r hq (inv.hok.gone made.new)) (Nat.zero_le _)
theorem dm_mk0 {K : PySem.W.Frag} (c : DX0 X.K X.mg x) (hg : Gl X x := by rfl) (hdb : (x == ("__debug__" : Str)) = false := by decide) (hK : X.K = K := by rfl) :
    DM X W (.Call (.Name x p) [] [] pos) (fun _ H Q => Q (.ref (adr K x)) none H) (fun _ => .ok ⟨x, []⟩) := by
  subst hK
  obtain ⟨C, bmB, B, newId, initId, hm, hn, F, q, kC, sC, tC⟩ := c
  rw [adr_eq hn]
  exact ⟨pmk_own0 F q hm kC (raises_own sC tC) hg hdb, fun B G0 G env σ H y r e Q k => by
    cases e
    exact k G H _ _ (Ext.refl r.gh) ⟨C, rfl, hn, fun _ => rfl, fun z => absurd rfl z⟩, fun env y h => nomatch h⟩
end
end DL

namespace DL
open PySem L2 PySem.W
/-! ### try: .. except T as n: .. -/
def isXc : Sl → Bool
  | .xc _ => true
  | _ => false
def noXc (e : En) : Bool := e.all fun s => !isXc s
/-- behind the suite: n is gone -/
def gone (i : Nat) : Out → Out
  | .nx e => if noXc (e.set i .no) = true then .nx (e.set i .no) else .no
  | .bk e => if noXc (e.set i .no) = true then .bk (e.set i .no) else .no
  | .ct e => if noXc (e.set i .no) = true then .ct (e.set i .no) else .no
  | .rt u => .rt u
  | _ => .no
def tryO (i : Nat) (cm : Str → Option Bool) (f su : En → Out) : En → Out := fun env => match f env with
  | .ex e x => match cm x.c with
    | some true => if noXc e = true then gone i (su (e.set i (.xc x))) else .no
    | some false => .ex e x
    | none => .no
  | o => o
section
variable {K : PySem.W.Frag} {W W' : Wi} {B G0 G : Hp} {env : En} {σ : L2.St} {H : Hp}
theorem Rel.rho (r : Rel K W B G0 G env σ H) (h : W.ρ = W'.ρ) : Rel K W' B G0 G env σ H := by
  refine ⟨r.g0, r.gh, r.bh, r.fr, r.len, fun i s o e1 e2 => ?_, r.ds⟩
  have x := r.sl i s o e1 e2
  match s, x with
  | .no, _ => trivial
  | .vl true d, x => exact x
  | .vl false d, x => exact x
  | .xc y, ⟨y1, y2⟩ => exact ⟨h ▸ y1, h ▸ y2⟩
  | .ow xs, x => exact x
theorem Rel.noXc (r : Rel K W B G0 G env σ H) (h : DL.noXc env = true) : Rel K W' B G0 G env σ H := by
  refine ⟨r.g0, r.gh, r.bh, r.fr, r.len, fun i s o e1 e2 => ?_, r.ds⟩
  have x := r.sl i s o e1 e2
  match s, x with
  | .no, _ => trivial
  | .vl true d, x => exact x
  | .vl false d, x => exact x
  | .xc y, _ =>
    have := List.all_eq_true.1 h _ (List.mem_of_getElem? e1)
    cases this
  | .ow xs, x => exact x
theorem Rel.setXc (r : Rel K W B G0 G env σ H) (h : DL.noXc env = true) {a : Addr} {cls : Value} {d : Option Addr} {x : Exn} {w : WX} (hx : RepX K G H x cls d) (i : Nat) : Rel K ⟨w, a, cls, d⟩ B G0 G (env.set i (.xc x)) (σ.set i (some (.ref a))) H := by
  have r' : Rel K ⟨w, a, cls, d⟩ B G0 G env σ H := r.noXc h
  refine ⟨r'.g0, r'.gh, r'.bh, r'.fr, by rw [List.length_set, List.length_set]; exact r'.len, fun j s o q1 q2 => ?_, fun j k xs ys L hjk q1 q2 q3 q4 => ?_⟩
  · rcases set_get q1 with ⟨rfl, rfl⟩ | ⟨n1, q1⟩
    · rcases set_get q2 with ⟨_, rfl⟩ | ⟨n2, _⟩
      · exact ⟨rfl, hx⟩
      · exact absurd rfl n2
    · rcases set_get q2 with ⟨z, _⟩ | ⟨_, q2⟩
      · exact absurd z n1
      · exact r'.sl j s o q1 q2
  · rcases set_get q1 with ⟨_, z⟩ | ⟨n1, q1⟩
    · cases z
    · rcases set_get q2 with ⟨_, z⟩ | ⟨n2, q2⟩
      · cases z
      · rcases set_get q3 with ⟨z, _⟩ | ⟨_, q3⟩
        · exact absurd z n1
        · rcases set_get q4 with ⟨z, _⟩ | ⟨_, q4⟩
          · exact absurd z n2
          · exact r'.ds j k xs ys L hjk q1 q2 q3 q4
end
/-- inside the suite -/
abbrev suW (a : Addr) (cls : Value) (d : Option Addr) : Wi := ⟨fun _ _ _ _ => False, a, cls, d⟩
theorem sv_try {K : PySem.W.Frag} {W : Wi} {c : Value} {i : Nat} {cm : Str → Option Bool} {tb : WX → TS} {ts : Addr → Value → Option Addr → TS} {f su : En → Out}
    (hcm : ∀ x b C, cm x = some b → PySem.W.nsIn K mainGlobals x = some (some (.ref C)) → PySem.W.exmOne K (.ref C) c = some b)
    (hb : ∀ w : WX, SvD K ⟨w, W.ρ⟩ (tb w) f) (hs : ∀ a cls d, SvD K (suW a cls d) (ts a cls d) su) :
    SvD K W (fun D σ H => tb (wAs K c i ts W.w D) D σ H) (tryO i cm f su) := fun B G0 G env σ H D r k => by
  refine hb _ B G0 G env σ H D (r.rho rfl) ?_
  unfold tryO at k
  cases e : f env with
  | nx e' => rw [e] at k; exact fun G' σ' H' s r' => k G' σ' H' s (r'.rho rfl)
  | bk e' => rw [e] at k; exact fun G' σ' H' s r' => k G' σ' H' s (r'.rho rfl)
  | ct e' => rw [e] at k; exact fun G' σ' H' s r' => k G' σ' H' s (r'.rho rfl)
  | rt u => rw [e] at k; exact fun G' H' v s r' hv => k G' H' v s (r'.rho rfl) hv
  | no => rw [e] at k; exact k
  | ex e' x =>
    rw [e] at k
    intro G' σ' H' cls d s r' hx
    have r1 : Rel K W B G0 G' e' σ' H' := r'.rho rfl
    obtain ⟨C, rfl, hC, hfs⟩ := id hx
    dsimp only at k
    cases ec : cm x.c with
    | none => rw [ec] at k; exact k.elim
    | some b =>
      rw [ec] at k
      refine ⟨b, hcm _ _ _ ec hC, fun hb' a hna => ?_, fun hb' => ?_⟩
      · subst hb'
        dsimp only at k
        split at k
        · rename_i hno
          refine hs a (.ref C) d B G0 G' _ _ H' _ (r1.setXc hno hx i) ?_
          cases eo : su (e'.set i (.xc x)) with
          | nx e2 =>
            rw [eo] at k
            unfold gone at k
            intro G2 σ2 H2 s2 r2
            dsimp only at k
            split at k
            · rename_i hn2
              exact k G2 _ H2 (s.trans s2) ((r2.unset i).noXc hn2)
            · exact k.elim
          | bk e2 =>
            rw [eo] at k
            unfold gone at k
            intro G2 σ2 H2 s2 r2
            dsimp only at k
            split at k
            · rename_i hn2
              exact k G2 _ H2 (s.trans s2) ((r2.unset i).noXc hn2)
            · exact k.elim
          | ct e2 =>
            rw [eo] at k
            unfold gone at k
            intro G2 σ2 H2 s2 r2
            dsimp only at k
            split at k
            · rename_i hn2
              exact k G2 _ H2 (s.trans s2) ((r2.unset i).noXc hn2)
            · exact k.elim
          | rt u =>
            rw [eo] at k
            exact fun G2 H2 v s2 r2 hv => k G2 H2 v (s.trans s2) (r2.noXc rfl) hv
          | ex e2 y => rw [eo] at k; exact k.elim
          | no => rw [eo] at k; exact k.elim
        · exact k.elim
      · subst hb'
        exact k G' σ' H' (.ref C) d s r1 hx
theorem takes_self {X : Cx} {w : WX} {pn : List (Addr × Obj)} {xe : Value → Shared → Prop} : Takes (X.tr pn (XE (X.tr pn xe) w)) w := fun u s' ⟨a, B, sI, pins, σ, H, cls, d, e, I, h1, h2, h3, h4, h5, h6, h7⟩ => ⟨a, B, sI, pins, σ, H, cls, d, e, I.wish xe, h1, h2, h3, h4, h5, h6, h7⟩
theorem ds_try {X : Cx} {W : Wi} {x n : Str} {c : Value} {i : Nat} {cm : Str → Option Bool} {body suite : List Stmt} {b₀ : Stmt} {np pos pos' : Pos} {tb : WX → TS} {ts : Addr → Value → Option Addr → TS} {f su : En → Out}
    (hcm : ∀ x b C, cm x = some b → PySem.W.nsIn X.K mainGlobals x = some (some (.ref C)) → PySem.W.exmOne X.K (.ref C) c = some b)
    (hs : X.stack = X.env :: X.outer) (hf : X.env.frame = some X.env.locals) (hN : X.N.Nodup) (hc : Names X x c) (tk : Takes X W.w)
    (hb : ∀ (w : WX) (pn : List (Addr × Obj)) (xe : Value → Shared → Prop), Takes (X.tr pn xe) w → DSs (X.tr pn xe) ⟨w, W.ρ⟩ body (tb w) f)
    (hsu : ∀ (a : Addr) (oe : Obj) (cls : Value) (d : Option Addr) (pn : List (Addr × Obj)), Zc cls d oe → (∃ vs, oe.data = .fields vs) → DSs (X.suite a ((a, oe) :: pn)) (suW a cls d) (b₀ :: suite) (ts a cls d) su)
    (hi : X.N[i]? = some n := by rfl) (hln : X.env.kindOf n = some .local := by rfl) :
    DS X W (.Try body [.ExceptHandler (some (.Name x np)) (some n) (b₀ :: suite) pos'] [] [] pos) (fun D σ H => tb (wAs X.K c i ts W.w D) D σ H) (tryO i cm f su) :=
  ⟨ps_try_as hs hf hN hi hln hc tk (fun w pn xe h1 _ => (hb w pn xe h1).ps) (fun a oe cls d pn z1 z2 => (hsu a oe cls d pn z1 z2).ps), sv_try hcm (fun w => (hb w [] (XE (X.tr [] fun _ _ => True) w) takes_self).sv) fun a cls d => (hsu a { cls := cls, dict := d, data := .fields #[] } cls d [] ⟨rfl, rfl⟩ ⟨_, rfl⟩).sv⟩
/-- what the suite reads of the caught one, of class cn -/
def xfE (i : Nat) (cn fn : Str) : En → Res Vl := fun env => match env[i]? with
  | some (.xc x) => if x.c = cn then match x.fs.lookup fn with
    | some d => .ok ⟨.g, d⟩
    | none => .no else .no
  | _ => .no
theorem lookup_mem {fn : Str} {d : D} : ∀ {l : List (Str × D)}, l.lookup fn = some d → (fn, d) ∈ l
  | [], h => by cases h
  | (g, e) :: l, h => by
    by_cases hg : fn = g
    · subst hg
      simp [List.lookup] at h
      subst h
      exact List.mem_cons_self
    · have : (fn == g) = false := by simpa using hg
      simp [List.lookup, this] at h
      exact List.mem_cons_of_mem _ (lookup_mem h)
theorem xfE_ne {i : Nat} {cn fn : Str} {env : En} {x : Exn} : xfE i cn fn env ≠ .ex x := by
  unfold xfE
  repeat' split
  all_goals exact fun z => by cases z
/-- the caught one, as the slot says -/
theorem Rel.caught {K : PySem.W.Frag} {W : Wi} {B G0 G H : Hp} {env : En} {σ : L2.St} {i : Nat} {x : Exn} (r : Rel K W B G0 G env σ H) (ex : env[i]? = some (.xc x)) : σ[i]? = some (some (.ref W.ρ.1)) ∧ RepX K G H x W.ρ.2.1 W.ρ.2.2 := by
  have hl := r.len
  have hi : i < σ.length := by
    have := (List.getElem?_eq_some_iff.mp ex).1
    omega
  have eo : σ[i]? = some σ[i] := List.getElem?_eq_getElem hi
  obtain ⟨e1, e2⟩ := r.sl i _ _ ex eo
  exact ⟨by rw [eo, e1], e2⟩
theorem ev_xf {K : PySem.W.Frag} {a : Addr} {cls : Value} {d : Option Addr} {i : Nat} {cn fn : Str} : EvD K (suW a cls d) (tXf a cls d (adr K cn) fn (tVar i)) (xfE i cn fn) := ⟨fun B G0 G env σ H u r e Q q => (by
  unfold xfE at e
  split at e
  · rename_i x ex
    split at e
    · rename_i hc
      split at e
      · rename_i y hy
        cases e
        obtain ⟨eo, C', h1, h2, h0, h3⟩ := r.caught ex
        obtain ⟨dd, l, g1, g2, g3⟩ := h3 (fun z => by rw [z] at hy; cases hy)
        obtain ⟨v, k1, k2⟩ := g3 _ _ (lookup_mem hy)
        rw [hc] at h2
        refine ⟨.ref a, eo, rfl, by rw [adr_eq h2]; exact h1, dd, l, v, g1, r.gh _ _ g2, k1, q G H v (Ext.refl r.gh) k2⟩
      · cases e
    · cases e
  · cases e), fun B G0 G env σ H x r e => absurd e xfE_ne⟩
theorem de_xf {X : Cx} {a : Addr} {oe : Obj} {cls : Value} {d : Option Addr} {pn : List (Addr × Obj)} {i : Nat} {n fn cn : Str} {p pos : Pos} (cn : Str) (T : XfC X.K (adr X.K cn)) (hno : PySem.W.findIn X.K (.ref (adr X.K cn)) fn = some none) (hz : Zc cls d oe) (hf : ∃ vs, oe.data = .fields vs) (i : Nat)
    (hN : X.N[i]? = some n := by rfl) (hv : Vis X.env.scope n := by first | exact Or.inl rfl | exact Or.inr (Or.inl rfl) | exact Or.inr (Or.inr rfl)) (hd : (n == ("__debug__" : Str)) = false := by decide) (hcd : (n == ("__classdict__" : Str)) = false := by decide)
    (hb : attributeBase (.Name n p) fn X.env (eval (.Name n p) X.env) = eval (.Name n p) X.env := by rfl) : DE (X.suite a ((a, oe) :: pn)) (suW a cls d) (.Attribute (.Name n p) fn pos) (tXf a cls d (adr X.K cn) fn (tVar i)) (xfE i cn fn) :=
  ⟨pe_xf T hno hz hf (pe_var (X := X.suite a ((a, oe) :: pn)) hN hv hd hcd) hb, ev_xf⟩
/-! ### isinstance of the caught one -/
def rIsX (K : PySem.W.Frag) (D a : Addr) (cls : Value) (d : Option Addr) : List V → Hp → VK → Prop := fun xs H Q => ∃ (c : V) (cv : Value) (b : Bool), xs = [.ref a, c] ∧ cls = .ref D ∧ (∀ dd, d = some dd → ∃ l, H dd = some (.xd l)) ∧ (∀ u, RelV c u → u = cv) ∧ PySem.W.kitOne K (.ref D) cv = some b ∧ Q (.bl b) H
theorem call_isX {X : Cx} {a D : Addr} {oe : Obj} {cls : Value} {d : Option Addr} {pn : List (Addr × Obj)} (C : ExcC X.K D) (hz : Zc cls d oe) (hf : ∃ vs, oe.data = .fields vs) : CallR (X.suite a ((a, oe) :: pn)) (.builtin "isinstance") (rIsX X.K D a cls d) := by
  intro pins s σ H xs us Q I r h
  obtain ⟨c, cv, b, rfl, hcls, hdd, hcv, e, q⟩ := h
  cases r with
  | cons rx rr =>
    cases rr with
    | cons rt rr =>
      cases rr
      cases rx
      have ec := hcv _ rt
      subst ec
      subst hcls
      obtain ⟨hget, _⟩ := I.pin (a, oe) (List.mem_append.mpr (.inl List.mem_cons_self))
      obtain ⟨vs, hv⟩ := hf
      have J : ∃ od, PySem.W.InstAt s.heap a oe D od := by
        cases d with
        | none => exact ⟨none, hget, hz.1, by unfold PySem.W.notCls; rw [hv] <;> rfl, by rw [hz.2]; trivial⟩
        | some dd =>
          obtain ⟨l, hl⟩ := hdd dd rfl
          have hx : ObjOk X.prog X.w H s.heap dd (.xd l) := I.hok dd _ hl
          obtain ⟨mA, hns, hr⟩ := hx
          obtain ⟨od, ho, _⟩ := lookIn_ns hns
          exact ⟨some od, hget, hz.1, by unfold PySem.W.notCls; rw [hv] <;> rfl, by rw [hz.2]; exact ho⟩
      obtain ⟨od, J⟩ := J
      exact PySem.W.kia_one (kitx_exc (by obtain ⟨cd, hc, _⟩ := PySem.W.any_some C.hd; rw [hc]; rfl) C.hg C.hk C.hs C.ha C.hn C.ht C.hm) I.kIn J e (fun z => nomatch z) fun tk => ⟨.bl b, H, I.kept (t' := tk) fun _ _ z => z, rfl, q⟩
def isXE (i : Nat) (cn : Str) (b : Bool) : En → Res Vl := fun env => match env[i]? with
  | some (.xc x) => if x.c = cn then .ok ⟨.g, .bl b⟩ else .no
  | _ => .no
theorem isXE_ne {i : Nat} {cn : Str} {b : Bool} {env : En} {x : Exn} : isXE i cn b env ≠ .ex x := by
  unfold isXE
  repeat' split
  all_goals exact fun z => by cases z
/-- whether a caught one of class cn has its dict is told by what was raised -/
theorem ev_isX {K : PySem.W.Frag} {a : Addr} {cls : Value} {d : Option Addr} {i : Nat} {cn : Str} {b : Bool} {v : V} {cv : Value} (hv : ∀ u, RelV v u → u = cv) (hk : PySem.W.kitOne K (.ref (adr K cn)) cv = some b) :
    EvD K (suW a cls d) (tCB (rIsX K (adr K cn) a cls d) (tCons (tVar i) (tCons (tC v) tNil))) (isXE i cn b) := ⟨fun B G0 G env σ H u r e Q q => (by
  unfold isXE at e
  split at e
  · rename_i x ex
    split at e
    · rename_i hc
      cases e
      obtain ⟨eo, C', h1, h2, h0, h3⟩ := r.caught ex
      have h2' := h2
      rw [hc] at h2
      refine ⟨.ref a, eo, v, cv, b, rfl, by rw [adr_eq h2]; exact h1, fun dd hdd => ?_, hv, hk, q G H _ (Ext.refl r.gh) (.bl _)⟩
      by_cases hn : x.fs = []
      · have := h0 hn
        rw [show d = none from this] at hdd; cases hdd
      · obtain ⟨dd', l, g1, g2, _⟩ := h3 hn
        have g1 : d = some dd' := g1
        rw [hdd] at g1
        cases g1
        exact ⟨l, r.gh _ _ g2⟩
    · cases e
  · cases e), fun B G0 G env σ H x r e => absurd e isXE_ne⟩
end DL

namespace DL
open PySem L2
/-! ### in, not in -/
def memD (x : D) (ys : List D) : Bool := ys.any fun y => PyData.eqv (toPy y) (toPy x)
def inB (x : D) (y : D) : Res Bool := match y with
  | .lst ys => if (flat x && ys.all flat) = true then .ok (memD x ys) else if SeqAt.shaped (toPy x) = true ∧ SeqAt.shaped (.list (toPyL ys)) = true then .ok (memD x ys) else .no
  | .fz ys => if (flat x && ys.all flat) = true then .ok (memD x ys) else if SeqAt.shaped (toPy x) = true ∧ SeqAt.shaped (.list (toPyL ys)) = true then .ok (memD x ys) else .no
  | .tup ys => if (flat x && ys.all flat) = true then .ok (memD x ys) else .no
  | _ => .no
def inP (neg : Bool) : Vl → Vl → Res Vl := fun u w => (inB u.d w.d).bind fun b => .ok ⟨.g, .bl (if neg then !b else b)⟩
section
variable {K : PySem.W.Frag} {G : Hp}
theorem flat_V {v : V} {d : D} (h : Rep K G v d) (f : flat d = true) : flatV v = true := by
  cases h <;> first
    | rfl
    | cases f
theorem flat_Vs : ∀ {vs : List V} {ds : List D}, RepL K G vs ds → ds.all flat = true → vs.all flatV = true
  | _, _, .nil, _ => rfl
  | _, _, .cons h l, f => by
    rw [List.all_cons, Bool.and_eq_true] at f
    rw [List.all_cons, flat_V h f.1, flat_Vs l f.2]
    rfl
theorem eqV_py {v w : V} {d e : D} (h : Rep K G v d) (k : Rep K G w e) (f : flat d = true) (g : flat e = true) : eqV v w = PyData.eqv (toPy d) (toPy e) := by
  cases h <;> first
    | (cases f; done)
    | (cases k <;> first
        | (cases g; done)
        | rfl
        | (simp [eqV, toPy, PyData.eqv]))
theorem inV_py {v : V} {d : D} (h : Rep K G v d) (f : flat d = true) : ∀ {vs : List V} {ds : List D}, RepL K G vs ds → ds.all flat = true → inV v vs = memD d ds
  | _, _, .nil, _ => rfl
  | _, _, .cons k l, g => by
    rw [List.all_cons, Bool.and_eq_true] at g
    have ih := inV_py h f l g.2
    unfold inV memD at ih ⊢
    rw [List.any_cons, List.any_cons, ih, eqV_py k h g.1 f]
theorem any_py {d : D} : ∀ {ds : List D}, (toPyL ds).any (fun z => PyData.eqv z (toPy d)) = memD d ds
  | [] => rfl
  | y :: ds => by
    have ih := any_py (d := d) (ds := ds)
    unfold memD at ih ⊢
    rw [List.any_cons, ← ih]
    rfl
def rInB (K : PySem.W.Frag) : R2 := fun x y H Q => rIn K false x y H Q ∨ rInD K x y H Q
def rNotInB (K : PySem.W.Frag) : R2 := fun x y H Q => rIn K true x y H Q ∨ rNotInD K x y H Q
theorem inP_nx {neg : Bool} (u w : Vl) (x : Exn) : inP neg u w ≠ .ex x := by
  unfold inP
  refine bind_nx (fun x => ?_) fun _ _ z => nomatch z
  unfold inB
  repeat' split
  all_goals exact fun z => by cases z
theorem in_core {W : Wi} {B G0 G' H' H : Hp} {env : En} {σ : L2.St} {u w : Vl} {x y : V} {b : Bool} (rl : Rel K W B G0 G' env σ H') (hu : Rp K B G' H H' u x) (hw : Rp K B G' H H' w y) (e : inB u.d w.d = .ok b) :
    (∃ p xs, y = .ref p ∧ (SqL K H' p xs ∨ SqT K H' p xs) ∧ flatV x = true ∧ xs.all flatV = true ∧ inV x xs = b) ∨ (∃ d ds, Dp K H' x d ∧ Dp K H' y (.list ds) ∧ SeqAt.shaped d = true ∧ SeqAt.shaped (.list ds) = true ∧ (ds.any fun z => PyData.eqv z d) = b) := by
  have a := hu.look rl
  have c := hw.look rl
  unfold inB at e
  split at e
  · rename_i ys ey
    rw [ey] at c
    obtain ⟨p, vs, rfl, h1, h2⟩ := c.lst_inv
    split at e
    · rename_i hf
      cases e
      rw [Bool.and_eq_true] at hf
      exact .inl ⟨p, vs, rfl, .inl (SqL.of h1), flat_V a hf.1, flat_Vs h2 hf.2, inV_py a hf.1 h2 hf.2⟩
    · obtain ⟨⟨c1, c2⟩, rfl⟩ := if_ok e
      exact .inr ⟨_, _, a.dp c1, c.dp c2, c1, c2, any_py⟩
  · rename_i ys ey
    rw [ey] at c
    obtain ⟨p, vs, rfl, h1, h2⟩ := c.fz_inv
    split at e
    · rename_i hf
      cases e
      rw [Bool.and_eq_true] at hf
      exact .inl ⟨p, vs, rfl, .inl h1, flat_V a hf.1, flat_Vs h2 hf.2, inV_py a hf.1 h2 hf.2⟩
    · obtain ⟨⟨c1, c2⟩, rfl⟩ := if_ok e
      exact .inr ⟨_, _, a.dp c1, c.dp c2, c1, c2, any_py⟩
  · rename_i ys ey
    rw [ey] at c
    obtain ⟨p, vs, rfl, h1, h2⟩ := c.tup_inv
    obtain ⟨hf, rfl⟩ := if_ok e
    rw [Bool.and_eq_true] at hf
    exact .inl ⟨p, vs, rfl, .inr h1, flat_V a hf.1, flat_Vs h2 hf.2, inV_py a hf.1 h2 hf.2⟩
  · cases e
theorem snd_in : Snd2 K (rInB K) (inP false) := ⟨fun B G0 G G' env σ H H' u w z x y Q rl hu hw e q => (by
  obtain ⟨b, e1, e2⟩ := Res.bind_eq e
  cases e2
  rcases in_core rl hu hw e1 with ⟨p, xs, h1, h2, h3, h4, h5⟩ | ⟨d, ds, h1, h2, h3, h4, h5⟩
  · exact .inl ⟨p, xs, h1, h2, h3, h4, by rw [h5]; exact q G' H' _ (Ext.refl rl.gh) (.bl _)⟩
  · exact .inr ⟨d, ds, h1, h2, h3, h4, by rw [h5]; exact q G' H' _ (Ext.refl rl.gh) (.bl _)⟩), inP_nx⟩
theorem snd_notIn : Snd2 K (rNotInB K) (inP true) := ⟨fun B G0 G G' env σ H H' u w z x y Q rl hu hw e q => (by
  obtain ⟨b, e1, e2⟩ := Res.bind_eq e
  cases e2
  rcases in_core rl hu hw e1 with ⟨p, xs, h1, h2, h3, h4, h5⟩ | ⟨d, ds, h1, h2, h3, h4, h5⟩
  · exact .inl ⟨p, xs, h1, h2, h3, h4, by rw [h5]; exact q G' H' _ (Ext.refl rl.gh) (.bl _)⟩
  · exact .inr ⟨d, ds, h1, h2, h3, h4, by rw [h5]; exact q G' H' _ (Ext.refl rl.gh) (.bl _)⟩), inP_nx⟩
theorem cm_in {X : Cx} (hu : X.A.units + 65 < cLine) (hK : X.K = K := by rfl) : CmpR X .In (rInB K) (inP false) := by
  subst hK
  exact ⟨op_in_seq.or (op_inD hu), snd_in⟩
theorem cm_notIn {X : Cx} (hu : X.A.units + 65 < cLine) (hK : X.K = K := by rfl) : CmpR X .NotIn (rNotInB K) (inP true) := by
  subst hK
  exact ⟨op_notIn_seq.or (op_notInD hu), snd_notIn⟩
end
end DL

namespace DL
open PySem L2
/-! ### while, by a bound on its turns -/
def whileO (p : En → Res Bool) (b : En → Out) : Nat → En → Out
  | 0, _ => .no
  | n + 1, env => match p env with
    | .ok true => match b env with
      | .nx e => whileO p b n e
      | .ct e => whileO p b n e
      | .bk e => .nx e
      | .rt u => .rt u
      | .ex e x => .ex e x
      | .no => .no
    | .ok false => .nx env
    | .ex x => .ex env x
    | .no => .no
theorem sv_while {K : PySem.W.Frag} {W : Wi} {tc : TT} {tb : TS} {p : En → Res Bool} {b : En → Out} (n : Nat) (hp : EvT K W tc p) (hb : SvD K W tb b) : SvD K W (tWhile tc tb) (whileO p b n) := fun B G0 G env σ H D r k => by
  refine ⟨fun m σ' H' => ∃ G2 env', Same G G2 ∧ Rel K W B G0 G2 env' σ' H' ∧ OutOk K W B G0 G2 D (whileO p b m env'), ⟨n, G, env, Same.refl _, r, k⟩, ?_⟩
  rintro m σ' H' ⟨G2, env', s2, r2, o⟩
  cases m with
  | zero => exact o.elim
  | succ m =>
    unfold whileO at o
    cases ep : p env' with
    | ok c =>
      rw [ep] at o
      cases c with
      | true =>
        refine hp.ok B G0 G2 env' σ' H' true r2 ep _ fun G3 H3 x3 => ?_
        rw [if_pos rfl]
        refine ⟨fun σ'' H'' => ∃ G4 env'', Same G G4 ∧ Rel K W B G0 G4 env'' σ'' H'' ∧ OutOk K W B G0 G4 D (whileO p b m env''), fun σ'' H'' h => ⟨m, Nat.lt_succ_self m, h⟩, ?_⟩
        refine hb B G0 G3 env' σ' H3 _ (r2.ext x3) ?_
        dsimp only at o
        have s3 := s2.trans x3.gg
        cases eb : b env' with
        | nx e => rw [eb] at o; exact fun G4 σ4 H4 s4 r4 => ⟨G4, e, s3.trans s4, r4, o.mono (x3.gg.trans s4)⟩
        | ct e => rw [eb] at o; exact fun G4 σ4 H4 s4 r4 => ⟨G4, e, s3.trans s4, r4, o.mono (x3.gg.trans s4)⟩
        | bk e => rw [eb] at o; exact fun G4 σ4 H4 s4 r4 => o G4 σ4 H4 (x3.gg.trans s4) r4
        | rt u => rw [eb] at o; exact fun G4 H4 v s4 r4 h4 => o G4 H4 v (x3.gg.trans s4) r4 h4
        | ex e x => rw [eb] at o; exact fun G4 σ4 H4 cls d s4 r4 h4 => o G4 σ4 H4 cls d (x3.gg.trans s4) r4 h4
        | no => rw [eb] at o; exact o
      | false =>
        refine hp.ok B G0 G2 env' σ' H' false r2 ep _ fun G3 H3 x3 => ?_
        rw [if_neg Bool.false_ne_true]
        exact o G3 σ' H3 x3.gg (r2.ext x3)
    | ex x =>
      rw [ep] at o
      exact hp.ex B G0 G2 env' σ' H' x r2 ep (o.xok r2) _
    | no => rw [ep] at o; exact o.elim
theorem ds_while {X : Cx} {W : Wi} {c : Expr} {body : List Stmt} {tc : TT} {tb : TS} {p : En → Res Bool} {b : En → Out} {pos : Pos} (n : Nat) (hp : PassesOwn (model X.prog X.w) X.A X.env X.xe) (hc : DT X W c tc p) (hb : DSs X W body tb b) : DS X W (.While c body [] pos) (tWhile tc tb) (whileO p b n) :=
  ⟨ps_while hp hc.pt hb.ps, sv_while n hc.ev hb.sv⟩
end DL

namespace DL
open PySem L2
/-! ### sorted: ints -/
def insI (x : Int) : List Int → List Int
  | [] => [x]
  | y :: ys => if x ≤ y then x :: y :: ys else y :: insI x ys
def sortI : List Int → List Int
  | [] => []
  | x :: xs => insI x (sortI xs)
theorem insI_perm (x : Int) : ∀ ys : List Int, (insI x ys).Perm (x :: ys)
  | [] => .refl _
  | y :: ys => by
    unfold insI
    split
    · exact .refl _
    · exact ((insI_perm x ys).cons y).trans (.swap x y ys)
theorem sortI_perm : ∀ xs : List Int, (sortI xs).Perm xs
  | [] => .refl _
  | x :: xs => (insI_perm x (sortI xs)).trans ((sortI_perm xs).cons x)
theorem insI_sorted (x : Int) : ∀ {ys : List Int}, ys.Pairwise (· ≤ ·) → (insI x ys).Pairwise (· ≤ ·)
  | [], _ => List.pairwise_singleton _ _
  | y :: ys, h => by
    unfold insI
    obtain ⟨h1, h2⟩ := List.pairwise_cons.1 h
    split
    · rename_i hc
      refine List.pairwise_cons.2 ⟨fun z hz => ?_, h⟩
      rcases List.mem_cons.1 hz with rfl | hz
      · exact hc
      · exact Int.le_trans hc (h1 z hz)
    · rename_i hc
      refine List.pairwise_cons.2 ⟨fun z hz => ?_, insI_sorted x h2⟩
      rcases List.mem_cons.1 ((insI_perm x ys).mem_iff.1 hz) with rfl | hz
      · omega
      · exact h1 z hz
theorem sortI_sorted : ∀ xs : List Int, (sortI xs).Pairwise (· ≤ ·)
  | [] => .nil
  | x :: xs => insI_sorted x (sortI_sorted xs)
theorem sorted_one : ∀ {xs ys : List Int}, xs.Perm ys → xs.Pairwise (· ≤ ·) → ys.Pairwise (· ≤ ·) → xs = ys
  | [], ys, p, _, _ => p.nil_eq
  | x :: xs, [], p, _, _ => absurd p.symm.nil_eq (by simp)
  | x :: xs, y :: ys, p, h, k => by
    obtain ⟨h1, h2⟩ := List.pairwise_cons.1 h
    obtain ⟨k1, k2⟩ := List.pairwise_cons.1 k
    have e : x = y := by
      have a : y ∈ x :: xs := p.mem_iff.2 List.mem_cons_self
      have b : x ∈ y :: ys := p.mem_iff.1 List.mem_cons_self
      rcases List.mem_cons.1 a with a | a
      · exact a.symm
      · rcases List.mem_cons.1 b with b | b
        · exact b
        · have := h1 y a
          have := k1 x b
          omega
    subst e
    rw [sorted_one (List.Perm.cons_inv p) h2 k2]
def sortedC : List Vl → Res Vl := fun us => match us with
  | [⟨_, .lst xs⟩] => match intsOf xs with
    | some ns => if ns.length < 64 then .ok ⟨.o, .lst ((sortI ns).map D.int)⟩ else .no
    | none => .no
  | _ => .no
theorem snc_sorted {K : PySem.W.Frag} : SndC K (rSorted K) sortedC := ⟨fun B G0 G' env σ H' us z vs Q r h e q => (by
  unfold sortedC at e
  split at e
  · split at e
    · rename_i ns en
      obtain ⟨c, rfl⟩ := if_ok e
      obtain ⟨v, w, e, h, l⟩ := h
      subst e
      obtain ⟨a, ws, rfl, h1, h2⟩ := (h.look r).lst_inv
      rw [intsOf_inv en] at h2
      rw [show w = [] from l]
      refine ⟨a, ns, rfl, SqL.of (by rw [h1, h2.ints]), c, fun ns' p hp hs hfree => ?_⟩
      have e1 : ns' = sortI ns := sorted_one (hp.trans (sortI_perm ns).symm) hs (sortI_sorted ns)
      subst e1
      exact new_list r (RepL.ofInts _) q p hfree
    · cases e
  · cases e), fun us x => by
  unfold sortedC
  repeat' split
  all_goals exact fun z => by cases z⟩
theorem ck_sorted {X : Cx} {K : PySem.W.Frag} (hK : X.K = K := by rfl) : CallR X (.builtin "sorted") (rSorted K) := by subst hK; exact cr_sorted
end DL

namespace DL
open PySem L2
/-! ### enumerate -/
def enF : Nat → List D → List D
  | _, [] => []
  | i, d :: ds => .tup [.int (i : Nat), d] :: enF (i + 1) ds
def enD (ds : List D) : List D := enF 0 ds
theorem enF_len : ∀ (i : Nat) (ds : List D), (enF i ds).length = ds.length
  | _, [] => rfl
  | i, d :: ds => by
    show (enF (i + 1) ds).length + 1 = ds.length + 1
    rw [enF_len (i + 1) ds]
theorem enF_get : ∀ (i j : Nat) (ds : List D) {d : D}, (enF i ds)[j]? = some d → ∃ e, ds[j]? = some e ∧ d = .tup [.int ((i + j : Nat) : Int), e]
  | i, j, [], d, h => by simp [enF] at h
  | i, 0, e :: ds, d, h => by
    have h : some (D.tup [.int (i : Nat), e]) = some d := h
    cases h
    exact ⟨e, rfl, rfl⟩
  | i, j + 1, e :: ds, d, h => by
    have h : (enF (i + 1) ds)[j]? = some d := by simpa [enF] using h
    obtain ⟨e', h1, h2⟩ := enF_get (i + 1) j ds h
    refine ⟨e', by simpa using h1, ?_⟩
    rw [h2, show i + 1 + j = i + (j + 1) by omega]
section
variable {K : PySem.W.Frag} {W : Wi} {B G0 G G' H H' : Hp} {env : En} {σ : L2.St}
theorem walks_enum {a : Addr} {vs : List V} {ds : List D} (hs : ∀ H, Same G' H → Same B H → SqL K H a vs) (h : RepL K G' vs ds) : Walks K B G' (Ite K a) .g (enD ds) := by
  have hlen : (enD ds).length = vs.length := by rw [h.len]; exact enF_len 0 ds
  refine ⟨.inl rfl, fun i H s1 s2 hi => ?_, fun i d G2 H x H' s1 s2 s3 y e => ?_, fun H s1 s2 => ⟨vs, hs H s1 s2, by rw [hlen]; exact Nat.le_refl _⟩⟩
  · rw [hlen] at hi
    exact ⟨vs, vs[i], hs H s1 s2, List.getElem?_eq_getElem hi⟩
  · obtain ⟨T, w, rfl, hT, rfl, hy⟩ := y
    obtain ⟨e', h1, h2⟩ := enF_get 0 i ds e
    have hw := hy vs (hs H (s1.trans s2) s3)
    obtain ⟨d', q1, q2⟩ := h.get hw
    rw [h1] at q1
    cases q1
    subst h2
    rw [Nat.zero_add]
    have gT : G2 T = none := s2.free hT
    have sg : Same G2 (upd G2 T (.tup [.int (i : Nat), w])) := same_upd (Same.refl _) gT
    exact ⟨_, Ext.newG s2 hT, .tup (SqT.of upd_same) (.cons (.int _) (.cons (q2.mono (s1.trans sg)) .nil))⟩
def enI (f : En → Res Vl) : En → Res (Kd × List D) := fun env => (f env).bind fun u => match u with
  | ⟨.g, .lst xs⟩ => .ok (.g, enD xs)
  | ⟨.o, .lst xs⟩ => .ok (.g, enD xs)
  | ⟨.g, .fz xs⟩ => .ok (.g, enD xs)
  | ⟨.b, .lst xs⟩ => if xs.all flat = true then .ok (.g, enD xs) else .no
  | _ => .no
theorem it_enum {te : TE} {f : En → Res Vl} (h : EvD K W te f) : ItD K W (iEnum K (tCons te tNil)) (enI f) := ⟨fun B G0 G env σ H k xs r e R q => (by
  obtain ⟨u, e1, e2⟩ := Res.bind_eq e
  refine h.ok B G0 G env σ H u r e1 _ fun G1 H1 v x hv => ?_
  have r1 := r.ext x
  split at e2
  · cases e2
    obtain ⟨a, vs, rfl, h1, h2⟩ := Rep.lst_inv (show Rep K G1 v _ from hv)
    exact ⟨a, vs, rfl, SqL.of (r1.gh _ _ h1), q G1 H1 _ x (walks_enum (fun H s1 s2 => SqL.of (s1 _ _ h1)) h2)⟩
  · cases e2
    obtain ⟨G2, x2, s2, hd⟩ := hv.freeze x rfl
    obtain ⟨a, vs, rfl, h1, h2⟩ := Rep.lst_inv hd
    exact ⟨a, vs, rfl, SqL.of (x2.gh _ _ h1), q G2 H1 _ x2 (walks_enum (fun H s1 s2 => SqL.of (s1 _ _ h1)) h2)⟩
  · cases e2
    obtain ⟨a, vs, rfl, h1, h2⟩ := Rep.fz_inv (show Rep K G1 v _ from hv)
    exact ⟨a, vs, rfl, r1.gh.seq h1, q G1 H1 _ x (walks_enum (fun H s1 s2 => s1.seq h1) h2)⟩
  · obtain ⟨c, e3⟩ := if_ok e2
    cases e3
    obtain ⟨a, vs, rfl, h1, h2⟩ := Rep.lst_inv (show Rep K B v _ from hv)
    exact ⟨a, vs, rfl, SqL.of (r1.bh _ _ h1), q G1 H1 _ x (walks_enum (fun H s1 s2 => SqL.of (s2 _ _ h1)) (h2.flat c))⟩
  · cases e2), fun B G0 G env σ H x r e w R => by
  rcases Res.bind_ex e with e1 | ⟨u, e1, e⟩
  · exact h.ex B G0 G env σ H x r e1 w _
  · exact absurd e (by
      repeat' split
      all_goals exact fun z => by cases z)⟩
end
theorem di_enum {X : Cx} {W : Wi} {K : PySem.W.Frag} {a : Expr} {ta : TE} {f : En → Res Vl} {p pos tpos : Pos} {elts : List Expr} {kk : Nat} (hm : X.mg "enumerate" = none) (h : DE X W a ta f) (hg : Gl X "enumerate" := by rfl) (hs : starEach [a] X.env = [(false, eval a X.env)] := by rfl) (hs' : starEach (a :: []) X.env = (false, eval a X.env) :: starEach [] X.env := by rfl) (hK : X.K = K := by rfl) :
    DI X W (.Tuple elts kk tpos) (.Call (.Name "enumerate" p) [a] [] pos) (iEnum K (tCons ta tNil)) (enI f) := by
  subst hK
  exact ⟨pi_enum hg hm (pa_cons h.pe pa_nil hs') hs, it_enum h.ev⟩
end DL

namespace DL
open PySem L2
/-! ### xs[::-1] -/
theorem RepL.rev {K : PySem.W.Frag} {G : Hp} : ∀ {vs : List V} {ds : List D}, RepL K G vs ds → RepL K G vs.reverse ds.reverse
  | _, _, .nil => .nil
  | _, _, .cons h l => by
    rw [List.reverse_cons, List.reverse_cons]
    exact (RepL.rev l).app (.cons h .nil)
def revE (f : En → Res Vl) : En → Res Vl := fun env => (f env).bind fun u => match u.d with
  | .lst xs => if u.k.it xs = true then .ok ⟨.o, .lst xs.reverse⟩ else .no
  | _ => .no
theorem ev_rev {K : PySem.W.Frag} {W : Wi} {te : TE} {f : En → Res Vl} (h : EvD K W te f) : EvD K W (tRevL K te) (revE f) := ⟨fun B G0 G env σ H z r e Q q => (by
  obtain ⟨u, e1, e⟩ := Res.bind_eq e
  refine h.ok B G0 G env σ H u r e1 _ fun G1 H1 v x hv => ?_
  have r1 := r.ext x
  split at e
  · rename_i xs ex
    obtain ⟨c, rfl⟩ := if_ok e
    obtain ⟨a, vs, rfl, h1, h2⟩ := Rp.items r1 hv ex c
    exact ⟨a, vs, rfl, SqL.of h1, new_list r1 h2.rev fun G2 H2 w x2 hw => q G2 H2 w (x.trans x2) (hw.from x.hh)⟩
  · cases e), fun B G0 G env σ H x r e w Q => by
  rcases Res.bind_ex e with e1 | ⟨u, e1, e⟩
  · exact h.ex B G0 G env σ H x r e1 w _
  · exact absurd e (by
      split <;> first
        | exact if_nx
        | exact fun z => nomatch z)⟩
theorem de_rev {X : Cx} {W : Wi} {K : PySem.W.Frag} {e : Expr} {te : TE} {f : En → Res Vl} {k : Nat} {p1 p2 p3 pos : Pos} (h : DE X W e te f) (hK : X.K = K := by rfl) : DE X W (.Subscript e (.Slice none none (some (.UnaryOp .USub (.Constant (.int 1) k p1) p2)) p3) pos) (tRevL K te) (revE f) := by
  subst hK
  exact ⟨pe_revL h.pe, ev_rev h.ev⟩
end DL

namespace DL
open PySem L2
/-! ### xs * n -/
theorem RepL.times {K : PySem.W.Frag} {G : Hp} {vs : List V} {ds : List D} (h : RepL K G vs ds) : ∀ n : Nat, RepL K G (List.replicate n vs).flatten (List.replicate n ds).flatten
  | 0 => .nil
  | n + 1 => by
    rw [List.replicate_succ, List.replicate_succ, List.flatten_cons, List.flatten_cons]
    exact h.app (RepL.times h n)
def repP : Vl → Vl → Res Vl := fun u w => match u.d, w.d with
  | .lst xs, .int j => if u.k.it xs = true ∧ -(2 ^ 63) ≤ j ∧ j < 2 ^ 63 ∧ xs.length * j.toNat ≤ sizeLine then .ok ⟨.o, .lst (List.replicate j.toNat xs).flatten⟩ else .no
  | _, _ => .no
theorem snd_rep {K : PySem.W.Frag} : Snd2 K rRep repP := ⟨fun B G0 G G' env σ H H' u w z x y Q rl hu hw e q => (by
  unfold repP at e
  split at e
  · rename_i xs j e1 e2
    obtain ⟨⟨c1, c2, c3, c4⟩, rfl⟩ := if_ok e
    obtain ⟨a, vs, rfl, h1, h2⟩ := Rp.items rl hu e1 c1
    have b := hw.look rl
    rw [e2] at b
    exact ⟨a, j, vs, rfl, b.int_inv, h1, c2, c3, by rw [h2.len]; exact c4, new_list rl (h2.times _) q⟩
  · cases e), fun u w x => by
  unfold repP
  split <;> first
    | exact if_nx
    | exact fun z => nomatch z⟩
theorem de_rep {X : Cx} {W : Wi} {pos : Pos} {a b : Expr} {ta tb : TE} {f g : En → Res Vl} (ha : DE X W a ta f) (hb : DE X W b tb g) : DE X W (.BinOp a .Mult b pos) (tOp rRep ta tb) (binE repP f g) := de_bin op_rep snd_rep ha hb
end DL

namespace DL
open PySem L2
/-! ### xs.extend(ys) -/
def itsD (u : Vl) : Res (List D) := match u.d with
  | .lst ys => if u.k.it ys = true then .ok ys else .no
  | _ => .no
def extO (i : Nat) (f : En → Res Vl) : En → Out := fun env => match (f env).bind itsD with
  | .ok ys => match owAt env i with
    | .ok xs => if xs.length + ys.length ≤ sizeLine then .nx (env.set i (.ow (xs ++ ys))) else .no
    | _ => .no
  | _ => .no
theorem sv_ext (i : Nat) {K : PySem.W.Frag} {W : Wi} {te : TE} {f : En → Res Vl} (hf : EvD K W te f) : SvD K W (tDrop (tBM K "list" rExtend (tVar i) (tCons te tNil))) (extO i f) := fun B G0 G env σ H D r k => by
  unfold extO at k
  split at k
  · rename_i ys e
    obtain ⟨u, e1, e2⟩ := Res.bind_eq e
    unfold itsD at e2
    split at e2
    · rename_i ys' ed
      obtain ⟨c, rfl⟩ := if_ok e2
      split at k
      · rename_i xs ex
        have ex := owAt_inv ex
        split at k
        · rename_i hz
          obtain ⟨o, eo, L, vs, y1, y2, y3, y4, y5⟩ := r.slot ex
          subst y1
          refine ⟨.ref L, eo, tyV_lst y4, hf.ok B G0 G env σ H u r e1 _ fun G1 H1 v x hv => ?_⟩
          have r1 := r.ext x
          obtain ⟨a, ws, rfl, h1, h2⟩ := Rp.items r1 hv ed c
          refine ⟨L, a, vs, ws, rfl, rfl, x.hh _ _ y4, h1, by rw [y5.len, h2.len]; exact hz, ?_⟩
          exact k G1 σ _ x.gg (r1.mut ex eo ((y5.mono x.gg).app h2))
        · exact k.elim
      · exact k.elim
    · cases e2
  · exact k.elim
section
variable {X : Cx} {W : Wi} {e : Expr} {te : TE} {f : En → Res Vl} {x : Str} {p1 apos cpos pos : Pos}
theorem ds_ext (i : Nat) (he : DE X W e te f) (hN : X.N[i]? = some x := by rfl) (hv : Vis X.env.scope x := by first | exact Or.inl rfl | exact Or.inr (Or.inl rfl) | exact Or.inr (Or.inr rfl)) (hd : (x == ("__debug__" : Str)) = false := by decide)
    (hcd : (x == ("__classdict__" : Str)) = false := by decide) (hbase : attributeBase (.Name x p1) "extend" X.env (eval (.Name x p1) X.env) = eval (.Name x p1) X.env := by rfl)
    (hfew : ((backTo cpos (starEach (e :: []) X.env)).all (fun x => !x.1) && (backToKw cpos (keywordEach [] X.env)).all (fun x => x.1.isSome)
      && decide ((e :: []).length + ([] : List Keyword).length + (if ([] : List Keyword).isEmpty then 0 else 1) < 30)) = true := by rfl)
    (hline : (apos.endLine == cpos.line) = true := by rfl) (hs : starEach (e :: []) X.env = (false, eval e X.env) :: starEach [] X.env := by rfl) (hplain : (backTo cpos (starEach [] X.env)).any (·.1) = false := by rfl)
    (hw : swapsWith (.Call (.Attribute (.Name x p1) "extend" apos) [e] [] cpos) none pos.line X.env = pure false := by rfl) :
    DS X W (.Expr (.Call (.Attribute (.Name x p1) "extend" apos) [e] [] cpos) pos) (tDrop (tBM X.K "list" rExtend (tVar i) (tCons te tNil))) (extO i f) :=
  ⟨ps_expr (pe_bm PySem.F.plainAttrs_list PySem.F.slot_list_extend PySem.F.type_list_extend mt_extend (pe_var hN hv hd hcd) (pa_cons he.pe pa_nil hs) hbase hfew hline hs hplain) hw, sv_ext i he.ev⟩
end
end DL

namespace DL
open PySem L2
/-! ### x in t, t a tuple of any data -/
def rInT (K : PySem.W.Frag) (neg : Bool) : R2 := fun x y H Q => ∃ d ds, Dp K H x d ∧ Dp K H y (.tuple ds) ∧ SeqAt.shaped d = true ∧ SeqAt.shaped (.tuple ds) = true ∧ Q (.bl (if neg then !ds.any fun z => PyData.eqv z d else ds.any fun z => PyData.eqv z d)) H
section
variable {X : Cx}
theorem op_inT (hu : X.A.units + 65 < cLine) : OpR X (compareOp .In) (rInT X.K false) := by
  intro pins s σ H x y v u Q I rx ry h
  obtain ⟨d, ds, hd, he, sd, se, q⟩ := h
  obtain ⟨as, r1⟩ := Dp.reads I d x v hd rx
  obtain ⟨bs, r2⟩ := Dp.reads I (.tuple ds) y u he ry
  exact SeqAt.in_tuple_reads r2 r1 (SeqAt.canLay_of_shaped se) (SeqAt.canLay_of_shaped sd) (by have := SeqAt.depth_of_shaped sd; have := Nat.min_le_right (PyData.depthAll ds) d.depth; omega) ⟨.bl _, H, I, rfl, q⟩
theorem op_notInT (hu : X.A.units + 65 < cLine) : OpR X (compareOp .NotIn) (rInT X.K true) := by
  intro pins s σ H x y v u Q I rx ry h
  obtain ⟨d, ds, hd, he, sd, se, q⟩ := h
  obtain ⟨as, r1⟩ := Dp.reads I d x v hd rx
  obtain ⟨bs, r2⟩ := Dp.reads I (.tuple ds) y u he ry
  exact SeqAt.notIn_tuple_reads r2 r1 (SeqAt.canLay_of_shaped se) (SeqAt.canLay_of_shaped sd) (by have := SeqAt.depth_of_shaped sd; have := Nat.min_le_right (PyData.depthAll ds) d.depth; omega) ⟨.bl _, H, I, rfl, q⟩
end
/-- x in a tuple of any data -/
def inTP (neg : Bool) : Vl → Vl → Res Vl := fun u w => match w.d with
  | .tup ys => if SeqAt.shaped (toPy u.d) = true ∧ SeqAt.shaped (.tuple (toPyL ys)) = true then .ok ⟨.g, .bl (if neg then !memD u.d ys else memD u.d ys)⟩ else .no
  | _ => .no
theorem snd_inT {K : PySem.W.Frag} (neg : Bool) : Snd2 K (rInT K neg) (inTP neg) := ⟨fun B G0 G G' env σ H H' u w z x y Q rl hu hw e q => (by
  have a := hu.look rl
  have c := hw.look rl
  unfold inTP at e
  split at e
  · rename_i ys ey
    rw [ey] at c
    obtain ⟨⟨c1, c2⟩, rfl⟩ := if_ok e
    exact ⟨_, _, a.dp c1, c.dp c2, c1, c2, by rw [any_py]; exact q G' H' _ (Ext.refl rl.gh) (.bl _)⟩
  · cases e), fun u w x => by
  unfold inTP
  split <;> first
    | exact if_nx
    | exact fun z => nomatch z⟩
theorem cm_inT {X : Cx} {K : PySem.W.Frag} (hu : X.A.units + 65 < cLine) (hK : X.K = K := by rfl) : CmpR X .In (rInT K false) (inTP false) := by
  subst hK
  exact ⟨op_inT hu, snd_inT false⟩
theorem cm_notInT {X : Cx} {K : PySem.W.Frag} (hu : X.A.units + 65 < cLine) (hK : X.K = K := by rfl) : CmpR X .NotIn (rInT K true) (inTP true) := by
  subst hK
  exact ⟨op_notInT hu, snd_inT true⟩
end DL

namespace DL
open PySem L2
/-! ### try: .. except T: .. -/
def keepX : Out → Out
  | .nx e => if noXc e = true then .nx e else .no
  | .bk e => if noXc e = true then .bk e else .no
  | .ct e => if noXc e = true then .ct e else .no
  | .rt u => .rt u
  | _ => .no
def tryN (cm : Str → Option Bool) (f su : En → Out) : En → Out := fun env => match f env with
  | .ex e x => match cm x.c with
    | some true => if noXc e = true then keepX (su e) else .no
    | some false => .ex e x
    | none => .no
  | o => o
theorem sv_tryN {K : PySem.W.Frag} {W : Wi} {c : Value} {cm : Str → Option Bool} {tb : WX → TS} {ts : Addr → Value → Option Addr → TS} {f su : En → Out}
    (hcm : ∀ x b C, cm x = some b → PySem.W.nsIn K mainGlobals x = some (some (.ref C)) → PySem.W.exmOne K (.ref C) c = some b)
    (hb : ∀ w : WX, SvD K ⟨w, W.ρ⟩ (tb w) f) (hs : ∀ a cls d, SvD K (suW a cls d) (ts a cls d) su) :
    SvD K W (fun D σ H => tb (wOnly K c ts W.w D) D σ H) (tryN cm f su) := fun B G0 G env σ H D r k => by
  refine hb _ B G0 G env σ H D (r.rho rfl) ?_
  unfold tryN at k
  cases e : f env with
  | nx e' => rw [e] at k; exact fun G' σ' H' s r' => k G' σ' H' s (r'.rho rfl)
  | bk e' => rw [e] at k; exact fun G' σ' H' s r' => k G' σ' H' s (r'.rho rfl)
  | ct e' => rw [e] at k; exact fun G' σ' H' s r' => k G' σ' H' s (r'.rho rfl)
  | rt u => rw [e] at k; exact fun G' H' v s r' hv => k G' H' v s (r'.rho rfl) hv
  | no => rw [e] at k; exact k
  | ex e' x =>
    rw [e] at k
    intro G' σ' H' cls d s r' hx
    have r1 : Rel K W B G0 G' e' σ' H' := r'.rho rfl
    obtain ⟨C, rfl, hC, hfs⟩ := id hx
    dsimp only at k
    cases ec : cm x.c with
    | none => rw [ec] at k; exact k.elim
    | some b =>
      rw [ec] at k
      refine ⟨b, hcm _ _ _ ec hC, fun hb' a hna => ?_, fun hb' => ?_⟩
      · subst hb'
        dsimp only at k
        split at k
        · rename_i hno
          refine hs a (.ref C) d B G0 G' _ _ H' _ (r1.noXc hno) ?_
          cases eo : su e' with
          | nx e2 =>
            rw [eo] at k
            unfold keepX at k
            intro G2 σ2 H2 s2 r2
            dsimp only at k
            split at k
            · rename_i hn2
              exact k G2 _ H2 (s.trans s2) (r2.noXc hn2)
            · exact k.elim
          | bk e2 =>
            rw [eo] at k
            unfold keepX at k
            intro G2 σ2 H2 s2 r2
            dsimp only at k
            split at k
            · rename_i hn2
              exact k G2 _ H2 (s.trans s2) (r2.noXc hn2)
            · exact k.elim
          | ct e2 =>
            rw [eo] at k
            unfold keepX at k
            intro G2 σ2 H2 s2 r2
            dsimp only at k
            split at k
            · rename_i hn2
              exact k G2 _ H2 (s.trans s2) (r2.noXc hn2)
            · exact k.elim
          | rt u =>
            rw [eo] at k
            exact fun G2 H2 v s2 r2 hv => k G2 H2 v (s.trans s2) (r2.noXc rfl) hv
          | ex e2 y => rw [eo] at k; exact k.elim
          | no => rw [eo] at k; exact k.elim
        · exact k.elim
      · subst hb'
        exact k G' σ' H' (.ref C) d s r1 hx
theorem ds_tryN {X : Cx} {W : Wi} {x : Str} {c : Value} {cm : Str → Option Bool} {body suite : List Stmt} {b₀ : Stmt} {np pos pos' : Pos} {tb : WX → TS} {ts : Addr → Value → Option Addr → TS} {f su : En → Out}
    (hcm : ∀ x b C, cm x = some b → PySem.W.nsIn X.K mainGlobals x = some (some (.ref C)) → PySem.W.exmOne X.K (.ref C) c = some b)
    (hs : X.stack = X.env :: X.outer) (hf : X.env.frame = some X.env.locals) (hc : Names X x c) (tk : Takes X W.w)
    (hb : ∀ (w : WX) (pn : List (Addr × Obj)) (xe : Value → Shared → Prop), Takes (X.tr pn xe) w → DSs (X.tr pn xe) ⟨w, W.ρ⟩ body (tb w) f)
    (hsu : ∀ (a : Addr) (oe : Obj) (cls : Value) (d : Option Addr) (pn : List (Addr × Obj)), Zc cls d oe → (∃ vs, oe.data = .fields vs) → DSs (X.suite a ((a, oe) :: pn)) (suW a cls d) (b₀ :: suite) (ts a cls d) su) :
    DS X W (.Try body [.ExceptHandler (some (.Name x np)) none (b₀ :: suite) pos'] [] [] pos) (fun D σ H => tb (wOnly X.K c ts W.w D) D σ H) (tryN cm f su) :=
  ⟨ps_try_only hs hf hc tk (fun w pn xe h1 _ => (hb w pn xe h1).ps) (fun a oe cls d pn z1 z2 => (hsu a oe cls d pn z1 z2).ps), sv_tryN hcm (fun w => (hb w [] (XE (X.tr [] fun _ _ => True) w) takes_self).sv) fun a cls d => (hsu a { cls := cls, dict := d, data := .fields #[] } cls d [] ⟨rfl, rfl⟩ ⟨_, rfl⟩).sv⟩
end DL

namespace DL
open PySem L2 PySem.Spec PyProof.Rows
/-! ### own exceptions as values -/
/-- C(e, ..) as a value -/
def tMkV (C : Addr) (sp : Sp) (ta : TA) : TE := fun σ H Q => ta σ H fun vs H1 => vs.length ≤ 1000 ∧ ∀ a, H1 a = none → sp (.ref a :: vs) (upd H1 a (exo a C none)) (fun v H2 => v = .non ∧ Q (.ref a) H2) (fun _ _ _ => False)
section
variable {X : Cx} {W : Wi} {x : Str} {C : Addr} {e : Expr} {es : List Expr} {ta : TA} {p pos : Pos}
theorem pe_oexV {fI : Addr} {k : Nat} {fd : FuncData} {ps : List Str} {sp : Sp} (T : OexC X.K C) (iC : PySem.W.findIn X.K (.ref C) "__init__" = some (some (.ref fI))) (tI : PySem.W.typeIn X.K (.ref fI) = some (.type "function"))
    (F1 : FnOk X.prog X.w X.K X.mg X.base CX0 k fI fd ps sp) (hr : Room (k + 1) X.A) (hb : Binds X.K fd ps []) (hg : Gl X x) (hm : X.mg x = some (.ref C)) (ha : PA X (e :: es) ta)
    (hdb : (x == ("__debug__" : Str)) = false := by decide) (he : starEach (e :: es) X.env = (false, eval e X.env) :: starEach es X.env := by rfl) (hpl : (backTo pos (starEach es X.env)).any (·.1) = false := by rfl) :
    PE X (.Call (.Name x p) (e :: es) [] pos) (tMkV C sp ta) := by
  refine ⟨fun pn sh st H0 Q inv hq => ?_⟩
  obtain ⟨z1, z2, z3, z4, mr, z5, z6, z7, z8, z9, y0, y1, y2, y3, y4, atC, allV⟩ := T.cls
  refine wpAny_Call_Name_kw (ld_glob inv hg hm ?_ hdb)
  refine PySem.W.callWith_K (h₀ := X.base) inv.ok.mod.kin T.kC (thn (ha.run pos pn sh st H0 _ inv hq) ?_) he hpl
  rintro ws ⟨old, gens, drawn, toks, os⟩ ⟨vs, H1, J, rel, few, made⟩
  refine ⟨J.kIn, ?_⟩
  show wpAny _ _ (call (.ref C) ws) _ _ _
  -- the new object stands one behind its tuple of arguments
  obtain ⟨here, eh⟩ : ∃ b : Addr, b = old.objs.size + 1 := ⟨_, rfl⟩
  obtain ⟨new, en⟩ : ∃ m : Heap, m = (old.push (PySem.W.kdv_tup ws)).push (PySem.HandSPX.excO C old.objs.size) := ⟨_, rfl⟩
  have free : old.objs.size ≤ here := by rw [eh]; exact Nat.le_succ _
  have empty : H1 here = none := J.hok.fresh free
  have stay : ∀ b o, old.get? b = some o → new.get? b = some o := fun b o z => by
    rw [en]
    exact Heap.get?_push_of_some _ (Heap.get?_push_of_some _ z)
  have there : new.get? here = some (PySem.HandSPX.excO C old.objs.size) := by
    rw [en, eh]
    heap_get
  have J2 := J.laid (t' := toks) (o := exo here C none) stay free (exo_ok there)
  have pr := made here empty
  have rel2 : Vals (V.ref here :: vs) (Value.ref here :: ws) := Paired.cons rfl rel
  have many : (Value.ref here :: ws).length = ps.length := by
    rw [← rel2.length]
    exact F1.len _ _ _ _ pr
  have bound : BindsTo ⟨new, gens, drawn, toks, os⟩ fd ⟨Value.ref here :: ws, []⟩ (ps.zip (Value.ref here :: ws)) := by
    have := hb _ (Value.ref here :: ws) J2.kIn (by simpa using many)
    simpa using this
  have small : ws.length ≤ sizeLine := Nat.le_trans (Nat.le_of_eq (Paired.length rel).symm) (Nat.le_trans few (by rw [sizeLine_eq]; decide))
  have body := F1.run _ X.stack _ _ ⟨Value.ref here :: ws, []⟩ (Value.ref here :: ws) _ _ (fun _ _ _ => False) (hr.make C ws []) (J2.env0.make C ws []) bound rel2 pr
  rw [en, eh] at body
  refine wpAny_call (PySem.HandSPX.call_own F.excBase_ValueError (fun Y => PySem.HandSPX.refsVE_contains Y mr allV) (J.kIn _ _ atC) (PySem.W.looks_findIn J.kIn iC) (fun self => PySem.W.bind_fn J.kIn self tI) small (codeAny_mono body ?_))
  rw [en, eh] at J2
  intro out sh2 hout
  match out, hout with
  | .error er, hout => exact pass0 pn st _ _ er sh2 J2 hout
  | .ok (.ret u), hout =>
    obtain ⟨v, H2, J3, rv, rfl, done⟩ := J2.after hout
    refine ⟨rv, ⟨V.ref (old.objs.size + 1), H2, J3, rfl, ?_⟩⟩
    exact done
  | .ok .next, hout => exact hout.elim
  | .ok .brk, hout => exact hout.elim
  | .ok .cont, hout => exact hout.elim
/-- C() of a class without fields, as a value -/
theorem pe_oex0 {bmB : List Value} {B newId initId : String} (F : ExcBaseFacts B newId initId bmB) (q : PySem.W.excIn X.K C bmB newId = true) (gC : X.mg x = some (.ref C)) (kC : PySem.W.keepIn X.K (.ref C) = true) (hg : Gl X x)
    (hdb : (x == ("__debug__" : Str)) = false := by decide) : PE X (.Call (.Name x p) [] [] pos) (fun _ H Q => ∀ a, H a = none → Q (.ref a) (upd H a (exo a C none))) := by
  refine ⟨fun pn sh st H0 Q inv hq => wpAny_Call_Name_kw (ld_glob inv hg gC (PySem.W.callWith_K0 inv.kIn kC ?_) hdb)⟩
  obtain ⟨z1, z2, z3, z4, z5, z6, z7, z8, z9, y0, y1, y2, y3, y4, y5, y6, y7, atC, atN, noI, tab⟩ := exc_obj inv.kIn q
  refine wpAny_call_exc_subT F tab atC atN noI (fun new b made => ?_) (Nat.zero_le _)
  have empty : H0 b = none := inv.hok.gone made.new
  obtain ⟨_, there, _⟩ := made.there
  exact ⟨V.ref b, _, inv.laidN made.keeps made.new empty (exo_ok there), rfl, hq b empty⟩
end

theorem Ext.exn {G H : Hp} (h : Same G H) {a dx : Addr} {o1 o2 : HO} (ha : H a = none) (hd : H dx = none) (ne : dx ≠ a) {H2 : Hp} (e1 : H2 a = some o1) (e2 : H2 dx = some o2) (e3 : ∀ b, b ≠ a → b ≠ dx → H2 b = H b) : Ext G H (upd (upd G dx o2) a o1) H2 := by
  have ga := h.free ha
  have gd := h.free hd
  refine ⟨fun b u e => ?_, fun b u e => ?_, fun b u e => ?_, fun b g n => ?_⟩
  · rw [upd_ne (ne_of_none e ga), upd_ne (ne_of_none e gd)]; exact e
  · rw [e3 b (ne_of_none e ha) (ne_of_none e hd)]; exact e
  · by_cases z : b = a
    · subst z; rw [upd_same] at e; cases e; exact e1
    · rw [upd_ne z] at e
      by_cases z2 : b = dx
      · subst z2; rw [upd_same] at e; cases e; exact e2
      · rw [upd_ne z2] at e
        rw [e3 b z z2]; exact h b u e
  · by_cases z : b = a
    · rw [z]; exact ha
    · rw [upd_ne z] at n
      by_cases z2 : b = dx
      · rw [z2]; exact hd
      · rw [upd_ne z2] at n; exact absurd g n
def mkV (x : Str) (ns : List Str) (f : En → Res (List Vl)) : En → Res Vl := fun env => (f env).bind fun us => if us.all Vl.keep = true ∧ us.length = ns.length then .ok ⟨.g, .exn x ns (us.map Vl.d)⟩ else .no
def mkV0 (x : Str) : En → Res Vl := fun _ => .ok ⟨.g, .exn x [] []⟩
section
variable {X : Cx} {W : Wi} {j : Nat} {x : Str} {ns : List Str} {p pos : Pos} {e : Expr} {es : List Expr} {ta : TA} {f : En → Res (List Vl)}
theorem de_mkV {K : PySem.W.Frag} (c : DX X.prog X.w X.K X.mg X.base x ns) (hr : Room j X.A) (ha : DA X W (e :: es) ta f) (hkj : 2 ≤ j := by decide) (hg : Gl X x := by rfl) (hdb : (x == ("__debug__" : Str)) = false := by decide) (he : starEach (e :: es) X.env = (false, eval e X.env) :: starEach es X.env := by rfl) (hpl : (backTo pos (starEach es X.env)).any (·.1) = false := by rfl) (hK : X.K = K := by rfl) :
    DE X W (.Call (.Name x p) (e :: es) [] pos) (tMkV (adr K x) (spI K (adr K x) ns) ta) (mkV x ns f) := by
  subst hK
  obtain ⟨⟨C, fI, fd, ps, hm, hn, T, iC, tI, hb, F⟩, few⟩ := c
  rw [adr_eq hn]
  refine ⟨pe_oexV T iC tI F (hr.mono hkj) hb hg hm ha.pa hdb he hpl, ⟨fun B G0 G env σ H z r e Q q => ?_, fun B G0 G env σ H y r e w Q => ?_⟩⟩
  · obtain ⟨us, e1, e⟩ := Res.bind_eq e
    obtain ⟨⟨hk, hl⟩, rfl⟩ := if_ok e
    refine ha.ev.ok B G0 G env σ H us r e1 _ fun G1 H1 vs x1 l1 => ⟨?_, fun a hna => ?_⟩
    · rw [l1.len, hl]
      rcases few with h | ⟨f, g, rfl, _⟩
      · rw [h]; decide
      · show 2 ≤ 1000; decide
    · have rep := l1.keep hk
      have hlen : vs.length = ns.length := by rw [l1.len, hl]
      have fin : ∀ (d : Addr) (fs : List (Str × V)) (H2 : Hp), H1 d = none → d ≠ a → H2 a = some (exo a C (some d)) → H2 d = some (exd d fs) → (∀ b, b ≠ a → b ≠ d → H2 b = H1 b) → (∀ (i : Nat) (n : Str) (v : V), ns[i]? = some n → vs[i]? = some v → fs.lookup n = some v) → Q (.ref a) H2 := by
        intro d fs H2 hd hda h1 h2 h3 hfs
        have xt := Ext.exn x1.gh hna hd hda h1 h2 h3
        refine q _ H2 _ (x1.trans xt) ?_
        exact Rep.exn hn upd_same (by rw [upd_ne hda, upd_same]) hfs (rep.mono xt.gg)
      rcases few with h1 | ⟨f1, f2, rfl, hne⟩
      · match ns, vs, us, h1, hlen, hl, rep with
        | [f1], [u1], [w1], _, _, _, rep =>
          refine ⟨a, u1, rfl, upd_same, fun d hd hda => ⟨rfl, ?_⟩⟩
          rw [upd_ne hda] at hd
          refine fin d [(f1, u1)] _ hd hda upd_same (by rw [upd_ne hda, upd_same]) (fun b h1 h2 => by rw [upd_ne h1, upd_ne h2, upd_ne h1]) fun i n v h1 h2 => ?_
          match i, h1, h2 with
          | 0, h1, h2 => cases h1; cases h2; simp [List.lookup]
          | i + 1, h1, h2 => cases h1
      · match vs, us, hlen, hl, rep with
        | [u1, u2], [w1, w2], _, _, rep =>
          refine ⟨a, u1, u2, rfl, upd_same, fun d hd hda => ⟨rfl, ?_⟩⟩
          rw [upd_ne hda] at hd
          refine fin d [(f2, u2), (f1, u1)] _ hd hda (by rw [upd_ne (Ne.symm hda), upd_same]) upd_same (fun b h1 h2 => by rw [upd_ne h2, upd_ne h1, upd_ne h2, upd_ne h1]) fun i n v h1 h2 => ?_
          match i, h1, h2 with
          | 0, h1, h2 =>
            cases h1; cases h2
            have : (f1 == f2) = false := by simpa using hne
            simp [List.lookup, this]
          | 1, h1, h2 => cases h1; cases h2; simp [List.lookup]
          | i + 2, h1, h2 => cases h1
  · rcases Res.bind_ex e with e1 | ⟨u, e1, e⟩
    · exact ha.ev.ex B G0 G env σ H y r e1 w _
    · exact absurd e if_nx
theorem de_mkV0 {K : PySem.W.Frag} (c : DX0 X.K X.mg x) (hg : Gl X x := by rfl) (hdb : (x == ("__debug__" : Str)) = false := by decide) (hK : X.K = K := by rfl) :
    DE X W (.Call (.Name x p) [] [] pos) (fun _ H Q => ∀ a, H a = none → Q (.ref a) (upd H a (exo a (adr K x) none))) (mkV0 x) := by
  subst hK
  obtain ⟨C, bmB, B, newId, initId, hm, hn, F, q, kC, sC, tC⟩ := c
  rw [adr_eq hn]
  exact ⟨pe_oex0 F q hm kC hg hdb, ⟨fun B G0 G env σ H z r e Q k => by
    cases e
    exact fun a ha => k _ _ _ (Ext.newG r.gh ha) (Rep.exn0 hn upd_same), fun B G0 G env σ H y r e => nomatch e⟩⟩
end
/-! e.f -/
def tXv (K : PySem.W.Frag) (f : Str) (te : TE) : TE := fun σ H Q => te σ H fun x H1 => ∃ (a C dd : Addr) (fs : List (Str × V)) (v : V), x = .ref a ∧ H1 a = some (exo a C (some dd)) ∧ H1 dd = some (exd dd fs) ∧ XfC K C ∧ PySem.W.findIn K (.ref C) f = some none ∧ fs.lookup f = some v ∧ Q v H1
theorem pe_xv {X : Cx} {e : Expr} {te : TE} {pos : Pos} {n : Str} (he : PE X e te) (hb : attributeBase e n X.env (eval e X.env) = eval e X.env := by rfl) : PE X (.Attribute e n pos) (tXv X.K n te) := by
  refine ⟨fun pins s σ H Q I h => ?_⟩
  refine attr_of hb (thn (he.run pins s σ H _ I h) fun u s1 hh => ?_)
  obtain ⟨x, H1, I1, rx, a, C, dd, fs, v, ex, ea, ed, T, hno, l, q⟩ := hh
  subst ex
  obtain rfl : u = Value.ref a := rx
  obtain ⟨t1, ha⟩ := exo_at I1.hok ea
  obtain ⟨mA, hns, hr⟩ := exd_at I1.hok ed
  obtain ⟨od, ho, hl⟩ := lookIn_ns hns
  obtain ⟨u, hu, ru⟩ := RelO.some_of (v := v) (o := mA n) (by rw [← l]; exact hr n)
  have J : PySem.W.InstAt s1.heap a { cls := .ref C, dict := some dd, data := .fields #[.ref t1, .none, .none, .none, .bool false, .none] } C (some od) := ⟨ha, rfl, rfl, ho⟩
  exact HandSPX.exc_get I1.kIn J T.ga T.gg T.exC (PySem.W.findObj_own T.hdC hno rfl (by rw [hl, hu])) (handed_of ru) ⟨v, H1, I1.tok _, ru, q⟩
def xvP (fn : Str) (cs : List Str) (u : Vl) : Res Vl := match u.d with
  | .exn c ns xs => if cs.contains c = true then match (ns.zip xs).lookup fn with
    | some d => .ok ⟨u.k.sub, d⟩
    | none => .no else .no
  | _ => .no
theorem xvP_nx {fn : Str} {cs : List Str} {u : Vl} {x : Exn} : xvP fn cs u ≠ .ex x := by
  unfold xvP
  repeat' split
  all_goals exact fun z => by cases z
theorem zip_at {α : Type} {fn : Str} {d : α} : ∀ {ns : List Str} {xs : List α}, (ns.zip xs).lookup fn = some d → ∃ i : Nat, ns[i]? = some fn ∧ xs[i]? = some d
  | [], _, h => by cases h
  | _ :: _, [], h => by cases h
  | n :: ns, x :: xs, h => by
    by_cases hg : fn = n
    · subst hg
      simp [List.lookup] at h
      subst h
      exact ⟨0, rfl, rfl⟩
    · have : (fn == n) = false := by simpa using hg
      simp [List.lookup, this] at h
      obtain ⟨i, h1, h2⟩ := zip_at h
      exact ⟨i + 1, by simpa using h1, by simpa using h2⟩
theorem Rep.exn_inv {K : PySem.W.Frag} {G : Hp} {v : V} {c : Str} {ns : List Str} {xs : List D} (h : Rep K G v (.exn c ns xs)) : ∃ a C d, v = .ref a ∧ PySem.W.nsIn K mainGlobals c = some (some (.ref C)) ∧ G a = some (exo a C d) ∧
    ((d = none ∧ ns = []) ∨ ∃ (dx : Addr) (fs : List (Str × V)) (vs : List V), d = some dx ∧ G dx = some (exd dx fs) ∧ (∀ (i : Nat) (n : Str) (v : V), ns[i]? = some n → vs[i]? = some v → fs.lookup n = some v) ∧ RepL K G vs xs) := by
  cases h with
  | exn0 h1 h2 => exact ⟨_, _, none, rfl, h1, h2, .inl ⟨rfl, rfl⟩⟩
  | exn h1 h2 h3 h4 h5 => exact ⟨_, _, _, rfl, h1, h2, .inr ⟨_, _, _, rfl, h3, h4, h5⟩⟩
/-- how an exception lies -/
theorem Rp.exnv {K : PySem.W.Frag} {W : Wi} {B G0 G' H H' : Hp} {env : En} {σ : L2.St} {u : Vl} {v : V} {c : Str} {ns : List Str} {xs : List D} (r : Rel K W B G0 G' env σ H') (h : Rp K B G' H H' u v) (e : u.d = .exn c ns xs) :
    ∃ a C d, v = .ref a ∧ PySem.W.nsIn K mainGlobals c = some (some (.ref C)) ∧ H' a = some (exo a C d) ∧
    ((d = none ∧ ns = []) ∨ ∃ (dx : Addr) (fs : List (Str × V)) (vs : List V), d = some dx ∧ H' dx = some (exd dx fs) ∧ (∀ (i : Nat) (n : Str) (v : V), ns[i]? = some n → vs[i]? = some v → fs.lookup n = some v) ∧ ∀ (i : Nat) y, xs[i]? = some y → ∃ w : V, vs[i]? = some w ∧ Rp K B G' H H' ⟨u.k.sub, y⟩ w) ∧ ((∀ dx, d = some dx → ∃ fs, H' dx = some (exd dx fs))) := by
  obtain ⟨k, d⟩ := u
  dsimp only at e
  subst e
  cases k with
  | g =>
    obtain ⟨a, C, d, e1, e2, e3, e4⟩ := Rep.exn_inv h
    refine ⟨a, C, d, e1, e2, r.gh _ _ e3, ?_, ?_⟩
    · rcases e4 with e4 | ⟨dx, fs, vs, e5, e6, e7, e8⟩
      · exact .inl e4
      · exact .inr ⟨dx, fs, vs, e5, r.gh _ _ e6, e7, fun i y h1 => e8.get' h1⟩
    · rintro dx rfl
      rcases e4 with ⟨e4, _⟩ | ⟨dx, fs, vs, e5, e6, e7, e8⟩
      · cases e4
      · cases e5; exact ⟨fs, r.gh _ _ e6⟩
  | b =>
    obtain ⟨a, C, d, e1, e2, e3, e4⟩ := Rep.exn_inv h
    refine ⟨a, C, d, e1, e2, r.bh _ _ e3, ?_, ?_⟩
    · rcases e4 with e4 | ⟨dx, fs, vs, e5, e6, e7, e8⟩
      · exact .inl e4
      · exact .inr ⟨dx, fs, vs, e5, r.bh _ _ e6, e7, fun i y h1 => e8.get' h1⟩
    · rintro dx rfl
      rcases e4 with ⟨e4, _⟩ | ⟨dx, fs, vs, e5, e6, e7, e8⟩
      · cases e4
      · cases e5; exact ⟨fs, r.bh _ _ e6⟩
  | h =>
    obtain ⟨L, vs, ds, e1, e2, _⟩ := h
    cases e2
  | o =>
    obtain ⟨L, vs, ds, e1, e2, _⟩ := h
    cases e2
theorem de_xv {X : Cx} {W : Wi} {K : PySem.W.Frag} {e : Expr} {te : TE} {f : En → Res Vl} {pos : Pos} {n : Str} (cs : List Str) (T : ∀ c, cs.contains c = true → XfC K (adr K c) ∧ PySem.W.findIn K (.ref (adr K c)) n = some none) (he : DE X W e te f) (hb : attributeBase e n X.env (eval e X.env) = eval e X.env := by rfl) (hK : X.K = K := by rfl) :
    DE X W (.Attribute e n pos) (tXv K n te) (unE (xvP n cs) f) := by
  subst hK
  refine ⟨pe_xv he.pe hb, ⟨fun B G0 G env σ H z r e Q q => ?_, fun B G0 G env σ H y r e w Q => ?_⟩⟩
  · obtain ⟨u, e1, e2⟩ := Res.bind_eq e
    refine he.ev.ok B G0 G env σ H u r e1 _ fun G' H' v x hv => ?_
    unfold xvP at e2
    split at e2
    · rename_i c ns xs ed
      split at e2
      · rename_i hc
        split at e2
        · rename_i d hl
          cases e2
          obtain ⟨i, l1, l2⟩ := zip_at hl
          obtain ⟨a, C, d', e1, e2, e3, e4, _⟩ := Rp.exnv (r.ext x) hv ed
          obtain ⟨T1, T2⟩ := T c hc
          rw [adr_eq e2] at T1 T2
          rcases e4 with ⟨_, e4⟩ | ⟨dx, fs, vs, rfl, e6, e7, e8⟩
          · subst e4; cases l1
          · obtain ⟨w, l3, l4⟩ := e8 i _ l2
            exact ⟨a, C, dx, fs, w, e1, e3, e6, T1, T2, e7 i n _ l1 l3, q G' H' _ x l4⟩
        · cases e2
      · cases e2
    · cases e2
  · rcases Res.bind_ex e with e1 | ⟨u, e1, e⟩
    · exact he.ev.ex B G0 G env σ H y r e1 w _
    · exact absurd e xvP_nx

/-! isinstance(e, T), e an exception as a value -/
def rIsV (K : PySem.W.Frag) : List V → Hp → VK → Prop := fun xs H Q => ∃ (a C : Addr) (d : Option Addr) (c : V) (cv : Value) (b : Bool), xs = [.ref a, c] ∧ H a = some (exo a C d) ∧ (∀ dd, d = some dd → ∃ l, H dd = some (exd dd l)) ∧ ExcC K C ∧ (∀ u, RelV c u → u = cv) ∧ PySem.W.kitOne K (.ref C) cv = some b ∧ Q (.bl b) H
theorem call_isV {X : Cx} : CallR X (.builtin "isinstance") (rIsV X.K) := by
  intro pins s σ H xs us Q I r h
  obtain ⟨a, D, d, c, cv, b, rfl, ha, hdd, C, hcv, e, q⟩ := h
  cases r with
  | cons rx rr =>
    cases rr with
    | cons rt rr =>
      cases rr
      cases rx
      have ec := hcv _ rt
      subst ec
      obtain ⟨t1, hget⟩ := exo_at I.hok ha
      have J : ∃ od, PySem.W.InstAt s.heap a { cls := .ref D, dict := d, data := .fields #[.ref t1, .none, .none, .none, .bool false, .none] } D od := by
        cases d with
        | none => exact ⟨none, hget, rfl, rfl, trivial⟩
        | some dd =>
          obtain ⟨l, hl⟩ := hdd dd rfl
          obtain ⟨mA, hns, hr⟩ := exd_at I.hok hl
          obtain ⟨od, ho, _⟩ := lookIn_ns hns
          exact ⟨some od, hget, rfl, rfl, ho⟩
      obtain ⟨od, J⟩ := J
      exact PySem.W.kia_one (PySem.W.kitx_exc (by obtain ⟨cd, hc, _⟩ := PySem.W.any_some C.hd; rw [hc]; rfl) C.hg C.hk C.hs C.ha C.hn C.ht C.hm) I.kIn J e (fun z => nomatch z) fun tk => ⟨.bl b, H, I.kept (t' := tk) fun _ _ z => z, rfl, q⟩
def isV (cs yes : List Str) (u : Vl) : Res Vl := match u.d with
  | .exn c _ _ => if cs.contains c = true then .ok ⟨.g, .bl (yes.contains c)⟩ else .no
  | _ => .no
theorem isV_nx {cs yes : List Str} {u : Vl} {x : Exn} : isV cs yes u ≠ .ex x := by
  unfold isV
  split
  · exact if_nx
  · exact fun z => nomatch z
theorem ev_isV {K : PySem.W.Frag} {W : Wi} {v : V} {cv : Value} {te : TE} {f : En → Res Vl} (cs yes : List Str) (T : ∀ c, cs.contains c = true → ExcC K (adr K c)) (hv : ∀ u, RelV v u → u = cv) (hk : ∀ c, cs.contains c = true → PySem.W.kitOne K (.ref (adr K c)) cv = some (yes.contains c)) (he : EvD K W te f) :
    EvD K W (tCB (rIsV K) (tCons te (tCons (tC v) tNil))) (unE (isV cs yes) f) := ⟨fun B G0 G env σ H z r e Q q => (by
  obtain ⟨u, e1, e2⟩ := Res.bind_eq e
  refine he.ok B G0 G env σ H u r e1 _ fun G' H' w x hw => ?_
  unfold isV at e2
  split at e2
  · rename_i c ns xs ed
    obtain ⟨hc, rfl⟩ := if_ok e2
    obtain ⟨a, C, d', f1, f2, f3, _, f4⟩ := Rp.exnv (r.ext x) hw ed
    have T1 := T c hc
    have T2 := hk c hc
    rw [adr_eq f2] at T1 T2
    exact ⟨a, C, d', v, cv, _, by rw [f1], f3, f4, T1, hv, T2, q G' H' _ x (.bl _)⟩
  · cases e2), fun B G0 G env σ H y r e w Q => by
  rcases Res.bind_ex e with e1 | ⟨u, e1, e⟩
  · exact he.ex B G0 G env σ H y r e1 w _
  · exact absurd e isV_nx⟩
section
variable {X : Cx} {W : Wi} {K : PySem.W.Frag} {pos p p2 : Pos} {e : Expr} {te : TE} {f : En → Res Vl} {T : Str}
/-- T an own class -/
theorem de_isV (cs yes : List Str) (hC : ∀ c, cs.contains c = true → ExcC K (adr K c)) (hT : X.mg T = some (.ref (adr K T))) (hk : ∀ c, cs.contains c = true → PySem.W.kitOne K (.ref (adr K c)) (.ref (adr K T)) = some (yes.contains c)) (hm : X.mg "isinstance" = none) (h : DE X W e te f)
    (hg : Gl X "isinstance" := by rfl) (hgT : Gl X T := by rfl) (hdb : (T == ("__debug__" : Str)) = false := by decide)
    (h1 : starEach (e :: [.Name T p2]) X.env = (false, eval e X.env) :: starEach [.Name T p2] X.env := by rfl) (hK : X.K = K := by rfl) : DE X W (.Call (.Name "isinstance" p) [e, .Name T p2] [] pos) (tCB (rIsV K) (tCons te (tCons (tC (.ref (adr K T))) tNil))) (unE (isV cs yes) f) := by
  subst hK
  exact ⟨pe_callB call_isV hg hm (by decide +kernel) (pa_cons h.pe (pa_cons (pe_glob (v := .ref (adr X.K T)) hgT hT rfl hdb) pa_nil) h1) (by decide) (by decide) h1, ev_isV cs yes hC (fun u r => r) hk h.ev⟩
/-- T a built-in class -/
theorem de_isVb {Ts : String} (cs yes : List Str) (hC : ∀ c, cs.contains c = true → ExcC K (adr K c)) (hv : bootBuiltins T = some (.type Ts)) (hmT : X.mg T = none) (hk : ∀ c, cs.contains c = true → PySem.W.kitOne K (.ref (adr K c)) (.type Ts) = some (yes.contains c)) (hm : X.mg "isinstance" = none) (h : DE X W e te f)
    (hg : Gl X "isinstance" := by rfl) (hgT : Gl X T := by rfl) (hn : T ≠ "__name__" := by decide) (hdb : (T == ("__debug__" : Str)) = false := by decide)
    (h1 : starEach (e :: [.Name T p2]) X.env = (false, eval e X.env) :: starEach [.Name T p2] X.env := by rfl) (hK : X.K = K := by rfl) : DE X W (.Call (.Name "isinstance" p) [e, .Name T p2] [] pos) (tCB (rIsV K) (tCons te (tCons (tC (.ty Ts)) tNil))) (unE (isV cs yes) f) := by
  subst hK
  exact ⟨pe_callB call_isV hg hm (by decide +kernel) (pa_cons h.pe (pa_cons (pe_bltn hgT hmT hv rfl hn hdb) pa_nil) h1) (by decide) (by decide) h1, ev_isV cs yes hC (fun u r => r) hk h.ev⟩
end
/-! the facts by one look -/
def exB (K : PySem.W.Frag) (D : Addr) : Bool := PySem.W.findIn K (.ref D) "__getattribute__" == some (some (.builtin "BaseException.__getattribute__")) && (PySem.W.findIn K (.ref D) "__getattr__" == some none && (PySem.W.subIn K (.ref D) (.type "BaseException") == some true && (PySem.W.hasDictIn K D &&
  (PySem.W.findIn K (.ref D) "__class__" == some (some (.builtin "object.__class__")) && (PySem.W.specialIn K (.builtin "object.__class__") "__get__" == some (some (.builtin "getset_descriptor.__get__")) && (PySem.W.takesIn K (.builtin "object.__class__") == some true && PySem.W.mroIn K D (.type "object") == some true))))))
theorem exB_ok {K : PySem.W.Frag} {D : Addr} (h : exB K D = true) : ExcC K D ∧ XfC K D := by
  unfold exB at h
  simp only [Bool.and_eq_true, beq_iff_eq] at h
  obtain ⟨h1, h2, h3, h4, h5, h6, h7, h8⟩ := h
  exact ⟨⟨h1, h2, h3, h4, h5, h6, h7, h8⟩, ⟨h1, h2, h3, h4⟩⟩
def exAll (K : PySem.W.Frag) (cs : List Str) : Bool := cs.all fun c => exB K (adr K c)
theorem exAll_c {K : PySem.W.Frag} {cs : List Str} (h : exAll K cs = true) : ∀ c, cs.contains c = true → ExcC K (adr K c) := fun c hc => (exB_ok (List.all_eq_true.1 h c (List.contains_iff_mem.1 hc))).1
theorem exAll_x {K : PySem.W.Frag} {cs : List Str} (h : exAll K cs = true) : ∀ c, cs.contains c = true → XfC K (adr K c) := fun c hc => (exB_ok (List.all_eq_true.1 h c (List.contains_iff_mem.1 hc))).2
def noAll (K : PySem.W.Frag) (n : Str) (cs : List Str) : Bool := cs.all fun c => PySem.W.findIn K (.ref (adr K c)) n == some none
theorem noAll_c {K : PySem.W.Frag} {n : Str} {cs : List Str} (h : noAll K n cs = true) : ∀ c, cs.contains c = true → PySem.W.findIn K (.ref (adr K c)) n = some none := fun c hc => beq_iff_eq.1 (List.all_eq_true.1 h c (List.contains_iff_mem.1 hc))
def kitAll (K : PySem.W.Frag) (cs yes : List Str) (cv : Value) : Bool := cs.all fun c => PySem.W.kitOne K (.ref (adr K c)) cv == some (yes.contains c)
theorem kitAll_c {K : PySem.W.Frag} {cs yes : List Str} {cv : Value} (h : kitAll K cs yes cv = true) : ∀ c, cs.contains c = true → PySem.W.kitOne K (.ref (adr K c)) cv = some (yes.contains c) := fun c hc => beq_iff_eq.1 (List.all_eq_true.1 h c (List.contains_iff_mem.1 hc))
end DL

namespace DL
open PySem L2 PySem.Spec PyProof.Rows
/-! ### the text of exception classes -/
/-- the j-th statement of a class -/
def inC (st : Stmt) (j : Nat) : Stmt := match st with
  | .ClassDef _ _ _ body _ _ _ _ _ _ p => body.getD j (.Pass p)
  | s => s
structure DXt (K : PySem.W.Frag) (mg : Str → Option Value) (x : Str) (ns : List Str) (st : Stmt) : Prop where
  ex : ∃ (C fI : Addr) (fd : FuncData) (qual : Str), mg x = some (.ref C) ∧ PySem.W.nsIn K mainGlobals x = some (some (.ref C)) ∧ OexC K C ∧ PySem.W.findIn K (.ref C) "__init__" = some (some (.ref fI)) ∧ PySem.W.typeIn K (.ref fI) = some (.type "function") ∧ Fun K "__init__" qual st fI fd ∧ Binds K fd (("self" : Str) :: ns) [] ∧ ∀ n, ns.contains n = true → PySem.W.findIn K (.ref C) n = some none
theorem dxt_mk {K : PySem.W.Frag} {h : Heap} {mg : Str → Option Value} {x qual : Str} {ns : List Str} {st : Stmt} {f C : Addr} {nm q : Str} {N : Addr} {bs bm : List Value} {sn : List Str} {sub : List Value} {ab : Bool} {col : Option Bool} {dd : Option Addr} {m0 m1 m2 m3 m5 : Option Value} {oc : Value} {od an : Option Addr} {sl : Array (Option Value)} {kV dc pm cd ct : Value} (X : K.In h) (G : h.Ns mainGlobals mg) (a : PySem.W.nsIn K mainGlobals x = some (some (.ref C)))
    (cl : K.lookup C = some (excClassObj nm q C N bs bm true sn sub ab col dd m0 m1 m2 m3 m5 "ValueError.__new__")) (sa : PySem.W.findIn K (.ref C) "__setattr__" = some (some (.builtin "object.__setattr__")))
    (eC : PySem.W.subIn K (.ref C) (.type "BaseException") = some true) (tC : PySem.W.typeIn K (.ref C) = some (.type "type")) (kC : PySem.W.keepIn K (.ref C) = true) (iC : PySem.W.findIn K (.ref C) "__init__" = some (some (.ref f))) (tI : PySem.W.typeIn K (.ref f) = some (.type "function"))
    (l : K.lookup f = some ⟨oc, od, .func (PySem.W.fnOf "__init__" qual (defArgs st) (defBody st) (defScope st) .none kV dc pm an cd ct), sl⟩) (c : PySem.W.codeIn K cd qual = true) (k : PySem.W.keepIn K (.ref f) = true)
    (rv : PySem.HandSPX.refsVE bm = true) (nf : (ns.all fun n => PySem.W.findIn K (.ref C) n == some none) = true)
    (hb : ∀ (kV doc pm : Value) (an : Option Addr) (cdv ct : Value) (us : List Value), us.length = (("self" : Str) :: ns).length → bindArgs (PySem.W.fnOf "__init__" qual (defArgs st) (defBody st) (defScope st) .none kV doc pm an cdv ct) ⟨us, []⟩ = pure ((("self" : Str) :: ns).zip us)) : DXt K mg x ns st :=
  ⟨C, f, _, qual, PySem.W.mg_of X G a, a, ⟨⟨nm, q, N, bs, bm, sn, sub, ab, col, dd, m0, m1, m2, m3, m5, cl, rv⟩, sa, eC, tC, kC⟩, iC, tI, fun_mk l c k, (fun_mk l c k).binds hb, fun n hn => beq_iff_eq.1 (List.all_eq_true.1 nf n (List.contains_iff_mem.1 hn))⟩
section
variable {P : Program} {w : World} {K : PySem.W.Frag} {mg : Str → Option Value} {base : Heap} {x : Str} {st : Stmt} {f g : Str}
theorem dx_1 (d : DXt K mg x [f] st) (S : FnScope ["self", f] ["self", f] (defScope st))
    (h : ∀ (fI : Addr) (qual : Str) (cdv : Value) (A : Around) (outer : List Env) (s : Shared) (H : Hp) (E : XK), PSs (cxOf CX0 P w K mg base ["self", f] qual (defScope st) fI cdv A outer s H E).nox (defBody st) (tOst K f (tVar 0) (tVar 1))) : DX P w K mg base x [f] := by
  obtain ⟨C, fI, fd, qual, h1, h2, h3, h4, h5, h6, h7, h8⟩ := d.ex
  exact ⟨⟨C, fI, fd, _, h1, h2, h3, h4, h5, h7, init1 (k := 0) h3 (h8 f (by simp)) h6 S (h fI qual)⟩, .inl rfl⟩
theorem dx_2 (d : DXt K mg x [f, g] st) (S : FnScope ["self", f, g] ["self", f, g] (defScope st)) (ne : f ≠ g)
    (h : ∀ (fI : Addr) (qual : Str) (cdv : Value) (A : Around) (outer : List Env) (s : Shared) (H : Hp) (E : XK), PSs (cxOf CX0 P w K mg base ["self", f, g] qual (defScope st) fI cdv A outer s H E).nox (defBody st) (tSeq (tOst K f (tVar 0) (tVar 1)) (tOst K g (tVar 0) (tVar 2)))) : DX P w K mg base x [f, g] := by
  obtain ⟨C, fI, fd, qual, h1, h2, h3, h4, h5, h6, h7, h8⟩ := d.ex
  exact ⟨⟨C, fI, fd, _, h1, h2, h3, h4, h5, h7, init2 (k := 0) h3 (h8 f (by simp)) (h8 g (by simp)) h6 S (h fI qual)⟩, .inr ⟨f, g, rfl, ne⟩⟩
end
theorem dx0_mk {K : PySem.W.Frag} {h : Heap} {mg : Str → Option Value} {x : Str} {C : Addr} {bm : List Value} {B newId initId : String} (X : K.In h) (G : h.Ns mainGlobals mg) (F : ExcBaseFacts B newId initId bm) (a : PySem.W.nsIn K mainGlobals x = some (some (.ref C)))
    (q : PySem.W.excIn K C bm newId = true) (kC : PySem.W.keepIn K (.ref C) = true) (sC : PySem.W.subIn K (.ref C) (.type "BaseException") = some true) (tC : PySem.W.typeIn K (.ref C) = some (.type "type")) : DX0 K mg x :=
  ⟨C, bm, B, newId, initId, PySem.W.mg_of X G a, a, F, q, kC, sC, tC⟩
/-- a class stands under its name -/
theorem cls_mk {K : PySem.W.Frag} {h : Heap} {mg : Str → Option Value} {x : Str} {C : Addr} (X : K.In h) (G : h.Ns mainGlobals mg) (a : PySem.W.nsIn K mainGlobals x = some (some (.ref C))) : mg x = some (.ref (adr K x)) := by
  rw [adr_eq a]
  exact PySem.W.mg_of X G a
end DL

/-! DLs: how the combinators reckon, as rules for simp. -/
namespace DL
open PySem L2
def lsV : D → Res Vl
  | .int j => if j.toNat ≤ 2 ^ 24 then .ok ⟨.o, .lst (rngD 0 j.toNat)⟩ else .no
  | _ => .no
def lsW : D → D → Res Vl
  | .int i, .int j => if (j - i).toNat ≤ 2 ^ 24 then .ok ⟨.o, .lst (rngD i (j - i).toNat)⟩ else .no
  | _, _ => .no
section
variable {env : En} {i j : Nat} {k l : Bool} {d : D} {xs ys : List D} {a b : Int} {s t : Str} {u w : Vl} {q q' : Kd}
def nmV : Option Sl → Res Vl
  | some (.vl k d) => .ok ⟨kd k, d⟩
  | some (.ow xs) => .ok ⟨.h, .lst xs⟩
  | _ => .no
theorem nmE_eq : nmE i env = nmV env[i]? := by
  unfold nmE
  cases h : env[i]? with
  | none => rfl
  | some s => cases s <;> rfl
theorem nmV_vl : nmV (some (.vl k d)) = .ok ⟨kd k, d⟩ := rfl
theorem nmV_ow : nmV (some (.ow xs)) = .ok ⟨.h, .lst xs⟩ := rfl
theorem kd_true : kd true = .g := rfl
theorem kd_false : kd false = .b := rfl
theorem nmE_vl (h : env[i]? = some (.vl k d)) : nmE i env = .ok ⟨kd k, d⟩ := by unfold nmE; rw [h]
theorem nmE_ow (h : env[i]? = some (.ow xs)) : nmE i env = .ok ⟨.h, .lst xs⟩ := by unfold nmE; rw [h]
theorem cE_eq : cE d env = .ok ⟨.g, d⟩ := rfl
theorem binE_eq {p : Vl → Vl → Res Vl} {f g : En → Res Vl} : binE p f g env = (f env).bind fun x => (g env).bind fun y => p x y := rfl
theorem unE_eq {p : Vl → Res Vl} {f : En → Res Vl} : unE p f env = (f env).bind p := rfl
theorem negP_int : negP ⟨q, .int a⟩ = .ok ⟨.g, .int (-a)⟩ := rfl
theorem callE_eq {p : List Vl → Res Vl} {f : En → Res (List Vl)} : callE p f env = (f env).bind p := rfl
theorem callF_eq {F : Fn} {ds : List D} {f : En → Res (List Vl)} : callF F ds f env = (f env).bind fun us => (F (us.map Vl.ba ++ ds.map fun d => (true, d))).nx.bind fin := rfl
theorem callX_eq {F : Fn} {ds : List D} {f : En → Res (List Vl)} : callX F ds f env = (f env).bind fun us => (F (us.map Vl.ba ++ ds.map fun d => (true, d))).bind fin := rfl
theorem rnx_ok {α : Type} {a : α} : (Res.ok a).nx = .ok a := rfl
theorem rnx_no {α : Type} : (Res.no : Res α).nx = .no := rfl
theorem rnx_ex {α : Type} {x : Exn} : (Res.ex x : Res α).nx = .no := rfl
theorem callK_eq {F : Fn} {n m : Nat} {f g : En → Res (List Vl)} : callK F n m f g env = (f env).bind fun us => (g env).bind fun ws => if us.length = n ∧ ws.length = m then (F ((us ++ ws).map Vl.ba)).nx.bind fin else .no := rfl
theorem fin_g : fin ⟨.g, d⟩ = .ok ⟨.g, d⟩ := rfl
theorem fin_o : fin ⟨.o, d⟩ = .ok ⟨.o, d⟩ := rfl
theorem nilA_eq : nilA env = .ok [] := rfl
theorem consA_eq {f : En → Res Vl} {g : En → Res (List Vl)} : consA f g env = (f env).bind fun x => (g env).bind fun xs => .ok (x.arg :: xs) := rfl
theorem arg_kd : (⟨kd k, d⟩ : Vl).arg = ⟨kd k, d⟩ := by cases k <;> rfl
theorem arg_g : (⟨.g, d⟩ : Vl).arg = ⟨.g, d⟩ := rfl
theorem arg_h : (⟨.h, d⟩ : Vl).arg = ⟨.h, d⟩ := rfl
theorem arg_b : (⟨.b, d⟩ : Vl).arg = ⟨.b, d⟩ := rfl
theorem arg_o : (⟨.o, d⟩ : Vl).arg = ⟨.g, d⟩ := rfl
theorem ba_kd : Vl.ba ⟨kd k, d⟩ = (k || flat d, d) := by cases k <;> rfl
theorem ba_g : Vl.ba ⟨.g, d⟩ = (true, d) := rfl
theorem ba_h : Vl.ba ⟨.h, .lst xs⟩ = (false, .lst xs) := rfl
theorem keep_kd : (⟨kd k, d⟩ : Vl).keep = (k || flat d) := by cases k <;> rfl
theorem keep_g : (⟨.g, d⟩ : Vl).keep = true := rfl
theorem keep_o : (⟨.o, d⟩ : Vl).keep = true := rfl
theorem flat_int : flat (.int a) = true := rfl
theorem flat_bl : flat (.bl k) = true := rfl
theorem flat_str : flat (.str s) = true := rfl
theorem flat_non : flat .non = true := rfl
theorem flat_lst : flat (.lst xs) = false := rfl
theorem flat_tup : flat (.tup xs) = false := rfl
theorem slot_kd : slotOf ⟨kd k, d⟩ = .ok (.vl k d) := by cases k <;> rfl
theorem slot_g : slotOf ⟨.g, d⟩ = .ok (.vl true d) := rfl
theorem slot_b : slotOf ⟨.b, d⟩ = .ok (.vl false d) := rfl
theorem slot_o : slotOf ⟨.o, .lst xs⟩ = .ok (.ow xs) := rfl
theorem sub_kd : (kd k).sub = kd k := by cases k <;> rfl
theorem sub_g : Kd.sub .g = .g := rfl
theorem sub_h : Kd.sub .h = .g := rfl
theorem sub_o : Kd.sub .o = .g := rfl
theorem sub_b : Kd.sub .b = .b := rfl
theorem it_kd : (kd k).it xs = (k || xs.all flat) := by cases k <;> rfl
theorem it_g : Kd.it .g xs = true := rfl
theorem it_h : Kd.it .h xs = true := rfl
theorem it_o : Kd.it .o xs = true := rfl
theorem intP_int {g : Int → Int → Res D} : intP g ⟨q, .int a⟩ ⟨q', .int b⟩ = (g a b).bind fun d => .ok ⟨.g, d⟩ := rfl
theorem addP_int : addP ⟨q, .int a⟩ ⟨q', .int b⟩ = .ok ⟨.g, .int (a + b)⟩ := rfl
theorem addP_lst : addP ⟨q, .lst xs⟩ ⟨q', .lst ys⟩ = if q.it xs = true ∧ q'.it ys = true ∧ xs.length + ys.length ≤ sizeLine then .ok ⟨.o, .lst (xs ++ ys)⟩ else .no := rfl
theorem addP_str : addP ⟨q, .str s⟩ ⟨q', .str t⟩ = if s.length + t.length ≤ sizeLine then .ok ⟨.g, .str (s ++ t)⟩ else .no := rfl
theorem addI_eq : addI a b = .ok (.int (a + b)) := rfl
theorem subI_eq : subI a b = .ok (.int (a - b)) := rfl
theorem ltI_eq : ltI a b = .ok (.bl (decide (a < b))) := rfl
theorem leI_eq : leI a b = .ok (.bl (decide (a ≤ b))) := rfl
theorem gtI_eq : gtI a b = .ok (.bl (decide (b < a))) := rfl
theorem geI_eq : geI a b = .ok (.bl (decide (b ≤ a))) := rfl
theorem modI_eq : modI a b = if 0 < b then .ok (.int (a % b)) else .no := rfl
theorem eqP_eq {n : Bool} : eqP n u w = (eqB n u.d w.d).bind fun b => .ok ⟨.g, .bl b⟩ := rfl
theorem eqB_int {n : Bool} : eqB n (.int a) (.int b) = .ok (if n then !decide (a = b) else decide (a = b)) := rfl
theorem eqB_str {n : Bool} : eqB n (.str s) (.str t) = .ok (if n then !decide (s = t) else decide (s = t)) := rfl
theorem eqB_bl {n : Bool} : eqB n (.bl k) (.bl l) = .ok (if n then !decide (k = l) else decide (k = l)) := rfl
theorem eqB_non {n : Bool} : eqB n .non .non = .ok (if n then !true else true) := rfl
theorem isP_non {n : Bool} : isP n ⟨q, .non⟩ ⟨q', .non⟩ = .ok ⟨.g, .bl (!n)⟩ := rfl
theorem isP_int_non {n : Bool} : isP n ⟨q, .int a⟩ ⟨q', .non⟩ = .ok ⟨.g, .bl n⟩ := rfl
theorem isP_str_non {n : Bool} : isP n ⟨q, .str s⟩ ⟨q', .non⟩ = .ok ⟨.g, .bl n⟩ := rfl
theorem isP_bl_non {n : Bool} : isP n ⟨q, .bl k⟩ ⟨q', .non⟩ = .ok ⟨.g, .bl n⟩ := rfl
theorem isP_lst_non {n : Bool} : isP n ⟨q, .lst xs⟩ ⟨q', .non⟩ = .ok ⟨.g, .bl n⟩ := rfl
theorem isP_tup_non {n : Bool} : isP n ⟨q, .tup xs⟩ ⟨q', .non⟩ = .ok ⟨.g, .bl n⟩ := rfl
theorem isP_bl {n : Bool} : isP n ⟨q, .bl k⟩ ⟨q', .bl l⟩ = .ok ⟨.g, .bl (if n then !decide (k = l) else decide (k = l))⟩ := rfl
theorem isP_non_bl {n : Bool} : isP n ⟨q, .non⟩ ⟨q', .bl l⟩ = .ok ⟨.g, .bl n⟩ := rfl
theorem isP_int_bl {n : Bool} : isP n ⟨q, .int a⟩ ⟨q', .bl l⟩ = .ok ⟨.g, .bl n⟩ := rfl
theorem isP_str_bl {n : Bool} : isP n ⟨q, .str s⟩ ⟨q', .bl l⟩ = .ok ⟨.g, .bl n⟩ := rfl
theorem isP_lst_bl {n : Bool} : isP n ⟨q, .lst xs⟩ ⟨q', .bl l⟩ = .ok ⟨.g, .bl n⟩ := rfl
theorem isP_tup_bl {n : Bool} : isP n ⟨q, .tup xs⟩ ⟨q', .bl l⟩ = .ok ⟨.g, .bl n⟩ := rfl
theorem intC_int : intC [⟨q, .int a⟩] = .ok ⟨.g, .int a⟩ := rfl
theorem intC_bl : intC [⟨q, .bl k⟩] = .ok ⟨.g, .int (if k then 1 else 0)⟩ := rfl
theorem absC_int : absC [⟨q, .int a⟩] = .ok ⟨.g, .int (if a < 0 then -a else a)⟩ := rfl
theorem min2C_int : min2C [⟨q, .int a⟩, ⟨q', .int b⟩] = .ok ⟨.g, .int (if b < a then b else a)⟩ := rfl
theorem max2C_int : max2C [⟨q, .int a⟩, ⟨q', .int b⟩] = .ok ⟨.g, .int (if b > a then b else a)⟩ := rfl
theorem lenC_lst : lenC [⟨q, .lst xs⟩] = .ok ⟨.g, .int xs.length⟩ := rfl
theorem lenC_tup : lenC [⟨q, .tup xs⟩] = .ok ⟨.g, .int xs.length⟩ := rfl
theorem divmodC_int : divmodC [⟨q, .int a⟩, ⟨q', .int b⟩] = if CDiv a b then .ok ⟨.g, .tup [.int (a / b), .int (a % b)]⟩ else .no := rfl
theorem sumC_ints {ns : List Int} : sumC [⟨q, .lst (ns.map D.int)⟩] = .ok ⟨.g, .int ns.sum⟩ := by unfold sumC; simp
theorem sumC_tup {ns : List Int} : sumC [⟨q, .tup (ns.map D.int)⟩] = .ok ⟨.g, .int ns.sum⟩ := by unfold sumC; simp
theorem listC_lst : listC [⟨q, .lst xs⟩] = if q.it xs = true then .ok ⟨.o, .lst xs⟩ else .no := rfl
theorem listC_tup : listC [⟨q, .tup xs⟩] = if q.it xs = true then .ok ⟨.o, .lst xs⟩ else .no := rfl
theorem tupleC_lst : tupleC [⟨q, .lst xs⟩] = if q.it xs = true then .ok ⟨.g, .tup xs⟩ else .no := rfl
theorem tupleC_tup : tupleC [⟨q, .tup xs⟩] = .ok ⟨q, .tup xs⟩ := rfl
theorem ixP_lst : ixP ⟨q, .lst xs⟩ ⟨q', .int a⟩ = (atD xs a).bind fun d => .ok ⟨q.sub, d⟩ := rfl
theorem ixP_tup : ixP ⟨q, .tup xs⟩ ⟨q', .int a⟩ = (atD xs a).bind fun d => .ok ⟨q.sub, d⟩ := rfl
theorem tupE_eq {f : En → Res (List Vl)} : tupE f env = (f env).bind fun us => if us.all Vl.keep = true ∧ us.length ≤ sizeLine then .ok ⟨.g, .tup (us.map Vl.d)⟩ else .no := rfl
theorem lstE_eq {f : En → Res (List Vl)} : lstE f env = (f env).bind fun us => if us.all Vl.keep = true ∧ us.length ≤ sizeLine then .ok ⟨.o, .lst (us.map Vl.d)⟩ else .no := rfl
theorem isiE_eq {T : String} {f : En → Res Vl} : isiE T f env = (f env).bind fun u => if isOb u.d = true then .no else .ok ⟨.g, .bl (isiB T u.d)⟩ := rfl
theorem isOb_non : isOb .non = false := rfl
theorem isOb_bl : isOb (.bl k) = false := rfl
theorem isOb_int : isOb (.int a) = false := rfl
theorem isOb_str : isOb (.str s) = false := rfl
theorem isOb_lst : isOb (.lst xs) = false := rfl
theorem isOb_tup : isOb (.tup xs) = false := rfl
theorem isOb_fz : isOb (.fz xs) = false := rfl
theorem isi_non_int : isiB "int" .non = false := rfl
theorem isi_non_str : isiB "str" .non = false := rfl
theorem isi_non_bool : isiB "bool" .non = false := rfl
theorem isi_non_list : isiB "list" .non = false := rfl
theorem isi_non_tuple : isiB "tuple" .non = false := rfl
theorem isi_bl_int : isiB "int" (.bl k) = true := rfl
theorem isi_bl_str : isiB "str" (.bl k) = false := rfl
theorem isi_bl_bool : isiB "bool" (.bl k) = true := rfl
theorem isi_bl_list : isiB "list" (.bl k) = false := rfl
theorem isi_bl_tuple : isiB "tuple" (.bl k) = false := rfl
theorem isi_int_int : isiB "int" (.int a) = true := rfl
theorem isi_int_str : isiB "str" (.int a) = false := rfl
theorem isi_int_bool : isiB "bool" (.int a) = false := rfl
theorem isi_int_list : isiB "list" (.int a) = false := rfl
theorem isi_int_tuple : isiB "tuple" (.int a) = false := rfl
theorem isi_str_int : isiB "int" (.str s) = false := rfl
theorem isi_str_str : isiB "str" (.str s) = true := rfl
theorem isi_str_bool : isiB "bool" (.str s) = false := rfl
theorem isi_str_list : isiB "list" (.str s) = false := rfl
theorem isi_str_tuple : isiB "tuple" (.str s) = false := rfl
theorem isi_lst_int : isiB "int" (.lst xs) = false := rfl
theorem isi_lst_str : isiB "str" (.lst xs) = false := rfl
theorem isi_lst_bool : isiB "bool" (.lst xs) = false := rfl
theorem isi_lst_list : isiB "list" (.lst xs) = true := rfl
theorem isi_lst_tuple : isiB "tuple" (.lst xs) = false := rfl
theorem isi_tup_int : isiB "int" (.tup xs) = false := rfl
theorem isi_tup_str : isiB "str" (.tup xs) = false := rfl
theorem isi_tup_bool : isiB "bool" (.tup xs) = false := rfl
theorem isi_tup_list : isiB "list" (.tup xs) = false := rfl
theorem isi_tup_tuple : isiB "tuple" (.tup xs) = true := rfl
theorem isi_fz_int : isiB "int" (.fz xs) = false := rfl
theorem isi_fz_str : isiB "str" (.fz xs) = false := rfl
theorem isi_fz_bool : isiB "bool" (.fz xs) = false := rfl
theorem isi_fz_list : isiB "list" (.fz xs) = true := rfl
theorem isi_fz_tuple : isiB "tuple" (.fz xs) = false := rfl
theorem slE_eq {f : En → Res Vl} {p r : En → Res (Option Int)} : slE f p r env = (f env).bind fun u => (p env).bind fun lo => (r env).bind fun hi => slP u lo hi := rfl
theorem slP_lst {lo hi : Option Int} : slP ⟨q, .lst xs⟩ lo hi = if q.it xs = true then .ok ⟨.o, .lst (cutD xs lo hi)⟩ else .no := rfl
theorem slP_fz {lo hi : Option Int} : slP ⟨q, .fz xs⟩ lo hi = if q.it xs = true then .ok ⟨.o, .lst (cutD xs lo hi)⟩ else .no := rfl
theorem slP_tup {lo hi : Option Int} : slP ⟨q, .tup xs⟩ lo hi = if q.it xs = true ∧ ¬ (HT.sIx xs.length 0 lo = 0 ∧ HT.sIx xs.length xs.length hi = xs.length) then .ok ⟨.g, .tup (cutD xs lo hi)⟩ else .no := rfl
theorem noPart_eq : noPart env = .ok none := rfl
theorem part_eq {f : En → Res Vl} : part f env = (f env).bind fun u => match u.d with
  | .int i => .ok (some i)
  | _ => .no := rfl
theorem truT_eq {f : En → Res Vl} : truT f env = (f env).bind fun u => truD u.d := rfl
theorem valT_eq {f : En → Res Vl} : valT f env = (f env).bind fun u => boolD u.d := rfl
theorem truD_bl : truD (.bl k) = .ok k := rfl
theorem truD_int : truD (.int a) = .ok (a != 0) := rfl
theorem truD_lst : truD (.lst xs) = .ok (!xs.isEmpty) := rfl
theorem truD_tup : truD (.tup xs) = .ok (!xs.isEmpty) := rfl
theorem truD_non : truD .non = .ok false := rfl
theorem boolD_bl : boolD (.bl k) = .ok k := rfl
theorem andT_eq {f g : En → Res Bool} : andT f g env = (f env).bind fun b => if b = true then g env else .ok false := by unfold andT; congr; funext b; cases b <;> rfl
theorem orT_eq {f g : En → Res Bool} : orT f g env = (f env).bind fun b => if b = true then .ok true else g env := by unfold orT; congr; funext b; cases b <;> rfl
theorem notT_eq {f : En → Res Bool} : notT f env = (f env).bind fun b => .ok (!b) := rfl
theorem andE_eq {f g : En → Res Vl} : andE f g env = (f env).bind fun u => (boolD u.d).bind fun c => if c = true then g env else .ok ⟨.g, .bl false⟩ := by unfold andE; congr; funext u; congr; funext b; cases b <;> rfl
theorem orE_eq {f g : En → Res Vl} : orE f g env = (f env).bind fun u => (boolD u.d).bind fun c => if c = true then .ok ⟨.g, .bl true⟩ else g env := by unfold orE; congr; funext u; congr; funext b; cases b <;> rfl
theorem notE_eq {f : En → Res Vl} : notE f env = (f env).bind fun u => (boolD u.d).bind fun c => .ok ⟨.g, .bl (!c)⟩ := rfl
theorem ifE_eq {p : En → Res Bool} {f g : En → Res Vl} : ifE p f g env = (p env).bind fun c => if c = true then f env else g env := by unfold ifE; congr; funext b; cases b <;> rfl
/-- what follows an outcome -/
def Out.bind : Out → (En → Out) → Out
  | .nx e, g => g e
  | o, _ => o
theorem seqO_eq {f g : En → Out} : seqO f g env = (f env).bind g := by unfold seqO Out.bind; cases f env <;> rfl
theorem ob_nx {g : En → Out} : (Out.nx env).bind g = g env := rfl
theorem ob_rt {g : En → Out} : (Out.rt u).bind g = .rt u := rfl
theorem ob_bk {g : En → Out} : (Out.bk env).bind g = .bk env := rfl
theorem ob_ct {g : En → Out} : (Out.ct env).bind g = .ct env := rfl
theorem ob_if {c : Prop} [Decidable c] {x y : Out} {g : En → Out} : (if c then x else y).bind g = if c then x.bind g else y.bind g := by split <;> rfl
def Res.out {α : Type} (r : Res α) (e : En) (g : α → Out) : Out := match r with
  | .ok a => g a
  | .ex x => .ex e x
  | .no => .no
def Res.nxo {α : Type} (r : Res α) (g : α → Out) : Out := match r with
  | .ok a => g a
  | _ => .no
theorem out_ok {α : Type} {a : α} {g : α → Out} : (Res.ok a).out env g = g a := rfl
theorem out_no {α : Type} {g : α → Out} : (Res.no : Res α).out env g = .no := rfl
theorem out_ex {α : Type} {x : Exn} {g : α → Out} : (Res.ex x : Res α).out env g = .ex env x := rfl
theorem nxo_ok {α : Type} {a : α} {g : α → Out} : (Res.ok a).nxo g = g a := rfl
theorem nxo_no {α : Type} {g : α → Out} : (Res.no : Res α).nxo g = .no := rfl
theorem nxo_ex {α : Type} {x : Exn} {g : α → Out} : (Res.ex x : Res α).nxo g = .no := rfl
theorem ob_no {g : En → Out} : Out.no.bind g = .no := rfl
theorem ob_ex {x : Exn} {g : En → Out} : (Out.ex env x).bind g = .ex env x := rfl
theorem setO_eq {f : En → Res Vl} : setO i f env = ((f env).bind slotOf).out env fun s => .nx (env.set i s) := by
  unfold setO Res.out
  cases (f env).bind slotOf <;> rfl
theorem asgO_eq {t : Tg} {f : En → Res Vl} : asgO t f env = (f env).out env fun u => (t u env).nxo fun e => .nx e := by
  unfold asgO Res.out Res.nxo
  cases f env with
  | ok u => dsimp only; cases t u env <;> rfl
  | _ => rfl
theorem retO_eq {f : En → Res Vl} : retO f env = ((f env).bind retV).out env fun u => .rt u := by
  unfold retO Res.out
  cases (f env).bind retV <;> rfl
theorem retV_g : retV ⟨.g, d⟩ = .ok ⟨.g, d⟩ := rfl
theorem retV_o : retV ⟨.o, d⟩ = .ok ⟨.o, d⟩ := rfl
theorem retV_h : retV ⟨.h, d⟩ = .ok ⟨.o, d⟩ := rfl
theorem retV_kd (h : flat d = true) : retV ⟨kd k, d⟩ = .ok ⟨.g, d⟩ := by
  cases k
  · show (if flat d = true then _ else _) = _
    rw [if_pos h]
  · rfl
theorem ifO_eq {p : En → Res Bool} {f g : En → Out} : ifO p f g env = (p env).out env fun b => if b = true then f env else g env := by
  unfold ifO Res.out
  cases p env with
  | ok b => cases b <;> rfl
  | ex x => rfl
  | no => rfl
theorem nextO_eq : nextO env = .nx env := rfl
theorem dropO_eq {f : En → Res Vl} : dropO f env = (f env).out env fun _ => .nx env := by
  unfold dropO Res.out
  cases f env <;> rfl
theorem appO_eq {f : En → Res Vl} : appO i f env = (owAt env i).nxo fun xs => ((f env).bind keepD).out env fun d => if xs.length < sizeLine then .nx (env.set i (.ow (xs ++ [d]))) else .no := by
  unfold appO Res.out Res.nxo
  cases (f env).bind keepD <;> cases owAt env i <;> rfl
theorem putO_eq {f g : En → Res Vl} : putO i f g env = ((f env).bind keepD).out env fun d => (g env).nxo fun w => match w with
  | ⟨_, .int j⟩ => (owAt env i).nxo fun xs => match ixN xs.length j with
    | some m => .nx (env.set i (.ow (xs.set m d)))
    | none => .no
  | _ => .no := by
  unfold putO Res.out Res.nxo
  cases (f env).bind keepD with
  | no => rfl
  | ex x => rfl
  | ok d =>
    cases g env with
    | no => rfl
    | ex x => rfl
    | ok w =>
      obtain ⟨k, e⟩ := w
      cases e with
      | int j => cases owAt env i <;> rfl
      | _ => rfl
theorem keepD_eq : keepD u = if u.keep = true then .ok u.d else .no := rfl
def owV : Option Sl → Res (List D)
  | some (.ow xs) => .ok xs
  | _ => .no
theorem owAt_eq : owAt env i = owV env[i]? := by
  unfold owAt
  cases h : env[i]? with
  | none => rfl
  | some s => cases s <;> rfl
theorem owV_ow : owV (some (.ow xs)) = .ok xs := rfl
def frzV (env : En) (i : Nat) : Option Sl → En
  | some (.ow xs) => env.set i (.vl true (.lst xs))
  | _ => env
theorem frz1_eq : frz1 i env = frzV env i env[i]? := by
  unfold frz1
  cases h : env[i]? with
  | none => rfl
  | some s => cases s <;> rfl
theorem frzV_ow : frzV env i (some (.ow xs)) = env.set i (.vl true (.lst xs)) := rfl
theorem frzV_vl : frzV env i (some (.vl k d)) = env := rfl
theorem frzV_no : frzV env i (some .no) = env := rfl
def augV (p : Int → Int → Int) (i : Nat) (r : Res Vl) (env : En) : Option Sl → Out
  | some (.vl _ (.int a)) => match r with
    | .ok ⟨_, .int b⟩ => .nx (env.set i (.vl true (.int (p a b))))
    | _ => .no
  | _ => .no
theorem augO_eq {p : Int → Int → Int} {f : En → Res Vl} : augO i p f env = augV p i (f env) env env[i]? := by
  unfold augO augV
  cases h : env[i]? with
  | none => rfl
  | some s =>
    cases s with
    | vl k d => cases d <;> rfl
    | _ => rfl
theorem augV_int {p : Int → Int → Int} : augV p i (.ok ⟨q, .int b⟩) env (some (.vl k (.int a))) = .nx (env.set i (.vl true (.int (p a b)))) := rfl
theorem owAt_ow (h : env[i]? = some (.ow xs)) : owAt env i = .ok xs := by unfold owAt; rw [h]
theorem frzO_eq {is : List Nat} {f : En → Out} : frzO is f env = f (frz is env) := rfl
theorem frz_nil : frz [] env = env := rfl
theorem frz_cons {is : List Nat} : frz (i :: is) env = frz is (frz1 i env) := rfl
theorem frz1_ow (h : env[i]? = some (.ow xs)) : frz1 i env = env.set i (.vl true (.lst xs)) := by unfold frz1; rw [h]
theorem frz1_vl (h : env[i]? = some (.vl k d)) : frz1 i env = env := by unfold frz1; rw [h]
theorem frz1_no (h : env[i]? = some .no) : frz1 i env = env := by unfold frz1; rw [h]
def seqV : Vl → Res (Kd × List D)
  | ⟨.g, .lst xs⟩ => .ok (.g, xs)
  | ⟨.o, .lst xs⟩ => .ok (.g, xs)
  | ⟨.b, .lst xs⟩ => .ok (.b, xs)
  | ⟨.g, .tup xs⟩ => .ok (.g, xs)
  | ⟨.b, .tup xs⟩ => .ok (.b, xs)
  | ⟨.g, .fz xs⟩ => .ok (.g, xs)
  | ⟨.b, .fz xs⟩ => .ok (.b, xs)
  | _ => .no
theorem seqI_eq {f : En → Res Vl} : seqI f env = (f env).bind seqV := by
  unfold seqI
  congr
theorem seqV_gf : seqV ⟨.g, .fz xs⟩ = .ok (.g, xs) := rfl
theorem seqV_kf : seqV ⟨kd k, .fz xs⟩ = .ok (kd k, xs) := by cases k <;> rfl
theorem seqV_kd : seqV ⟨kd k, .lst xs⟩ = .ok (kd k, xs) := by cases k <;> rfl
theorem seqV_kdt : seqV ⟨kd k, .tup xs⟩ = .ok (kd k, xs) := by cases k <;> rfl
theorem seqV_g : seqV ⟨.g, .lst xs⟩ = .ok (.g, xs) := rfl
theorem seqV_gt : seqV ⟨.g, .tup xs⟩ = .ok (.g, xs) := rfl
theorem seqV_o : seqV ⟨.o, .lst xs⟩ = .ok (.g, xs) := rfl
theorem seqV_b : seqV ⟨.b, .lst xs⟩ = .ok (.b, xs) := rfl
theorem seqV_bt : seqV ⟨.b, .tup xs⟩ = .ok (.b, xs) := rfl
def rg (j : Int) : Bool := decide (-(2 ^ 62) ≤ j ∧ j < 2 ^ 62)
theorem rg_in {j : Int} (h1 : -1000000000 ≤ j) (h2 : j ≤ 1000000000) : rg j = true := decide_eq_true ⟨by omega, by omega⟩
def rng1V : D → Res (Kd × List D)
  | .int j => if rg j = true then .ok (.g, rngD 0 j.toNat) else .no
  | _ => .no
def rng2V : D → D → Res (Kd × List D)
  | .int i, .int j => if rg i = true ∧ rg j = true then .ok (.g, rngD i (j - i).toNat) else .no
  | _, _ => .no
theorem rg_iff {j : Int} : (rg j = true) ↔ (-(2 ^ 62) ≤ j ∧ j < 2 ^ 62) := decide_eq_true_iff
theorem rng1_eq {f : En → Res Vl} : rng1 f env = (f env).bind fun u => rng1V u.d := by
  unfold rng1
  congr
  funext u
  obtain ⟨k, e⟩ := u
  cases e with
  | int j =>
    unfold rng1V
    simp only [rg_iff]
  | _ => rfl
theorem rng2_eq {f g : En → Res Vl} : rng2 f g env = (f env).bind fun u => (g env).bind fun w => rng2V u.d w.d := by
  unfold rng2
  congr
  funext u
  congr
  funext w
  obtain ⟨k, e⟩ := u
  obtain ⟨k', e'⟩ := w
  cases e <;> cases e' <;> first
    | rfl
    | (unfold rng2V
       simp only [rg_iff, and_assoc])
theorem rng1V_int : rng1V (.int a) = if rg a = true then .ok (.g, rngD 0 a.toNat) else .no := rfl
theorem rng2V_int : rng2V (.int a) (.int b) = if rg a = true ∧ rg b = true then .ok (.g, rngD a (b - a).toNat) else .no := rfl
theorem forS_eq {it : En → Res (Kd × List D)} {t : Tg} {f : En → Out} : forS it t f env = (it env).out env fun p => forO t f p.1 p.2 env := by
  unfold forS Res.out
  cases it env with
  | ok p => rfl
  | ex x => rfl
  | no => rfl
theorem lcE_eq {it : En → Res (Kd × List D)} {t : Tg} {c : En → Res Bool} {f : En → Res Vl} {own : List Nat} : lcE it t c f own env = (it env).bind fun p => if p.2.length < sizeLine then (lcO t c f p.1 (wipeE env own) p.2).nx.bind fun ds => .ok ⟨.o, .lst ds⟩ else .no := rfl
theorem lcO_nil {t : Tg} {c : En → Res Bool} {f : En → Res Vl} : lcO t c f q env [] = .ok [] := rfl
theorem lcO_cons {t : Tg} {c : En → Res Bool} {f : En → Res Vl} {x : D} : lcO t c f q env (x :: xs) = (t ⟨q, x⟩ env).bind fun e => (c e).bind fun b => if b = true then ((f e).bind keepD).bind fun d => (lcO t c f q env xs).bind fun ds => .ok (d :: ds) else lcO t c f q env xs := by
  conv => lhs; unfold lcO
  congr
  funext e
  congr
  funext b
  cases b <;> rfl
theorem nmT_eq : nmT i u env = (slotOf u).bind fun s => .ok (env.set i s) := rfl
theorem tupT_tup {n : Nat} {r : Kd → List D → En → Res En} : tupT n r ⟨q, .tup xs⟩ env = if xs.length = n then r q.sub xs env else .no := rfl
theorem consT_cons {t : Tg} {r : Kd → List D → En → Res En} : consT t r q (d :: xs) env = (t ⟨q, d⟩ env).bind fun e => r q xs e := rfl
theorem nilT_nil : nilT q [] env = .ok env := rfl
theorem wipeE_nil : wipeE env [] = env := rfl
theorem wipeE_cons {is : List Nat} : wipeE env (i :: is) = (wipeE env is).set i .no := rfl
theorem forO_nil {t : Tg} {f : En → Out} : forO t f q [] env = .nx env := rfl
/-- a turn's end -/
def Out.turn (o : Out) (g : En → Out) : Out := match o with
  | .nx e => g e
  | .ct e => g e
  | .bk e => .nx e
  | .rt u => .rt u
  | .ex e x => .ex e x
  | .no => .no
theorem forO_cons {t : Tg} {f : En → Out} {x : D} : forO t f q (x :: xs) env = (t ⟨q, x⟩ env).nxo fun e => (f e).turn fun e' => forO t f q xs e' := by
  unfold Res.nxo Out.turn
  conv => lhs; unfold forO
  cases t ⟨q, x⟩ env with
  | no => rfl
  | ex y => rfl
  | ok e => cases f e <;> rfl
theorem turn_nx {g : En → Out} : (Out.nx env).turn g = g env := rfl
theorem turn_ct {g : En → Out} : (Out.ct env).turn g = g env := rfl
theorem turn_bk {g : En → Out} : (Out.bk env).turn g = .nx env := rfl
theorem turn_rt {g : En → Out} : (Out.rt u).turn g = .rt u := rfl
theorem turn_if {c : Prop} [Decidable c] {x y : Out} {g : En → Out} : (if c then x else y).turn g = if c then x.turn g else y.turn g := by split <;> rfl
def Out.val : Out → Res Vl
  | .rt u => .ok u
  | .nx _ => .ok ⟨.g, .non⟩
  | .ex _ x => .ex x
  | _ => .no
theorem runF_eq {m n : Nat} {f : En → Out} {as : List (Bool × D)} : runF m n f as = if as.length = m then (f (startE n as)).val else .no := by
  unfold runF Out.val
  split
  · cases f (startE n as) <;> rfl
  · rfl
theorem val_rt : (Out.rt u).val = .ok u := rfl
theorem val_ex {x : Exn} : (Out.ex env x).val = .ex x := rfl
theorem val_nx : (Out.nx env).val = .ok ⟨.g, .non⟩ := rfl
theorem val_if {c : Prop} [Decidable c] {x y : Out} : (if c then x else y).val = if c then x.val else y.val := by split <;> rfl
theorem rb_if {α β : Type} {c : Prop} [Decidable c] {x y : Res α} {g : α → Res β} : (if c then x else y).bind g = if c then x.bind g else y.bind g := by split <;> rfl
theorem ro_if {α : Type} {c : Prop} [Decidable c] {x y : Res α} {g : α → Out} : (if c then x else y).out env g = if c then x.out env g else y.out env g := by split <;> rfl
theorem mulI_ok {i j : Int} (a b : Nat) (hi : i.natAbs < 2 ^ a) (hj : j.natAbs < 2 ^ b) (h0 : 0 < a := by decide) (h1 : 0 < b := by decide) (h : a + b ≤ 1000000 := by decide) : mulI i j = .ok (.int (i * j)) := by
  unfold mulI
  rw [if_pos (wide_mul hi hj h0 h1 h)]
theorem mulI_200 {i j : Int} (h1 : i.natAbs < 2 ^ 200) (h2 : j.natAbs < 2 ^ 200) : mulI i j = .ok (.int (i * j)) := mulI_ok 200 200 h1 h2
theorem divI_64 {i j : Int} (h : 0 < j) (h2 : j < 2 ^ 64) : divI i j = .ok (.int (i / j)) := by
  unfold divI
  rw [if_pos (wide_div (b := 64) h (by omega) (by decide) (by decide))]
theorem modI_ok {i j : Int} (h : 0 < j) : modI i j = .ok (.int (i % j)) := by
  unfold modI
  rw [if_pos h]
theorem if_true_true {α : Type} {a b : α} : (if true = true then a else b) = a := if_pos rfl
theorem if_false_true {α : Type} {a b : α} : (if false = true then a else b) = b := if_neg Bool.false_ne_true
theorem toPyL_ints {p : List Int} : toPyL (p.map D.int) = p.map PyData.int := by
  induction p with
  | nil => rfl
  | cons x p ih => rw [List.map_cons, List.map_cons, ← ih]; rfl
theorem eqvAll_ints : ∀ {p r : List Int}, PyData.eqvAll (p.map PyData.int) (r.map PyData.int) = decide (p = r)
  | [], [] => rfl
  | [], _ :: _ => rfl
  | _ :: _, [] => rfl
  | x :: p, y :: r => by
    have ih := eqvAll_ints (p := p) (r := r)
    rw [List.map_cons, List.map_cons]
    show (x == y && PyData.eqvAll (p.map PyData.int) (r.map PyData.int)) = _
    rw [ih]
    by_cases h : x = y <;> by_cases h2 : p = r <;> simp [h, h2]
theorem canL_ints : ∀ {p : List Int}, PyData.canLayAll0 (p.map PyData.int) = true
  | [] => rfl
  | x :: p => by
    rw [List.map_cons]
    simp [PyData.canLayAll0, PyData.canLay0, canL_ints (p := p)]
theorem depth_ints : ∀ {p : List Int}, PyData.depthAll (p.map PyData.int) = 0
  | [] => rfl
  | x :: p => by
    rw [List.map_cons]
    simp [PyData.depthAll, PyData.depth, depth_ints (p := p)]
theorem shaped_ints {p : List Int} : SeqAt.shaped (.list (p.map PyData.int)) = true := by
  simp [SeqAt.shaped, PyData.canLay0, PyData.depth, canL_ints, depth_ints]
theorem eqB_ints {n : Bool} {p r : List Int} : eqB n (.lst (p.map D.int)) (.lst (r.map D.int)) = .ok (if n then !decide (p = r) else decide (p = r)) := by
  unfold eqB
  show (if SeqAt.shaped (.list (toPyL (p.map D.int))) = true ∧ SeqAt.shaped (.list (toPyL (r.map D.int))) = true then _ else _) = _
  rw [toPyL_ints, toPyL_ints, if_pos ⟨shaped_ints, shaped_ints⟩]
  show Res.ok (if n then !PyData.eqvAll (toPyL (p.map D.int)) (toPyL (r.map D.int)) else PyData.eqvAll (toPyL (p.map D.int)) (toPyL (r.map D.int))) = _
  rw [toPyL_ints, toPyL_ints, eqvAll_ints]
theorem eqB_ints0 {n : Bool} {p : List Int} : eqB n (.lst (p.map D.int)) (.lst []) = .ok (if n then !decide (p = []) else decide (p = [])) := eqB_ints (r := [])
theorem sz_le {n : Nat} (h : n ≤ 4000000) : (n ≤ sizeLine) = True := eq_true (Nat.le_trans h (by decide))
theorem sz_lt {n : Nat} (h : n < 4000000) : (n < sizeLine) = True := eq_true (Nat.lt_trans h (by decide))
theorem powI_18 : powI 10 18 = .ok (.int 1000000000000000000) := by unfold powI; rw [if_pos (by decide)]; rfl
theorem powI_30 : powI 10 30 = .ok (.int 1000000000000000000000000000000) := by unfold powI; rw [if_pos (by decide)]; rfl
theorem ints_snoc {p : List Int} {x : Int} : p.map D.int ++ [D.int x] = (p ++ [x]).map D.int := by rw [List.map_append]; rfl
theorem ints_set {p : List Int} {x : Int} {m : Nat} : (p.map D.int).set m (D.int x) = (p.set m x).map D.int := by rw [List.map_set]
theorem ints_app {p r : List Int} : p.map D.int ++ r.map D.int = (p ++ r).map D.int := by rw [List.map_append]
theorem all_ints {p : List Int} : (p.map D.int).all flat = true := by
  rw [List.all_eq_true]
  intro x hx
  obtain ⟨y, _, rfl⟩ := List.mem_map.1 hx
  rfl
theorem lsR1_eq {f : En → Res Vl} : lsR1 f env = (f env).bind fun u => lsV u.d := by
  unfold lsR1
  congr
theorem lsR2_eq {f g : En → Res Vl} : lsR2 f g env = (f env).bind fun u => (g env).bind fun w => lsW u.d w.d := by
  unfold lsR2
  congr
theorem lsV_int : lsV (.int a) = if a.toNat ≤ 2 ^ 24 then .ok ⟨.o, .lst (rngD 0 a.toNat)⟩ else .no := rfl
theorem lsW_int : lsW (.int a) (.int b) = if (b - a).toNat ≤ 2 ^ 24 then .ok ⟨.o, .lst (rngD a (b - a).toNat)⟩ else .no := rfl
end
end DL

local macro_rules | `(tactic| walk_at "dl") => `(tactic| simp -implicitDefEqProofs only [DL.nmE_eq, DL.nmV_vl, DL.nmV_ow, DL.kd_true, DL.kd_false, DL.cE_eq, DL.binE_eq, DL.unE_eq, DL.negP_int, DL.callE_eq, DL.callF_eq, DL.callX_eq, DL.rnx_ok, DL.rnx_no, DL.rnx_ex, DL.callK_eq, DL.fin_g, DL.fin_o, DL.nilA_eq, DL.consA_eq, DL.arg_kd, DL.arg_g, DL.arg_h, DL.arg_b, DL.arg_o, DL.ba_kd, DL.ba_g, DL.ba_h, DL.keep_kd, DL.keep_g, DL.keep_o, DL.flat_int, DL.flat_bl, DL.flat_str, DL.flat_non, DL.flat_lst, DL.flat_tup, DL.slot_kd, DL.slot_g, DL.slot_b, DL.slot_o, DL.sub_kd, DL.sub_g, DL.sub_h, DL.sub_o, DL.sub_b, DL.it_kd, DL.it_g, DL.it_h, DL.it_o, DL.intP_int, DL.addP_int, DL.addP_lst, DL.addP_str, DL.addI_eq, DL.subI_eq, DL.ltI_eq, DL.leI_eq, DL.gtI_eq, DL.geI_eq, DL.modI_eq, DL.eqP_eq, DL.eqB_int, DL.eqB_str, DL.eqB_bl, DL.eqB_non, DL.isP_non, DL.isP_int_non, DL.isP_str_non, DL.isP_bl_non, DL.isP_lst_non, DL.isP_tup_non, DL.isP_bl, DL.isP_non_bl, DL.isP_int_bl, DL.isP_str_bl, DL.isP_lst_bl, DL.isP_tup_bl, DL.intC_int, DL.intC_bl, DL.absC_int, DL.min2C_int, DL.max2C_int, DL.lenC_lst, DL.lenC_tup, DL.divmodC_int, DL.sumC_ints, DL.sumC_tup, DL.listC_lst, DL.listC_tup, DL.tupleC_lst, DL.tupleC_tup, DL.ixP_lst, DL.ixP_tup, DL.tupE_eq, DL.lstE_eq, DL.isiE_eq, DL.isOb_non, DL.isOb_bl, DL.isOb_int, DL.isOb_str, DL.isOb_lst, DL.isOb_tup, DL.isOb_fz, DL.isi_non_int, DL.isi_non_str, DL.isi_non_bool, DL.isi_non_list, DL.isi_non_tuple, DL.isi_bl_int, DL.isi_bl_str, DL.isi_bl_bool, DL.isi_bl_list, DL.isi_bl_tuple, DL.isi_int_int, DL.isi_int_str, DL.isi_int_bool, DL.isi_int_list, DL.isi_int_tuple, DL.isi_str_int, DL.isi_str_str, DL.isi_str_bool, DL.isi_str_list, DL.isi_str_tuple, DL.isi_lst_int, DL.isi_lst_str, DL.isi_lst_bool, DL.isi_lst_list, DL.isi_lst_tuple, DL.isi_tup_int, DL.isi_tup_str, DL.isi_tup_bool, DL.isi_tup_list, DL.isi_tup_tuple, DL.isi_fz_int, DL.isi_fz_str, DL.isi_fz_bool, DL.isi_fz_list, DL.isi_fz_tuple, DL.slE_eq, DL.slP_lst, DL.slP_fz, DL.slP_tup, DL.noPart_eq, DL.part_eq, DL.truT_eq, DL.valT_eq, DL.truD_bl, DL.truD_int, DL.truD_lst, DL.truD_tup, DL.truD_non, DL.boolD_bl, DL.andT_eq, DL.orT_eq, DL.notT_eq, DL.andE_eq, DL.orE_eq, DL.notE_eq, DL.ifE_eq, DL.seqO_eq, DL.ob_nx, DL.ob_rt, DL.ob_bk, DL.ob_ct, DL.out_ok, DL.out_no, DL.out_ex, DL.nxo_ok, DL.nxo_no, DL.nxo_ex, DL.ob_no, DL.ob_ex, DL.setO_eq, DL.asgO_eq, DL.retO_eq, DL.retV_g, DL.retV_o, DL.retV_h, DL.ifO_eq, DL.nextO_eq, DL.dropO_eq, DL.appO_eq, DL.putO_eq, DL.keepD_eq, DL.owAt_eq, DL.owV_ow, DL.frz1_eq, DL.frzV_ow, DL.frzV_vl, DL.frzV_no, DL.augO_eq, DL.augV_int, DL.frzO_eq, DL.frz_nil, DL.frz_cons, DL.seqI_eq, DL.seqV_gf, DL.seqV_kf, DL.seqV_kd, DL.seqV_kdt, DL.seqV_g, DL.seqV_gt, DL.seqV_o, DL.seqV_b, DL.seqV_bt, DL.rg_in, DL.rng1_eq, DL.rng2_eq, DL.rng1V_int, DL.rng2V_int, DL.forS_eq, DL.lcE_eq, DL.nmT_eq, DL.tupT_tup, DL.consT_cons, DL.nilT_nil, DL.wipeE_nil, DL.wipeE_cons, DL.turn_nx, DL.turn_ct, DL.turn_bk, DL.turn_rt, DL.runF_eq, DL.val_rt, DL.val_ex, DL.val_nx, DL.rb_if, DL.ro_if, DL.modI_ok, DL.if_true_true, DL.if_false_true, DL.eqB_ints, DL.eqB_ints0, DL.sz_le, DL.sz_lt, DL.powI_18, DL.powI_30, DL.ints_snoc, DL.ints_set, DL.ints_app, DL.all_ints, DL.lsR1_eq, DL.lsR2_eq, DL.lsV_int, DL.lsW_int, DL.Res.bind_ok, DL.Res.bind_no, DL.startE, DL.yesT, List.map_cons, List.map_nil, List.length_cons, List.length_nil, List.cons_append, List.nil_append, List.getElem?_cons_zero, List.getElem?_cons_succ, List.set_cons_zero, List.set_cons_succ, Nat.reduceAdd, Nat.reduceSub, List.replicate, ↓reduceIte, List.all_cons, List.all_nil, Bool.and_true, Bool.true_and, Bool.or_true, Bool.true_or, Bool.and_self, and_true, true_and, and_self, Bool.false_eq_true, Bool.not_true, Bool.not_false, Bool.or_false, Bool.false_or, decide_eq_true_eq, List.isEmpty_cons, List.isEmpty_nil, Int.ofNat_eq_natCast, Int.reduceLT, Int.reduceLE, Int.reduceMod, Int.reduceDiv, Int.reduceAdd, Int.reduceSub, Int.reduceMul, Int.reduceNeg, Int.reduceEq, Nat.reduceLT, Nat.reduceLeDiff, Nat.reduceEqDiff, Nat.reduceMul, Nat.reducePow, Int.reducePow, Nat.reduceMod, Nat.reduceDiv, Int.reduceToNat, decide_true, decide_false, ite_true, ite_false, false_and, and_false, reduceCtorEq, if_true, if_false, Nat.zero_le, Int.zero_add, Int.add_zero, Int.toNat_natCast, List.length_map])
local macro_rules | `(tactic| walk_at "dlh") => `(tactic| simp -implicitDefEqProofs only [DL.nmE_eq, DL.nmV_vl, DL.nmV_ow, DL.kd_true, DL.kd_false, DL.cE_eq, DL.binE_eq, DL.unE_eq, DL.negP_int, DL.callE_eq, DL.callF_eq, DL.callX_eq, DL.rnx_ok, DL.rnx_no, DL.rnx_ex, DL.callK_eq, DL.fin_g, DL.fin_o, DL.nilA_eq, DL.consA_eq, DL.arg_kd, DL.arg_g, DL.arg_h, DL.arg_b, DL.arg_o, DL.ba_kd, DL.ba_g, DL.ba_h, DL.keep_kd, DL.keep_g, DL.keep_o, DL.flat_int, DL.flat_bl, DL.flat_str, DL.flat_non, DL.flat_lst, DL.flat_tup, DL.slot_kd, DL.slot_g, DL.slot_b, DL.slot_o, DL.sub_kd, DL.sub_g, DL.sub_h, DL.sub_o, DL.sub_b, DL.it_kd, DL.it_g, DL.it_h, DL.it_o, DL.intP_int, DL.addP_int, DL.addP_lst, DL.addP_str, DL.addI_eq, DL.subI_eq, DL.ltI_eq, DL.leI_eq, DL.gtI_eq, DL.geI_eq, DL.modI_eq, DL.eqP_eq, DL.eqB_int, DL.eqB_str, DL.eqB_bl, DL.eqB_non, DL.isP_non, DL.isP_int_non, DL.isP_str_non, DL.isP_bl_non, DL.isP_lst_non, DL.isP_tup_non, DL.isP_bl, DL.isP_non_bl, DL.isP_int_bl, DL.isP_str_bl, DL.isP_lst_bl, DL.isP_tup_bl, DL.intC_int, DL.intC_bl, DL.absC_int, DL.min2C_int, DL.max2C_int, DL.lenC_lst, DL.lenC_tup, DL.divmodC_int, DL.sumC_ints, DL.sumC_tup, DL.listC_lst, DL.listC_tup, DL.tupleC_lst, DL.tupleC_tup, DL.ixP_lst, DL.ixP_tup, DL.tupE_eq, DL.lstE_eq, DL.isiE_eq, DL.isOb_non, DL.isOb_bl, DL.isOb_int, DL.isOb_str, DL.isOb_lst, DL.isOb_tup, DL.isOb_fz, DL.isi_non_int, DL.isi_non_str, DL.isi_non_bool, DL.isi_non_list, DL.isi_non_tuple, DL.isi_bl_int, DL.isi_bl_str, DL.isi_bl_bool, DL.isi_bl_list, DL.isi_bl_tuple, DL.isi_int_int, DL.isi_int_str, DL.isi_int_bool, DL.isi_int_list, DL.isi_int_tuple, DL.isi_str_int, DL.isi_str_str, DL.isi_str_bool, DL.isi_str_list, DL.isi_str_tuple, DL.isi_lst_int, DL.isi_lst_str, DL.isi_lst_bool, DL.isi_lst_list, DL.isi_lst_tuple, DL.isi_tup_int, DL.isi_tup_str, DL.isi_tup_bool, DL.isi_tup_list, DL.isi_tup_tuple, DL.isi_fz_int, DL.isi_fz_str, DL.isi_fz_bool, DL.isi_fz_list, DL.isi_fz_tuple, DL.slE_eq, DL.slP_lst, DL.slP_fz, DL.slP_tup, DL.noPart_eq, DL.part_eq, DL.truT_eq, DL.valT_eq, DL.truD_bl, DL.truD_int, DL.truD_lst, DL.truD_tup, DL.truD_non, DL.boolD_bl, DL.andT_eq, DL.orT_eq, DL.notT_eq, DL.andE_eq, DL.orE_eq, DL.notE_eq, DL.ifE_eq, DL.seqO_eq, DL.ob_nx, DL.ob_rt, DL.ob_bk, DL.ob_ct, DL.out_ok, DL.out_no, DL.out_ex, DL.nxo_ok, DL.nxo_no, DL.nxo_ex, DL.ob_no, DL.ob_ex, DL.setO_eq, DL.asgO_eq, DL.retO_eq, DL.retV_g, DL.retV_o, DL.retV_h, DL.ifO_eq, DL.nextO_eq, DL.dropO_eq, DL.appO_eq, DL.putO_eq, DL.keepD_eq, DL.owAt_eq, DL.owV_ow, DL.frz1_eq, DL.frzV_ow, DL.frzV_vl, DL.frzV_no, DL.augO_eq, DL.augV_int, DL.frzO_eq, DL.frz_nil, DL.frz_cons, DL.seqI_eq, DL.seqV_gf, DL.seqV_kf, DL.seqV_kd, DL.seqV_kdt, DL.seqV_g, DL.seqV_gt, DL.seqV_o, DL.seqV_b, DL.seqV_bt, DL.rg_in, DL.rng1_eq, DL.rng2_eq, DL.rng1V_int, DL.rng2V_int, DL.forS_eq, DL.lcE_eq, DL.nmT_eq, DL.tupT_tup, DL.consT_cons, DL.nilT_nil, DL.wipeE_nil, DL.wipeE_cons, DL.turn_nx, DL.turn_ct, DL.turn_bk, DL.turn_rt, DL.runF_eq, DL.val_rt, DL.val_ex, DL.val_nx, DL.rb_if, DL.ro_if, DL.modI_ok, DL.if_true_true, DL.if_false_true, DL.eqB_ints, DL.eqB_ints0, DL.sz_le, DL.sz_lt, DL.powI_18, DL.powI_30, DL.ints_snoc, DL.ints_set, DL.ints_app, DL.all_ints, DL.lsR1_eq, DL.lsR2_eq, DL.lsV_int, DL.lsW_int, DL.Res.bind_ok, DL.Res.bind_no, DL.startE, DL.yesT, List.map_cons, List.map_nil, List.length_cons, List.length_nil, List.cons_append, List.nil_append, List.getElem?_cons_zero, List.getElem?_cons_succ, List.set_cons_zero, List.set_cons_succ, Nat.reduceAdd, Nat.reduceSub, List.replicate, ↓reduceIte, List.all_cons, List.all_nil, Bool.and_true, Bool.true_and, Bool.or_true, Bool.true_or, Bool.and_self, and_true, true_and, and_self, Bool.false_eq_true, Bool.not_true, Bool.not_false, Bool.or_false, Bool.false_or, decide_eq_true_eq, List.isEmpty_cons, List.isEmpty_nil, Int.ofNat_eq_natCast, Int.reduceLT, Int.reduceLE, Int.reduceMod, Int.reduceDiv, Int.reduceAdd, Int.reduceSub, Int.reduceMul, Int.reduceNeg, Int.reduceEq, Nat.reduceLT, Nat.reduceLeDiff, Nat.reduceEqDiff, Nat.reduceMul, Nat.reducePow, Int.reducePow, Nat.reduceMod, Nat.reduceDiv, Int.reduceToNat, decide_true, decide_false, ite_true, ite_false, false_and, and_false, reduceCtorEq, if_true, if_false, Nat.zero_le, Int.zero_add, Int.add_zero, Int.toNat_natCast, List.length_map, *])
local macro_rules | `(tactic| walk_at "dlt") => `(tactic| try walk_at "dl")

namespace DL
open PySem L2
section
variable {env : En} {q : Kd}
theorem rngD_zero {lo : Int} : rngD lo 0 = [] := rfl
theorem rngD_len {lo : Int} {n : Nat} : (rngD lo n).length = n := by simp [rngD]
theorem rngD_succ {lo : Int} {n : Nat} : rngD lo (n + 1) = .int lo :: rngD (lo + 1) n := by
  unfold rngD
  rw [List.range_succ_eq_map, List.map_cons, List.map_map]
  congr 1
  · show D.int (lo + ((0 : Nat) : Int)) = _
    rw [Int.natCast_zero, Int.add_zero]
  · apply List.map_congr_left
    intro i _
    show D.int (lo + ((i + 1 : Nat) : Int)) = D.int (lo + 1 + (i : Int))
    congr 1
    omega
/-- a loop over a range, by an invariant -/
theorem forO_inv {t : Tg} {f : En → Out} (I : Nat → En → Prop) (lo : Int) (n : Nat) (h0 : I 0 env) (hs : ∀ k e, k < n → I k e → ∃ e', ((t ⟨q, .int (lo + k)⟩ e).nxo fun a => f a) = .nx e' ∧ I (k + 1) e') : ∃ e', forO t f q (rngD lo n) env = .nx e' ∧ I n e' := by
  induction n generalizing lo env I with
  | zero => exact ⟨env, rfl, h0⟩
  | succ n ih =>
    obtain ⟨e1, q1, i1⟩ := hs 0 env (Nat.succ_pos n) h0
    have := ih (fun k e => I (k + 1) e) (lo + 1) i1 (fun k e hk hi => by
      obtain ⟨e', q2, i2⟩ := hs (k + 1) e (by omega) hi
      refine ⟨e', ?_, i2⟩
      rw [← q2]
      congr 3
      congr 1
      show lo + 1 + (k : Int) = lo + ((k + 1 : Nat) : Int)
      omega)
    obtain ⟨e', q3, i3⟩ := this
    refine ⟨e', ?_, i3⟩
    rw [rngD_succ, forO_cons]
    rw [Int.natCast_zero, Int.add_zero] at q1
    rw [show ((t ⟨q, .int lo⟩ env).nxo fun e => (f e).turn fun e' => forO t f q (rngD (lo + 1) n) e') = ((t ⟨q, .int lo⟩ env).nxo fun a => f a).turn fun e' => forO t f q (rngD (lo + 1) n) e' by cases t ⟨q, .int lo⟩ env <;> rfl]
    rw [q1]
    exact q3
/-- a loop over a range that may return or leave -/
theorem forO_find {t : Tg} {f : En → Out} (I : Nat → En → Prop) (P : Nat → Prop) (R : Out → Prop) (lo : Int) (n : Nat) (h0 : I 0 env) (hr : ∀ o, R o → ∃ u, o = .rt u)
    (hs : ∀ k e, k < n → I k e → (P k ∧ R ((t ⟨q, .int (lo + k)⟩ e).nxo fun a => f a)) ∨ (¬ P k ∧ ∃ e', ((t ⟨q, .int (lo + k)⟩ e).nxo fun a => f a) = .nx e' ∧ I (k + 1) e')) :
    ((∃ k, k < n ∧ P k) ∧ R (forO t f q (rngD lo n) env)) ∨ ((∀ k, k < n → ¬ P k) ∧ ∃ e', forO t f q (rngD lo n) env = .nx e' ∧ I n e') := by
  induction n generalizing lo env I P with
  | zero => exact .inr ⟨fun k hk => absurd hk (Nat.not_lt_zero k), env, rfl, h0⟩
  | succ n ih =>
    have e0 : forO t f q (rngD lo (n + 1)) env = ((t ⟨q, .int (lo + (0 : Nat))⟩ env).nxo fun a => f a).turn fun e' => forO t f q (rngD (lo + 1) n) e' := by
      rw [rngD_succ, forO_cons, Int.natCast_zero, Int.add_zero]
      cases t ⟨q, .int lo⟩ env <;> rfl
    rcases hs 0 env (Nat.succ_pos n) h0 with ⟨p, r⟩ | ⟨p, e1, q1, i1⟩
    · refine .inl ⟨⟨0, Nat.succ_pos n, p⟩, ?_⟩
      obtain ⟨u, hu⟩ := hr _ r
      rw [e0, hu, turn_rt, ← hu]
      exact r
    · have := ih (fun k e => I (k + 1) e) (fun k => P (k + 1)) (lo + 1) i1 (fun k e hk hi => by
        have := hs (k + 1) e (by omega) hi
        rw [show lo + ((k + 1 : Nat) : Int) = lo + 1 + (k : Int) by omega] at this
        exact this)
      rw [q1, turn_nx] at e0
      rw [e0]
      rcases this with ⟨⟨k, hk, pk⟩, r⟩ | ⟨h, r⟩
      · exact .inl ⟨⟨k + 1, by omega, pk⟩, r⟩
      · refine .inr ⟨fun k hk => ?_, r⟩
        cases k with
        | zero => exact p
        | succ k => exact h k (by omega)
/-- the same over a list -/
theorem forO_invL {α : Type} {t : Tg} {f : En → Out} (g : α → D) (xs : List α) (I : Nat → En → Prop) (h0 : I 0 env) (hs : ∀ k e (h : k < xs.length), I k e → ∃ e', ((t ⟨q, g xs[k]⟩ e).nxo fun a => f a) = .nx e' ∧ I (k + 1) e') : ∃ e', forO t f q (xs.map g) env = .nx e' ∧ I xs.length e' := by
  induction xs generalizing env I with
  | nil => exact ⟨env, rfl, h0⟩
  | cons x xs ih =>
    obtain ⟨e1, q1, i1⟩ := hs 0 env (Nat.succ_pos _) h0
    obtain ⟨e', q3, i3⟩ := ih (fun k e => I (k + 1) e) i1 (fun k e hk hi => hs (k + 1) e (Nat.succ_lt_succ hk) hi)
    refine ⟨e', ?_, i3⟩
    rw [List.map_cons, forO_cons]
    rw [show ((t ⟨q, g x⟩ env).nxo fun e => (f e).turn fun e' => forO t f q (xs.map g) e') = ((t ⟨q, g x⟩ env).nxo fun a => f a).turn fun e' => forO t f q (xs.map g) e' by cases t ⟨q, g x⟩ env <;> rfl]
    rw [show ((t ⟨q, g x⟩ env).nxo fun a => f a) = .nx e1 from q1]
    exact q3
theorem forO_findL {α : Type} {t : Tg} {f : En → Out} (g : α → D) (xs : List α) (I : En → Prop) (P : α → Prop) (R : Out → Prop) (h0 : I env) (hr : ∀ o, R o → ∃ u, o = .rt u)
    (hs : ∀ x e, x ∈ xs → I e → (P x ∧ R ((t ⟨q, g x⟩ e).nxo fun a => f a)) ∨ (¬ P x ∧ ∃ e', ((t ⟨q, g x⟩ e).nxo fun a => f a) = .nx e' ∧ I e')) :
    ((∃ x, x ∈ xs ∧ P x) ∧ R (forO t f q (xs.map g) env)) ∨ ((∀ x, x ∈ xs → ¬ P x) ∧ ∃ e', forO t f q (xs.map g) env = .nx e' ∧ I e') := by
  induction xs generalizing env with
  | nil => exact .inr ⟨fun x hx => absurd hx (List.not_mem_nil), env, rfl, h0⟩
  | cons x xs ih =>
    have e0 : forO t f q ((x :: xs).map g) env = ((t ⟨q, g x⟩ env).nxo fun a => f a).turn fun e' => forO t f q (xs.map g) e' := by
      rw [List.map_cons, forO_cons]
      cases t ⟨q, g x⟩ env <;> rfl
    rcases hs x env List.mem_cons_self h0 with ⟨p, r⟩ | ⟨p, e1, q1, i1⟩
    · refine .inl ⟨⟨x, List.mem_cons_self, p⟩, ?_⟩
      obtain ⟨u, hu⟩ := hr _ r
      rw [e0, hu, turn_rt, ← hu]
      exact r
    · rw [q1, turn_nx] at e0
      rw [e0]
      rcases ih i1 (fun y e hy => hs y e (List.mem_cons_of_mem _ hy)) with ⟨⟨y, hy, py⟩, r⟩ | ⟨h, r⟩
      · exact .inl ⟨⟨y, List.mem_cons_of_mem _ hy, py⟩, r⟩
      · refine .inr ⟨fun y hy => ?_, r⟩
        rcases List.mem_cons.1 hy with rfl | hy
        · exact p
        · exact h y hy
/-- a comprehension with no test, over what a map gives -/
theorem lcO_map {α : Type} {t : Tg} {f : En → Res Vl} (g h : α → D) (xs : List α) (hs : ∀ x ∈ xs, ((t ⟨q, g x⟩ env).bind fun e => (f e).bind keepD) = .ok (h x)) : lcO t yesT f q env (xs.map g) = .ok (xs.map h) := by
  induction xs with
  | nil => rfl
  | cons x xs ih =>
    rw [List.map_cons, lcO_cons]
    have h1 := hs x List.mem_cons_self
    cases q1 : t ⟨q, g x⟩ env with
    | no => rw [q1] at h1; cases h1
    | ex x => rw [q1] at h1; cases h1
    | ok e =>
      rw [q1] at h1
      have h1 : (f e).bind keepD = .ok (h x) := h1
      rw [Res.bind_ok, show yesT e = .ok true from rfl, Res.bind_ok, if_pos rfl, h1, ih fun y hy => hs y (List.mem_cons_of_mem _ hy)]
      rfl
theorem lcO_rng {t : Tg} {f : En → Res Vl} {lo : Int} {n : Nat} (h : Nat → D) (hs : ∀ k, k < n → ((t ⟨q, .int (lo + k)⟩ env).bind fun e => (f e).bind keepD) = .ok (h k)) : lcO t yesT f q env (rngD lo n) = .ok ((List.range n).map h) :=
  lcO_map (g := fun (i : Nat) => .int (lo + i)) (h := h) _ fun k hk => hs k (List.mem_range.1 hk)
theorem getD_at {α : Type} {p : List α} {i : Nat} {d : α} (h : i < p.length) : p.getD i d = p[i] := by simp [List.getD, h]
theorem ixN_in {n : Nat} {i : Int} (h0 : 0 ≤ i) (h : i < n) : ixN n i = some i.toNat := by
  unfold ixN
  rw [if_pos h0, if_pos h]
theorem atD_in {p : List D} {i : Int} (h0 : 0 ≤ i) (h : i < p.length) : atD p i = .ok (p.getD i.toNat .non) := by
  unfold atD atI
  rw [ixN_in h0 h]
  have h2 : i.toNat < p.length := by omega
  show (match p[i.toNat]? with | some d => Res.ok d | none => .no) = _
  rw [List.getElem?_eq_getElem h2, getD_at h2]
theorem atD_map {p : List Int} {i : Int} (h0 : 0 ≤ i) (h : i < p.length) : atD (p.map D.int) i = .ok (.int (p.getD i.toNat 0)) := by
  have h2 : i.toNat < p.length := by omega
  rw [atD_in h0 (by rw [List.length_map]; exact h), getD_at (by rw [List.length_map]; exact h2), List.getElem_map, getD_at h2]
theorem cutD_take {p : List D} {k : Int} (h : 0 ≤ k) : cutD p none (some k) = p.take k.toNat := by
  unfold cutD
  have h1 : HT.sIx p.length 0 none = 0 := rfl
  rw [h1, List.drop_zero, Nat.sub_zero]
  have h2 : HT.sIx p.length p.length (some k) = min k.toNat p.length := by
    have e : k = ((k.toNat : Nat) : Int) := by omega
    rw [e]
    exact HT.sIx_nat _ _ _
  rw [h2]
  by_cases h3 : k.toNat ≤ p.length
  · rw [Nat.min_eq_left h3]
  · rw [Nat.min_eq_right (by omega), List.take_length, List.take_of_length_le (by omega)]
/-! a small logic of what a text leaves -/
inductive Out.hs (N : En → Prop) (R : Vl → Prop) (B C : En → Prop) (Y : En → Exn → Prop) : Out → Prop where
  | nx {e : En} : N e → Out.hs N R B C Y (.nx e)
  | rt {u : Vl} : R u → Out.hs N R B C Y (.rt u)
  | bk {e : En} : B e → Out.hs N R B C Y (.bk e)
  | ct {e : En} : C e → Out.hs N R B C Y (.ct e)
  | ex {e : En} {x : Exn} : Y e x → Out.hs N R B C Y (.ex e x)
section
variable {N N' M : En → Prop} {R R' : Vl → Prop} {B C : En → Prop} {Y : En → Exn → Prop} {o : Out} {g : En → Out}
theorem hs_nx (h : N env) : Out.hs N R B C Y (Out.nx env) := .nx h
theorem hs_rt {u : Vl} (h : R u) : Out.hs N R B C Y (Out.rt u) := .rt h
theorem hs_ex {x : Exn} (h : Y env x) : Out.hs N R B C Y (Out.ex env x) := .ex h
theorem hs_bk (h : B env) : Out.hs N R B C Y (Out.bk env) := .bk h
theorem hs_ct (h : C env) : Out.hs N R B C Y (Out.ct env) := .ct h
theorem hs_bind (M : En → Prop) (h : Out.hs M R B C Y o) (k : ∀ e, M e → Out.hs N R B C Y (g e)) : Out.hs N R B C Y (o.bind g) := by
  cases h with
  | nx h => exact k _ h
  | rt h => exact .rt h
  | bk h => exact .bk h
  | ct h => exact .ct h
  | ex h => exact .ex h
theorem hs_mono (h : Out.hs N R B C Y o) (h1 : ∀ e, N e → N' e) (h2 : ∀ u, R u → R' u) : Out.hs N' R' B C Y o := by
  cases h with
  | nx h => exact .nx (h1 _ h)
  | rt h => exact .rt (h2 _ h)
  | bk h => exact .bk h
  | ct h => exact .ct h
  | ex h => exact .ex h
theorem hs_turn {t : Out} (h : Out.hs M R N M Y t) (k : ∀ e, M e → Out.hs N R B C Y (g e)) : Out.hs N R B C Y (t.turn g) := by
  cases h with
  | nx h => exact k _ h
  | ct h => exact k _ h
  | bk h => exact .nx h
  | rt h => exact .rt h
  | ex h => exact .ex h
theorem hs_forL {α : Type} {t : Tg} {f : En → Out} (v : α → D) (xs : List α) (I : Nat → En → Prop) (h0 : I 0 env) (hs : ∀ k e (h : k < xs.length), I k e → Out.hs (I (k + 1)) R N (I (k + 1)) Y ((t ⟨q, v xs[k]⟩ e).nxo fun a => f a)) (hl : ∀ e, I xs.length e → N e) : Out.hs N R B C Y (forO t f q (xs.map v) env) := by
  induction xs generalizing env I with
  | nil => exact .nx (hl _ h0)
  | cons x xs ih =>
    rw [List.map_cons, forO_cons]
    rw [show ((t ⟨q, v x⟩ env).nxo fun e => (f e).turn fun e' => forO t f q (xs.map v) e') = ((t ⟨q, v x⟩ env).nxo fun a => f a).turn fun e' => forO t f q (xs.map v) e' by cases t ⟨q, v x⟩ env <;> rfl]
    exact hs_turn (hs 0 env (Nat.succ_pos _) h0) fun e he => ih (fun k e => I (k + 1) e) he (fun k e hk hi => hs (k + 1) e (Nat.succ_lt_succ hk) hi) hl
theorem hs_forR {t : Tg} {f : En → Out} {lo : Int} {n : Nat} (I : Nat → En → Prop) (h0 : I 0 env) (hs : ∀ k e, k < n → I k e → Out.hs (I (k + 1)) R N (I (k + 1)) Y ((t ⟨q, .int (lo + k)⟩ e).nxo fun a => f a)) (hl : ∀ e, I n e → N e) : Out.hs N R B C Y (forO t f q (rngD lo n) env) :=
  hs_forL (fun (i : Nat) => .int (lo + i)) (List.range n) I h0 (fun k e h hi => by
    rw [List.getElem_range]
    exact hs k e (by rwa [List.length_range] at h) hi) (by rw [List.length_range]; exact hl)
theorem run_hs {m n : Nat} {b : En → Out} {as : List (Bool × D)} (h : as.length = m) (hb : Out.hs (fun _ => R ⟨.g, .non⟩) R (fun _ => False) (fun _ => False) (fun _ _ => False) (b (startE n as))) : ∃ u, runF m n b as = .ok u ∧ R u := by
  rw [runF_eq, if_pos h]
  cases q : b (startE n as) with
  | nx e => rw [q] at hb; cases hb with | nx h => exact ⟨_, rfl, h⟩
  | rt u => rw [q] at hb; cases hb with | rt h => exact ⟨_, rfl, h⟩
  | bk e => rw [q] at hb; cases hb with | bk h => exact h.elim
  | ct e => rw [q] at hb; cases hb with | ct h => exact h.elim
  | ex e x => rw [q] at hb; cases hb with | ex h => exact h.elim
  | no => rw [q] at hb; cases hb
/-- what a def that may raise hands back -/
inductive Res.hs (R : Vl → Prop) (Z : Exn → Prop) : Res Vl → Prop where
  | ok {u : Vl} : R u → Res.hs R Z (.ok u)
  | ex {x : Exn} : Z x → Res.hs R Z (.ex x)
theorem run_hsX {Z : Exn → Prop} {m n : Nat} {b : En → Out} {as : List (Bool × D)} (h : as.length = m) (hb : Out.hs (fun _ => R ⟨.g, .non⟩) R (fun _ => False) (fun _ => False) (fun _ x => Z x) (b (startE n as))) : Res.hs R Z (runF m n b as) := by
  rw [runF_eq, if_pos h]
  cases q : b (startE n as) with
  | nx e => rw [q] at hb; cases hb with | nx h => exact .ok h
  | rt u => rw [q] at hb; cases hb with | rt h => exact .ok h
  | bk e => rw [q] at hb; cases hb with | bk h => exact h.elim
  | ct e => rw [q] at hb; cases hb with | ct h => exact h.elim
  | ex e x => rw [q] at hb; cases hb with | ex h => exact .ex h
  | no => rw [q] at hb; cases hb
end
end
end DL

namespace Lw
open PySem L2 DL
def top (i : Nat) : Stmt := PySem.Challenge.pw_handsatwork_k96_errors_built.main.body.getD i (.Pass ⟨0, 0, 0, 0⟩)
abbrev s_law_mixed : Stmt := top 25
abbrev s_law_pool : Stmt := top 26
abbrev s_law_same : Stmt := top 27
abbrev s_law_word : Stmt := top 28
abbrev s_law_number : Stmt := top 29
abbrev s_law_fields_of : Stmt := top 30
abbrev s_law_made : Stmt := top 31
abbrev s_law_read : Stmt := top 32
abbrev s_law_classes_of : Stmt := top 33
abbrev s_law_right : Stmt := top 34
abbrev s_law : Stmt := top 35
def cs_all : List Str := ["HandsatworkError", "BadTable", "BadText", "BadStanding", "CannotMove", "NoSuch", "WrongGround", "TooGreat", "BadVector", "NotLocal", "BadProgram", "InUse", "AttemptFailed", "BadLot", "BadDealing", "NotCore", "NotRooted", "BadLoads", "Impossible", "BadLine", "NothingToUndo", "NothingToRedo", "Refused"]
def ys_AttemptFailed : List Str := ["AttemptFailed"]
def ys_BadDealing : List Str := ["BadDealing"]
def ys_BadLine : List Str := ["BadLine"]
def ys_BadLoads : List Str := ["BadLoads"]
def ys_BadLot : List Str := ["BadLot"]
def ys_BadProgram : List Str := ["BadProgram"]
def ys_BadStanding : List Str := ["BadStanding"]
def ys_BadTable : List Str := ["BadTable"]
def ys_BadText : List Str := ["BadText"]
def ys_BadVector : List Str := ["BadVector"]
def ys_CannotMove : List Str := ["CannotMove"]
def ys_HandsatworkError : List Str := ["HandsatworkError", "BadTable", "BadText", "BadStanding", "CannotMove", "NoSuch", "WrongGround", "TooGreat", "BadVector", "NotLocal", "BadProgram", "InUse", "AttemptFailed", "BadLot", "BadDealing", "NotCore", "NotRooted", "BadLoads", "Impossible", "BadLine", "NothingToUndo", "NothingToRedo", "Refused"]
def ys_Impossible : List Str := ["Impossible"]
def ys_InUse : List Str := ["InUse"]
def ys_NoSuch : List Str := ["NoSuch"]
def ys_NotCore : List Str := ["NotCore"]
def ys_NotLocal : List Str := ["NotLocal"]
def ys_NotRooted : List Str := ["NotRooted"]
def ys_NothingToRedo : List Str := ["NothingToRedo"]
def ys_NothingToUndo : List Str := ["NothingToUndo"]
def ys_Refused : List Str := ["Refused"]
def ys_TooGreat : List Str := ["TooGreat"]
def ys_ValueError : List Str := ["HandsatworkError", "BadTable", "BadText", "BadStanding", "CannotMove", "NoSuch", "WrongGround", "TooGreat", "BadVector", "NotLocal", "BadProgram", "InUse", "AttemptFailed", "BadLot", "BadDealing", "NotCore", "NotRooted", "BadLoads", "Impossible", "BadLine", "NothingToUndo", "NothingToRedo", "Refused"]
def ys_WrongGround : List Str := ["WrongGround"]
def cf_index : List Str := ["BadTable", "BadStanding", "CannotMove", "BadVector", "AttemptFailed"]
def cf_kind : List Str := ["NotLocal"]
def cf_line : List Str := ["BadText", "BadProgram"]
def cf_needed : List Str := ["WrongGround"]
def cf_place : List Str := ["BadTable", "BadStanding"]
def cf_reason : List Str := ["CannotMove"]
def cf_what : List Str := ["NoSuch", "TooGreat", "InUse"]
def cf_word : List Str := ["BadProgram"]
theorem cf_sub {a b : List Str} (h : (a.all fun c => b.contains c) = true) : ∀ c, a.contains c = true → b.contains c = true := fun c hc => List.all_eq_true.1 h c (List.contains_iff_mem.1 hc)
abbrev si_AttemptFailed : Stmt := inC (top 13) 0
abbrev si_InUse : Stmt := inC (top 12) 0
abbrev si_BadProgram : Stmt := inC (top 11) 0
abbrev si_NotLocal : Stmt := inC (top 10) 0
abbrev si_BadVector : Stmt := inC (top 9) 0
abbrev si_TooGreat : Stmt := inC (top 8) 0
abbrev si_WrongGround : Stmt := inC (top 7) 0
abbrev si_NoSuch : Stmt := inC (top 6) 0
abbrev si_CannotMove : Stmt := inC (top 5) 0
abbrev si_BadStanding : Stmt := inC (top 4) 0
abbrev si_BadText : Stmt := inC (top 3) 0
abbrev si_BadTable : Stmt := inC (top 2) 0
structure Tx (K : PySem.W.Frag) (mg : Str → Option Value) : Prop where
  z_ValueError : mg "ValueError" = none
  z_abs : mg "abs" = none
  z_bool : mg "bool" = none
  z_int : mg "int" = none
  z_isinstance : mg "isinstance" = none
  z_len : mg "len" = none
  z_list : mg "list" = none
  z_range : mg "range" = none
  z_str : mg "str" = none
  z_tuple : mg "tuple" = none
  x_Refused : DX0 K mg "Refused"
  x_NotRooted : DX0 K mg "NotRooted"
  x_NothingToRedo : DX0 K mg "NothingToRedo"
  x_NothingToUndo : DX0 K mg "NothingToUndo"
  x_BadLine : DX0 K mg "BadLine"
  x_Impossible : DX0 K mg "Impossible"
  x_BadLoads : DX0 K mg "BadLoads"
  x_NotCore : DX0 K mg "NotCore"
  x_BadDealing : DX0 K mg "BadDealing"
  x_BadLot : DX0 K mg "BadLot"
  x_AttemptFailed : DXt K mg "AttemptFailed" ["index"] si_AttemptFailed
  x_InUse : DXt K mg "InUse" ["what"] si_InUse
  x_BadProgram : DXt K mg "BadProgram" ["line", "word"] si_BadProgram
  x_NotLocal : DXt K mg "NotLocal" ["kind"] si_NotLocal
  x_BadVector : DXt K mg "BadVector" ["index"] si_BadVector
  x_TooGreat : DXt K mg "TooGreat" ["what"] si_TooGreat
  x_WrongGround : DXt K mg "WrongGround" ["needed"] si_WrongGround
  x_NoSuch : DXt K mg "NoSuch" ["what"] si_NoSuch
  x_CannotMove : DXt K mg "CannotMove" ["index", "reason"] si_CannotMove
  x_BadStanding : DXt K mg "BadStanding" ["place", "index"] si_BadStanding
  x_BadText : DXt K mg "BadText" ["line"] si_BadText
  x_BadTable : DXt K mg "BadTable" ["place", "index"] si_BadTable
  e_all : exAll K cs_all = true
  k_AttemptFailed : kitAll K cs_all ys_AttemptFailed (.ref (adr K "AttemptFailed")) = true
  gc_AttemptFailed : mg "AttemptFailed" = some (.ref (adr K "AttemptFailed"))
  k_BadDealing : kitAll K cs_all ys_BadDealing (.ref (adr K "BadDealing")) = true
  gc_BadDealing : mg "BadDealing" = some (.ref (adr K "BadDealing"))
  k_BadLine : kitAll K cs_all ys_BadLine (.ref (adr K "BadLine")) = true
  gc_BadLine : mg "BadLine" = some (.ref (adr K "BadLine"))
  k_BadLoads : kitAll K cs_all ys_BadLoads (.ref (adr K "BadLoads")) = true
  gc_BadLoads : mg "BadLoads" = some (.ref (adr K "BadLoads"))
  k_BadLot : kitAll K cs_all ys_BadLot (.ref (adr K "BadLot")) = true
  gc_BadLot : mg "BadLot" = some (.ref (adr K "BadLot"))
  k_BadProgram : kitAll K cs_all ys_BadProgram (.ref (adr K "BadProgram")) = true
  gc_BadProgram : mg "BadProgram" = some (.ref (adr K "BadProgram"))
  k_BadStanding : kitAll K cs_all ys_BadStanding (.ref (adr K "BadStanding")) = true
  gc_BadStanding : mg "BadStanding" = some (.ref (adr K "BadStanding"))
  k_BadTable : kitAll K cs_all ys_BadTable (.ref (adr K "BadTable")) = true
  gc_BadTable : mg "BadTable" = some (.ref (adr K "BadTable"))
  k_BadText : kitAll K cs_all ys_BadText (.ref (adr K "BadText")) = true
  gc_BadText : mg "BadText" = some (.ref (adr K "BadText"))
  k_BadVector : kitAll K cs_all ys_BadVector (.ref (adr K "BadVector")) = true
  gc_BadVector : mg "BadVector" = some (.ref (adr K "BadVector"))
  k_CannotMove : kitAll K cs_all ys_CannotMove (.ref (adr K "CannotMove")) = true
  gc_CannotMove : mg "CannotMove" = some (.ref (adr K "CannotMove"))
  k_HandsatworkError : kitAll K cs_all ys_HandsatworkError (.ref (adr K "HandsatworkError")) = true
  gc_HandsatworkError : mg "HandsatworkError" = some (.ref (adr K "HandsatworkError"))
  k_Impossible : kitAll K cs_all ys_Impossible (.ref (adr K "Impossible")) = true
  gc_Impossible : mg "Impossible" = some (.ref (adr K "Impossible"))
  k_InUse : kitAll K cs_all ys_InUse (.ref (adr K "InUse")) = true
  gc_InUse : mg "InUse" = some (.ref (adr K "InUse"))
  k_NoSuch : kitAll K cs_all ys_NoSuch (.ref (adr K "NoSuch")) = true
  gc_NoSuch : mg "NoSuch" = some (.ref (adr K "NoSuch"))
  k_NotCore : kitAll K cs_all ys_NotCore (.ref (adr K "NotCore")) = true
  gc_NotCore : mg "NotCore" = some (.ref (adr K "NotCore"))
  k_NotLocal : kitAll K cs_all ys_NotLocal (.ref (adr K "NotLocal")) = true
  gc_NotLocal : mg "NotLocal" = some (.ref (adr K "NotLocal"))
  k_NotRooted : kitAll K cs_all ys_NotRooted (.ref (adr K "NotRooted")) = true
  gc_NotRooted : mg "NotRooted" = some (.ref (adr K "NotRooted"))
  k_NothingToRedo : kitAll K cs_all ys_NothingToRedo (.ref (adr K "NothingToRedo")) = true
  gc_NothingToRedo : mg "NothingToRedo" = some (.ref (adr K "NothingToRedo"))
  k_NothingToUndo : kitAll K cs_all ys_NothingToUndo (.ref (adr K "NothingToUndo")) = true
  gc_NothingToUndo : mg "NothingToUndo" = some (.ref (adr K "NothingToUndo"))
  k_Refused : kitAll K cs_all ys_Refused (.ref (adr K "Refused")) = true
  gc_Refused : mg "Refused" = some (.ref (adr K "Refused"))
  k_TooGreat : kitAll K cs_all ys_TooGreat (.ref (adr K "TooGreat")) = true
  gc_TooGreat : mg "TooGreat" = some (.ref (adr K "TooGreat"))
  k_ValueError : kitAll K cs_all ys_ValueError (.type "ValueError") = true
  k_WrongGround : kitAll K cs_all ys_WrongGround (.ref (adr K "WrongGround")) = true
  gc_WrongGround : mg "WrongGround" = some (.ref (adr K "WrongGround"))
  n_index : noAll K "index" cf_index = true
  n_kind : noAll K "kind" cf_kind = true
  n_line : noAll K "line" cf_line = true
  n_needed : noAll K "needed" cf_needed = true
  n_place : noAll K "place" cf_place = true
  n_reason : noAll K "reason" cf_reason = true
  n_what : noAll K "what" cf_what = true
  n_word : noAll K "word" cf_word = true
  d_law_mixed : Dn K mg "_law_mixed" s_law_mixed ["number", "turn"]
  d_law_pool : Dn K mg "_law_pool" s_law_pool ["script", "many"]
  d_law_same : Dn K mg "_law_same" s_law_same ["actual", "due"]
  d_law_word : Dn K mg "_law_word" s_law_word ["pool", "at"]
  d_law_number : Dn K mg "_law_number" s_law_number ["pool", "at"]
  d_law_fields_of : Dn K mg "_law_fields_of" s_law_fields_of ["pool", "start"]
  d_law_made : Dn K mg "_law_made" s_law_made ["rows"]
  d_law_read : Dn K mg "_law_read" s_law_read ["found"]
  d_law_classes_of : Dn K mg "_law_classes_of" s_law_classes_of ["e"]
  d_law_right : Dn K mg "_law_right" s_law_right ["found", "rows"]
  d_law : DnL K mg "law" s_law "script"
section
variable {P : Program} {w : World} {K : PySem.W.Frag} {mg : Str → Option Value} {base : Heap}
theorem sx_AttemptFailed : FnScope ["self", "index"] ["self", "index"] (defScope si_AttemptFailed) := ⟨rfl, rfl, rfl, by decide +kernel, rfl, by decide +kernel, by decide +kernel⟩
theorem x_AttemptFailed (T : Tx K mg) : DX P w K mg base "AttemptFailed" ["index"] := dx_1 T.x_AttemptFailed sx_AttemptFailed fun fI qual cdv A outer s H E => pss_one (ps_ost (pv 0) (pv 1))
theorem sx_InUse : FnScope ["self", "what"] ["self", "what"] (defScope si_InUse) := ⟨rfl, rfl, rfl, by decide +kernel, rfl, by decide +kernel, by decide +kernel⟩
theorem x_InUse (T : Tx K mg) : DX P w K mg base "InUse" ["what"] := dx_1 T.x_InUse sx_InUse fun fI qual cdv A outer s H E => pss_one (ps_ost (pv 0) (pv 1))
theorem sx_BadProgram : FnScope ["self", "line", "word"] ["self", "line", "word"] (defScope si_BadProgram) := ⟨rfl, rfl, rfl, by decide +kernel, rfl, by decide +kernel, by decide +kernel⟩
theorem x_BadProgram (T : Tx K mg) : DX P w K mg base "BadProgram" ["line", "word"] := dx_2 T.x_BadProgram sx_BadProgram (by decide) fun fI qual cdv A outer s H E => pss_cons (ps_ost (pv 0) (pv 1)) (pss_one (ps_ost (pv 0) (pv 2)))
theorem sx_NotLocal : FnScope ["self", "kind"] ["self", "kind"] (defScope si_NotLocal) := ⟨rfl, rfl, rfl, by decide +kernel, rfl, by decide +kernel, by decide +kernel⟩
theorem x_NotLocal (T : Tx K mg) : DX P w K mg base "NotLocal" ["kind"] := dx_1 T.x_NotLocal sx_NotLocal fun fI qual cdv A outer s H E => pss_one (ps_ost (pv 0) (pv 1))
theorem sx_BadVector : FnScope ["self", "index"] ["self", "index"] (defScope si_BadVector) := ⟨rfl, rfl, rfl, by decide +kernel, rfl, by decide +kernel, by decide +kernel⟩
theorem x_BadVector (T : Tx K mg) : DX P w K mg base "BadVector" ["index"] := dx_1 T.x_BadVector sx_BadVector fun fI qual cdv A outer s H E => pss_one (ps_ost (pv 0) (pv 1))
theorem sx_TooGreat : FnScope ["self", "what"] ["self", "what"] (defScope si_TooGreat) := ⟨rfl, rfl, rfl, by decide +kernel, rfl, by decide +kernel, by decide +kernel⟩
theorem x_TooGreat (T : Tx K mg) : DX P w K mg base "TooGreat" ["what"] := dx_1 T.x_TooGreat sx_TooGreat fun fI qual cdv A outer s H E => pss_one (ps_ost (pv 0) (pv 1))
theorem sx_WrongGround : FnScope ["self", "needed"] ["self", "needed"] (defScope si_WrongGround) := ⟨rfl, rfl, rfl, by decide +kernel, rfl, by decide +kernel, by decide +kernel⟩
theorem x_WrongGround (T : Tx K mg) : DX P w K mg base "WrongGround" ["needed"] := dx_1 T.x_WrongGround sx_WrongGround fun fI qual cdv A outer s H E => pss_one (ps_ost (pv 0) (pv 1))
theorem sx_NoSuch : FnScope ["self", "what"] ["self", "what"] (defScope si_NoSuch) := ⟨rfl, rfl, rfl, by decide +kernel, rfl, by decide +kernel, by decide +kernel⟩
theorem x_NoSuch (T : Tx K mg) : DX P w K mg base "NoSuch" ["what"] := dx_1 T.x_NoSuch sx_NoSuch fun fI qual cdv A outer s H E => pss_one (ps_ost (pv 0) (pv 1))
theorem sx_CannotMove : FnScope ["self", "index", "reason"] ["self", "index", "reason"] (defScope si_CannotMove) := ⟨rfl, rfl, rfl, by decide +kernel, rfl, by decide +kernel, by decide +kernel⟩
theorem x_CannotMove (T : Tx K mg) : DX P w K mg base "CannotMove" ["index", "reason"] := dx_2 T.x_CannotMove sx_CannotMove (by decide) fun fI qual cdv A outer s H E => pss_cons (ps_ost (pv 0) (pv 1)) (pss_one (ps_ost (pv 0) (pv 2)))
theorem sx_BadStanding : FnScope ["self", "place", "index"] ["self", "place", "index"] (defScope si_BadStanding) := ⟨rfl, rfl, rfl, by decide +kernel, rfl, by decide +kernel, by decide +kernel⟩
theorem x_BadStanding (T : Tx K mg) : DX P w K mg base "BadStanding" ["place", "index"] := dx_2 T.x_BadStanding sx_BadStanding (by decide) fun fI qual cdv A outer s H E => pss_cons (ps_ost (pv 0) (pv 1)) (pss_one (ps_ost (pv 0) (pv 2)))
theorem sx_BadText : FnScope ["self", "line"] ["self", "line"] (defScope si_BadText) := ⟨rfl, rfl, rfl, by decide +kernel, rfl, by decide +kernel, by decide +kernel⟩
theorem x_BadText (T : Tx K mg) : DX P w K mg base "BadText" ["line"] := dx_1 T.x_BadText sx_BadText fun fI qual cdv A outer s H E => pss_one (ps_ost (pv 0) (pv 1))
theorem sx_BadTable : FnScope ["self", "place", "index"] ["self", "place", "index"] (defScope si_BadTable) := ⟨rfl, rfl, rfl, by decide +kernel, rfl, by decide +kernel, by decide +kernel⟩
theorem x_BadTable (T : Tx K mg) : DX P w K mg base "BadTable" ["place", "index"] := dx_2 T.x_BadTable sx_BadTable (by decide) fun fI qual cdv A outer s H E => pss_cons (ps_ost (pv 0) (pv 1)) (pss_one (ps_ost (pv 0) (pv 2)))
/-! _law_mixed: 0 number, 1 turn, 2 first, 3 second -/
def b_law_mixed : En → Out := (seqO (setO 2 (binE (intP modI) (callE intC (consA (binE (addP) (binE (addP) (binE (intP mulI) (nmE 0) (cE (.int 48271))) (binE (intP mulI) (nmE 1) (cE (.int 69621)))) (cE (.int 11))) nilA)) (cE (.int 2147483647)))) (seqO (setO 3 (binE (intP modI) (callE intC (consA (binE (addP) (binE (addP) (binE (intP mulI) (nmE 2) (nmE 2)) (binE (intP mulI) (nmE 1) (cE (.int 40692)))) (cE (.int 7))) nilA)) (cE (.int 2147483399)))) (retO (binE (intP modI) (callE intC (consA (binE (intP divI) (nmE 3) (cE (.int 7))) nilA)) (cE (.int 1000))))))
def F_law_mixed : Fn := runF 2 4 b_law_mixed
theorem sc_law_mixed : FnScope ["number", "turn", "first", "second"] ["number", "turn"] (defScope s_law_mixed) := ⟨rfl, rfl, rfl, by decide +kernel, rfl, by decide +kernel, by decide +kernel⟩
theorem c_law_mixed (T : Tx K mg) : Cl P w K mg base 1 "_law_mixed" 2 F_law_mixed [] :=
  cl_mk T.d_law_mixed sc_law_mixed rfl rfl fun fa cdv A outer s H E hr => ⟨_, (dss_cons (ds_set 2 sc_law_mixed.nd (de_mod (de_callTy (K := K) call_int1 snc_int (by decide +kernel) T.z_int (da_cons (de_add (de_add (de_mul (de_nm 0) de_int) (de_mul (de_nm 1) de_int)) de_int) da_nil)) de_int)) (dss_cons (ds_set 3 sc_law_mixed.nd (de_mod (de_callTy (K := K) call_int1 snc_int (by decide +kernel) T.z_int (da_cons (de_add (de_add (de_mul (de_nm 2) (de_nm 2)) (de_mul (de_nm 1) de_int)) de_int) da_nil)) de_int)) (dss_one (ds_ret (de_mod (de_callTy (K := K) call_int1 snc_int (by decide +kernel) T.z_int (da_cons (de_div (de_nm 3) de_int) da_nil)) de_int)))))⟩
/-! _law_pool: 0 script, 1 many, 2 cell, 3 cells, 4 digits, 5 row, 6 rest, 7 turn, 8 pool, 9 k, 10 at -/
def b_law_pool : En → Out := (seqO (setO 3 (lcE (seqI (slE (nmE 0) noPart (part (cE (.int 63))))) (nmT 2) yesT (callE absC (consA (callE intC (consA (nmE 2) nilA)) nilA)) [2])) (seqO (ifO (valT (binE (eqP false) (nmE 3) (lstE nilA))) (setO 3 (lstE (consA (cE (.int 0)) nilA))) nextO) (seqO (setO 4 (lstE nilA)) (seqO (frzO [3] (forS (seqI (nmE 3)) (nmT 2) (seqO (setO 5 (lstE nilA)) (seqO (frzO [2] (setO 6 (nmE 2))) (seqO (ifO (valT (binE (intP geI) (nmE 2) (binE (intP powI) (cE (.int 10)) (cE (.int 18))))) (forS (rng1 (cE (.int 90))) (nmT 7) (ifO (valT (binE (intP gtI) (nmE 6) (cE (.int 0)))) (seqO (appO 5 (binE (intP modI) (callE intC (consA (nmE 6) nilA)) (cE (.int 1000)))) (setO 6 (binE (intP divI) (nmE 6) (cE (.int 1000))))) nextO)) nextO) (frzO [5] (appO 4 (nmE 5)))))))) (seqO (setO 8 (lstE nilA)) (seqO (forS (rng1 (nmE 1)) (nmT 9) (seqO (setO 10 (binE (intP modI) (callE intC (consA (nmE 9) nilA)) (callE lenC (consA (nmE 3) nilA)))) (seqO (setO 7 (binE (intP divI) (nmE 9) (callE lenC (consA (nmE 3) nilA)))) (ifO (valT (binE (intP ltI) (nmE 7) (callE lenC (consA (binE ixP (nmE 4) (nmE 10)) nilA)))) (appO 8 (binE ixP (binE ixP (nmE 4) (nmE 10)) (nmE 7))) (appO 8 (callF F_law_mixed [] (consA (binE (addP) (binE (intP modI) (callE intC (consA (binE ixP (nmE 3) (nmE 10)) nilA)) (cE (.int 1000003))) (binE (intP mulI) (cE (.int 7919)) (nmE 10))) (consA (binE (addP) (nmE 7) (cE (.int 1))) nilA)))))))) (retO (nmE 8))))))))
def F_law_pool : Fn := runF 2 11 b_law_pool
theorem sc_law_pool : FnScope ["script", "many", "cell", "cells", "digits", "row", "rest", "turn", "pool", "k", "at"] ["script", "many"] (defScope s_law_pool) := ⟨rfl, rfl, rfl, by decide +kernel, rfl, by decide +kernel, by decide +kernel⟩
theorem c_law_pool (T : Tx K mg) : Cl P w K mg base 2 "_law_pool" 2 F_law_pool [] :=
  cl_mk T.d_law_pool sc_law_pool rfl rfl fun fa cdv A outer s H E hr => ⟨_, (dss_cons (ds_setLc (own := [("cell", 2)]) (ws := [2]) 3 rfl sc_law_pool.nd (di_seq (de_sl (K := K) (de_nm 0) do_none (do_some de_int))) (blkOk_by (N := ["script", "many", "cell", "cells", "digits", "row", "rest", "turn", "pool", "k", "at"]) (sc := defScope s_law_pool) (by decide +kernel)) (fun _ _ _ _ _ => (dg_nm 2 sc_law_pool.nd)) (fun _ _ _ _ _ => dts_nil) (fun _ _ _ _ _ => (de_callB (K := K) call_abs snc_abs (by decide +kernel) T.z_abs (da_cons (de_callTy (K := K) call_int1 snc_int (by decide +kernel) T.z_int (da_cons (de_nm 2) da_nil)) da_nil))) s H (sw_true rfl rfl rfl (by decide +kernel))) (dss_cons (ds_if (dt_cm (cm_eq (K := K) hr.units) (de_nm 3) (de_lst da_nil)) (dss_one (ds_set 3 sc_law_pool.nd (de_lst (da_cons de_int da_nil)))) dss_nil) (dss_cons (ds_set 4 sc_law_pool.nd (de_lst da_nil)) (dss_cons (ds_frz [3] (ds_for PassesOwn.never rfl (di_seq (de_nm 3)) (dg_nm 2 sc_law_pool.nd) (dss_cons (ds_set 5 sc_law_pool.nd (de_lst da_nil)) (dss_cons (ds_frz [2] (ds_set 6 sc_law_pool.nd (de_nm 2))) (dss_cons (ds_if (dt_cm cm_ge (de_nm 2) (de_pow de_int de_int)) (dss_one (ds_for PassesOwn.never rfl (di_rng1 T.z_range de_int) (dg_nm 7 sc_law_pool.nd) (dss_one (ds_if (dt_cm cm_gt (de_nm 6) de_int) (dss_cons (ds_app 5 (de_mod (de_callTy (K := K) call_int1 snc_int (by decide +kernel) T.z_int (da_cons (de_nm 6) da_nil)) de_int)) (dss_one (ds_set 6 sc_law_pool.nd (de_div (de_nm 6) de_int)))) dss_nil)))) dss_nil) (dss_one (ds_frz [5] (ds_app 4 (de_nm 5))))))))) (dss_cons (ds_set 8 sc_law_pool.nd (de_lst da_nil)) (dss_cons (ds_for PassesOwn.never rfl (di_rng1 T.z_range (de_nm 1)) (dg_nm 9 sc_law_pool.nd) (dss_cons (ds_set 10 sc_law_pool.nd (de_mod (de_callTy (K := K) call_int1 snc_int (by decide +kernel) T.z_int (da_cons (de_nm 9) da_nil)) (de_callB (K := K) (ck_len (K := K)) snc_len (by decide +kernel) T.z_len (da_cons (de_nm 3) da_nil)))) (dss_cons (ds_set 7 sc_law_pool.nd (de_div (de_nm 9) (de_callB (K := K) (ck_len (K := K)) snc_len (by decide +kernel) T.z_len (da_cons (de_nm 3) da_nil)))) (dss_one (ds_if (dt_cm cm_lt (de_nm 7) (de_callB (K := K) (ck_len (K := K)) snc_len (by decide +kernel) T.z_len (da_cons (de_ix (K := K) (de_nm 4) (de_nm 10)) da_nil))) (dss_one (ds_app 8 (de_ix (K := K) (de_ix (K := K) (de_nm 4) (de_nm 10)) (de_nm 7)))) (dss_one (ds_app 8 (de_c (K := K) (c_law_mixed T) hr (da_cons (de_add (de_mod (de_callTy (K := K) call_int1 snc_int (by decide +kernel) T.z_int (da_cons (de_ix (K := K) (de_nm 3) (de_nm 10)) da_nil)) de_int) (de_mul de_int (de_nm 10))) (da_cons (de_add (de_nm 7) de_int) da_nil)))))))))) (dss_one (ds_ret (de_nm 8)))))))))⟩
/-! _law_same: 0 actual, 1 due, 2 k -/
def b_law_same (F : Fn) : En → Out := (seqO (ifO (valT (binE (isP false) (nmE 1) (cE .non))) (retO (binE (isP false) (nmE 0) (cE .non))) nextO) (seqO (ifO (valT (binE (isP false) (nmE 1) (cE (.bl true)))) (retO (binE (isP false) (nmE 0) (cE (.bl true)))) nextO) (seqO (ifO (valT (binE (isP false) (nmE 1) (cE (.bl false)))) (retO (binE (isP false) (nmE 0) (cE (.bl false)))) nextO) (seqO (ifO (truT (isiE "int" (nmE 1))) (retO (andE (isiE "int" (nmE 0)) (andE (notE (isiE "bool" (nmE 0))) (binE (eqP false) (nmE 0) (nmE 1))))) nextO) (seqO (ifO (truT (isiE "str" (nmE 1))) (retO (andE (isiE "str" (nmE 0)) (binE (eqP false) (nmE 0) (nmE 1)))) nextO) (seqO (ifO (truT (isiE "tuple" (nmE 1))) (ifO (orT (notT (truT (isiE "tuple" (nmE 0)))) (valT (binE (eqP true) (callE lenC (consA (nmE 0) nilA)) (callE lenC (consA (nmE 1) nilA))))) (retO (cE (.bl false))) nextO) (ifO (orT (notT (truT (isiE "list" (nmE 0)))) (valT (binE (eqP true) (callE lenC (consA (nmE 0) nilA)) (callE lenC (consA (nmE 1) nilA))))) (retO (cE (.bl false))) nextO)) (seqO (forS (rng1 (callE lenC (consA (nmE 1) nilA))) (nmT 2) (ifO (notT (truT (callF F [] (consA (binE ixP (nmE 0) (nmE 2)) (consA (binE ixP (nmE 1) (nmE 2)) nilA))))) (retO (cE (.bl false))) nextO)) (retO (cE (.bl true))))))))))
def F_law_same : Nat → Fn
  | 0 => fun _ => .no
  | j + 1 => runF 2 3 (b_law_same (F_law_same j))
theorem sc_law_same : FnScope ["actual", "due", "k"] ["actual", "due"] (defScope s_law_same) := ⟨rfl, rfl, rfl, by decide +kernel, rfl, by decide +kernel, by decide +kernel⟩
theorem c_law_same (T : Tx K mg) : ∀ j : Nat, Cl P w K mg base (j + 1) "_law_same" 2 (F_law_same j) []
  | 0 => cl_no T.d_law_same
  | j + 1 => by
    have ih : Cl P w K mg base (j + 1) "_law_same" 2 (F_law_same j) [] := c_law_same T j
    exact cl_mk T.d_law_same sc_law_same rfl rfl fun fa cdv A outer s H E hr => ⟨_, (dss_cons (ds_if (dt_cm cm_is (de_nm 1) de_non) (dss_one (ds_ret (de_cm cm_is (de_nm 0) de_non))) dss_nil) (dss_cons (ds_if (dt_cm cm_is (de_nm 1) de_bl) (dss_one (ds_ret (de_cm cm_is (de_nm 0) de_bl))) dss_nil) (dss_cons (ds_if (dt_cm cm_is (de_nm 1) de_bl) (dss_one (ds_ret (de_cm cm_is (de_nm 0) de_bl))) dss_nil) (dss_cons (ds_if (dt_tru (K := K) (de_isi (K := K) (Ts := "int") rfl (by decide +kernel) T.z_isinstance T.z_int (de_nm 1))) (dss_one (ds_ret (de_and (de_isi (K := K) (Ts := "int") rfl (by decide +kernel) T.z_isinstance T.z_int (de_nm 0)) (de_and (de_not (de_isi (K := K) (Ts := "bool") rfl (by decide +kernel) T.z_isinstance T.z_bool (de_nm 0))) (de_one (de_cm (cm_eq (K := K) hr.units) (de_nm 0) (de_nm 1))))))) dss_nil) (dss_cons (ds_if (dt_tru (K := K) (de_isi (K := K) (Ts := "str") rfl (by decide +kernel) T.z_isinstance T.z_str (de_nm 1))) (dss_one (ds_ret (de_and (de_isi (K := K) (Ts := "str") rfl (by decide +kernel) T.z_isinstance T.z_str (de_nm 0)) (de_one (de_cm (cm_eq (K := K) hr.units) (de_nm 0) (de_nm 1)))))) dss_nil) (dss_cons (ds_if (dt_tru (K := K) (de_isi (K := K) (Ts := "tuple") rfl (by decide +kernel) T.z_isinstance T.z_tuple (de_nm 1))) (dss_one (ds_if (dt_w (dw_or (dt_not (dt_tru (K := K) (de_isi (K := K) (Ts := "tuple") rfl (by decide +kernel) T.z_isinstance T.z_tuple (de_nm 0)))) (dw_or1 (dt_cm (cm_ne (K := K) hr.units) (de_callB (K := K) (ck_len (K := K)) snc_len (by decide +kernel) T.z_len (da_cons (de_nm 0) da_nil)) (de_callB (K := K) (ck_len (K := K)) snc_len (by decide +kernel) T.z_len (da_cons (de_nm 1) da_nil)))))) (dss_one (ds_ret de_bl)) dss_nil)) (dss_one (ds_if (dt_w (dw_or (dt_not (dt_tru (K := K) (de_isi (K := K) (Ts := "list") rfl (by decide +kernel) T.z_isinstance T.z_list (de_nm 0)))) (dw_or1 (dt_cm (cm_ne (K := K) hr.units) (de_callB (K := K) (ck_len (K := K)) snc_len (by decide +kernel) T.z_len (da_cons (de_nm 0) da_nil)) (de_callB (K := K) (ck_len (K := K)) snc_len (by decide +kernel) T.z_len (da_cons (de_nm 1) da_nil)))))) (dss_one (ds_ret de_bl)) dss_nil))) (dss_cons (ds_for PassesOwn.never rfl (di_rng1 T.z_range (de_callB (K := K) (ck_len (K := K)) snc_len (by decide +kernel) T.z_len (da_cons (de_nm 1) da_nil))) (dg_nm 2 sc_law_same.nd) (dss_one (ds_if (dt_not (dt_tru (K := K) (de_c (K := K) ih hr (da_cons (de_ix (K := K) (de_nm 0) (de_nm 2)) (da_cons (de_ix (K := K) (de_nm 1) (de_nm 2)) da_nil)) (Nat.le_refl _)))) (dss_one (ds_ret de_bl)) dss_nil))) (dss_one (ds_ret de_bl)))))))))⟩
/-! _law_word: 0 pool, 1 at, 2 menu -/
def b_law_word : En → Out := (seqO (setO 2 (lstE (consA (cE (.str "people")) (consA (cE (.str "hands")) (consA (cE (.str "ties")) (consA (cE (.str "web")) (consA (cE (.str "kinds")) (consA (cE (.str "quick")) (consA (cE (.str "shares")) (consA (cE (.str "rows")) (consA (cE (.str "places")) (consA (cE (.str "most")) (consA (cE (.str "share")) (consA (cE (.str "none")) nilA)))))))))))))) (seqO (setO 2 (binE (addP) (nmE 2) (lstE (consA (cE (.str "unknown")) (consA (cE (.str "tree")) (consA (cE (.str "one hand")) (consA (cE (.str "no quick")) (consA (cE (.str "events")) (consA (cE (.str "")) nilA))))))))) (retO (binE ixP (nmE 2) (binE (intP modI) (callE intC (consA (binE ixP (nmE 0) (nmE 1)) nilA)) (cE (.int 18)))))))
def F_law_word : Fn := runF 2 3 b_law_word
theorem sc_law_word : FnScope ["pool", "at", "menu"] ["pool", "at"] (defScope s_law_word) := ⟨rfl, rfl, rfl, by decide +kernel, rfl, by decide +kernel, by decide +kernel⟩
theorem c_law_word (T : Tx K mg) : Cl P w K mg base 1 "_law_word" 2 F_law_word [] :=
  cl_mk T.d_law_word sc_law_word rfl rfl fun fa cdv A outer s H E hr => ⟨_, (dss_cons (ds_set 2 sc_law_word.nd (de_lst (da_cons de_str (da_cons de_str (da_cons de_str (da_cons de_str (da_cons de_str (da_cons de_str (da_cons de_str (da_cons de_str (da_cons de_str (da_cons de_str (da_cons de_str (da_cons de_str da_nil)))))))))))))) (dss_cons (ds_set 2 sc_law_word.nd (de_add (de_nm 2) (de_lst (da_cons de_str (da_cons de_str (da_cons de_str (da_cons de_str (da_cons de_str (da_cons de_str da_nil))))))))) (dss_one (ds_ret (de_ix (K := K) (de_nm 2) (de_mod (de_callTy (K := K) call_int1 snc_int (by decide +kernel) T.z_int (da_cons (de_ix (K := K) (de_nm 0) (de_nm 1)) da_nil)) de_int))))))⟩
/-! _law_number: 0 pool, 1 at, 2 form -/
def b_law_number : En → Out := (seqO (setO 2 (binE (intP modI) (callE intC (consA (binE ixP (nmE 0) (nmE 1)) nilA)) (cE (.int 4)))) (seqO (ifO (valT (binE (eqP false) (nmE 2) (cE (.int 1)))) (retO (binE (intP subI) (unE negP (cE (.int 1))) (callE intC (consA (binE ixP (nmE 0) (binE (addP) (nmE 1) (cE (.int 1)))) nilA)))) nextO) (seqO (ifO (valT (binE (eqP false) (nmE 2) (cE (.int 2)))) (retO (binE (addP) (binE (intP mulI) (binE (intP powI) (cE (.int 10)) (cE (.int 27))) (binE (addP) (cE (.int 1)) (callE intC (consA (binE ixP (nmE 0) (binE (addP) (nmE 1) (cE (.int 1)))) nilA)))) (callE intC (consA (binE ixP (nmE 0) (nmE 1)) nilA)))) nextO) (retO (callE intC (consA (binE ixP (nmE 0) (binE (addP) (nmE 1) (cE (.int 1)))) nilA))))))
def F_law_number : Fn := runF 2 3 b_law_number
theorem sc_law_number : FnScope ["pool", "at", "form"] ["pool", "at"] (defScope s_law_number) := ⟨rfl, rfl, rfl, by decide +kernel, rfl, by decide +kernel, by decide +kernel⟩
theorem c_law_number (T : Tx K mg) : Cl P w K mg base 1 "_law_number" 2 F_law_number [] :=
  cl_mk T.d_law_number sc_law_number rfl rfl fun fa cdv A outer s H E hr => ⟨_, (dss_cons (ds_set 2 sc_law_number.nd (de_mod (de_callTy (K := K) call_int1 snc_int (by decide +kernel) T.z_int (da_cons (de_ix (K := K) (de_nm 0) (de_nm 1)) da_nil)) de_int)) (dss_cons (ds_if (dt_cm (cm_eq (K := K) hr.units) (de_nm 2) de_int) (dss_one (ds_ret (de_sub (de_neg de_int) (de_callTy (K := K) call_int1 snc_int (by decide +kernel) T.z_int (da_cons (de_ix (K := K) (de_nm 0) (de_add (de_nm 1) de_int)) da_nil))))) dss_nil) (dss_cons (ds_if (dt_cm (cm_eq (K := K) hr.units) (de_nm 2) de_int) (dss_one (ds_ret (de_add (de_mul (de_pow de_int de_int) (de_add de_int (de_callTy (K := K) call_int1 snc_int (by decide +kernel) T.z_int (da_cons (de_ix (K := K) (de_nm 0) (de_add (de_nm 1) de_int)) da_nil)))) (de_callTy (K := K) call_int1 snc_int (by decide +kernel) T.z_int (da_cons (de_ix (K := K) (de_nm 0) (de_nm 1)) da_nil))))) dss_nil) (dss_one (ds_ret (de_callTy (K := K) call_int1 snc_int (by decide +kernel) T.z_int (da_cons (de_ix (K := K) (de_nm 0) (de_add (de_nm 1) de_int)) da_nil)))))))⟩
/-! _law_fields_of: 0 pool, 1 start, 2 k, 3 words, 4 numbers, 5 rows -/
def b_law_fields_of : En → Out := (seqO (frzO [0] (setO 3 (lcE (rng1 (cE (.int 7))) (nmT 2) yesT (callF F_law_word [] (consA (nmE 0) (consA (binE (addP) (nmE 1) (nmE 2)) nilA))) [2]))) (seqO (frzO [0] (setO 4 (lcE (rng1 (cE (.int 9))) (nmT 2) yesT (callF F_law_number [] (consA (nmE 0) (consA (binE (addP) (binE (addP) (nmE 1) (cE (.int 7))) (binE (intP mulI) (cE (.int 2)) (nmE 2))) nilA))) [2]))) (seqO (setO 5 (lstE (consA (tupE (consA (binE ixP (nmE 3) (cE (.int 0))) (consA (binE ixP (nmE 4) (cE (.int 0))) nilA))) (consA (tupE (consA (binE ixP (nmE 4) (cE (.int 1))) nilA)) (consA (tupE (consA (binE ixP (nmE 3) (cE (.int 1))) (consA (binE ixP (nmE 4) (cE (.int 2))) nilA))) (consA (tupE (consA (binE ixP (nmE 4) (cE (.int 3))) (consA (binE ixP (nmE 3) (cE (.int 2))) nilA))) (consA (tupE (consA (binE ixP (nmE 3) (cE (.int 3))) nilA)) nilA))))))) (seqO (setO 5 (binE (addP) (nmE 5) (lstE (consA (tupE (consA (binE ixP (nmE 3) (cE (.int 4))) nilA)) (consA (tupE (consA (binE ixP (nmE 3) (cE (.int 5))) nilA)) (consA (tupE (consA (binE ixP (nmE 4) (cE (.int 4))) nilA)) (consA (tupE (consA (binE ixP (nmE 4) (cE (.int 5))) nilA)) (consA (tupE (consA (binE ixP (nmE 4) (cE (.int 6))) (consA (binE ixP (nmE 4) (cE (.int 7))) nilA))) (consA (tupE (consA (binE ixP (nmE 3) (cE (.int 6))) nilA)) nilA))))))))) (retO (binE (addP) (nmE 5) (lstE (consA (tupE (consA (binE ixP (nmE 4) (cE (.int 8))) nilA)) (consA (tupE nilA) (consA (tupE nilA) (consA (tupE nilA) (consA (tupE nilA) (consA (tupE nilA) (consA (tupE nilA) (consA (tupE nilA) (consA (tupE nilA) (consA (tupE nilA) (consA (tupE nilA) nilA))))))))))))))))))
def F_law_fields_of : Fn := runF 2 6 b_law_fields_of
theorem sc_law_fields_of : FnScope ["pool", "start", "k", "words", "numbers", "rows"] ["pool", "start"] (defScope s_law_fields_of) := ⟨rfl, rfl, rfl, by decide +kernel, rfl, by decide +kernel, by decide +kernel⟩
theorem c_law_fields_of (T : Tx K mg) : Cl P w K mg base 2 "_law_fields_of" 2 F_law_fields_of [] :=
  cl_mk T.d_law_fields_of sc_law_fields_of rfl rfl fun fa cdv A outer s H E hr => ⟨_, (dss_cons (ds_frz [0] (ds_setLc (own := [("k", 2)]) (ws := [2]) 3 rfl sc_law_fields_of.nd (di_rng1 T.z_range de_int) (blkOk_by (N := ["pool", "start", "k", "words", "numbers", "rows"]) (sc := defScope s_law_fields_of) (by decide +kernel)) (fun _ _ _ _ _ => (dg_nm 2 sc_law_fields_of.nd)) (fun _ _ _ _ _ => dts_nil) (fun _ _ _ _ _ => (de_c (K := K) (c_law_word T) hr (da_cons (de_nm 0) (da_cons (de_add (de_nm 1) (de_nm 2)) da_nil)))) s H (sw_true rfl rfl rfl (by decide +kernel)))) (dss_cons (ds_frz [0] (ds_setLc (own := [("k", 2)]) (ws := [2]) 4 rfl sc_law_fields_of.nd (di_rng1 T.z_range de_int) (blkOk_by (N := ["pool", "start", "k", "words", "numbers", "rows"]) (sc := defScope s_law_fields_of) (by decide +kernel)) (fun _ _ _ _ _ => (dg_nm 2 sc_law_fields_of.nd)) (fun _ _ _ _ _ => dts_nil) (fun _ _ _ _ _ => (de_c (K := K) (c_law_number T) hr (da_cons (de_nm 0) (da_cons (de_add (de_add (de_nm 1) de_int) (de_mul de_int (de_nm 2))) da_nil)))) s H (sw_true rfl rfl rfl (by decide +kernel)))) (dss_cons (ds_set 5 sc_law_fields_of.nd (de_lst (da_cons (de_tup (da_cons (de_ix (K := K) (de_nm 3) de_int) (da_cons (de_ix (K := K) (de_nm 4) de_int) da_nil))) (da_cons (de_tup (da_cons (de_ix (K := K) (de_nm 4) de_int) da_nil)) (da_cons (de_tup (da_cons (de_ix (K := K) (de_nm 3) de_int) (da_cons (de_ix (K := K) (de_nm 4) de_int) da_nil))) (da_cons (de_tup (da_cons (de_ix (K := K) (de_nm 4) de_int) (da_cons (de_ix (K := K) (de_nm 3) de_int) da_nil))) (da_cons (de_tup (da_cons (de_ix (K := K) (de_nm 3) de_int) da_nil)) da_nil))))))) (dss_cons (ds_set 5 sc_law_fields_of.nd (de_add (de_nm 5) (de_lst (da_cons (de_tup (da_cons (de_ix (K := K) (de_nm 3) de_int) da_nil)) (da_cons (de_tup (da_cons (de_ix (K := K) (de_nm 3) de_int) da_nil)) (da_cons (de_tup (da_cons (de_ix (K := K) (de_nm 4) de_int) da_nil)) (da_cons (de_tup (da_cons (de_ix (K := K) (de_nm 4) de_int) da_nil)) (da_cons (de_tup (da_cons (de_ix (K := K) (de_nm 4) de_int) (da_cons (de_ix (K := K) (de_nm 4) de_int) da_nil))) (da_cons (de_tup (da_cons (de_ix (K := K) (de_nm 3) de_int) da_nil)) da_nil))))))))) (dss_one (ds_ret (de_add (de_nm 5) (de_lst (da_cons (de_tup (da_cons (de_ix (K := K) (de_nm 4) de_int) da_nil)) (da_cons (de_tup da_nil) (da_cons (de_tup da_nil) (da_cons (de_tup da_nil) (da_cons (de_tup da_nil) (da_cons (de_tup da_nil) (da_cons (de_tup da_nil) (da_cons (de_tup da_nil) (da_cons (de_tup da_nil) (da_cons (de_tup da_nil) (da_cons (de_tup da_nil) da_nil)))))))))))))))))))⟩
/-! _law_made: 0 rows, 1 found -/
def b_law_made : En → Out := (seqO (setO 1 (lstE (consA (mkV "BadTable" ["place", "index"] (consA (binE ixP (binE ixP (nmE 0) (cE (.int 0))) (cE (.int 0))) (consA (binE ixP (binE ixP (nmE 0) (cE (.int 0))) (cE (.int 1))) nilA))) (consA (mkV "BadText" ["line"] (consA (binE ixP (binE ixP (nmE 0) (cE (.int 1))) (cE (.int 0))) nilA)) (consA (mkV "BadStanding" ["place", "index"] (consA (binE ixP (binE ixP (nmE 0) (cE (.int 2))) (cE (.int 0))) (consA (binE ixP (binE ixP (nmE 0) (cE (.int 2))) (cE (.int 1))) nilA))) nilA))))) (seqO (setO 1 (binE (addP) (nmE 1) (lstE (consA (mkV "CannotMove" ["index", "reason"] (consA (binE ixP (binE ixP (nmE 0) (cE (.int 3))) (cE (.int 0))) (consA (binE ixP (binE ixP (nmE 0) (cE (.int 3))) (cE (.int 1))) nilA))) (consA (mkV "NoSuch" ["what"] (consA (binE ixP (binE ixP (nmE 0) (cE (.int 4))) (cE (.int 0))) nilA)) (consA (mkV "WrongGround" ["needed"] (consA (binE ixP (binE ixP (nmE 0) (cE (.int 5))) (cE (.int 0))) nilA)) nilA)))))) (seqO (setO 1 (binE (addP) (nmE 1) (lstE (consA (mkV "TooGreat" ["what"] (consA (binE ixP (binE ixP (nmE 0) (cE (.int 6))) (cE (.int 0))) nilA)) (consA (mkV "BadVector" ["index"] (consA (binE ixP (binE ixP (nmE 0) (cE (.int 7))) (cE (.int 0))) nilA)) (consA (mkV "NotLocal" ["kind"] (consA (binE ixP (binE ixP (nmE 0) (cE (.int 8))) (cE (.int 0))) nilA)) nilA)))))) (seqO (setO 1 (binE (addP) (nmE 1) (lstE (consA (mkV "BadProgram" ["line", "word"] (consA (binE ixP (binE ixP (nmE 0) (cE (.int 9))) (cE (.int 0))) (consA (binE ixP (binE ixP (nmE 0) (cE (.int 9))) (cE (.int 1))) nilA))) (consA (mkV "InUse" ["what"] (consA (binE ixP (binE ixP (nmE 0) (cE (.int 10))) (cE (.int 0))) nilA)) (consA (mkV "AttemptFailed" ["index"] (consA (binE ixP (binE ixP (nmE 0) (cE (.int 11))) (cE (.int 0))) nilA)) nilA)))))) (seqO (setO 1 (binE (addP) (nmE 1) (lstE (consA (mkV0 "BadLot") (consA (mkV0 "BadDealing") (consA (mkV0 "NotCore") (consA (mkV0 "BadLoads") (consA (mkV0 "Impossible") (consA (mkV0 "BadLine") nilA))))))))) (retO (binE (addP) (nmE 1) (lstE (consA (mkV0 "NothingToUndo") (consA (mkV0 "NothingToRedo") (consA (mkV0 "NotRooted") (consA (mkV0 "Refused") nilA))))))))))))
def F_law_made : Fn := runF 1 2 b_law_made
theorem sc_law_made : FnScope ["rows", "found"] ["rows"] (defScope s_law_made) := ⟨rfl, rfl, rfl, by decide +kernel, rfl, by decide +kernel, by decide +kernel⟩
theorem c_law_made (T : Tx K mg) : Cl P w K mg base 3 "_law_made" 1 F_law_made [] :=
  cl_mk T.d_law_made sc_law_made rfl rfl fun fa cdv A outer s H E hr => ⟨_, (dss_cons (ds_set 1 sc_law_made.nd (de_lst (da_cons (de_mkV (K := K) (x_BadTable T) hr (da_cons (de_ix (K := K) (de_ix (K := K) (de_nm 0) de_int) de_int) (da_cons (de_ix (K := K) (de_ix (K := K) (de_nm 0) de_int) de_int) da_nil))) (da_cons (de_mkV (K := K) (x_BadText T) hr (da_cons (de_ix (K := K) (de_ix (K := K) (de_nm 0) de_int) de_int) da_nil)) (da_cons (de_mkV (K := K) (x_BadStanding T) hr (da_cons (de_ix (K := K) (de_ix (K := K) (de_nm 0) de_int) de_int) (da_cons (de_ix (K := K) (de_ix (K := K) (de_nm 0) de_int) de_int) da_nil))) da_nil))))) (dss_cons (ds_set 1 sc_law_made.nd (de_add (de_nm 1) (de_lst (da_cons (de_mkV (K := K) (x_CannotMove T) hr (da_cons (de_ix (K := K) (de_ix (K := K) (de_nm 0) de_int) de_int) (da_cons (de_ix (K := K) (de_ix (K := K) (de_nm 0) de_int) de_int) da_nil))) (da_cons (de_mkV (K := K) (x_NoSuch T) hr (da_cons (de_ix (K := K) (de_ix (K := K) (de_nm 0) de_int) de_int) da_nil)) (da_cons (de_mkV (K := K) (x_WrongGround T) hr (da_cons (de_ix (K := K) (de_ix (K := K) (de_nm 0) de_int) de_int) da_nil)) da_nil)))))) (dss_cons (ds_set 1 sc_law_made.nd (de_add (de_nm 1) (de_lst (da_cons (de_mkV (K := K) (x_TooGreat T) hr (da_cons (de_ix (K := K) (de_ix (K := K) (de_nm 0) de_int) de_int) da_nil)) (da_cons (de_mkV (K := K) (x_BadVector T) hr (da_cons (de_ix (K := K) (de_ix (K := K) (de_nm 0) de_int) de_int) da_nil)) (da_cons (de_mkV (K := K) (x_NotLocal T) hr (da_cons (de_ix (K := K) (de_ix (K := K) (de_nm 0) de_int) de_int) da_nil)) da_nil)))))) (dss_cons (ds_set 1 sc_law_made.nd (de_add (de_nm 1) (de_lst (da_cons (de_mkV (K := K) (x_BadProgram T) hr (da_cons (de_ix (K := K) (de_ix (K := K) (de_nm 0) de_int) de_int) (da_cons (de_ix (K := K) (de_ix (K := K) (de_nm 0) de_int) de_int) da_nil))) (da_cons (de_mkV (K := K) (x_InUse T) hr (da_cons (de_ix (K := K) (de_ix (K := K) (de_nm 0) de_int) de_int) da_nil)) (da_cons (de_mkV (K := K) (x_AttemptFailed T) hr (da_cons (de_ix (K := K) (de_ix (K := K) (de_nm 0) de_int) de_int) da_nil)) da_nil)))))) (dss_cons (ds_set 1 sc_law_made.nd (de_add (de_nm 1) (de_lst (da_cons (de_mkV0 (K := K) T.x_BadLot) (da_cons (de_mkV0 (K := K) T.x_BadDealing) (da_cons (de_mkV0 (K := K) T.x_NotCore) (da_cons (de_mkV0 (K := K) T.x_BadLoads) (da_cons (de_mkV0 (K := K) T.x_Impossible) (da_cons (de_mkV0 (K := K) T.x_BadLine) da_nil))))))))) (dss_one (ds_ret (de_add (de_nm 1) (de_lst (da_cons (de_mkV0 (K := K) T.x_NothingToUndo) (da_cons (de_mkV0 (K := K) T.x_NothingToRedo) (da_cons (de_mkV0 (K := K) T.x_NotRooted) (da_cons (de_mkV0 (K := K) T.x_Refused) da_nil)))))))))))))⟩
/-! _law_read: 0 found, 1 rows -/
def b_law_read : En → Out := (seqO (setO 1 (lstE (consA (tupE (consA (unE (xvP "place" cf_place) (binE ixP (nmE 0) (cE (.int 0)))) (consA (unE (xvP "index" cf_index) (binE ixP (nmE 0) (cE (.int 0)))) nilA))) (consA (tupE (consA (unE (xvP "line" cf_line) (binE ixP (nmE 0) (cE (.int 1)))) nilA)) (consA (tupE (consA (unE (xvP "place" cf_place) (binE ixP (nmE 0) (cE (.int 2)))) (consA (unE (xvP "index" cf_index) (binE ixP (nmE 0) (cE (.int 2)))) nilA))) nilA))))) (seqO (setO 1 (binE (addP) (nmE 1) (lstE (consA (tupE (consA (unE (xvP "index" cf_index) (binE ixP (nmE 0) (cE (.int 3)))) (consA (unE (xvP "reason" cf_reason) (binE ixP (nmE 0) (cE (.int 3)))) nilA))) (consA (tupE (consA (unE (xvP "what" cf_what) (binE ixP (nmE 0) (cE (.int 4)))) nilA)) (consA (tupE (consA (unE (xvP "needed" cf_needed) (binE ixP (nmE 0) (cE (.int 5)))) nilA)) (consA (tupE (consA (unE (xvP "what" cf_what) (binE ixP (nmE 0) (cE (.int 6)))) nilA)) nilA))))))) (seqO (setO 1 (binE (addP) (nmE 1) (lstE (consA (tupE (consA (unE (xvP "index" cf_index) (binE ixP (nmE 0) (cE (.int 7)))) nilA)) (consA (tupE (consA (unE (xvP "kind" cf_kind) (binE ixP (nmE 0) (cE (.int 8)))) nilA)) (consA (tupE (consA (unE (xvP "line" cf_line) (binE ixP (nmE 0) (cE (.int 9)))) (consA (unE (xvP "word" cf_word) (binE ixP (nmE 0) (cE (.int 9)))) nilA))) (consA (tupE (consA (unE (xvP "what" cf_what) (binE ixP (nmE 0) (cE (.int 10)))) nilA)) nilA))))))) (retO (binE (addP) (nmE 1) (lstE (consA (tupE (consA (unE (xvP "index" cf_index) (binE ixP (nmE 0) (cE (.int 11)))) nilA)) (consA (tupE nilA) (consA (tupE nilA) (consA (tupE nilA) (consA (tupE nilA) (consA (tupE nilA) (consA (tupE nilA) (consA (tupE nilA) (consA (tupE nilA) (consA (tupE nilA) (consA (tupE nilA) nilA)))))))))))))))))
def F_law_read : Fn := runF 1 2 b_law_read
theorem sc_law_read : FnScope ["found", "rows"] ["found"] (defScope s_law_read) := ⟨rfl, rfl, rfl, by decide +kernel, rfl, by decide +kernel, by decide +kernel⟩
theorem c_law_read (T : Tx K mg) : Cl P w K mg base 1 "_law_read" 1 F_law_read [] :=
  cl_mk T.d_law_read sc_law_read rfl rfl fun fa cdv A outer s H E hr => ⟨_, (dss_cons (ds_set 1 sc_law_read.nd (de_lst (da_cons (de_tup (da_cons (de_xv (K := K) cf_place (fun c h => ⟨exAll_x T.e_all c (cf_sub (a := cf_place) (by decide +kernel) c h), noAll_c T.n_place c h⟩) (de_ix (K := K) (de_nm 0) de_int)) (da_cons (de_xv (K := K) cf_index (fun c h => ⟨exAll_x T.e_all c (cf_sub (a := cf_index) (by decide +kernel) c h), noAll_c T.n_index c h⟩) (de_ix (K := K) (de_nm 0) de_int)) da_nil))) (da_cons (de_tup (da_cons (de_xv (K := K) cf_line (fun c h => ⟨exAll_x T.e_all c (cf_sub (a := cf_line) (by decide +kernel) c h), noAll_c T.n_line c h⟩) (de_ix (K := K) (de_nm 0) de_int)) da_nil)) (da_cons (de_tup (da_cons (de_xv (K := K) cf_place (fun c h => ⟨exAll_x T.e_all c (cf_sub (a := cf_place) (by decide +kernel) c h), noAll_c T.n_place c h⟩) (de_ix (K := K) (de_nm 0) de_int)) (da_cons (de_xv (K := K) cf_index (fun c h => ⟨exAll_x T.e_all c (cf_sub (a := cf_index) (by decide +kernel) c h), noAll_c T.n_index c h⟩) (de_ix (K := K) (de_nm 0) de_int)) da_nil))) da_nil))))) (dss_cons (ds_set 1 sc_law_read.nd (de_add (de_nm 1) (de_lst (da_cons (de_tup (da_cons (de_xv (K := K) cf_index (fun c h => ⟨exAll_x T.e_all c (cf_sub (a := cf_index) (by decide +kernel) c h), noAll_c T.n_index c h⟩) (de_ix (K := K) (de_nm 0) de_int)) (da_cons (de_xv (K := K) cf_reason (fun c h => ⟨exAll_x T.e_all c (cf_sub (a := cf_reason) (by decide +kernel) c h), noAll_c T.n_reason c h⟩) (de_ix (K := K) (de_nm 0) de_int)) da_nil))) (da_cons (de_tup (da_cons (de_xv (K := K) cf_what (fun c h => ⟨exAll_x T.e_all c (cf_sub (a := cf_what) (by decide +kernel) c h), noAll_c T.n_what c h⟩) (de_ix (K := K) (de_nm 0) de_int)) da_nil)) (da_cons (de_tup (da_cons (de_xv (K := K) cf_needed (fun c h => ⟨exAll_x T.e_all c (cf_sub (a := cf_needed) (by decide +kernel) c h), noAll_c T.n_needed c h⟩) (de_ix (K := K) (de_nm 0) de_int)) da_nil)) (da_cons (de_tup (da_cons (de_xv (K := K) cf_what (fun c h => ⟨exAll_x T.e_all c (cf_sub (a := cf_what) (by decide +kernel) c h), noAll_c T.n_what c h⟩) (de_ix (K := K) (de_nm 0) de_int)) da_nil)) da_nil))))))) (dss_cons (ds_set 1 sc_law_read.nd (de_add (de_nm 1) (de_lst (da_cons (de_tup (da_cons (de_xv (K := K) cf_index (fun c h => ⟨exAll_x T.e_all c (cf_sub (a := cf_index) (by decide +kernel) c h), noAll_c T.n_index c h⟩) (de_ix (K := K) (de_nm 0) de_int)) da_nil)) (da_cons (de_tup (da_cons (de_xv (K := K) cf_kind (fun c h => ⟨exAll_x T.e_all c (cf_sub (a := cf_kind) (by decide +kernel) c h), noAll_c T.n_kind c h⟩) (de_ix (K := K) (de_nm 0) de_int)) da_nil)) (da_cons (de_tup (da_cons (de_xv (K := K) cf_line (fun c h => ⟨exAll_x T.e_all c (cf_sub (a := cf_line) (by decide +kernel) c h), noAll_c T.n_line c h⟩) (de_ix (K := K) (de_nm 0) de_int)) (da_cons (de_xv (K := K) cf_word (fun c h => ⟨exAll_x T.e_all c (cf_sub (a := cf_word) (by decide +kernel) c h), noAll_c T.n_word c h⟩) (de_ix (K := K) (de_nm 0) de_int)) da_nil))) (da_cons (de_tup (da_cons (de_xv (K := K) cf_what (fun c h => ⟨exAll_x T.e_all c (cf_sub (a := cf_what) (by decide +kernel) c h), noAll_c T.n_what c h⟩) (de_ix (K := K) (de_nm 0) de_int)) da_nil)) da_nil))))))) (dss_one (ds_ret (de_add (de_nm 1) (de_lst (da_cons (de_tup (da_cons (de_xv (K := K) cf_index (fun c h => ⟨exAll_x T.e_all c (cf_sub (a := cf_index) (by decide +kernel) c h), noAll_c T.n_index c h⟩) (de_ix (K := K) (de_nm 0) de_int)) da_nil)) (da_cons (de_tup da_nil) (da_cons (de_tup da_nil) (da_cons (de_tup da_nil) (da_cons (de_tup da_nil) (da_cons (de_tup da_nil) (da_cons (de_tup da_nil) (da_cons (de_tup da_nil) (da_cons (de_tup da_nil) (da_cons (de_tup da_nil) (da_cons (de_tup da_nil) da_nil))))))))))))))))))⟩
/-! _law_classes_of: 0 e, 1 one -/
def b_law_classes_of : En → Out := (seqO (setO 1 (lstE (consA (unE (isV cs_all ys_BadTable) (nmE 0)) (consA (unE (isV cs_all ys_BadText) (nmE 0)) (consA (unE (isV cs_all ys_BadStanding) (nmE 0)) (consA (unE (isV cs_all ys_CannotMove) (nmE 0)) nilA)))))) (seqO (setO 1 (binE (addP) (nmE 1) (lstE (consA (unE (isV cs_all ys_NoSuch) (nmE 0)) (consA (unE (isV cs_all ys_WrongGround) (nmE 0)) (consA (unE (isV cs_all ys_TooGreat) (nmE 0)) (consA (unE (isV cs_all ys_BadVector) (nmE 0)) nilA))))))) (seqO (setO 1 (binE (addP) (nmE 1) (lstE (consA (unE (isV cs_all ys_NotLocal) (nmE 0)) (consA (unE (isV cs_all ys_BadProgram) (nmE 0)) (consA (unE (isV cs_all ys_InUse) (nmE 0)) nilA)))))) (seqO (setO 1 (binE (addP) (nmE 1) (lstE (consA (unE (isV cs_all ys_AttemptFailed) (nmE 0)) (consA (unE (isV cs_all ys_BadLot) (nmE 0)) (consA (unE (isV cs_all ys_BadDealing) (nmE 0)) nilA)))))) (seqO (setO 1 (binE (addP) (nmE 1) (lstE (consA (unE (isV cs_all ys_NotCore) (nmE 0)) (consA (unE (isV cs_all ys_BadLoads) (nmE 0)) (consA (unE (isV cs_all ys_Impossible) (nmE 0)) (consA (unE (isV cs_all ys_BadLine) (nmE 0)) nilA))))))) (seqO (setO 1 (binE (addP) (nmE 1) (lstE (consA (unE (isV cs_all ys_NothingToUndo) (nmE 0)) (consA (unE (isV cs_all ys_NothingToRedo) (nmE 0)) nilA))))) (retO (binE (addP) (nmE 1) (lstE (consA (unE (isV cs_all ys_NotRooted) (nmE 0)) (consA (unE (isV cs_all ys_Refused) (nmE 0)) nilA)))))))))))
def F_law_classes_of : Fn := runF 1 2 b_law_classes_of
theorem sc_law_classes_of : FnScope ["e", "one"] ["e"] (defScope s_law_classes_of) := ⟨rfl, rfl, rfl, by decide +kernel, rfl, by decide +kernel, by decide +kernel⟩
theorem c_law_classes_of (T : Tx K mg) : Cl P w K mg base 1 "_law_classes_of" 1 F_law_classes_of [] :=
  cl_mk T.d_law_classes_of sc_law_classes_of rfl rfl fun fa cdv A outer s H E hr => ⟨_, (dss_cons (ds_set 1 sc_law_classes_of.nd (de_lst (da_cons (de_isV (K := K) cs_all ys_BadTable (exAll_c T.e_all) T.gc_BadTable (kitAll_c T.k_BadTable) T.z_isinstance (de_nm 0)) (da_cons (de_isV (K := K) cs_all ys_BadText (exAll_c T.e_all) T.gc_BadText (kitAll_c T.k_BadText) T.z_isinstance (de_nm 0)) (da_cons (de_isV (K := K) cs_all ys_BadStanding (exAll_c T.e_all) T.gc_BadStanding (kitAll_c T.k_BadStanding) T.z_isinstance (de_nm 0)) (da_cons (de_isV (K := K) cs_all ys_CannotMove (exAll_c T.e_all) T.gc_CannotMove (kitAll_c T.k_CannotMove) T.z_isinstance (de_nm 0)) da_nil)))))) (dss_cons (ds_set 1 sc_law_classes_of.nd (de_add (de_nm 1) (de_lst (da_cons (de_isV (K := K) cs_all ys_NoSuch (exAll_c T.e_all) T.gc_NoSuch (kitAll_c T.k_NoSuch) T.z_isinstance (de_nm 0)) (da_cons (de_isV (K := K) cs_all ys_WrongGround (exAll_c T.e_all) T.gc_WrongGround (kitAll_c T.k_WrongGround) T.z_isinstance (de_nm 0)) (da_cons (de_isV (K := K) cs_all ys_TooGreat (exAll_c T.e_all) T.gc_TooGreat (kitAll_c T.k_TooGreat) T.z_isinstance (de_nm 0)) (da_cons (de_isV (K := K) cs_all ys_BadVector (exAll_c T.e_all) T.gc_BadVector (kitAll_c T.k_BadVector) T.z_isinstance (de_nm 0)) da_nil))))))) (dss_cons (ds_set 1 sc_law_classes_of.nd (de_add (de_nm 1) (de_lst (da_cons (de_isV (K := K) cs_all ys_NotLocal (exAll_c T.e_all) T.gc_NotLocal (kitAll_c T.k_NotLocal) T.z_isinstance (de_nm 0)) (da_cons (de_isV (K := K) cs_all ys_BadProgram (exAll_c T.e_all) T.gc_BadProgram (kitAll_c T.k_BadProgram) T.z_isinstance (de_nm 0)) (da_cons (de_isV (K := K) cs_all ys_InUse (exAll_c T.e_all) T.gc_InUse (kitAll_c T.k_InUse) T.z_isinstance (de_nm 0)) da_nil)))))) (dss_cons (ds_set 1 sc_law_classes_of.nd (de_add (de_nm 1) (de_lst (da_cons (de_isV (K := K) cs_all ys_AttemptFailed (exAll_c T.e_all) T.gc_AttemptFailed (kitAll_c T.k_AttemptFailed) T.z_isinstance (de_nm 0)) (da_cons (de_isV (K := K) cs_all ys_BadLot (exAll_c T.e_all) T.gc_BadLot (kitAll_c T.k_BadLot) T.z_isinstance (de_nm 0)) (da_cons (de_isV (K := K) cs_all ys_BadDealing (exAll_c T.e_all) T.gc_BadDealing (kitAll_c T.k_BadDealing) T.z_isinstance (de_nm 0)) da_nil)))))) (dss_cons (ds_set 1 sc_law_classes_of.nd (de_add (de_nm 1) (de_lst (da_cons (de_isV (K := K) cs_all ys_NotCore (exAll_c T.e_all) T.gc_NotCore (kitAll_c T.k_NotCore) T.z_isinstance (de_nm 0)) (da_cons (de_isV (K := K) cs_all ys_BadLoads (exAll_c T.e_all) T.gc_BadLoads (kitAll_c T.k_BadLoads) T.z_isinstance (de_nm 0)) (da_cons (de_isV (K := K) cs_all ys_Impossible (exAll_c T.e_all) T.gc_Impossible (kitAll_c T.k_Impossible) T.z_isinstance (de_nm 0)) (da_cons (de_isV (K := K) cs_all ys_BadLine (exAll_c T.e_all) T.gc_BadLine (kitAll_c T.k_BadLine) T.z_isinstance (de_nm 0)) da_nil))))))) (dss_cons (ds_set 1 sc_law_classes_of.nd (de_add (de_nm 1) (de_lst (da_cons (de_isV (K := K) cs_all ys_NothingToUndo (exAll_c T.e_all) T.gc_NothingToUndo (kitAll_c T.k_NothingToUndo) T.z_isinstance (de_nm 0)) (da_cons (de_isV (K := K) cs_all ys_NothingToRedo (exAll_c T.e_all) T.gc_NothingToRedo (kitAll_c T.k_NothingToRedo) T.z_isinstance (de_nm 0)) da_nil))))) (dss_one (ds_ret (de_add (de_nm 1) (de_lst (da_cons (de_isV (K := K) cs_all ys_NotRooted (exAll_c T.e_all) T.gc_NotRooted (kitAll_c T.k_NotRooted) T.z_isinstance (de_nm 0)) (da_cons (de_isV (K := K) cs_all ys_Refused (exAll_c T.e_all) T.gc_Refused (kitAll_c T.k_Refused) T.z_isinstance (de_nm 0)) da_nil))))))))))))⟩
/-! _law_right: 0 found, 1 rows, 2 k, 3 j -/
def b_law_right : En → Out := (seqO (frzO [1, 0] (ifO (notT (truT (callF (F_law_same 12) [] (consA (callF F_law_read [] (consA (nmE 0) nilA)) (consA (nmE 1) nilA))))) (retO (cE (.bl false))) nextO)) (seqO (forS (rng1 (cE (.int 22))) (nmT 2) (seqO (ifO (orT (notT (truT (unE (isV cs_all ys_HandsatworkError) (binE ixP (nmE 0) (nmE 2))))) (notT (truT (unE (isV cs_all ys_ValueError) (binE ixP (nmE 0) (nmE 2)))))) (retO (cE (.bl false))) nextO) (ifO (valT (binE (eqP true) (callF F_law_classes_of [] (consA (binE ixP (nmE 0) (nmE 2)) nilA)) (lcE (rng1 (cE (.int 22))) (nmT 3) yesT (binE (eqP false) (nmE 3) (nmE 2)) [3]))) (retO (cE (.bl false))) nextO))) (retO (cE (.bl true)))))
def F_law_right : Fn := runF 2 4 b_law_right
theorem sc_law_right : FnScope ["found", "rows", "k", "j"] ["found", "rows"] (defScope s_law_right) := ⟨rfl, rfl, rfl, by decide +kernel, rfl, by decide +kernel, by decide +kernel⟩
theorem c_law_right (T : Tx K mg) : Cl P w K mg base 14 "_law_right" 2 F_law_right [] :=
  cl_mk T.d_law_right sc_law_right rfl rfl fun fa cdv A outer s H E hr => ⟨_, (dss_cons (ds_frz [1, 0] (ds_if (dt_not (dt_tru (K := K) (de_c (K := K) (c_law_same T 12) hr (da_cons (de_c (K := K) (c_law_read T) hr (da_cons (de_nm 0) da_nil)) (da_cons (de_nm 1) da_nil))))) (dss_one (ds_ret de_bl)) dss_nil)) (dss_cons (ds_for PassesOwn.never rfl (di_rng1 T.z_range de_int) (dg_nm 2 sc_law_right.nd) (dss_cons (ds_if (dt_w (dw_or (dt_not (dt_tru (K := K) (de_isV (K := K) cs_all ys_HandsatworkError (exAll_c T.e_all) T.gc_HandsatworkError (kitAll_c T.k_HandsatworkError) T.z_isinstance (de_ix (K := K) (de_nm 0) (de_nm 2))))) (dw_or1 (dt_not (dt_tru (K := K) (de_isVb (K := K) (Ts := "ValueError") cs_all ys_ValueError (exAll_c T.e_all) (by decide +kernel) T.z_ValueError (kitAll_c T.k_ValueError) T.z_isinstance (de_ix (K := K) (de_nm 0) (de_nm 2)))))))) (dss_one (ds_ret de_bl)) dss_nil) (dss_one (ds_if (dt_cm (cm_ne (K := K) hr.units) (de_c (K := K) (c_law_classes_of T) hr (da_cons (de_ix (K := K) (de_nm 0) (de_nm 2)) da_nil)) (de_lc (own := [("j", 3)]) (ws := [3]) rfl sc_law_right.nd (di_rng1 T.z_range de_int) (blkOk_by (N := ["found", "rows", "k", "j"]) (sc := defScope s_law_right) (by decide +kernel)) (fun _ _ _ _ _ => (dg_nm 3 sc_law_right.nd)) (fun _ _ _ _ _ => dts_nil) (fun _ _ _ _ _ => (de_cm (cm_eq (K := K) hr.units) (de_nm 3) (de_nm 2))) (z1 := s) (z2 := H))) (dss_one (ds_ret de_bl)) dss_nil)))) (dss_one (ds_ret de_bl))))⟩
/-! law: 0 script, 1 pool, 2 first_rows, 3 second_rows, 4 first, 5 second -/
def b_law : En → Out := (seqO (frzO [0] (setO 1 (callF F_law_pool [] (consA (nmE 0) (consA (cE (.int 60)) nilA))))) (seqO (frzO [1] (setO 2 (callF F_law_fields_of [] (consA (nmE 1) (consA (cE (.int 0)) nilA))))) (seqO (frzO [1] (setO 3 (callF F_law_fields_of [] (consA (nmE 1) (consA (cE (.int 30)) nilA))))) (seqO (frzO [2] (setO 4 (callF F_law_made [] (consA (nmE 2) nilA)))) (seqO (frzO [4, 2] (ifO (notT (truT (callF F_law_right [] (consA (nmE 4) (consA (nmE 2) nilA))))) (retO (cE (.bl false))) nextO)) (seqO (frzO [3] (setO 5 (callF F_law_made [] (consA (nmE 3) nilA)))) (frzO [5, 3, 4, 2] (retO (andE (callF F_law_right [] (consA (nmE 5) (consA (nmE 3) nilA))) (callF F_law_right [] (consA (nmE 4) (consA (nmE 2) nilA))))))))))))
def F_law : Fn := runF 1 6 b_law
theorem sc_law : FnScope ["script", "pool", "first_rows", "second_rows", "first", "second"] ["script"] (defScope s_law) := ⟨rfl, rfl, rfl, by decide +kernel, rfl, by decide +kernel, by decide +kernel⟩
theorem p_law (T : Tx K mg) : LawOk P w K mg 15 "law" "script" F_law :=
  law_mk T.d_law sc_law rfl fun base fa cdv A outer s H E hr => ⟨_, (dss_cons (ds_frz [0] (ds_set 1 sc_law.nd (de_c (K := K) (c_law_pool T) hr (da_cons (de_nm 0) (da_cons de_int da_nil))))) (dss_cons (ds_frz [1] (ds_set 2 sc_law.nd (de_c (K := K) (c_law_fields_of T) hr (da_cons (de_nm 1) (da_cons de_int da_nil))))) (dss_cons (ds_frz [1] (ds_set 3 sc_law.nd (de_c (K := K) (c_law_fields_of T) hr (da_cons (de_nm 1) (da_cons de_int da_nil))))) (dss_cons (ds_frz [2] (ds_set 4 sc_law.nd (de_c (K := K) (c_law_made T) hr (da_cons (de_nm 2) da_nil)))) (dss_cons (ds_frz [4, 2] (ds_if (dt_not (dt_tru (K := K) (de_c (K := K) (c_law_right T) hr (da_cons (de_nm 4) (da_cons (de_nm 2) da_nil))))) (dss_one (ds_ret de_bl)) dss_nil)) (dss_cons (ds_frz [3] (ds_set 5 sc_law.nd (de_c (K := K) (c_law_made T) hr (da_cons (de_nm 3) da_nil)))) (dss_one (ds_frz [5, 3, 4, 2] (ds_ret (de_and (de_c (K := K) (c_law_right T) hr (da_cons (de_nm 5) (da_cons (de_nm 3) da_nil))) (de_one (de_c (K := K) (c_law_right T) hr (da_cons (de_nm 4) (da_cons (de_nm 2) da_nil))))))))))))))⟩
end
end Lw

namespace Lw
open PySem L2 DL
def mixed (n t : Int) : Int := ((n * 48271 + t * 69621 + 11) % 2147483647 * ((n * 48271 + t * 69621 + 11) % 2147483647) + t * 40692 + 7) % 2147483399 / 7 % 1000
theorem F_mixed (k1 k2 : Bool) (n t : Int) (hn : n.natAbs < 2 ^ 64) (ht : t.natAbs < 2 ^ 64) : F_law_mixed [(k1, .int n), (k2, .int t)] = .ok ⟨.g, .int (mixed n t)⟩ := by
  unfold F_law_mixed
  rw [runF_eq]
  unfold b_law_mixed
  have e1 : mulI n 48271 = _ := mulI_200 (by omega) (by decide)
  have e2 : mulI t 69621 = _ := mulI_200 (by omega) (by decide)
  have e3 : mulI t 40692 = _ := mulI_200 (by omega) (by decide)
  have e4 : mulI ((n * 48271 + t * 69621 + 11) % 2147483647) ((n * 48271 + t * 69621 + 11) % 2147483647) = _ := mulI_200 (by omega) (by omega)
  have e5 (a : Int) : divI a 7 = _ := divI_64 (by decide) (by decide)
  clear hn ht
  walk_at "dlh"
  rfl
end Lw

namespace Lw
open PySem L2 DL
def PoolOk (m : Nat) (p : List Int) : Prop := p.length = m ∧ ∀ x ∈ p, 0 ≤ x ∧ x < 1000
def ints3 (r : List (List Int)) : List D := r.map fun x => .lst (x.map D.int)
theorem ints3_snoc {ds : List (List Int)} {row : List Int} : ints3 ds ++ [.lst (row.map D.int)] = ints3 (ds ++ [row]) := by unfold ints3; rw [List.map_append]; rfl
theorem pool_hs (k k' : Bool) (ns : List Int) (m : Nat) (hm : m ≤ 1000) : ∃ u, F_law_pool [(true, .fz (ns.map .int)), (k', .int m)] = .ok u ∧ ∃ p : List Int, u = ⟨.o, .lst (p.map .int)⟩ ∧ PoolOk m p := by
  unfold F_law_pool
  apply run_hs rfl
  unfold b_law_pool
  have c1 : cutD (ns.map D.int) none (some 63) = (ns.take 63).map D.int := by rw [cutD_take (by decide), List.map_take]; rfl
  have c2 : ((ns.take 63).map D.int).length < sizeLine := by rw [List.length_map, List.length_take]; exact Nat.lt_of_le_of_lt (Nat.min_le_left _ _) (by decide)
  have c3 : powI 10 18 = .ok (.int 1000000000000000000) := by unfold powI; rw [if_pos (by decide)]; rfl
  walk_at "dl"
  rw [c1, if_pos c2]
  rw [lcO_map (g := D.int) (h := D.int ∘ fun x => (if x < 0 then -x else x))]
  rotate_left
  · intro x hx
    walk_at "dl"
    rfl
  rw [← List.map_map]
  walk_at "dl"
  refine hs_bind (fun e => ∃ cs : List Int, 0 < cs.length ∧ cs.length ≤ 63 ∧ (∀ x ∈ cs, 0 ≤ x) ∧ e = [Sl.vl true (D.fz (List.map D.int ns)), Sl.vl k' (D.int m), Sl.no, Sl.ow (cs.map D.int), Sl.no, Sl.no, Sl.no, Sl.no, Sl.no, Sl.no, Sl.no]) ?_ ?_
  · split
    · exact hs_nx ⟨[0], by decide, by decide, by decide, rfl⟩
    · rename_i h
      refine hs_nx ⟨_, ?_, ?_, ?_, rfl⟩
      · exact List.length_pos_iff.2 h
      · rw [List.length_map, List.length_take]; exact Nat.min_le_left _ _
      · intro x hx
        obtain ⟨y, _, rfl⟩ := List.mem_map.1 hx
        split <;> omega
  rintro _ ⟨cs, n1, n2, n3, rfl⟩
  walk_at "dl"
  refine hs_bind (fun e => ∃ ds : List (List Int), ∃ s2 s5 s6 s7, ds.length = cs.length ∧ (∀ r ∈ ds, ∀ x ∈ r, 0 ≤ x ∧ x < 1000) ∧ e = [Sl.vl true (D.fz (List.map D.int ns)), Sl.vl k' (D.int m), s2, Sl.vl true (D.lst (cs.map D.int)), Sl.ow (ints3 ds), s5, s6, s7, Sl.no, Sl.no, Sl.no]) ?_ ?_
  · refine hs_forL D.int cs (fun k e => ∃ ds : List (List Int), ∃ s2 s5 s6 s7, ds.length = k ∧ (∀ r ∈ ds, ∀ x ∈ r, 0 ≤ x ∧ x < 1000) ∧ e = [Sl.vl true (D.fz (List.map D.int ns)), Sl.vl k' (D.int m), s2, Sl.vl true (D.lst (cs.map D.int)), Sl.ow (ints3 ds), s5, s6, s7, Sl.no, Sl.no, Sl.no]) ?_ ?_ ?_
    · exact ⟨[], _, _, _, _, rfl, (fun r h => absurd h List.not_mem_nil), rfl⟩
    · rintro j _ hj ⟨ds, s2, s5, s6, s7, hd, hr, rfl⟩
      generalize hx : cs[j] = x
      walk_at "dl"
      refine hs_bind (fun e => ∃ row : List Int, ∃ s6 s7, (∀ x ∈ row, 0 ≤ x ∧ x < 1000) ∧ e = [Sl.vl true (D.fz (List.map D.int ns)), Sl.vl k' (D.int m), Sl.vl true (D.int x), Sl.vl true (D.lst (cs.map D.int)), Sl.ow (ints3 ds), Sl.ow (row.map D.int), s6, s7, Sl.no, Sl.no, Sl.no]) ?_ ?_
      · split
        · refine hs_forR (fun k e => ∃ row : List Int, ∃ r s7, row.length ≤ k ∧ (∀ x ∈ row, 0 ≤ x ∧ x < 1000) ∧ e = [Sl.vl true (D.fz (List.map D.int ns)), Sl.vl k' (D.int m), Sl.vl true (D.int x), Sl.vl true (D.lst (cs.map D.int)), Sl.ow (ints3 ds), Sl.ow (row.map D.int), Sl.vl true (D.int r), s7, Sl.no, Sl.no, Sl.no]) ?_ ?_ ?_
          · exact ⟨[], x, s7, Nat.le_refl _, (fun _ h => absurd h List.not_mem_nil), rfl⟩
          · rintro i _ hi ⟨row, r, t7, hl, hw, rfl⟩
            walk_at "dl"
            split
            · have e5 : divI r 1000 = _ := divI_64 (by decide) (by decide)
              have e6 : row.length < sizeLine := Nat.lt_trans (show row.length < 4000000 by omega) (by decide)
              walk_at "dlh"
              refine hs_nx ⟨row ++ [r % 1000], r / 1000, _, ?_, ?_, rfl⟩
              · rw [List.length_append]; exact Nat.succ_le_succ hl
              · intro y hy
                rcases List.mem_append.1 hy with hy | hy
                · exact hw y hy
                · rw [List.mem_singleton.1 hy]; omega
            · exact hs_nx ⟨row, r, _, by omega, hw, rfl⟩
          · rintro _ ⟨row, r, t7, hl, hw, rfl⟩
            exact ⟨row, _, _, hw, rfl⟩
        · exact hs_nx ⟨[], _, _, (fun _ h => absurd h List.not_mem_nil), rfl⟩
      rintro _ ⟨row, t6, t7, hw, rfl⟩
      walk_at "dl"
      rw [if_pos (show (ints3 ds).length < sizeLine by unfold ints3; rw [List.length_map]; exact Nat.lt_trans (show ds.length < 4000000 by omega) (by decide))]
      rw [ints3_snoc]
      refine hs_nx ⟨ds ++ [row], _, _, _, _, ?_, ?_, rfl⟩
      · rw [List.length_append, hd]; rfl
      · intro y hy
        rcases List.mem_append.1 hy with hy | hy
        · exact hr y hy
        · rw [List.mem_singleton.1 hy]; exact hw
    · rintro e ⟨ds, s2, s5, s6, s7, h⟩
      exact ⟨ds, s2, s5, s6, s7, h⟩
  rintro e ⟨ds, s2, s5, s6, s7, hd, hr, he⟩
  rw [he]
  clear he
  walk_at "dl"
  rw [if_pos (rg_in (by omega) (by omega))]
  refine hs_bind (fun e => ∃ p : List Int, ∃ s2 s5 s6 s7 s9 s10, PoolOk m p ∧ e = [Sl.vl true (D.fz (List.map D.int ns)), Sl.vl k' (D.int m), s2, Sl.vl true (D.lst (cs.map D.int)), Sl.ow (ints3 ds), s5, s6, s7, Sl.ow (p.map D.int), s9, s10]) ?_ ?_
  · refine hs_forR (fun k e => ∃ p : List Int, ∃ s2 s5 s6 s7 s9 s10, PoolOk k p ∧ e = [Sl.vl true (D.fz (List.map D.int ns)), Sl.vl k' (D.int m), s2, Sl.vl true (D.lst (cs.map D.int)), Sl.ow (ints3 ds), s5, s6, s7, Sl.ow (p.map D.int), s9, s10]) ?_ ?_ ?_
    · exact ⟨[], _, _, _, _, _, _, ⟨rfl, fun _ h => absurd h List.not_mem_nil⟩, rfl⟩
    · rintro j _ hj ⟨p, s2, s5, s6, s7, s9, s10, ⟨hp, hq⟩, rfl⟩
      have n0 : (0 : Int) < cs.length := by omega
      have e1 (a : Int) : divI a cs.length = _ := divI_64 n0 (by omega)
      have e2 : mulI 7919 ((j : Int) % cs.length) = _ := mulI_200 (by decide) (by have := Int.emod_lt_of_pos (j : Int) n0; have := Int.emod_nonneg (j : Int) (show (cs.length : Int) ≠ 0 by omega); omega)
      have e3 : atD (ints3 ds) ((j : Int) % cs.length) = .ok (.lst ((ds.getD ((j : Int) % cs.length).toNat []).map D.int)) := by
        have m0 : 0 ≤ (j : Int) % cs.length := Int.emod_nonneg _ (by omega)
        have m1 : (j : Int) % cs.length < cs.length := Int.emod_lt_of_pos _ n0
        unfold ints3
        rw [atD_in m0 (by rw [List.length_map]; omega), DL.getD_at (by rw [List.length_map]; omega), List.getElem_map, DL.getD_at (by omega)]
      walk_at "dl"
      rw [if_pos n0]
      walk_at "dl"
      have hw : ∀ i : Nat, i < cs.length → i < ds.length := fun i h => by omega
      have m0 : 0 ≤ (j : Int) % cs.length := Int.emod_nonneg _ (by omega)
      have m1 : (j : Int) % cs.length < cs.length := Int.emod_lt_of_pos _ n0
      have e4 : atD (cs.map D.int) ((j : Int) % cs.length) = _ := atD_map m0 m1
      have e6 : p.length < sizeLine := Nat.lt_trans (show p.length < 4000000 by omega) (by decide)
      obtain ⟨row, hrw⟩ : ∃ r, r = ds.getD ((j : Int) % cs.length).toNat [] := ⟨_, rfl⟩
      obtain ⟨x, hx⟩ : ∃ r, r = cs.getD ((j : Int) % cs.length).toNat 0 := ⟨_, rfl⟩
      rw [← hrw] at e3
      rw [← hx] at e4
      clear hx
      have hrm : ∀ x ∈ row, 0 ≤ x ∧ x < 1000 := by
        rw [DL.getD_at (by omega)] at hrw
        exact hr row (hrw ▸ List.getElem_mem _)
      rw [e1]
      walk_at "dl"
      rw [e3]
      simp only [e1, e2, e3, e4]
      walk_at "dl"
      have h4 : 0 ≤ (j : Int) / cs.length := Int.ediv_nonneg (by omega) (by omega)
      split
      · rename_i hlt
        rw [atD_map (Int.ediv_nonneg (by omega) (by omega)) hlt]
        walk_at "dl"
        refine hs_nx ⟨_, _, _, _, _, _, _, ⟨?_, ?_⟩, rfl⟩
        · rw [List.length_append, hp]; rfl
        · intro y hy
          rcases List.mem_append.1 hy with hy | hy
          · exact hq y hy
          · rw [List.mem_singleton.1 hy, DL.getD_at (by omega)]
            exact hrm _ (List.getElem_mem _)
      · have h3 : (j : Int) / cs.length ≤ j := Int.ediv_le_self _ (by omega)
        have h4 : 0 ≤ (j : Int) / cs.length := Int.ediv_nonneg (by omega) (by omega)
        rw [F_mixed _ _ _ _ (by omega) (by omega)]
        walk_at "dl"
        refine hs_nx ⟨_, _, _, _, _, _, _, ⟨?_, ?_⟩, rfl⟩
        · rw [List.length_append, hp]; rfl
        · intro y hy
          rcases List.mem_append.1 hy with hy | hy
          · exact hq y hy
          · rw [List.mem_singleton.1 hy]
            unfold mixed
            omega
    · rintro e h
      exact h
  rintro _ ⟨p, s2, s5, s6, s7, s9, s10, hp, rfl⟩
  walk_at "dl"
  exact hs_rt ⟨p, rfl, hp⟩
end Lw

namespace Lw
open PySem L2 DL
/-- data that _law_same reads, at most n deep -/
def sOk : Nat → D → Prop
  | _, .non => True
  | _, .int _ => True
  | _, .bl _ => True
  | _, .str _ => True
  | n + 1, .lst xs => xs.length ≤ 1000000 ∧ ∀ x ∈ xs, sOk n x
  | n + 1, .tup xs => xs.length ≤ 1000000 ∧ ∀ x ∈ xs, sOk n x
  | _, _ => False
theorem same_refl : ∀ (n : Nat) (d : D) (k1 k2 : Bool), sOk n d → F_law_same (n + 1) [(k1, d), (k2, d)] = .ok ⟨.g, .bl true⟩ := by
  intro n
  induction n with
  | zero =>
    intro d k1 k2 h
    show runF 2 3 (b_law_same (F_law_same 0)) _ = _
    rw [runF_eq]
    unfold b_law_same
    cases d with
    | non => walk_at "dl"
    | int i => walk_at "dl"
    | bl b => cases b <;> walk_at "dl"
    | str s => walk_at "dl"
    | _ => exact h.elim
  | succ n ih =>
    intro d k1 k2 h
    have loop : ∀ (xs : List D), xs.length ≤ 1000000 → (∀ x ∈ xs, sOk n x) → ∀ (s0 s1 s2 : Sl), (∀ (i : Nat) (x : D), xs[i]? = some x → binE ixP (nmE 0) (nmE 2) [s0, s1, .vl true (.int i)] = .ok ⟨kd k1, x⟩ ∧ binE ixP (nmE 1) (nmE 2) [s0, s1, .vl true (.int i)] = .ok ⟨kd k2, x⟩) →
        Out.hs (fun e => ∃ s2, e = [s0, s1, s2]) (fun _ => False) (fun _ => False) (fun _ => False) (fun _ _ => False) (forO (nmT 2) (ifO (notT (truT (callF (F_law_same (n + 1)) [] (consA (binE ixP (nmE 0) (nmE 2)) (consA (binE ixP (nmE 1) (nmE 2)) nilA))))) (retO (cE (.bl false))) nextO) .g (rngD 0 xs.length) [s0, s1, s2]) := by
      intro xs hl hx s0 s1 s2 hi
      refine hs_forR (fun _ e => ∃ s2, e = [s0, s1, s2]) ⟨s2, rfl⟩ ?_ (fun e h => h)
      rintro i _ hi' ⟨s2, rfl⟩
      obtain ⟨h1, h2⟩ := hi i _ (List.getElem?_eq_getElem hi')
      have h3 := ih xs[i] (k1 || flat xs[i]) (k2 || flat xs[i]) (hx _ (List.getElem_mem _))
      walk_at "dl"
      have g1 : ixP = ixP := rfl
      simp only [binE_eq, nmE_eq, List.getElem?_cons_zero, List.getElem?_cons_succ, nmV_vl, kd_true, Res.bind_ok] at h1 h2
      simp only [h1, h2]
      walk_at "dl"
      rw [h3]
      walk_at "dl"
      exact hs_nx ⟨_, rfl⟩
    show runF 2 3 (b_law_same (F_law_same (n + 1))) _ = _
    cases d with
    | non => rw [runF_eq]; unfold b_law_same; walk_at "dl"
    | int i => rw [runF_eq]; unfold b_law_same; walk_at "dl"
    | bl b => rw [runF_eq]; unfold b_law_same; cases b <;> walk_at "dl"
    | str s => rw [runF_eq]; unfold b_law_same; walk_at "dl"
    | lst xs =>
      have L := loop xs h.1 h.2 (.vl k1 (.lst xs)) (.vl k2 (.lst xs)) .no (fun i x hx => by
        have hi := (List.getElem?_eq_some_iff.1 hx).1
        have : atD xs (i : Int) = .ok x := by rw [atD_in (by omega) (by omega)]; simp [List.getD, hx]
        walk_at "dl"
        rw [this]
        walk_at "dl")
      obtain ⟨u, e, rfl⟩ : ∃ u, runF 2 3 (b_law_same (F_law_same (n + 1))) [(k1, .lst xs), (k2, .lst xs)] = .ok u ∧ u = ⟨.g, .bl true⟩ := by
        apply run_hs rfl
        unfold b_law_same
        walk_at "dl"
        rw [if_pos (rg_in (by omega) (by have := h.1; omega))]
        walk_at "dlt"
        refine hs_bind _ (hs_mono L (fun e h => h) (fun u h => h.elim)) ?_
        rintro _ ⟨s2, rfl⟩
        walk_at "dl"
        exact hs_rt rfl
      exact e
    | tup xs =>
      have L := loop xs h.1 h.2 (.vl k1 (.tup xs)) (.vl k2 (.tup xs)) .no (fun i x hx => by
        have hi := (List.getElem?_eq_some_iff.1 hx).1
        have : atD xs (i : Int) = .ok x := by rw [atD_in (by omega) (by omega)]; simp [List.getD, hx]
        walk_at "dl"
        rw [this]
        walk_at "dl")
      obtain ⟨u, e, rfl⟩ : ∃ u, runF 2 3 (b_law_same (F_law_same (n + 1))) [(k1, .tup xs), (k2, .tup xs)] = .ok u ∧ u = ⟨.g, .bl true⟩ := by
        apply run_hs rfl
        unfold b_law_same
        walk_at "dl"
        rw [if_pos (rg_in (by omega) (by have := h.1; omega))]
        walk_at "dlt"
        refine hs_bind _ (hs_mono L (fun e h => h) (fun u h => h.elim)) ?_
        rintro _ ⟨s2, rfl⟩
        walk_at "dl"
        exact hs_rt rfl
      exact e
    | _ => exact h.elim
end Lw

namespace Lw
open PySem L2 DL
def rowsD (w : Nat → Str) (n : Nat → Int) : List D := [.tup [.str (w 0), .int (n 0)], .tup [.int (n 1)], .tup [.str (w 1), .int (n 2)], .tup [.int (n 3), .str (w 2)], .tup [.str (w 3)], .tup [.str (w 4)], .tup [.str (w 5)], .tup [.int (n 4)], .tup [.int (n 5)],
  .tup [.int (n 6), .int (n 7)], .tup [.str (w 6)], .tup [.int (n 8)], .tup [], .tup [], .tup [], .tup [], .tup [], .tup [], .tup [], .tup [], .tup [], .tup []]
def exnsD (w : Nat → Str) (n : Nat → Int) : List D := [.exn "BadTable" ["place", "index"] [.str (w 0), .int (n 0)], .exn "BadText" ["line"] [.int (n 1)], .exn "BadStanding" ["place", "index"] [.str (w 1), .int (n 2)], .exn "CannotMove" ["index", "reason"] [.int (n 3), .str (w 2)],
  .exn "NoSuch" ["what"] [.str (w 3)], .exn "WrongGround" ["needed"] [.str (w 4)], .exn "TooGreat" ["what"] [.str (w 5)], .exn "BadVector" ["index"] [.int (n 4)], .exn "NotLocal" ["kind"] [.int (n 5)], .exn "BadProgram" ["line", "word"] [.int (n 6), .int (n 7)],
  .exn "InUse" ["what"] [.str (w 6)], .exn "AttemptFailed" ["index"] [.int (n 8)], .exn "BadLot" [] [], .exn "BadDealing" [] [], .exn "NotCore" [] [], .exn "BadLoads" [] [], .exn "Impossible" [] [], .exn "BadLine" [] [], .exn "NothingToUndo" [] [], .exn "NothingToRedo" [] [], .exn "NotRooted" [] [], .exn "Refused" [] []]
theorem made_eq (w : Nat → Str) (n : Nat → Int) : F_law_made [(true, .lst (rowsD w n))] = .ok ⟨.o, .lst (exnsD w n)⟩ := by kernel_rfl
theorem read_eq (w : Nat → Str) (n : Nat → Int) : F_law_read [(true, .lst (exnsD w n))] = .ok ⟨.o, .lst (rowsD w n)⟩ := by kernel_rfl
def oneAt (k : Nat) : List D := (List.range 22).map fun (j : Nat) => .bl (decide ((j : Int) = (k : Int)))
theorem cls_eq (w : Nat → Str) (n : Nat → Int) (i : Nat) (h : i < 22) : F_law_classes_of [(true, (exnsD w n).getD i .non)] = .ok ⟨.o, .lst (oneAt i)⟩ := by
  match i, h with
  | 0, _ => kernel_rfl
  | 1, _ => kernel_rfl
  | 2, _ => kernel_rfl
  | 3, _ => kernel_rfl
  | 4, _ => kernel_rfl
  | 5, _ => kernel_rfl
  | 6, _ => kernel_rfl
  | 7, _ => kernel_rfl
  | 8, _ => kernel_rfl
  | 9, _ => kernel_rfl
  | 10, _ => kernel_rfl
  | 11, _ => kernel_rfl
  | 12, _ => kernel_rfl
  | 13, _ => kernel_rfl
  | 14, _ => kernel_rfl
  | 15, _ => kernel_rfl
  | 16, _ => kernel_rfl
  | 17, _ => kernel_rfl
  | 18, _ => kernel_rfl
  | 19, _ => kernel_rfl
  | 20, _ => kernel_rfl
  | 21, _ => kernel_rfl
  | m + 22, h => exact absurd h (by omega)
theorem top_eq (w : Nat → Str) (n : Nat → Int) (q : Kd) (i : Nat) (h : i < 22) : isV cs_all ys_HandsatworkError ⟨q, (exnsD w n).getD i .non⟩ = .ok ⟨.g, .bl true⟩ ∧ isV cs_all ys_ValueError ⟨q, (exnsD w n).getD i .non⟩ = .ok ⟨.g, .bl true⟩ := by
  match i, h with
  | 0, _ => exact ⟨by kernel_rfl, by kernel_rfl⟩
  | 1, _ => exact ⟨by kernel_rfl, by kernel_rfl⟩
  | 2, _ => exact ⟨by kernel_rfl, by kernel_rfl⟩
  | 3, _ => exact ⟨by kernel_rfl, by kernel_rfl⟩
  | 4, _ => exact ⟨by kernel_rfl, by kernel_rfl⟩
  | 5, _ => exact ⟨by kernel_rfl, by kernel_rfl⟩
  | 6, _ => exact ⟨by kernel_rfl, by kernel_rfl⟩
  | 7, _ => exact ⟨by kernel_rfl, by kernel_rfl⟩
  | 8, _ => exact ⟨by kernel_rfl, by kernel_rfl⟩
  | 9, _ => exact ⟨by kernel_rfl, by kernel_rfl⟩
  | 10, _ => exact ⟨by kernel_rfl, by kernel_rfl⟩
  | 11, _ => exact ⟨by kernel_rfl, by kernel_rfl⟩
  | 12, _ => exact ⟨by kernel_rfl, by kernel_rfl⟩
  | 13, _ => exact ⟨by kernel_rfl, by kernel_rfl⟩
  | 14, _ => exact ⟨by kernel_rfl, by kernel_rfl⟩
  | 15, _ => exact ⟨by kernel_rfl, by kernel_rfl⟩
  | 16, _ => exact ⟨by kernel_rfl, by kernel_rfl⟩
  | 17, _ => exact ⟨by kernel_rfl, by kernel_rfl⟩
  | 18, _ => exact ⟨by kernel_rfl, by kernel_rfl⟩
  | 19, _ => exact ⟨by kernel_rfl, by kernel_rfl⟩
  | 20, _ => exact ⟨by kernel_rfl, by kernel_rfl⟩
  | 21, _ => exact ⟨by kernel_rfl, by kernel_rfl⟩
  | m + 22, h => exact absurd h (by omega)
end Lw

namespace Lw
open PySem L2 DL
def menu : List Str := ["people", "hands", "ties", "web", "kinds", "quick", "shares", "rows", "places", "most", "share", "none", "unknown", "tree", "one hand", "no quick", "events", ""]
def wordOf (p : List Int) (a : Int) : Str := menu.getD (p.getD a.toNat 0 % 18).toNat ""
theorem menu_at {m : Int} (h0 : 0 ≤ m) (h1 : m < 18) : atD (menu.map D.str) m = .ok (.str (menu.getD m.toNat "")) := by
  have hl : menu.length = 18 := rfl
  rw [atD_in h0 (by rw [List.length_map, hl]; exact h1), DL.getD_at (by rw [List.length_map, hl]; omega), List.getElem_map, DL.getD_at (by rw [hl]; omega)]
theorem word_eq (k2 : Bool) (p : List Int) (a : Int) (h0 : 0 ≤ a) (h1 : a < p.length) : F_law_word [(true, .lst (p.map .int)), (k2, .int a)] = .ok ⟨.g, .str (wordOf p a)⟩ := by
  unfold F_law_word
  rw [runF_eq]
  unfold b_law_word
  have e1 : atD (p.map D.int) a = _ := atD_map h0 h1
  have e2 := menu_at (m := p.getD a.toNat 0 % 18) (by omega) (by omega)
  have e3 : menu.map D.str = [D.str "people", .str "hands", .str "ties", .str "web", .str "kinds", .str "quick", .str "shares", .str "rows", .str "places", .str "most", .str "share", .str "none", .str "unknown", .str "tree", .str "one hand", .str "no quick", .str "events", .str ""] := rfl
  rw [e3] at e2
  have e4 : (6 : Nat) ≤ sizeLine := by decide
  have e5 : (12 : Nat) ≤ sizeLine := by decide
  have e6 : (18 : Nat) ≤ sizeLine := by decide
  walk_at "dlh"
  rfl
def numOf (p : List Int) (a : Int) : Int := if p.getD a.toNat 0 % 4 = 1 then -1 - p.getD (a + 1).toNat 0 else if p.getD a.toNat 0 % 4 = 2 then 1000000000000000000000000000 * (1 + p.getD (a + 1).toNat 0) + p.getD a.toNat 0 else p.getD (a + 1).toNat 0
theorem number_eq (k2 : Bool) (p : List Int) (a : Int) (h0 : 0 ≤ a) (h1 : a + 1 < p.length) (hp : ∀ x ∈ p, 0 ≤ x ∧ x < 1000) : F_law_number [(true, .lst (p.map .int)), (k2, .int a)] = .ok ⟨.g, .int (numOf p a)⟩ := by
  unfold F_law_number
  rw [runF_eq]
  unfold b_law_number
  have e1 : atD (p.map D.int) a = _ := atD_map h0 (by omega)
  have e2 : atD (p.map D.int) (a + 1) = _ := atD_map (by omega) h1
  have hx : 0 ≤ p.getD (a + 1).toNat 0 ∧ p.getD (a + 1).toNat 0 < 1000 := by
    rw [DL.getD_at (by omega)]
    exact hp _ (List.getElem_mem _)
  have e3 : powI 10 27 = .ok (.int 1000000000000000000000000000) := by unfold powI; rw [if_pos (by decide)]; rfl
  have e4 : mulI 1000000000000000000000000000 (1 + p.getD (a + 1).toNat 0) = _ := mulI_200 (by decide) (by omega)
  unfold numOf
  generalize p.getD (a + 1).toNat 0 = y at *
  generalize p.getD a.toNat 0 = x at *
  clear hp h0 h1 hx
  walk_at "dl"
  simp only [e1]
  walk_at "dl"
  by_cases c1 : x % 4 = 1
  · simp only [c1]
    walk_at "dl"
    simp only [e2]
    walk_at "dl"
  · simp only [c1]
    walk_at "dl"
    by_cases c2 : x % 4 = 2
    · simp only [c2]
      walk_at "dlh"
    · simp only [c2]
      walk_at "dl"
      simp only [e2]
      walk_at "dl"
end Lw

namespace Lw
open PySem L2 DL
theorem fields_eq (k2 : Bool) (p : List Int) (a : Nat) (hp : PoolOk 60 p) (h : a + 30 ≤ 60) : ∃ w n, F_law_fields_of [(true, .lst (p.map .int)), (k2, .int a)] = .ok ⟨.o, .lst (rowsD w n)⟩ := by
  refine ⟨fun k => wordOf p (a + k), fun k => numOf p (a + 7 + 2 * k), ?_⟩
  unfold F_law_fields_of
  rw [runF_eq]
  unfold b_law_fields_of
  have c1 : rg 7 = true := rfl
  have c2 : rg 9 = true := rfl
  have hl := hp.1
  walk_at "dl"
  rw [rngD_len, if_pos (by decide)]
  rw [lcO_rng (h := fun (k : Nat) => .str (wordOf p (a + k)))]
  rotate_left
  · intro k hk
    have hk : k < 7 := hk
    have e := word_eq true p (a + k) (by omega) (by omega)
    walk_at "dl"
    rw [e]
    walk_at "dl"
  walk_at "dl"
  rw [rngD_len, if_pos (by decide)]
  rw [lcO_rng (h := fun (k : Nat) => .int (numOf p (a + 7 + 2 * k)))]
  rotate_left
  · intro k hk
    have hk : k < 9 := hk
    have e := number_eq true p (a + 7 + 2 * k) (by omega) (by omega) hp.2
    have e2 : mulI 2 (k : Int) = _ := mulI_200 (by decide) (by omega)
    walk_at "dl"
    simp only [e2]
    walk_at "dl"
    rw [e]
    walk_at "dl"
  kernel_rfl
end Lw

namespace Lw
open PySem L2 DL
theorem rows_ok (w : Nat → Str) (n : Nat → Int) : sOk 11 (.lst (rowsD w n)) := by
  refine ⟨by show (22 : Nat) ≤ 1000000; decide, ?_⟩
  unfold rowsD
  simp [sOk]
theorem ne_one (i : Nat) (h : i < 22) : eqB true (.lst (oneAt i)) (.lst (oneAt i)) = .ok false := by
  match i, h with
  | 0, _ => kernel_rfl
  | 1, _ => kernel_rfl
  | 2, _ => kernel_rfl
  | 3, _ => kernel_rfl
  | 4, _ => kernel_rfl
  | 5, _ => kernel_rfl
  | 6, _ => kernel_rfl
  | 7, _ => kernel_rfl
  | 8, _ => kernel_rfl
  | 9, _ => kernel_rfl
  | 10, _ => kernel_rfl
  | 11, _ => kernel_rfl
  | 12, _ => kernel_rfl
  | 13, _ => kernel_rfl
  | 14, _ => kernel_rfl
  | 15, _ => kernel_rfl
  | 16, _ => kernel_rfl
  | 17, _ => kernel_rfl
  | 18, _ => kernel_rfl
  | 19, _ => kernel_rfl
  | 20, _ => kernel_rfl
  | 21, _ => kernel_rfl
  | m + 22, h => exact absurd h (by omega)
theorem isV_eq {cs ys : List Str} {f : En → Res Vl} {env : En} : unE (isV cs ys) f env = (f env).bind (isV cs ys) := rfl
theorem right_eq (w : Nat → Str) (n : Nat → Int) : F_law_right [(true, .lst (exnsD w n)), (true, .lst (rowsD w n))] = .ok ⟨.g, .bl true⟩ := by
  have e1 := read_eq w n
  have e2 := same_refl 11 (.lst (rowsD w n)) true true (rows_ok w n)
  have hl : (exnsD w n).length = 22 := rfl
  have h0 := top_eq w n
  have h1 := cls_eq w n
  obtain ⟨X, hX⟩ : ∃ X, X = exnsD w n := ⟨_, rfl⟩
  obtain ⟨R, hR⟩ : ∃ X, X = rowsD w n := ⟨_, rfl⟩
  rw [← hX, ← hR] at e1
  rw [← hR] at e2
  simp only [← hX] at hl h0 h1
  rw [← hX, ← hR]
  clear hX hR
  obtain ⟨u, e, rfl⟩ : ∃ u, F_law_right [(true, .lst X), (true, .lst R)] = .ok u ∧ u = ⟨.g, .bl true⟩ := by
    unfold F_law_right
    apply run_hs rfl
    unfold b_law_right
    walk_at "dl"
    rw [e1]
    walk_at "dl"
    rw [e2]
    walk_at "dl"
    refine hs_bind (fun e => ∃ s2 s3, e = [Sl.vl true (.lst X), Sl.vl true (.lst R), s2, s3]) ?_ ?_
    · refine hs_forR (fun _ e => ∃ s2 s3, e = [Sl.vl true (.lst X), Sl.vl true (.lst R), s2, s3]) ⟨_, _, rfl⟩ ?_ (fun e h => h)
      rintro k _ hk ⟨s2, s3, rfl⟩
      have hk : k < 22 := hk
      have a1 : atD X (0 + (k : Int)) = .ok (X.getD k .non) := by
        rw [Int.zero_add, atD_in (by omega) (by omega), Int.toNat_natCast]
      obtain ⟨t1, t2⟩ := h0 .g k hk
      have t3 := h1 k hk
      have t4 := ne_one k hk
      rw [Int.zero_add] at a1
      walk_at "dl"
      rw [a1]
      walk_at "dl"
      rw [t1, t2]
      walk_at "dl"
      rw [a1]
      walk_at "dl"
      rw [t3]
      walk_at "dl"
      rw [rngD_len, if_pos (by decide)]
      rw [lcO_rng (h := fun (j : Nat) => .bl (decide ((j : Int) = (k : Int))))]
      rotate_left
      · intro j hj
        walk_at "dl"
      have t5 : (List.range (Int.toNat 22)).map (fun (j : Nat) => D.bl (decide ((j : Int) = (k : Int)))) = oneAt k := rfl
      walk_at "dl"
      have t6 : (List.range 22).map (fun (j : Nat) => D.bl (decide ((j : Int) = (k : Int)))) = oneAt k := rfl
      first | rw [t6] | rw [t5]
      rw [t4]
      walk_at "dl"
      exact hs_nx ⟨_, _, rfl⟩
    · rintro _ ⟨s2, s3, rfl⟩
      walk_at "dl"
      exact hs_rt rfl
  exact e
theorem law_true (ns : List Int) : F_law [(true, .fz (ns.map D.int))] = .ok ⟨.g, .bl true⟩ := by
  obtain ⟨_, e1, p, rfl, hp⟩ := pool_hs true true ns 60 (by decide)
  obtain ⟨w1, n1, e2⟩ := fields_eq true p 0 hp (by decide)
  obtain ⟨w2, n2, e3⟩ := fields_eq true p 30 hp (by decide)
  have e1 : F_law_pool [(true, .fz (ns.map D.int)), (true, .int 60)] = .ok ⟨.o, .lst (p.map D.int)⟩ := e1
  have e2 : F_law_fields_of [(true, .lst (p.map D.int)), (true, .int 0)] = .ok ⟨.o, .lst (rowsD w1 n1)⟩ := e2
  have e3 : F_law_fields_of [(true, .lst (p.map D.int)), (true, .int 30)] = .ok ⟨.o, .lst (rowsD w2 n2)⟩ := e3
  have e4 := made_eq w1 n1
  have e5 := made_eq w2 n2
  have e6 := right_eq w1 n1
  have e7 := right_eq w2 n2
  unfold F_law
  rw [runF_eq]
  unfold b_law
  walk_at "dl"
  rw [e1]
  walk_at "dl"
  rw [e2]
  walk_at "dl"
  rw [e3]
  walk_at "dl"
  rw [e4]
  walk_at "dl"
  rw [e6]
  walk_at "dl"
  rw [e5]
  walk_at "dl"
  rw [e7]
  walk_at "dl"
  rw [e6]
  walk_at "dl"
end Lw
open PySem PySem.W PyProof.Rows
set_option maxRecDepth 100000 in
set_option maxHeartbeats 0 in
theorem PySem.Challenge.cw_handsatwork_k96_errors_built_holds : PySem.Challenge.rw_handsatwork_k96_errors_built.Holds := by
  w_on; o_law; k_head; (case hw => w_witness2)
  k_fill
  refine DL.law_walk (k := 15) (x := "law") (p := "script") (Fl := Lw.F_law) (l := PySem.Challenge.rw_handsatwork_k96_errors_built) Lw.law_true rfl rfl ⟨rfl, by decide, by decide⟩ rfl (fun w h Y => PySem.W.kIn_of Y) ?F
  case F =>
    intro w mg h KX G
    refine Lw.p_law ?T
    refine' Lw.Tx.mk ?z_ValueError ?z_abs ?z_bool ?z_int ?z_isinstance ?z_len ?z_list ?z_range ?z_str ?z_tuple ?x_Refused ?x_NotRooted ?x_NothingToRedo ?x_NothingToUndo ?x_BadLine ?x_Impossible ?x_BadLoads ?x_NotCore ?x_BadDealing ?x_BadLot ?x_AttemptFailed ?x_InUse ?x_BadProgram ?x_NotLocal ?x_BadVector ?x_TooGreat ?x_WrongGround ?x_NoSuch ?x_CannotMove ?x_BadStanding ?x_BadText ?x_BadTable ?e_all ?k_AttemptFailed ?gc_AttemptFailed ?k_BadDealing ?gc_BadDealing ?k_BadLine ?gc_BadLine ?k_BadLoads ?gc_BadLoads ?k_BadLot ?gc_BadLot ?k_BadProgram ?gc_BadProgram ?k_BadStanding ?gc_BadStanding ?k_BadTable ?gc_BadTable ?k_BadText ?gc_BadText ?k_BadVector ?gc_BadVector ?k_CannotMove ?gc_CannotMove ?k_HandsatworkError ?gc_HandsatworkError ?k_Impossible ?gc_Impossible ?k_InUse ?gc_InUse ?k_NoSuch ?gc_NoSuch ?k_NotCore ?gc_NotCore ?k_NotLocal ?gc_NotLocal ?k_NotRooted ?gc_NotRooted ?k_NothingToRedo ?gc_NothingToRedo ?k_NothingToUndo ?gc_NothingToUndo ?k_Refused ?gc_Refused ?k_TooGreat ?gc_TooGreat ?k_ValueError ?k_WrongGround ?gc_WrongGround ?n_index ?n_kind ?n_line ?n_needed ?n_place ?n_reason ?n_what ?n_word ?d_law_mixed ?d_law_pool ?d_law_same ?d_law_word ?d_law_number ?d_law_fields_of ?d_law_made ?d_law_read ?d_law_classes_of ?d_law_right ?d_law
    case z_ValueError => refine' PySem.W.mg_none_of KX G ?_; k_is
    case z_abs => refine' PySem.W.mg_none_of KX G ?_; k_is
    case z_bool => refine' PySem.W.mg_none_of KX G ?_; k_is
    case z_int => refine' PySem.W.mg_none_of KX G ?_; k_is
    case z_isinstance => refine' PySem.W.mg_none_of KX G ?_; k_is
    case z_len => refine' PySem.W.mg_none_of KX G ?_; k_is
    case z_list => refine' PySem.W.mg_none_of KX G ?_; k_is
    case z_range => refine' PySem.W.mg_none_of KX G ?_; k_is
    case z_str => refine' PySem.W.mg_none_of KX G ?_; k_is
    case z_tuple => refine' PySem.W.mg_none_of KX G ?_; k_is
    case x_Refused =>
      refine' DL.dx0_mk KX G PySem.F.excBase_ValueError ?a ?ex ?kC ?sC ?tC
      (case a => k_is); (case ex => k_exc); (case kC => k_is); (case sC => k_is); (case tC => k_is)
    case x_NotRooted =>
      refine' DL.dx0_mk KX G PySem.F.excBase_ValueError ?a ?ex ?kC ?sC ?tC
      (case a => k_is); (case ex => k_exc); (case kC => k_is); (case sC => k_is); (case tC => k_is)
    case x_NothingToRedo =>
      refine' DL.dx0_mk KX G PySem.F.excBase_ValueError ?a ?ex ?kC ?sC ?tC
      (case a => k_is); (case ex => k_exc); (case kC => k_is); (case sC => k_is); (case tC => k_is)
    case x_NothingToUndo =>
      refine' DL.dx0_mk KX G PySem.F.excBase_ValueError ?a ?ex ?kC ?sC ?tC
      (case a => k_is); (case ex => k_exc); (case kC => k_is); (case sC => k_is); (case tC => k_is)
    case x_BadLine =>
      refine' DL.dx0_mk KX G PySem.F.excBase_ValueError ?a ?ex ?kC ?sC ?tC
      (case a => k_is); (case ex => k_exc); (case kC => k_is); (case sC => k_is); (case tC => k_is)
    case x_Impossible =>
      refine' DL.dx0_mk KX G PySem.F.excBase_ValueError ?a ?ex ?kC ?sC ?tC
      (case a => k_is); (case ex => k_exc); (case kC => k_is); (case sC => k_is); (case tC => k_is)
    case x_BadLoads =>
      refine' DL.dx0_mk KX G PySem.F.excBase_ValueError ?a ?ex ?kC ?sC ?tC
      (case a => k_is); (case ex => k_exc); (case kC => k_is); (case sC => k_is); (case tC => k_is)
    case x_NotCore =>
      refine' DL.dx0_mk KX G PySem.F.excBase_ValueError ?a ?ex ?kC ?sC ?tC
      (case a => k_is); (case ex => k_exc); (case kC => k_is); (case sC => k_is); (case tC => k_is)
    case x_BadDealing =>
      refine' DL.dx0_mk KX G PySem.F.excBase_ValueError ?a ?ex ?kC ?sC ?tC
      (case a => k_is); (case ex => k_exc); (case kC => k_is); (case sC => k_is); (case tC => k_is)
    case x_BadLot =>
      refine' DL.dx0_mk KX G PySem.F.excBase_ValueError ?a ?ex ?kC ?sC ?tC
      (case a => k_is); (case ex => k_exc); (case kC => k_is); (case sC => k_is); (case tC => k_is)
    case x_AttemptFailed =>
      refine' DL.dxt_mk KX G ?a ?cl ?sa ?eC ?tC ?kC ?iC ?tI ?l ?c ?k ?rv ?nf ?b
      (case a => k_is); (case cl => k_is); (case sa => k_is); (case eC => k_is); (case tC => k_is); (case kC => k_is); (case iC => k_is); (case tI => k_is); (case l => k_is); (case c => k_is); (case k => k_is)
      (case rv => decide +kernel)
      (case nf => kernel_rfl)
      (case b => exact fun _ _ _ _ _ _ us hl => match us, hl with | [_, _], _ => rfl)
    case x_InUse =>
      refine' DL.dxt_mk KX G ?a ?cl ?sa ?eC ?tC ?kC ?iC ?tI ?l ?c ?k ?rv ?nf ?b
      (case a => k_is); (case cl => k_is); (case sa => k_is); (case eC => k_is); (case tC => k_is); (case kC => k_is); (case iC => k_is); (case tI => k_is); (case l => k_is); (case c => k_is); (case k => k_is)
      (case rv => decide +kernel)
      (case nf => kernel_rfl)
      (case b => exact fun _ _ _ _ _ _ us hl => match us, hl with | [_, _], _ => rfl)
    case x_BadProgram =>
      refine' DL.dxt_mk KX G ?a ?cl ?sa ?eC ?tC ?kC ?iC ?tI ?l ?c ?k ?rv ?nf ?b
      (case a => k_is); (case cl => k_is); (case sa => k_is); (case eC => k_is); (case tC => k_is); (case kC => k_is); (case iC => k_is); (case tI => k_is); (case l => k_is); (case c => k_is); (case k => k_is)
      (case rv => decide +kernel)
      (case nf => kernel_rfl)
      (case b => exact fun _ _ _ _ _ _ us hl => match us, hl with | [_, _, _], _ => rfl)
    case x_NotLocal =>
      refine' DL.dxt_mk KX G ?a ?cl ?sa ?eC ?tC ?kC ?iC ?tI ?l ?c ?k ?rv ?nf ?b
      (case a => k_is); (case cl => k_is); (case sa => k_is); (case eC => k_is); (case tC => k_is); (case kC => k_is); (case iC => k_is); (case tI => k_is); (case l => k_is); (case c => k_is); (case k => k_is)
      (case rv => decide +kernel)
      (case nf => kernel_rfl)
      (case b => exact fun _ _ _ _ _ _ us hl => match us, hl with | [_, _], _ => rfl)
    case x_BadVector =>
      refine' DL.dxt_mk KX G ?a ?cl ?sa ?eC ?tC ?kC ?iC ?tI ?l ?c ?k ?rv ?nf ?b
      (case a => k_is); (case cl => k_is); (case sa => k_is); (case eC => k_is); (case tC => k_is); (case kC => k_is); (case iC => k_is); (case tI => k_is); (case l => k_is); (case c => k_is); (case k => k_is)
      (case rv => decide +kernel)
      (case nf => kernel_rfl)
      (case b => exact fun _ _ _ _ _ _ us hl => match us, hl with | [_, _], _ => rfl)
    case x_TooGreat =>
      refine' DL.dxt_mk KX G ?a ?cl ?sa ?eC ?tC ?kC ?iC ?tI ?l ?c ?k ?rv ?nf ?b
      (case a => k_is); (case cl => k_is); (case sa => k_is); (case eC => k_is); (case tC => k_is); (case kC => k_is); (case iC => k_is); (case tI => k_is); (case l => k_is); (case c => k_is); (case k => k_is)
      (case rv => decide +kernel)
      (case nf => kernel_rfl)
      (case b => exact fun _ _ _ _ _ _ us hl => match us, hl with | [_, _], _ => rfl)
    case x_WrongGround =>
      refine' DL.dxt_mk KX G ?a ?cl ?sa ?eC ?tC ?kC ?iC ?tI ?l ?c ?k ?rv ?nf ?b
      (case a => k_is); (case cl => k_is); (case sa => k_is); (case eC => k_is); (case tC => k_is); (case kC => k_is); (case iC => k_is); (case tI => k_is); (case l => k_is); (case c => k_is); (case k => k_is)
      (case rv => decide +kernel)
      (case nf => kernel_rfl)
      (case b => exact fun _ _ _ _ _ _ us hl => match us, hl with | [_, _], _ => rfl)
    case x_NoSuch =>
      refine' DL.dxt_mk KX G ?a ?cl ?sa ?eC ?tC ?kC ?iC ?tI ?l ?c ?k ?rv ?nf ?b
      (case a => k_is); (case cl => k_is); (case sa => k_is); (case eC => k_is); (case tC => k_is); (case kC => k_is); (case iC => k_is); (case tI => k_is); (case l => k_is); (case c => k_is); (case k => k_is)
      (case rv => decide +kernel)
      (case nf => kernel_rfl)
      (case b => exact fun _ _ _ _ _ _ us hl => match us, hl with | [_, _], _ => rfl)
    case x_CannotMove =>
      refine' DL.dxt_mk KX G ?a ?cl ?sa ?eC ?tC ?kC ?iC ?tI ?l ?c ?k ?rv ?nf ?b
      (case a => k_is); (case cl => k_is); (case sa => k_is); (case eC => k_is); (case tC => k_is); (case kC => k_is); (case iC => k_is); (case tI => k_is); (case l => k_is); (case c => k_is); (case k => k_is)
      (case rv => decide +kernel)
      (case nf => kernel_rfl)
      (case b => exact fun _ _ _ _ _ _ us hl => match us, hl with | [_, _, _], _ => rfl)
    case x_BadStanding =>
      refine' DL.dxt_mk KX G ?a ?cl ?sa ?eC ?tC ?kC ?iC ?tI ?l ?c ?k ?rv ?nf ?b
      (case a => k_is); (case cl => k_is); (case sa => k_is); (case eC => k_is); (case tC => k_is); (case kC => k_is); (case iC => k_is); (case tI => k_is); (case l => k_is); (case c => k_is); (case k => k_is)
      (case rv => decide +kernel)
      (case nf => kernel_rfl)
      (case b => exact fun _ _ _ _ _ _ us hl => match us, hl with | [_, _, _], _ => rfl)
    case x_BadText =>
      refine' DL.dxt_mk KX G ?a ?cl ?sa ?eC ?tC ?kC ?iC ?tI ?l ?c ?k ?rv ?nf ?b
      (case a => k_is); (case cl => k_is); (case sa => k_is); (case eC => k_is); (case tC => k_is); (case kC => k_is); (case iC => k_is); (case tI => k_is); (case l => k_is); (case c => k_is); (case k => k_is)
      (case rv => decide +kernel)
      (case nf => kernel_rfl)
      (case b => exact fun _ _ _ _ _ _ us hl => match us, hl with | [_, _], _ => rfl)
    case x_BadTable =>
      refine' DL.dxt_mk KX G ?a ?cl ?sa ?eC ?tC ?kC ?iC ?tI ?l ?c ?k ?rv ?nf ?b
      (case a => k_is); (case cl => k_is); (case sa => k_is); (case eC => k_is); (case tC => k_is); (case kC => k_is); (case iC => k_is); (case tI => k_is); (case l => k_is); (case c => k_is); (case k => k_is)
      (case rv => decide +kernel)
      (case nf => kernel_rfl)
      (case b => exact fun _ _ _ _ _ _ us hl => match us, hl with | [_, _, _], _ => rfl)
    case e_all => kernel_rfl
    case k_AttemptFailed => kernel_rfl
    case gc_AttemptFailed => refine' DL.cls_mk KX G ?a; (case a => k_is)
    case k_BadDealing => kernel_rfl
    case gc_BadDealing => refine' DL.cls_mk KX G ?a; (case a => k_is)
    case k_BadLine => kernel_rfl
    case gc_BadLine => refine' DL.cls_mk KX G ?a; (case a => k_is)
    case k_BadLoads => kernel_rfl
    case gc_BadLoads => refine' DL.cls_mk KX G ?a; (case a => k_is)
    case k_BadLot => kernel_rfl
    case gc_BadLot => refine' DL.cls_mk KX G ?a; (case a => k_is)
    case k_BadProgram => kernel_rfl
    case gc_BadProgram => refine' DL.cls_mk KX G ?a; (case a => k_is)
    case k_BadStanding => kernel_rfl
    case gc_BadStanding => refine' DL.cls_mk KX G ?a; (case a => k_is)
    case k_BadTable => kernel_rfl
    case gc_BadTable => refine' DL.cls_mk KX G ?a; (case a => k_is)
    case k_BadText => kernel_rfl
    case gc_BadText => refine' DL.cls_mk KX G ?a; (case a => k_is)
    case k_BadVector => kernel_rfl
    case gc_BadVector => refine' DL.cls_mk KX G ?a; (case a => k_is)
    case k_CannotMove => kernel_rfl
    case gc_CannotMove => refine' DL.cls_mk KX G ?a; (case a => k_is)
    case k_HandsatworkError => kernel_rfl
    case gc_HandsatworkError => refine' DL.cls_mk KX G ?a; (case a => k_is)
    case k_Impossible => kernel_rfl
    case gc_Impossible => refine' DL.cls_mk KX G ?a; (case a => k_is)
    case k_InUse => kernel_rfl
    case gc_InUse => refine' DL.cls_mk KX G ?a; (case a => k_is)
    case k_NoSuch => kernel_rfl
    case gc_NoSuch => refine' DL.cls_mk KX G ?a; (case a => k_is)
    case k_NotCore => kernel_rfl
    case gc_NotCore => refine' DL.cls_mk KX G ?a; (case a => k_is)
    case k_NotLocal => kernel_rfl
    case gc_NotLocal => refine' DL.cls_mk KX G ?a; (case a => k_is)
    case k_NotRooted => kernel_rfl
    case gc_NotRooted => refine' DL.cls_mk KX G ?a; (case a => k_is)
    case k_NothingToRedo => kernel_rfl
    case gc_NothingToRedo => refine' DL.cls_mk KX G ?a; (case a => k_is)
    case k_NothingToUndo => kernel_rfl
    case gc_NothingToUndo => refine' DL.cls_mk KX G ?a; (case a => k_is)
    case k_Refused => kernel_rfl
    case gc_Refused => refine' DL.cls_mk KX G ?a; (case a => k_is)
    case k_TooGreat => kernel_rfl
    case gc_TooGreat => refine' DL.cls_mk KX G ?a; (case a => k_is)
    case k_ValueError => kernel_rfl
    case k_WrongGround => kernel_rfl
    case gc_WrongGround => refine' DL.cls_mk KX G ?a; (case a => k_is)
    case n_index => kernel_rfl
    case n_kind => kernel_rfl
    case n_line => kernel_rfl
    case n_needed => kernel_rfl
    case n_place => kernel_rfl
    case n_reason => kernel_rfl
    case n_what => kernel_rfl
    case n_word => kernel_rfl
    case d_law_mixed =>
      refine' DL.dn_mk KX G ?a ?l ?c ?k ?b
      (case a => k_is); (case l => k_is); (case c => k_is); (case k => k_is)
      (case b => exact fun _ _ _ _ _ _ us hl => match us, hl with | [_, _], _ => rfl)
    case d_law_pool =>
      refine' DL.dn_mk KX G ?a ?l ?c ?k ?b
      (case a => k_is); (case l => k_is); (case c => k_is); (case k => k_is)
      (case b => exact fun _ _ _ _ _ _ us hl => match us, hl with | [_, _], _ => rfl)
    case d_law_same =>
      refine' DL.dn_mk KX G ?a ?l ?c ?k ?b
      (case a => k_is); (case l => k_is); (case c => k_is); (case k => k_is)
      (case b => exact fun _ _ _ _ _ _ us hl => match us, hl with | [_, _], _ => rfl)
    case d_law_word =>
      refine' DL.dn_mk KX G ?a ?l ?c ?k ?b
      (case a => k_is); (case l => k_is); (case c => k_is); (case k => k_is)
      (case b => exact fun _ _ _ _ _ _ us hl => match us, hl with | [_, _], _ => rfl)
    case d_law_number =>
      refine' DL.dn_mk KX G ?a ?l ?c ?k ?b
      (case a => k_is); (case l => k_is); (case c => k_is); (case k => k_is)
      (case b => exact fun _ _ _ _ _ _ us hl => match us, hl with | [_, _], _ => rfl)
    case d_law_fields_of =>
      refine' DL.dn_mk KX G ?a ?l ?c ?k ?b
      (case a => k_is); (case l => k_is); (case c => k_is); (case k => k_is)
      (case b => exact fun _ _ _ _ _ _ us hl => match us, hl with | [_, _], _ => rfl)
    case d_law_made =>
      refine' DL.dn_mk KX G ?a ?l ?c ?k ?b
      (case a => k_is); (case l => k_is); (case c => k_is); (case k => k_is)
      (case b => exact fun _ _ _ _ _ _ us hl => match us, hl with | [_], _ => rfl)
    case d_law_read =>
      refine' DL.dn_mk KX G ?a ?l ?c ?k ?b
      (case a => k_is); (case l => k_is); (case c => k_is); (case k => k_is)
      (case b => exact fun _ _ _ _ _ _ us hl => match us, hl with | [_], _ => rfl)
    case d_law_classes_of =>
      refine' DL.dn_mk KX G ?a ?l ?c ?k ?b
      (case a => k_is); (case l => k_is); (case c => k_is); (case k => k_is)
      (case b => exact fun _ _ _ _ _ _ us hl => match us, hl with | [_], _ => rfl)
    case d_law_right =>
      refine' DL.dn_mk KX G ?a ?l ?c ?k ?b
      (case a => k_is); (case l => k_is); (case c => k_is); (case k => k_is)
      (case b => exact fun _ _ _ _ _ _ us hl => match us, hl with | [_, _], _ => rfl)
    case d_law =>
      refine' DL.dnl_mk KX G ?a ?l ?c ?k ?b
      (case a => k_is); (case l => k_is); (case c => k_is); (case k => k_is)
      (case b => exact fun _ _ _ _ _ _ _ => rfl)
