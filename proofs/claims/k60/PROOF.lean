import PyProof.Rows.All
import Wide.All
import OpenK.AllK
import Wide.FinOn
import HandS.ForMost
import HandS.Wide
import HandS.IsInst
import HandS.Conv
import HandS.Defaults
import HandS.Style
import HandS.Flow
import PyProof.LongRange
import PyProof.ListRange
import PySem.Challenge.RW_handsatwork_k60_whole_long_rows_and_ring
set_option Elab.async false
set_option linter.all false
set_option maxRecDepth 100000
set_option maxHeartbeats 4000000
/-! DL: a layer of data over the hand layer. D: what a value is worth; Rel: how an environment of data lies in a frame and a heap. -/
namespace DL
open PySem L2

inductive D where
  | non | bl (b : Bool) | int (i : Int) | str (s : Str) | lst (xs : List D) | tup (xs : List D) | fz (xs : List D)
inductive Res (α : Type) where
  | ok (a : α) | no
def Res.bind {α β : Type} (r : Res α) (f : α → Res β) : Res β := match r with
  | .ok a => f a
  | .no => .no
@[simp] theorem Res.bind_ok {α β : Type} (a : α) (f : α → Res β) : (Res.ok a).bind f = f a := rfl
@[simp] theorem Res.bind_no {α β : Type} (f : α → Res β) : (Res.no : Res α).bind f = .no := rfl
theorem Res.bind_eq {α β : Type} {r : Res α} {f : α → Res β} {b : β} (h : r.bind f = .ok b) : ∃ a, r = .ok a ∧ f a = .ok b := by
  cases r with
  | ok a => exact ⟨a, rfl, h⟩
  | no => cases h
def flat : D → Bool
  | .lst _ => false
  | .tup _ => false
  | .fz _ => false
  | _ => true
/-- kept data; data that was lent; a list that stands in a slot; a new list -/
inductive Kd where
  | g | b | h | o
structure Vl where
  k : Kd
  d : D
/-- may it be kept as it is -/
def Vl.keep : Vl → Bool
  | ⟨.g, _⟩ => true
  | ⟨.o, _⟩ => true
  | ⟨_, d⟩ => flat d
/-- may its items be kept -/
def Kd.it : Kd → List D → Bool
  | .b, xs => xs.all flat
  | _, _ => true
def Kd.sub : Kd → Kd
  | .b => .b
  | _ => .g
inductive Sl where
  | no | vl (g : Bool) (d : D) | ow (xs : List D)
abbrev En := List Sl

mutual
inductive Rep (K : PySem.W.Frag) (G : Hp) : V → D → Prop where
  | non : Rep K G .non .non
  | bl (b : Bool) : Rep K G (.bl b) (.bl b)
  | int (i : Int) : Rep K G (.int i) (.int i)
  | str (x : Str) : Rep K G (.str x) (.str x)
  | lst {a : Addr} {xs : List V} {ds : List D} : G a = some (.lst xs) → RepL K G xs ds → Rep K G (.ref a) (.lst ds)
  | fz {a : Addr} {xs : List V} {ds : List D} : SqL K G a xs → RepL K G xs ds → Rep K G (.ref a) (.fz ds)
  | tup {a : Addr} {xs : List V} {ds : List D} : SqT K G a xs → RepL K G xs ds → Rep K G (.ref a) (.tup ds)
inductive RepL (K : PySem.W.Frag) (G : Hp) : List V → List D → Prop where
  | nil : RepL K G [] []
  | cons {v : V} {vs : List V} {d : D} {ds : List D} : Rep K G v d → RepL K G vs ds → RepL K G (v :: vs) (d :: ds)
end
theorem Same.sqt {K : PySem.W.Frag} {H H' : Hp} {a : Addr} {xs : List V} (e : Same H H') (h : SqT K H a xs) : SqT K H' a xs := by
  rcases h with (h | ⟨o, h⟩) | h
  · exact .inl (.inl (e _ _ h))
  · exact .inl (.inr ⟨o, e _ _ h⟩)
  · exact .inr h
mutual
theorem Rep.mono {K : PySem.W.Frag} {G G' : Hp} (e : Same G G') : ∀ {v : V} {d : D}, Rep K G v d → Rep K G' v d
  | _, _, .non => .non
  | _, _, .bl b => .bl b
  | _, _, .int i => .int i
  | _, _, .str x => .str x
  | _, _, .lst h l => .lst (e _ _ h) (RepL.mono e l)
  | _, _, .fz h l => .fz (e.seq h) (RepL.mono e l)
  | _, _, .tup h l => .tup (Same.sqt e h) (RepL.mono e l)
theorem RepL.mono {K : PySem.W.Frag} {G G' : Hp} (e : Same G G') : ∀ {vs : List V} {ds : List D}, RepL K G vs ds → RepL K G' vs ds
  | _, _, .nil => .nil
  | _, _, .cons h l => .cons (Rep.mono e h) (RepL.mono e l)
end
section
variable {K : PySem.W.Frag} {G G' B H H' : Hp}
theorem Rep.flat {v : V} {d : D} (h : Rep K G v d) (f : flat d = true) : Rep K G' v d := by
  cases h with
  | non => exact .non
  | bl b => exact .bl b
  | int i => exact .int i
  | str x => exact .str x
  | lst _ _ => cases f
  | tup _ _ => cases f
  | fz _ _ => cases f
theorem RepL.flat : ∀ {vs : List V} {ds : List D}, RepL K G vs ds → ds.all DL.flat = true → RepL K G' vs ds
  | _, _, .nil, _ => .nil
  | _, _, .cons h l, f => by
    rw [List.all_cons, Bool.and_eq_true] at f
    exact .cons (h.flat f.1) (RepL.flat l f.2)
theorem RepL.len : ∀ {vs : List V} {ds : List D}, RepL K G vs ds → vs.length = ds.length
  | _, _, .nil => rfl
  | _, _, .cons _ l => congrArg (· + 1) (RepL.len l)
theorem RepL.get : ∀ {vs : List V} {ds : List D} {i : Nat} {v : V}, RepL K G vs ds → vs[i]? = some v → ∃ d, ds[i]? = some d ∧ Rep K G v d
  | _, _, _, _, .nil, e => by simp at e
  | _, _, 0, _, .cons h _, e => by
    simp at e
    subst e
    exact ⟨_, rfl, h⟩
  | _, _, i + 1, _, .cons _ l, e => by
    obtain ⟨d, a, b⟩ := RepL.get (i := i) l (by simpa using e)
    exact ⟨d, by simpa using a, b⟩
theorem RepL.get' : ∀ {vs : List V} {ds : List D} {i : Nat} {d : D}, RepL K G vs ds → ds[i]? = some d → ∃ v, vs[i]? = some v ∧ Rep K G v d
  | _, _, _, _, .nil, e => by simp at e
  | _, _, 0, _, .cons h _, e => by
    simp at e
    subst e
    exact ⟨_, rfl, h⟩
  | _, _, i + 1, _, .cons _ l, e => by
    obtain ⟨d, a, b⟩ := RepL.get' (i := i) l (by simpa using e)
    exact ⟨d, by simpa using a, b⟩
theorem RepL.app : ∀ {vs ws : List V} {ds es : List D}, RepL K G vs ds → RepL K G ws es → RepL K G (vs ++ ws) (ds ++ es)
  | _, _, _, _, .nil, r => r
  | _, _, _, _, .cons h l, r => .cons h (RepL.app l r)
theorem RepL.set {v : V} {d : D} (h : Rep K G v d) : ∀ {vs : List V} {ds : List D} (i : Nat), RepL K G vs ds → RepL K G (vs.set i v) (ds.set i d)
  | _, _, _, .nil => .nil
  | _, _, 0, .cons _ l => .cons h l
  | _, _, i + 1, .cons q l => .cons q (RepL.set h i l)
theorem RepL.take : ∀ {vs : List V} {ds : List D} (n : Nat), RepL K G vs ds → RepL K G (vs.take n) (ds.take n)
  | _, _, 0, _ => .nil
  | _, _, _ + 1, .nil => .nil
  | _, _, n + 1, .cons h l => .cons h (RepL.take n l)
theorem RepL.drop : ∀ {vs : List V} {ds : List D} (n : Nat), RepL K G vs ds → RepL K G (vs.drop n) (ds.drop n)
  | _, _, 0, r => r
  | _, _, _ + 1, .nil => .nil
  | _, _, n + 1, .cons _ l => RepL.drop n l
theorem RepL.ints : ∀ {vs : List V} {ns : List Int}, RepL K G vs (ns.map D.int) → vs = ns.map V.int
  | [], [], _ => rfl
  | v :: vs, n :: ns, .cons h l => by
    cases h
    rw [RepL.ints l]
    rfl
theorem RepL.ofInts : ∀ ns : List Int, RepL K G (ns.map V.int) (ns.map D.int)
  | [] => .nil
  | n :: ns => .cons (.int n) (RepL.ofInts ns)
end

/-- what an expression may have done: new objects, in the kept part and beside it -/
structure Ext (G H G' H' : Hp) : Prop where
  gg : Same G G'
  hh : Same H H'
  gh : Same G' H'
  fr : ∀ a, G a = none → G' a ≠ none → H a = none
section
variable {K : PySem.W.Frag} {B G0 G G' G'' H H' H'' : Hp} {env : En} {σ : L2.St}
theorem Ext.refl (h : Same G H) : Ext G H G H := ⟨Same.refl G, Same.refl H, h, fun a e n => absurd e n⟩
theorem Ext.trans (a : Ext G H G' H') (b : Ext G' H' G'' H'') : Ext G H G'' H'' :=
  ⟨a.gg.trans b.gg, a.hh.trans b.hh, b.gh, fun x e n => by
    by_cases h : G' x = none
    · exact a.hh.free (b.fr x h n)
    · exact a.fr x e h⟩
theorem not_some {α : Type} {o : Option α} (h : ∀ x, o = some x → False) : o = none := by
  cases o with
  | none => rfl
  | some x => exact (h x rfl).elim
theorem same_upd {H H' : Hp} {p : Addr} {o : HO} (s : Same H H') (h : H p = none) : Same H (upd H' p o) := fun b u e => by
  rw [upd_ne (ne_of_none e h)]
  exact s b u e
/-- a new object beside the kept part -/
theorem Ext.new {p : Addr} {o : HO} (h : Same G H) (hp : H p = none) : Ext G H G (upd H p o) :=
  ⟨Same.refl G, same_upd (Same.refl H) hp, same_upd h (h.free hp), fun a e n => absurd e n⟩
/-- a new object of the kept part -/
theorem Ext.newG {p : Addr} {o : HO} (h : Same G H) (hp : H p = none) : Ext G H (upd G p o) (upd H p o) :=
  ⟨same_upd (Same.refl G) (h.free hp), same_upd (Same.refl H) hp, fun b u e => by
    by_cases q : b = p
    · subst q
      rw [upd_same] at e ⊢
      exact e
    · rw [upd_ne q] at e ⊢
      exact h b u e, fun a e n => by
    by_cases q : a = p
    · rw [q]; exact hp
    · rw [upd_ne q] at n
      exact absurd e n⟩

def SlOk (K : PySem.W.Frag) (B G H : Hp) : Sl → Option V → Prop
  | .no, _ => True
  | .vl true d, o => ∃ v, o = some v ∧ Rep K G v d
  | .vl false d, o => ∃ v, o = some v ∧ Rep K B v d
  | .ow xs, o => ∃ L vs, o = some (.ref L) ∧ B L = none ∧ G L = none ∧ H L = some (.lst vs) ∧ RepL K G vs xs
structure Rel (K : PySem.W.Frag) (B G0 G : Hp) (env : En) (σ : L2.St) (H : Hp) : Prop where
  g0 : Same G0 G
  gh : Same G H
  bh : Same B H
  fr : ∀ a, G0 a = none → G a ≠ none → B a = none
  len : env.length = σ.length
  sl : ∀ (i : Nat) s o, env[i]? = some s → σ[i]? = some o → SlOk K B G H s o
  ds : ∀ (i j : Nat) xs ys L, i ≠ j → env[i]? = some (.ow xs) → env[j]? = some (.ow ys) → σ[i]? = some (some (.ref L)) → σ[j]? = some (some (.ref L)) → False
theorem SlOk.ext {s : Sl} {o : Option V} (x : Ext G H G' H') (h : SlOk K B G H s o) : SlOk K B G' H' s o := by
  match s, h with
  | .no, _ => exact trivial
  | .vl true d, ⟨v, e, r⟩ => exact ⟨v, e, r.mono x.gg⟩
  | .vl false d, ⟨v, e, r⟩ => exact ⟨v, e, r⟩
  | .ow xs, ⟨L, vs, e, b, g, hl, r⟩ =>
    refine ⟨L, vs, e, b, not_some fun u q => ?_, x.hh _ _ hl, r.mono x.gg⟩
    have := x.fr L g (by rw [q]; exact fun z => nomatch z)
    rw [hl] at this
    cases this
theorem Rel.ext (r : Rel K B G0 G env σ H) (x : Ext G H G' H') : Rel K B G0 G' env σ H' :=
  ⟨r.g0.trans x.gg, x.gh, r.bh.trans x.hh, fun a e n => by
    by_cases h : G a = none
    · exact r.bh.free (x.fr a h n)
    · exact r.fr a e h, r.len, fun i s o e1 e2 => (r.sl i s o e1 e2).ext x, r.ds⟩

/-- how a value lies: behind an expression that began at H -/
def Rp (K : PySem.W.Frag) (B G' H H' : Hp) (u : Vl) (v : V) : Prop := match u.k with
  | .g => Rep K G' v u.d
  | .b => Rep K B v u.d
  | .h => ∃ L vs ds, v = .ref L ∧ u.d = .lst ds ∧ B L = none ∧ G' L = none ∧ H' L = some (.lst vs) ∧ RepL K G' vs ds
  | .o => ∃ L vs ds, v = .ref L ∧ u.d = .lst ds ∧ H L = none ∧ G' L = none ∧ H' L = some (.lst vs) ∧ RepL K G' vs ds
theorem Ext.out {L : Addr} {o : HO} (x : Ext G' H' G'' H'') (g : G' L = none) (h : H' L = some o) : G'' L = none := not_some fun u q => by
  have := x.fr L g (by rw [q]; exact fun z => nomatch z)
  rw [h] at this
  cases this
theorem Rp.mono {u : Vl} {v : V} (x : Ext G' H' G'' H'') (h : Rp K B G' H H' u v) : Rp K B G'' H H'' u v := by
  obtain ⟨k, d⟩ := u
  cases k with
  | g => exact Rep.mono x.gg h
  | b => exact h
  | h =>
    obtain ⟨L, vs, ds, e1, e2, b, g, e3, e4⟩ := h
    exact ⟨L, vs, ds, e1, e2, b, x.out g e3, x.hh _ _ e3, e4.mono x.gg⟩
  | o =>
    obtain ⟨L, vs, ds, e1, e2, e3, e4, e5, e6⟩ := h
    exact ⟨L, vs, ds, e1, e2, e3, x.out e4 e5, x.hh _ _ e5, e6.mono x.gg⟩
/-- made later -/
theorem Rp.from {u : Vl} {v : V} {H0 : Hp} (s : Same H0 H) (h : Rp K B G' H H' u v) : Rp K B G' H0 H' u v := by
  obtain ⟨k, d⟩ := u
  cases k with
  | g => exact h
  | b => exact h
  | h => exact h
  | o =>
    obtain ⟨L, vs, ds, e1, e2, e3, e4, e5, e6⟩ := h
    exact ⟨L, vs, ds, e1, e2, s.free e3, e4, e5, e6⟩
/-- read only -/
theorem Rp.look {u : Vl} {v : V} (r : Rel K B G0 G' env σ H') (h : Rp K B G' H H' u v) : Rep K H' v u.d := by
  obtain ⟨k, d⟩ := u
  cases k with
  | g => exact Rep.mono r.gh h
  | b => exact Rep.mono r.bh h
  | h =>
    obtain ⟨L, vs, ds, e1, e2, _, _, e3, e4⟩ := h
    dsimp only at e2
    subst e1 e2
    exact .lst e3 (e4.mono r.gh)
  | o =>
    obtain ⟨L, vs, ds, e1, e2, e3, e4, e5, e6⟩ := h
    dsimp only at e2
    subst e1 e2
    exact .lst e5 (e6.mono r.gh)
/-- kept from now on -/
theorem Rp.freeze {u : Vl} {v : V} (x : Ext G H G' H') (hk : u.keep = true) (h : Rp K B G' H H' u v) : ∃ G'', Ext G H G'' H' ∧ Same G' G'' ∧ Rep K G'' v u.d := by
  obtain ⟨k, d⟩ := u
  cases k with
  | g => exact ⟨G', x, Same.refl _, h⟩
  | b => exact ⟨G', x, Same.refl _, Rep.flat h hk⟩
  | h =>
    obtain ⟨L, vs, ds, e1, e2, _, _, e3, e4⟩ := h
    dsimp only at e2
    subst e2
    cases hk
  | o =>
    obtain ⟨L, vs, ds, e1, e2, e3, e4, e5, e6⟩ := h
    dsimp only at e2
    subst e1 e2
    have s1 : Same G' (upd G' L (.lst vs)) := same_upd (Same.refl _) e4
    refine ⟨upd G' L (.lst vs), ⟨x.gg.trans s1, x.hh, fun b u e => ?_, fun a e n => ?_⟩, s1, .lst upd_same (e6.mono s1)⟩
    · by_cases q : b = L
      · subst q
        rw [upd_same] at e
        cases e
        exact e5
      · rw [upd_ne q] at e
        exact x.gh b u e
    · by_cases q : a = L
      · rw [q]; exact e3
      · rw [upd_ne q] at n
        exact x.fr a e n
theorem Rep.lst_inv {v : V} {xs : List D} (h : Rep K G v (.lst xs)) : ∃ a vs, v = .ref a ∧ G a = some (.lst vs) ∧ RepL K G vs xs := by
  cases h with
  | lst a b => exact ⟨_, _, rfl, a, b⟩
theorem Rep.tup_inv {v : V} {xs : List D} (h : Rep K G v (.tup xs)) : ∃ a vs, v = .ref a ∧ SqT K G a vs ∧ RepL K G vs xs := by
  cases h with
  | tup a b => exact ⟨_, _, rfl, a, b⟩
theorem Rep.fz_inv {v : V} {xs : List D} (h : Rep K G v (.fz xs)) : ∃ a vs, v = .ref a ∧ SqL K G a vs ∧ RepL K G vs xs := by
  cases h with
  | fz a b => exact ⟨_, _, rfl, a, b⟩
theorem Rep.int_inv {v : V} {i : Int} (h : Rep K G v (.int i)) : v = .int i := by cases h; rfl
theorem Rep.bl_inv {v : V} {b : Bool} (h : Rep K G v (.bl b)) : v = .bl b := by cases h; rfl
theorem Rep.str_inv {v : V} {x : Str} (h : Rep K G v (.str x)) : v = .str x := by cases h; rfl
theorem Rep.non_inv {v : V} (h : Rep K G v .non) : v = .non := by cases h; rfl
/-- a list's items, as they lie -/
theorem Rp.items {u : Vl} {v : V} {xs : List D} (r : Rel K B G0 G' env σ H') (h : Rp K B G' H H' u v) (e : u.d = .lst xs) (hk : u.k.it xs = true) : ∃ a vs, v = .ref a ∧ H' a = some (.lst vs) ∧ RepL K G' vs xs := by
  obtain ⟨k, d⟩ := u
  dsimp only at e hk
  subst e
  cases k with
  | g =>
    obtain ⟨a, vs, e, h1, h2⟩ := Rep.lst_inv h
    exact ⟨a, vs, e, r.gh _ _ h1, h2⟩
  | b =>
    obtain ⟨a, vs, e, h1, h2⟩ := Rep.lst_inv h
    exact ⟨a, vs, e, r.bh _ _ h1, h2.flat hk⟩
  | h =>
    obtain ⟨L, vs, ds, e1, e2, _, _, e3, e4⟩ := h
    cases e2
    exact ⟨L, vs, e1, e3, e4⟩
  | o =>
    obtain ⟨L, vs, ds, e1, e2, _, _, e3, e4⟩ := h
    cases e2
    exact ⟨L, vs, e1, e3, e4⟩
end

/-- the reading te of an expression gives what f says -/
def EvD (K : PySem.W.Frag) (te : TE) (f : En → Res Vl) : Prop := ∀ (B G0 G : Hp) (env : En) (σ : L2.St) (H : Hp) (u : Vl), Rel K B G0 G env σ H → f env = .ok u → ∀ Q : VK, (∀ G' H' v, Ext G H G' H' → Rp K B G' H H' u v → Q v H') → te σ H Q
def EvT (K : PySem.W.Frag) (tt : TT) (f : En → Res Bool) : Prop := ∀ (B G0 G : Hp) (env : En) (σ : L2.St) (H : Hp) (b : Bool), Rel K B G0 G env σ H → f env = .ok b → ∀ Q : Bool → Hp → Prop, (∀ G' H', Ext G H G' H' → Q b H') → tt σ H Q
/-- arguments: what was new is kept -/
def Vl.arg : Vl → Vl
  | ⟨.o, d⟩ => ⟨.g, d⟩
  | u => u
def RpL (K : PySem.W.Frag) (B G' H' : Hp) : List Vl → List V → Prop
  | [], vs => vs = []
  | u :: us, vs => ∃ v r, vs = v :: r ∧ Rp K B G' H' H' u v ∧ RpL K B G' H' us r
def EvA (K : PySem.W.Frag) (ta : TA) (f : En → Res (List Vl)) : Prop := ∀ (B G0 G : Hp) (env : En) (σ : L2.St) (H : Hp) (us : List Vl), Rel K B G0 G env σ H → f env = .ok us → ∀ Q : List V → Hp → Prop, (∀ G' H' vs, Ext G H G' H' → RpL K B G' H' us vs → Q vs H') → ta σ H Q
structure DE (X : Cx) (e : Expr) (te : TE) (f : En → Res Vl) : Prop where
  pe : PE X e te
  ev : EvD X.K te f
structure DT (X : Cx) (e : Expr) (tt : TT) (f : En → Res Bool) : Prop where
  pt : PT X e tt
  ev : EvT X.K tt f
structure DW (X : Cx) (e : Expr) (tt : TT) (f : En → Res Bool) : Prop where
  pw : PW X e tt
  ev : EvT X.K tt f
structure DA (X : Cx) (es : List Expr) (ta : TA) (f : En → Res (List Vl)) : Prop where
  pa : PA X es ta
  ev : EvA X.K ta f
section
variable {K : PySem.W.Frag} {B G0 G G' G'' H H' H'' : Hp} {env : En} {σ : L2.St}
theorem Rp.arg {u : Vl} {v : V} (x : Ext G H G' H') (h : Rp K B G' H H' u v) : ∃ G'', Ext G H G'' H' ∧ Rp K B G'' H' H' u.arg v := by
  obtain ⟨k, d⟩ := u
  cases k with
  | g => exact ⟨G', x, h⟩
  | b => exact ⟨G', x, h⟩
  | h => exact ⟨G', x, h⟩
  | o =>
    obtain ⟨G2, x2, _, h2⟩ := h.freeze x rfl
    exact ⟨G2, x2, h2⟩
theorem Rp.own {u : Vl} {v : V} (h : Rp K B G' H' H' u v) (k : u.k ≠ .o) : Rp K B G' H H' u v := by
  obtain ⟨k', d⟩ := u
  cases k' with
  | g => exact h
  | b => exact h
  | h => exact h
  | o => exact absurd rfl k
theorem Vl.arg_k (u : Vl) : u.arg.k ≠ .o := by
  obtain ⟨k, d⟩ := u
  cases k <;> exact fun z => nomatch z
theorem Vl.arg_d (u : Vl) : u.arg.d = u.d := by
  obtain ⟨k, d⟩ := u
  cases k <;> rfl
/-- the operands of a two-place operation -/
theorem ev_two {ta tb : TE} {f g : En → Res Vl} (ha : EvD K ta f) (hb : EvD K tb g) {u w : Vl} (r : Rel K B G0 G env σ H) (e1 : f env = .ok u) (e2 : g env = .ok w) {R : V → V → Hp → Prop}
    (k : ∀ G' H' x y, Ext G H G' H' → Rel K B G0 G' env σ H' → Rp K B G' H H' u x → Rp K B G' H H' w y → R x y H') : ta σ H fun x H1 => tb σ H1 fun y H2 => R x y H2 :=
  ha B G0 G env σ H u r e1 _ fun G1 H1 x x1 h1 => hb B G0 G1 env σ H1 w (r.ext x1) e2 _ fun G2 H2 y x2 h2 => k G2 H2 x y (x1.trans x2) ((r.ext x1).ext x2) (h1.mono x2) (h2.from x1.hh)
end

/-! ### expressions -/
def cE (d : D) : En → Res Vl := fun _ => .ok ⟨.g, d⟩
def kd : Bool → Kd
  | true => .g
  | false => .b
def nmE (i : Nat) : En → Res Vl := fun env => match env[i]? with
  | some (.vl g d) => .ok ⟨kd g, d⟩
  | some (.ow xs) => .ok ⟨.h, .lst xs⟩
  | _ => .no
def binE (p : Vl → Vl → Res Vl) (f g : En → Res Vl) : En → Res Vl := fun env => (f env).bind fun x => (g env).bind fun y => p x y
def unE (p : Vl → Res Vl) (f : En → Res Vl) : En → Res Vl := fun env => (f env).bind p
def nilA : En → Res (List Vl) := fun _ => .ok []
def consA (f : En → Res Vl) (g : En → Res (List Vl)) : En → Res (List Vl) := fun env => (f env).bind fun x => (g env).bind fun xs => .ok (x.arg :: xs)
def callE (p : List Vl → Res Vl) (f : En → Res (List Vl)) : En → Res Vl := fun env => (f env).bind p
section
variable {X : Cx} {pos : Pos}
theorem ev_c {K : PySem.W.Frag} {d : D} {v : V} (h : ∀ G, Rep K G v d) : EvD K (tC v) (cE d) := fun B G0 G env σ H u r e Q q => by
  cases e
  exact q G H v (Ext.refl r.gh) (h G)
theorem de_int {i : Int} {j} : DE X (.Constant (.int i) j pos) (tC (.int i)) (cE (.int i)) := ⟨pe_int, ev_c fun _ => .int i⟩
theorem de_bl {b : Bool} {j} : DE X (.Constant (.bool b) j pos) (tC (.bl b)) (cE (.bl b)) := ⟨pe_bl, ev_c fun _ => .bl b⟩
theorem de_non {j} : DE X (.Constant .none j pos) (tC .non) (cE .non) := ⟨pe_non, ev_c fun _ => .non⟩
theorem de_str {x : Str} {j} : DE X (.Constant (.str x) j pos) (tC (.str x)) (cE (.str x)) := ⟨pe_str, ev_c fun _ => .str x⟩
theorem ev_nm {K : PySem.W.Frag} (i : Nat) : EvD K (tVar i) (nmE i) := fun B G0 G env σ H u r e Q q => by
  have hl := r.len
  unfold nmE at e
  cases es : env[i]? with
  | none => rw [es] at e; cases e
  | some s =>
    rw [es] at e
    have hi : i < σ.length := by
      have := (List.getElem?_eq_some_iff.mp es).1
      omega
    have eo : σ[i]? = some σ[i] := List.getElem?_eq_getElem hi
    have h := r.sl i s _ es eo
    match s, h, e with
    | .vl true d, ⟨v, e1, h1⟩, e =>
      cases e
      exact ⟨v, by rw [eo, e1], q G H v (Ext.refl r.gh) h1⟩
    | .vl false d, ⟨v, e1, h1⟩, e =>
      cases e
      exact ⟨v, by rw [eo, e1], q G H v (Ext.refl r.gh) h1⟩
    | .ow xs, ⟨L, vs, e1, h1⟩, e =>
      cases e
      exact ⟨.ref L, by rw [eo, e1], q G H _ (Ext.refl r.gh) ⟨L, vs, xs, rfl, rfl, h1⟩⟩
theorem de_nm (i : Nat) {x : Str} (hN : X.N[i]? = some x := by rfl) (hv : Vis X.env.scope x := by first | exact Or.inl rfl | exact Or.inr (Or.inl rfl) | exact Or.inr (Or.inr rfl)) (hd : (x == ("__debug__" : Str)) = false := by decide)
    (hcd : (x == ("__classdict__" : Str)) = false := by decide) : DE X (.Name x pos) (tVar i) (nmE i) := ⟨pe_var hN hv hd hcd, ev_nm i⟩
end

/-- a two-place reading does what p says -/
def Snd2 (K : PySem.W.Frag) (r : R2) (p : Vl → Vl → Res Vl) : Prop := ∀ (B G0 G G' : Hp) (env : En) (σ : L2.St) (H H' : Hp) (u w z : Vl) (x y : V) (Q : VK), Rel K B G0 G' env σ H' → Rp K B G' H H' u x → Rp K B G' H H' w y → p u w = .ok z →
  (∀ G2 H2 v, Ext G' H' G2 H2 → Rp K B G2 H' H2 z v → Q v H2) → r x y H' Q
theorem ev_bin {K : PySem.W.Frag} {r : R2} {p : Vl → Vl → Res Vl} {ta tb : TE} {f g : En → Res Vl} (s : Snd2 K r p) (ha : EvD K ta f) (hb : EvD K tb g) : EvD K (tOp r ta tb) (binE p f g) := fun B G0 G env σ H z rl e Q q => by
  obtain ⟨u, e1, e⟩ := Res.bind_eq e
  obtain ⟨w, e2, e⟩ := Res.bind_eq e
  exact ev_two ha hb rl e1 e2 fun G' H' x y xt r' h1 h2 => s B G0 G G' env σ H H' u w z x y Q r' h1 h2 e fun G2 H2 v x2 h3 => q G2 H2 v (xt.trans x2) (h3.from xt.hh)
theorem Snd2.or1 {K : PySem.W.Frag} {r r' : R2} {p : Vl → Vl → Res Vl} (h : Snd2 K r p) : Snd2 K (fun x y H Q => r x y H Q ∨ r' x y H Q) p := fun B G0 G G' env σ H H' u w z x y Q a b c d e => .inl (h B G0 G G' env σ H H' u w z x y Q a b c d e)
section
variable {X : Cx} {pos : Pos} {a b : Expr} {ta tb : TE} {f g : En → Res Vl}
theorem de_bin {op : Operator} {r : R2} {p : Vl → Vl → Res Vl} (ho : OpR X (binaryOp op) r) (s : Snd2 X.K r p) (ha : DE X a ta f) (hb : DE X b tb g) : DE X (.BinOp a op b pos) (tOp r ta tb) (binE p f g) := ⟨pe_op ho ha.pe hb.pe, ev_bin s ha.ev hb.ev⟩
theorem de_cmp {op : CmpOp} {r : R2} {p : Vl → Vl → Res Vl} (ho : OpR X (compareOp op) r) (s : Snd2 X.K r p) (ha : DE X a ta f) (hb : DE X b tb g) (hm : behindInMarks op b = false) : DE X (.Compare a [op] [b] pos) (tOp r ta tb) (binE p f g) :=
  ⟨pe_cmpR ho ha.pe hb.pe hm, ev_bin s ha.ev hb.ev⟩
end
end DL

namespace DL
open PySem L2
/-! ### operators by data -/
def intP (g : Int → Int → Res D) : Vl → Vl → Res Vl := fun u w => match u.d, w.d with
  | .int i, .int j => (g i j).bind fun d => .ok ⟨.g, d⟩
  | _, _ => .no
def catP : Vl → Vl → Res Vl := fun u w => match u.d, w.d with
  | .lst xs, .lst ys => if u.k.it xs = true ∧ w.k.it ys = true ∧ xs.length + ys.length ≤ sizeLine then .ok ⟨.o, .lst (xs ++ ys)⟩ else .no
  | _, _ => .no
def scatP : Vl → Vl → Res Vl := fun u w => match u.d, w.d with
  | .str a, .str b => if a.length + b.length ≤ sizeLine then .ok ⟨.g, .str (a ++ b)⟩ else .no
  | _, _ => .no
def addI (i j : Int) : Res D := .ok (.int (i + j))
def addP : Vl → Vl → Res Vl := fun u w => match u.d, w.d with
  | .int _, _ => intP addI u w
  | .lst _, _ => catP u w
  | .str _, _ => scatP u w
  | _, _ => .no
def subI (i j : Int) : Res D := .ok (.int (i - j))
instance (i j : Int) : Decidable (CMulW i j) := by unfold CMulW; infer_instance
instance (i j : Int) : Decidable (CDivW i j) := by unfold CDivW; infer_instance
instance (i j : Int) : Decidable (CPow i j) := by unfold CPow; infer_instance
instance (i j : Int) : Decidable (CDiv i j) := by unfold CDiv; infer_instance
def mulI (i j : Int) : Res D := if CMulW i j then .ok (.int (i * j)) else .no
def divI (i j : Int) : Res D := if CDivW i j then .ok (.int (i / j)) else .no
def modI (i j : Int) : Res D := if 0 < j then .ok (.int (i % j)) else .no
def powI (i j : Int) : Res D := if CPow i j then .ok (.int (i ^ j.toNat)) else .no
def ltI (i j : Int) : Res D := .ok (.bl (decide (i < j)))
def leI (i j : Int) : Res D := .ok (.bl (decide (i ≤ j)))
def gtI (i j : Int) : Res D := .ok (.bl (decide (j < i)))
def geI (i j : Int) : Res D := .ok (.bl (decide (j ≤ i)))
section
variable {K : PySem.W.Frag}
theorem intP_inv {g : Int → Int → Res D} {u w z : Vl} (h : intP g u w = .ok z) : ∃ i j d, u.d = .int i ∧ w.d = .int j ∧ g i j = .ok d ∧ z = ⟨.g, d⟩ := by
  unfold intP at h
  split at h
  · rename_i i j e1 e2
    obtain ⟨d, h1, h2⟩ := Res.bind_eq h
    cases h2
    exact ⟨i, j, d, e1, e2, h1, rfl⟩
  · cases h
/-- readings of two ints -/
theorem snd_I0 {g : Int → Int → V} {p : Int → Int → Res D} (h : ∀ i j d, p i j = .ok d → ∀ G, Rep K G (g i j) d) : Snd2 K (rI0 g) (intP p) := fun B G0 G G' env σ H H' u w z x y Q rl hu hw e q => by
  obtain ⟨i, j, d, e1, e2, e3, e4⟩ := intP_inv e
  subst e4
  have a := hu.look rl
  have b := hw.look rl
  rw [e1] at a
  rw [e2] at b
  exact ⟨i, j, a.int_inv, b.int_inv, q G' H' _ (Ext.refl rl.gh) (h i j d e3 G')⟩
theorem snd_I {C : Int → Int → Prop} {g : Int → Int → V} {p : Int → Int → Res D} (h : ∀ i j d, p i j = .ok d → C i j ∧ ∀ G, Rep K G (g i j) d) : Snd2 K (rI C g) (intP p) := fun B G0 G G' env σ H H' u w z x y Q rl hu hw e q => by
  obtain ⟨i, j, d, e1, e2, e3, e4⟩ := intP_inv e
  subst e4
  have a := hu.look rl
  have b := hw.look rl
  rw [e1] at a
  rw [e2] at b
  exact ⟨i, j, a.int_inv, b.int_inv, (h i j d e3).1, q G' H' _ (Ext.refl rl.gh) ((h i j d e3).2 G')⟩
theorem if_ok {α : Type} {c : Prop} [Decidable c] {a b : α} (h : (if c then Res.ok a else Res.no) = Res.ok b) : c ∧ a = b := by
  by_cases hc : c
  · rw [if_pos hc] at h
    cases h
    exact ⟨hc, rfl⟩
  · rw [if_neg hc] at h
    cases h
theorem snd_sub : Snd2 K (rI0 fun i j => .int (i - j)) (intP subI) := snd_I0 fun i j d e G => by cases e; exact .int _
theorem snd_add : Snd2 K (rI0 fun i j => .int (i + j)) (intP addI) := snd_I0 fun i j d e G => by cases e; exact .int _
theorem snd_mul : Snd2 K (rI CMulW fun i j => .int (i * j)) (intP mulI) := snd_I fun i j d e => by obtain ⟨c, rfl⟩ := if_ok e; exact ⟨c, fun G => .int _⟩
theorem snd_div : Snd2 K (rI CDivW fun i j => .int (i / j)) (intP divI) := snd_I fun i j d e => by obtain ⟨c, rfl⟩ := if_ok e; exact ⟨c, fun G => .int _⟩
theorem snd_mod : Snd2 K (rI (fun _ j => 0 < j) fun i j => .int (i % j)) (intP modI) := snd_I fun i j d e => by obtain ⟨c, rfl⟩ := if_ok e; exact ⟨c, fun G => .int _⟩
theorem snd_pow : Snd2 K (rI CPow fun i j => .int (i ^ j.toNat)) (intP powI) := snd_I fun i j d e => by obtain ⟨c, rfl⟩ := if_ok e; exact ⟨c, fun G => .int _⟩
theorem snd_lt : Snd2 K (rI0 fun i j => .bl (decide (i < j))) (intP ltI) := snd_I0 fun i j d e G => by cases e; exact .bl _
theorem snd_le : Snd2 K (rI0 fun i j => .bl (decide (i ≤ j))) (intP leI) := snd_I0 fun i j d e G => by cases e; exact .bl _
theorem snd_gt : Snd2 K (rI0 fun i j => .bl (decide (j < i))) (intP gtI) := snd_I0 fun i j d e G => by cases e; exact .bl _
theorem snd_ge : Snd2 K (rI0 fun i j => .bl (decide (j ≤ i))) (intP geI) := snd_I0 fun i j d e G => by cases e; exact .bl _
/-- a new list -/
theorem new_list {B G0 G' H' : Hp} {env : En} {σ : L2.St} {Q : VK} {vs : List V} {ds : List D} (rl : Rel K B G0 G' env σ H') (r : RepL K G' vs ds) (q : ∀ G2 H2 v, Ext G' H' G2 H2 → Rp K B G2 H' H2 ⟨.o, .lst ds⟩ v → Q v H2) : ∀ p, H' p = none → Q (.ref p) (upd H' p (.lst vs)) := fun p hp =>
  q G' _ _ (Ext.new rl.gh hp) ⟨p, vs, ds, rfl, rfl, hp, rl.gh.free hp, upd_same, r⟩
theorem new_tup {B G0 G' H' : Hp} {env : En} {σ : L2.St} {Q : VK} {vs : List V} {ds : List D} (rl : Rel K B G0 G' env σ H') (r : RepL K G' vs ds) (q : ∀ G2 H2 v, Ext G' H' G2 H2 → Rp K B G2 H' H2 ⟨.g, .tup ds⟩ v → Q v H2) : ∀ p, H' p = none → Q (.ref p) (upd H' p (.tup vs)) := fun p hp =>
  q _ _ _ (Ext.newG rl.gh hp) (.tup (SqT.of upd_same) (r.mono (same_upd (Same.refl _) (rl.gh.free hp))))
theorem snd_cat : Snd2 K rCat catP := fun B G0 G G' env σ H H' u w z x y Q rl hu hw e q => by
  unfold catP at e
  split at e
  · rename_i xs ys e1 e2
    obtain ⟨⟨c1, c2, c3⟩, rfl⟩ := if_ok e
    obtain ⟨a, vs, rfl, h1, r1⟩ := hu.items rl e1 c1
    obtain ⟨b, ws, rfl, h2, r2⟩ := hw.items rl e2 c2
    exact ⟨a, b, vs, ws, rfl, rfl, h1, h2, by rw [r1.len, r2.len]; exact c3, new_list rl (r1.app r2) q⟩
  · cases e
theorem snd_scat : Snd2 K (fun x y H Q => ∃ i j, x = .str i ∧ y = .str j ∧ i.length + j.length ≤ sizeLine ∧ Q (.str (i ++ j)) H) scatP := fun B G0 G G' env σ H H' u w z x y Q rl hu hw e q => by
  unfold scatP at e
  split at e
  · rename_i i j e1 e2
    obtain ⟨c, rfl⟩ := if_ok e
    have a := hu.look rl
    have b := hw.look rl
    rw [e1] at a
    rw [e2] at b
    exact ⟨i, j, a.str_inv, b.str_inv, c, q G' H' _ (Ext.refl rl.gh) (.str _)⟩
  · cases e
def rAdd3 : R2 := fun x y H Q => rI0 (fun i j => .int (i + j)) x y H Q ∨ (rCat x y H Q ∨ ∃ i j, x = .str i ∧ y = .str j ∧ i.length + j.length ≤ sizeLine ∧ Q (.str (i ++ j)) H)
theorem op_add3 {X : Cx} : OpR X (binaryOp .Add) rAdd3 := op_add.or (op_cat.or op_add_str)
theorem snd_add3 : Snd2 K rAdd3 addP := fun B G0 G G' env σ H H' u w z x y Q rl hu hw e q => by
  unfold addP at e
  split at e
  · exact .inl (snd_add B G0 G G' env σ H H' u w z x y Q rl hu hw e q)
  · exact .inr (.inl (snd_cat B G0 G G' env σ H H' u w z x y Q rl hu hw e q))
  · exact .inr (.inr (snd_scat B G0 G G' env σ H H' u w z x y Q rl hu hw e q))
  · cases e
end
section
variable {X : Cx} {pos : Pos} {a b : Expr} {ta tb : TE} {f g : En → Res Vl}
theorem de_add (ha : DE X a ta f) (hb : DE X b tb g) : DE X (.BinOp a .Add b pos) (tOp rAdd3 ta tb) (binE addP f g) := de_bin op_add3 snd_add3 ha hb
theorem de_sub (ha : DE X a ta f) (hb : DE X b tb g) : DE X (.BinOp a .Sub b pos) (tOp (rI0 fun i j => .int (i - j)) ta tb) (binE (intP subI) f g) := de_bin op_sub snd_sub ha hb
theorem de_mul (ha : DE X a ta f) (hb : DE X b tb g) : DE X (.BinOp a .Mult b pos) (tOp (rI CMulW fun i j => .int (i * j)) ta tb) (binE (intP mulI) f g) := de_bin op_mulW snd_mul ha hb
theorem de_div (ha : DE X a ta f) (hb : DE X b tb g) : DE X (.BinOp a .FloorDiv b pos) (tOp (rI CDivW fun i j => .int (i / j)) ta tb) (binE (intP divI) f g) := de_bin op_fdivW snd_div ha hb
theorem de_mod (ha : DE X a ta f) (hb : DE X b tb g) : DE X (.BinOp a .Mod b pos) (tOp (rI (fun _ j => 0 < j) fun i j => .int (i % j)) ta tb) (binE (intP modI) f g) := de_bin op_mod snd_mod ha hb
theorem de_pow (ha : DE X a ta f) (hb : DE X b tb g) : DE X (.BinOp a .Pow b pos) (tOp (rI CPow fun i j => .int (i ^ j.toNat)) ta tb) (binE (intP powI) f g) := de_bin op_pow snd_pow ha hb
theorem de_lt (ha : DE X a ta f) (hb : DE X b tb g) : DE X (.Compare a [.Lt] [b] pos) (tOp (rI0 fun i j => .bl (decide (i < j))) ta tb) (binE (intP ltI) f g) := de_cmp op_lt snd_lt ha hb (nomark _)
theorem de_le (ha : DE X a ta f) (hb : DE X b tb g) : DE X (.Compare a [.LtE] [b] pos) (tOp (rI0 fun i j => .bl (decide (i ≤ j))) ta tb) (binE (intP leI) f g) := de_cmp op_le snd_le ha hb (nomark _)
theorem de_gt (ha : DE X a ta f) (hb : DE X b tb g) : DE X (.Compare a [.Gt] [b] pos) (tOp (rI0 fun i j => .bl (decide (j < i))) ta tb) (binE (intP gtI) f g) := de_cmp op_gt snd_gt ha hb (nomark _)
theorem de_ge (ha : DE X a ta f) (hb : DE X b tb g) : DE X (.Compare a [.GtE] [b] pos) (tOp (rI0 fun i j => .bl (decide (j ≤ i))) ta tb) (binE (intP geI) f g) := de_cmp op_ge snd_ge ha hb (nomark _)
end

/-! ### == -/
mutual
def toPy : D → PyData
  | .non => .none
  | .bl b => .bool b
  | .int i => .int i
  | .str x => .str x
  | .lst xs => .list (toPyL xs)
  | .tup xs => .tuple (toPyL xs)
  | .fz xs => .list (toPyL xs)
def toPyL : List D → List PyData
  | [] => []
  | x :: xs => toPy x :: toPyL xs
end
mutual
theorem Rep.dp {K : PySem.W.Frag} {G : Hp} : ∀ {v : V} {d : D}, Rep K G v d → Dp K G v (toPy d)
  | _, _, .non => .non
  | _, _, .bl b => .bl b
  | _, _, .int i => .int i
  | _, _, .str x => .str x
  | _, _, .lst h l => .lst (SqL.of h) (RepL.dp l)
  | _, _, .tup h l => .tup h (RepL.dp l)
  | _, _, .fz h l => .lst h (RepL.dp l)
theorem RepL.dp {K : PySem.W.Frag} {G : Hp} : ∀ {vs : List V} {ds : List D}, RepL K G vs ds → DpAll K G vs (toPyL ds)
  | _, _, .nil => .nil
  | _, _, .cons h l => .cons (Rep.dp h) (RepL.dp l)
end
def scalD : D → D → Option Bool
  | .int i, .int j => some (decide (i = j))
  | .str x, .str y => some (decide (x = y))
  | .bl a, .bl b => some (decide (a = b))
  | .non, .non => some true
  | .non, .int _ => some false
  | .int _, .non => some false
  | .non, .str _ => some false
  | .str _, .non => some false
  | .int _, .str _ => some false
  | .str _, .int _ => some false
  | _, _ => none
def eqB (neg : Bool) (u w : D) : Res Bool := match scalD u w with
  | some b => .ok (if neg then !b else b)
  | none => if SeqAt.shaped (toPy u) = true ∧ SeqAt.shaped (toPy w) = true then .ok (if neg then !PyData.eqv (toPy u) (toPy w) else PyData.eqv (toPy u) (toPy w)) else .no
def eqP (neg : Bool) : Vl → Vl → Res Vl := fun u w => (eqB neg u.d w.d).bind fun b => .ok ⟨.g, .bl b⟩
def rEq2 (K : PySem.W.Frag) : R2 := fun x y H Q => rEq x y H Q ∨ rEqD K x y H Q
def rNe2 (K : PySem.W.Frag) : R2 := fun x y H Q => rNe x y H Q ∨ rNeD K x y H Q
theorem scalD_V {K : PySem.W.Frag} {G G' : Hp} {x y : V} {d e : D} {b : Bool} (hx : Rep K G x d) (hy : Rep K G' y e) (h : scalD d e = some b) : scal x y = true ∧ decide (x = y) = b := by
  cases hx <;> cases hy <;> first
    | (simp [scalD] at h; done)
    | (simp [scalD] at h; subst h; simp [scal])
theorem snd_eq {K : PySem.W.Frag} : Snd2 K (rEq2 K) (eqP false) := fun B G0 G G' env σ H H' u w z x y Q rl hu hw e q => by
  obtain ⟨b, e1, e2⟩ := Res.bind_eq e
  cases e2
  have a := hu.look rl
  have c := hw.look rl
  unfold eqB at e1
  split at e1
  · rename_i b' es
    cases e1
    obtain ⟨s1, s2⟩ := scalD_V a c es
    exact .inl ⟨s1, by rw [s2]; exact q G' H' _ (Ext.refl rl.gh) (.bl _)⟩
  · obtain ⟨⟨c1, c2⟩, rfl⟩ := if_ok e1
    exact .inr ⟨_, _, a.dp, c.dp, c1, c2, q G' H' _ (Ext.refl rl.gh) (.bl _)⟩
theorem snd_ne {K : PySem.W.Frag} : Snd2 K (rNe2 K) (eqP true) := fun B G0 G G' env σ H H' u w z x y Q rl hu hw e q => by
  obtain ⟨b, e1, e2⟩ := Res.bind_eq e
  cases e2
  have a := hu.look rl
  have c := hw.look rl
  unfold eqB at e1
  split at e1
  · rename_i b' es
    cases e1
    obtain ⟨s1, s2⟩ := scalD_V a c es
    exact .inl ⟨s1, by rw [s2]; exact q G' H' _ (Ext.refl rl.gh) (.bl _)⟩
  · obtain ⟨⟨c1, c2⟩, rfl⟩ := if_ok e1
    exact .inr ⟨_, _, a.dp, c.dp, c1, c2, q G' H' _ (Ext.refl rl.gh) (.bl _)⟩
/-! ### is -/
def isP (neg : Bool) : Vl → Vl → Res Vl := fun u w => match w.d, u.d with
  | .non, .non => .ok ⟨.g, .bl (!neg)⟩
  | .non, _ => .ok ⟨.g, .bl neg⟩
  | .bl b, .bl a => .ok ⟨.g, .bl (if neg then !decide (a = b) else decide (a = b))⟩
  | .bl _, _ => .ok ⟨.g, .bl neg⟩
  | _, _ => .no
def rIs (neg : Bool) : R2 := fun x y H Q => (y = .non ∨ ∃ b, y = .bl b) ∧ Q (.bl (if neg then !decide (x = y) else decide (x = y))) H
theorem is_plain {x y : V} {v u : Value} (rx : RelV x v) (ry : RelV y u) (h : y = .non ∨ ∃ b, y = .bl b) : plainIs v u = true ∧ (v == u) = decide (x = y) := by
  rcases h with rfl | ⟨b, rfl⟩
  · cases ry
    cases x <;> first
      | (cases rx; exact ⟨rfl, rfl⟩)
      | (obtain ⟨t, rfl⟩ := rx; exact ⟨rfl, rfl⟩)
  · cases (show u = Value.bool b from ry)
    cases x <;> first
      | (obtain ⟨t, rfl⟩ := rx; exact ⟨rfl, rfl⟩)
      | (rename_i a; cases (show v = Value.bool a from rx); refine ⟨rfl, ?_⟩; rw [Bool.eq_iff_iff]; simp)
      | (cases rx; exact ⟨rfl, rfl⟩)
theorem op_is {X : Cx} : OpR X (compareOp .Is) (rIs false) := fun pins s σ H x y v u Q I rx ry ⟨h, q⟩ => by
  obtain ⟨h1, h2⟩ := is_plain rx ry h
  exact wpAny_is_plain h1 (fin_bl I q h2.symm)
theorem op_isNot {X : Cx} : OpR X (compareOp .IsNot) (rIs true) := fun pins s σ H x y v u Q I rx ry ⟨h, q⟩ => by
  obtain ⟨h1, h2⟩ := is_plain rx ry h
  exact wpAny_isNot_plain h1 (fin_bl I q (by rw [h2]; rfl))
theorem snd_is {K : PySem.W.Frag} (neg : Bool) : Snd2 K (rIs neg) (isP neg) := fun B G0 G G' env σ H H' u w z x y Q rl hu hw e q => by
  have a := hu.look rl
  have c := hw.look rl
  have fin : ∀ b, z = ⟨.g, .bl b⟩ → Q (.bl b) H' := fun b e => by
    subst e
    exact q G' H' _ (Ext.refl rl.gh) (.bl _)
  obtain ⟨ku, du⟩ := u
  obtain ⟨kw, dw⟩ := w
  dsimp only [Vl.d] at a c
  unfold isP at e
  cases c with
  | non =>
    refine ⟨.inl rfl, fin _ ?_⟩
    cases a <;> (injection e with e; rw [← e]; cases neg <;> simp)
  | bl b =>
    refine ⟨.inr ⟨b, rfl⟩, fin _ ?_⟩
    cases a <;> (injection e with e; rw [← e]; cases neg <;> simp)
  | _ => cases e
section
variable {X : Cx} {pos : Pos} {a b : Expr} {ta tb : TE} {f g : En → Res Vl}
theorem de_eq (hu : X.A.units + 64 < cLine) (ha : DE X a ta f) (hb : DE X b tb g) : DE X (.Compare a [.Eq] [b] pos) (tOp (fun x y H Q => rEq x y H Q ∨ rEqD X.K x y H Q) ta tb) (binE (eqP false) f g) := de_cmp (op_eq.or (op_eqD hu)) snd_eq ha hb (nomark _)
theorem de_ne (hu : X.A.units + 64 < cLine) (ha : DE X a ta f) (hb : DE X b tb g) : DE X (.Compare a [.NotEq] [b] pos) (tOp (fun x y H Q => rNe x y H Q ∨ rNeD X.K x y H Q) ta tb) (binE (eqP true) f g) := de_cmp (op_ne.or (op_neD hu)) snd_ne ha hb (nomark _)
theorem de_is (ha : DE X a ta f) (hb : DE X b tb g) : DE X (.Compare a [.Is] [b] pos) (tOp (rIs false) ta tb) (binE (isP false) f g) := de_cmp op_is (snd_is false) ha hb (nomark _)
theorem de_isNot (ha : DE X a ta f) (hb : DE X b tb g) : DE X (.Compare a [.IsNot] [b] pos) (tOp (rIs true) ta tb) (binE (isP true) f g) := de_cmp op_isNot (snd_is true) ha hb (nomark _)
end
end DL

namespace DL
open PySem L2 PyProof.Rows
section
variable {prog : Program} {w : World} {A : Around} {E : Value → Shared → Prop} {s : Shared} {l : Addr} {its : List Value} {ns : List Int} {Q : Value → Shared → Prop}
theorem tup_lt {l : Addr} {its : Array Value} (hl : s.heap.IsTuple l its) : l < s.heap.objs.size := by obtain ⟨_, e, _⟩ := hl; exact Heap.lt_size e
theorem sum_tupRaw (hh : A.handled = none) (hl : s.heap.IsTuple l its.toArray) (hi : IntsAre its ns)
    (h : ∀ h' tk t', (∀ b o, s.heap.get? b = some o → h'.get? b = some o) → Q (.int ns.sum t') { s with heap := h', toks := tk }) : wpAny (model prog w) A (call (.builtin "sum") [.ref l]) Q E s := by
  obtain ⟨xs, e⟩ := hi.allInts.items
  have hn : numsOf (intItems xs).toList = ns := by rw [← e]; exact hi.numsOf
  rw [nums_intItems] at hn
  rw [e] at hl
  have hlt := tup_lt hl
  refine call_sum_walkG (wpAny_pyIter_tuple hl ?_)
  refine ⟨_, _, _, _, _, _, numAt xs, rfl, Walks.tuple (A := A.in1) hh _ l (Nat.ne_of_lt hlt) (intItems xs), ⟨⟨_, Heap.get?_push_size _ rfl, rfl, rfl⟩, hl.push _⟩, fun b hb => ?_, (fun _ _ => intItems_at), fun h' tk t' hk => ?_⟩
  · show b < (s.heap.push _).objs.size
    rw [Heap.size_push]
    rcases List.mem_cons.mp hb with rfl | hb
    · exact Nat.lt_succ_self _
    · rcases List.mem_cons.mp hb with rfl | hb
      · exact Nat.lt_succ_of_lt hlt
      · cases hb
  · have := h h' tk t' fun b o e => by
      refine hk b o (fun hm => ?_) (Heap.get?_push_of_some _ e)
      rcases List.mem_cons.mp hm with e1 | hm
      · exact absurd (e1 ▸ Heap.lt_size e) (Nat.lt_irrefl _)
      · cases hm
    have e2 : preSum (numAt xs) (intItems xs).size = ns.sum := by
      rw [preSum_eq, List.take_of_length_le (by simp [intItems]), hn]
    rw [e2]
    exact this
end
def rSumT (K : PySem.W.Frag) : List V → Hp → VK → Prop := fun vs H Q => ∃ (a : Addr) (ns : List Int), vs = [V.ref a] ∧ SqT K H a (ns.map V.int) ∧ Q (.int ns.sum) H
theorem cr_sumT {X : Cx} (hc : X.calm = true) : CallR X (.builtin "sum") (rSumT X.K) := by
  intro pins s σ H vs us Q I r h
  obtain ⟨a, ns, rfl, hs, q⟩ := h
  obtain ⟨its, rv, hl, _⟩ := I.tuple hs
  obtain ⟨o, h1, h2, n, h3⟩ := hl
  have hl : s.heap.IsTuple a its.toArray := ⟨o, h1, h2, n, h3⟩
  rw [Vals.ref1 r]
  exact sum_tupRaw (I.ok.hd hc) hl rv.ints fun h' tk t' hk => ⟨.int _, H, I.kept hk, ⟨_, rfl⟩, q⟩
def rSum2 (K : PySem.W.Frag) : List V → Hp → VK → Prop := fun xs H Q => rSum K xs H Q ∨ rSumT K xs H Q
end DL
namespace DL
open PySem L2
/-! ### tests -/
def boolD : D → Res Bool
  | .bl b => .ok b
  | _ => .no
def valT (f : En → Res Vl) : En → Res Bool := fun env => (f env).bind fun u => boolD u.d
def andT (f g : En → Res Bool) : En → Res Bool := fun env => (f env).bind fun b => match b with
  | true => g env
  | false => .ok false
def orT (f g : En → Res Bool) : En → Res Bool := fun env => (f env).bind fun b => match b with
  | true => .ok true
  | false => g env
def notT (f : En → Res Bool) : En → Res Bool := fun env => (f env).bind fun b => .ok (!b)
def truD : D → Res Bool
  | .non => .ok false
  | .bl b => .ok b
  | .int i => .ok (i != 0)
  | .str x => if x.length ≤ sizeLine then .ok ((x.length : Int) != 0) else .no
  | .lst xs => .ok (!xs.isEmpty)
  | .tup xs => .ok (!xs.isEmpty)
  | .fz xs => .ok (!xs.isEmpty)
def truT (f : En → Res Vl) : En → Res Bool := fun env => (f env).bind fun u => truD u.d
theorem boolD_inv {d : D} {b : Bool} (h : boolD d = .ok b) : d = .bl b := by
  cases d <;> cases h
  rfl
theorem isEmpty_rep {K : PySem.W.Frag} {G : Hp} {vs : List V} {ds : List D} (h : RepL K G vs ds) : vs.isEmpty = ds.isEmpty := by
  cases h <;> rfl
theorem truV_of {K : PySem.W.Frag} {H : Hp} {v : V} {d : D} {b : Bool} (h : Rep K H v d) (e : truD d = .ok b) : TruV K v H b := by
  cases h with
  | non => cases e; rfl
  | bl b => cases e; rfl
  | int i => cases e; rfl
  | str x => obtain ⟨c, rfl⟩ := if_ok e; exact ⟨c, rfl⟩
  | lst h l => cases e; exact .inl ⟨_, SqL.of h, by rw [isEmpty_rep l]⟩
  | tup h l => cases e; exact .inr (.inl ⟨_, h, by rw [isEmpty_rep l]⟩)
  | fz h l => cases e; exact .inl ⟨_, h, by rw [isEmpty_rep l]⟩
section
variable {K : PySem.W.Frag} {te : TE} {tt tu : TT} {f : En → Res Vl} {p q : En → Res Bool}
theorem evt_val (h : EvD K te f) : EvT K (tB te) (valT f) := fun B G0 G env σ H b r e Q k => by
  obtain ⟨u, e1, e2⟩ := Res.bind_eq e
  refine h B G0 G env σ H u r e1 _ fun G' H' v x hv => ?_
  have a := hv.look (r.ext x)
  rw [boolD_inv e2] at a
  exact ⟨b, a.bl_inv, k G' H' x⟩
theorem evt_tru (h : EvD K te f) : EvT K (fun σ H Q => te σ H fun x H' => ∃ k, TruV K x H' k ∧ Q k H') (truT f) := fun B G0 G env σ H b r e Q k => by
  obtain ⟨u, e1, e2⟩ := Res.bind_eq e
  exact h B G0 G env σ H u r e1 _ fun G' H' v x hv => ⟨b, truV_of (hv.look (r.ext x)) e2, k G' H' x⟩
theorem evt_and (h1 : EvT K tt p) (h2 : EvT K tu q) : EvT K (tAnd tt tu) (andT p q) := fun B G0 G env σ H b r e Q k => by
  obtain ⟨c, e1, e2⟩ := Res.bind_eq e
  refine h1 B G0 G env σ H c r e1 _ fun G' H' x => ?_
  cases c with
  | true =>
    rw [if_pos rfl]
    exact h2 B G0 G' env σ H' b (r.ext x) e2 Q fun G2 H2 x2 => k G2 H2 (x.trans x2)
  | false =>
    rw [if_neg Bool.false_ne_true]
    cases e2
    exact k G' H' x
theorem evt_or (h1 : EvT K tt p) (h2 : EvT K tu q) : EvT K (tOr tt tu) (orT p q) := fun B G0 G env σ H b r e Q k => by
  obtain ⟨c, e1, e2⟩ := Res.bind_eq e
  refine h1 B G0 G env σ H c r e1 _ fun G' H' x => ?_
  cases c with
  | true =>
    rw [if_pos rfl]
    cases e2
    exact k G' H' x
  | false =>
    rw [if_neg Bool.false_ne_true]
    exact h2 B G0 G' env σ H' b (r.ext x) e2 Q fun G2 H2 x2 => k G2 H2 (x.trans x2)
theorem evt_not (h1 : EvT K tt p) : EvT K (tNot tt) (notT p) := fun B G0 G env σ H b r e Q k => by
  obtain ⟨c, e1, e2⟩ := Res.bind_eq e
  cases e2
  exact h1 B G0 G env σ H c r e1 _ fun G' H' x => k G' H' x
end
section
variable {X : Cx} {pos : Pos} {a b : Expr} {rest : List Expr} {ta tb : TE} {tt tu : TT} {f g : En → Res Vl} {p q : En → Res Bool}
theorem dt_val (h : DE X a ta f) (he : ∀ whole, isTrue a X.env whole = (do let v ← whole; standAt a.pos; holding [v] (truthy v)) := by intro _; rfl) : DT X a (tB ta) (valT f) := ⟨pt_val h.pe he, evt_val h.ev⟩
theorem dt_tru {K : PySem.W.Frag} (h : DE X a ta f) (he : ∀ whole, isTrue a X.env whole = (do let v ← whole; standAt a.pos; holding [v] (truthy v)) := by intro _; rfl) (hK : X.K = K := by rfl) : DT X a (fun σ H Q => ta σ H fun x H' => ∃ k, TruV K x H' k ∧ Q k H') (truT f) := by
  subst hK
  exact ⟨pt_truth h.pe he, evt_tru h.ev⟩
theorem dw_and1 (h : DT X a tt p) : DW X (.BoolOp .And [a] pos) tt p := ⟨pw_and1 h.pt, h.ev⟩
theorem dw_and (h : DT X a tt p) (k : DW X (.BoolOp .And (b :: rest) pos) tu q) : DW X (.BoolOp .And (a :: b :: rest) pos) (tAnd tt tu) (andT p q) := ⟨pw_and h.pt k.pw, evt_and h.ev k.ev⟩
theorem dw_or1 (h : DT X a tt p) : DW X (.BoolOp .Or [a] pos) tt p := ⟨pw_or1 h.pt, h.ev⟩
theorem dw_or (h : DT X a tt p) (k : DW X (.BoolOp .Or (b :: rest) pos) tu q) : DW X (.BoolOp .Or (a :: b :: rest) pos) (tOr tt tu) (orT p q) := ⟨pw_or h.pt k.pw, evt_or h.ev k.ev⟩
theorem dt_w (h : DW X a tt p) : DT X a tt p := ⟨h.pw.pt, h.ev⟩
theorem dt_not (h : DT X a tt p) : DT X (.UnaryOp .Not a pos) (tNot tt) (notT p) := ⟨pt_not h.pt, evt_not h.ev⟩
end
/-! ### and, or, not as values -/
def andE (f g : En → Res Vl) : En → Res Vl := fun env => (f env).bind fun u => (boolD u.d).bind fun c => match c with
  | true => g env
  | false => .ok ⟨.g, .bl false⟩
def orE (f g : En → Res Vl) : En → Res Vl := fun env => (f env).bind fun u => (boolD u.d).bind fun c => match c with
  | true => .ok ⟨.g, .bl true⟩
  | false => g env
def notE (f : En → Res Vl) : En → Res Vl := fun env => (f env).bind fun u => (boolD u.d).bind fun c => .ok ⟨.g, .bl (!c)⟩
def ifE (p : En → Res Bool) (f g : En → Res Vl) : En → Res Vl := fun env => (p env).bind fun c => match c with
  | true => f env
  | false => g env
/-- a op b op' c, b once -/
def chainE (p p' : Vl → Vl → Res Vl) (f g h : En → Res Vl) : En → Res Vl := fun env => (f env).bind fun x => (g env).bind fun y => (p x y).bind fun z => (boolD z.d).bind fun c => match c with
  | true => (h env).bind fun w => p' y w
  | false => .ok ⟨.g, .bl false⟩
section
variable {K : PySem.W.Frag} {ta tb tc : TE} {tt : TT} {f g h : En → Res Vl} {p : En → Res Bool}
theorem ev_and (h1 : EvD K ta f) (h2 : EvD K tb g) : EvD K (tAndV ta tb) (andE f g) := fun B G0 G env σ H z r e Q k => by
  obtain ⟨u, e1, e2⟩ := Res.bind_eq e
  obtain ⟨c, e3, e4⟩ := Res.bind_eq e2
  refine h1 B G0 G env σ H u r e1 _ fun G' H' v x hv => ?_
  have a := hv.look (r.ext x)
  rw [boolD_inv e3] at a
  refine ⟨c, a.bl_inv, ?_⟩
  cases c with
  | true =>
    rw [if_pos rfl]
    exact h2 B G0 G' env σ H' z (r.ext x) e4 Q fun G2 H2 v x2 hv => k G2 H2 v (x.trans x2) (hv.from x.hh)
  | false =>
    rw [if_neg Bool.false_ne_true]
    cases e4
    exact k G' H' _ x (.bl _)
theorem ev_or (h1 : EvD K ta f) (h2 : EvD K tb g) : EvD K (tOrV ta tb) (orE f g) := fun B G0 G env σ H z r e Q k => by
  obtain ⟨u, e1, e2⟩ := Res.bind_eq e
  obtain ⟨c, e3, e4⟩ := Res.bind_eq e2
  refine h1 B G0 G env σ H u r e1 _ fun G' H' v x hv => ?_
  have a := hv.look (r.ext x)
  rw [boolD_inv e3] at a
  refine ⟨c, a.bl_inv, ?_⟩
  cases c with
  | true =>
    rw [if_pos rfl]
    cases e4
    exact k G' H' _ x (.bl _)
  | false =>
    rw [if_neg Bool.false_ne_true]
    exact h2 B G0 G' env σ H' z (r.ext x) e4 Q fun G2 H2 v x2 hv => k G2 H2 v (x.trans x2) (hv.from x.hh)
theorem ev_not (h1 : EvD K ta f) : EvD K (tNotV ta) (notE f) := fun B G0 G env σ H z r e Q k => by
  obtain ⟨u, e1, e2⟩ := Res.bind_eq e
  obtain ⟨c, e3, e4⟩ := Res.bind_eq e2
  cases e4
  refine h1 B G0 G env σ H u r e1 _ fun G' H' v x hv => ?_
  have a := hv.look (r.ext x)
  rw [boolD_inv e3] at a
  exact ⟨c, a.bl_inv, k G' H' _ x (.bl _)⟩
theorem ev_if (h0 : EvT K tt p) (h1 : EvD K ta f) (h2 : EvD K tb g) : EvD K (tIf tt ta tb) (ifE p f g) := fun B G0 G env σ H z r e Q k => by
  obtain ⟨c, e1, e2⟩ := Res.bind_eq e
  refine h0 B G0 G env σ H c r e1 _ fun G' H' x => ?_
  cases c with
  | true =>
    rw [if_pos rfl]
    exact h1 B G0 G' env σ H' z (r.ext x) e2 Q fun G2 H2 v x2 hv => k G2 H2 v (x.trans x2) (hv.from x.hh)
  | false =>
    rw [if_neg Bool.false_ne_true]
    exact h2 B G0 G' env σ H' z (r.ext x) e2 Q fun G2 H2 v x2 hv => k G2 H2 v (x.trans x2) (hv.from x.hh)
theorem ev_chain {r r' : R2} {p p' : Vl → Vl → Res Vl} (s : Snd2 K r p) (s' : Snd2 K r' p') (h1 : EvD K ta f) (h2 : EvD K tb g) (h3 : EvD K tc h) : EvD K (tChain r r' ta tb tc) (chainE p p' f g h) := fun B G0 G env σ H z rl e Q k => by
  obtain ⟨u, e1, e⟩ := Res.bind_eq e
  obtain ⟨w, e2, e⟩ := Res.bind_eq e
  obtain ⟨m, e3, e⟩ := Res.bind_eq e
  obtain ⟨c, e4, e⟩ := Res.bind_eq e
  refine h1 B G0 G env σ H u rl e1 _ fun G1 H1 x x1 hx => h2 B G0 G1 env σ H1 w (rl.ext x1) e2 _ fun G2 H2 y x2 hy => ?_
  have rl2 := (rl.ext x1).ext x2
  refine s B G0 G G2 env σ H H2 u w m x y _ rl2 (hx.mono x2) (hy.from x1.hh) e3 fun G3 H3 v x3 hv => ?_
  have rl3 := rl2.ext x3
  have a := hv.look rl3
  rw [boolD_inv e4] at a
  refine ⟨c, a.bl_inv, ?_⟩
  cases c with
  | true =>
    rw [if_pos rfl]
    obtain ⟨w2, e5, e6⟩ := Res.bind_eq e
    refine h3 B G0 G3 env σ H3 w2 rl3 e5 _ fun G4 H4 y2 x4 hy2 => ?_
    have rl4 := rl3.ext x4
    exact s' B G0 G G4 env σ H H4 w w2 z y y2 _ rl4 (((hy.from x1.hh).mono x3).mono x4) (hy2.from ((x1.hh.trans x2.hh).trans x3.hh)) e6 fun G5 H5 v5 x5 hv5 => k G5 H5 v5 ((((x1.trans x2).trans x3).trans x4).trans x5) (hv5.from (((x1.hh.trans x2.hh).trans x3.hh).trans x4.hh))
  | false =>
    rw [if_neg Bool.false_ne_true]
    cases e
    exact k G3 H3 _ ((x1.trans x2).trans x3) (.bl _)
end
section
variable {X : Cx} {pos : Pos} {a b c : Expr} {rest : List Expr} {ta tb tc : TE} {tt : TT} {f g h : En → Res Vl} {p : En → Res Bool}
theorem de_one {op} (k : DE X a ta f) : DE X (.BoolOp op [a] pos) ta f := ⟨pe_one k.pe, k.ev⟩
theorem de_and (h1 : DE X a ta f) (h2 : DE X (.BoolOp .And (b :: rest) pos) tb g) : DE X (.BoolOp .And (a :: b :: rest) pos) (tAndV ta tb) (andE f g) := ⟨pe_and h1.pe h2.pe, ev_and h1.ev h2.ev⟩
theorem de_or (h1 : DE X a ta f) (h2 : DE X (.BoolOp .Or (b :: rest) pos) tb g) : DE X (.BoolOp .Or (a :: b :: rest) pos) (tOrV ta tb) (orE f g) := ⟨pe_or h1.pe h2.pe, ev_or h1.ev h2.ev⟩
theorem de_not (h1 : DE X a ta f) : DE X (.UnaryOp .Not a pos) (tNotV ta) (notE f) := ⟨pe_not h1.pe, ev_not h1.ev⟩
theorem de_if (h0 : DT X c tt p) (h1 : DE X a ta f) (h2 : DE X b tb g) : DE X (.IfExp c a b pos) (tIf tt ta tb) (ifE p f g) := ⟨pe_ifExp h0.pt h1.pe h2.pe, ev_if h0.ev h1.ev h2.ev⟩
def negI (i : Int) : Int := -i
def negP : Vl → Res Vl := fun u => match u.d with
  | .int i => .ok ⟨.g, .int (-i)⟩
  | _ => .no
theorem de_neg (h1 : DE X a ta f) : DE X (.UnaryOp .USub a pos) (tUn (rU fun i => .int (-i)) ta) (unE negP f) := ⟨pe_un un_neg h1.pe, fun B G0 G env σ H z r e Q k => by
  obtain ⟨u, e1, e2⟩ := Res.bind_eq e
  unfold negP at e2
  split at e2
  · rename_i i ed
    cases e2
    refine h1.ev B G0 G env σ H u r e1 _ fun G' H' v x hv => ?_
    have y := hv.look (r.ext x)
    rw [ed] at y
    exact ⟨i, y.int_inv, k G' H' _ x (.int _)⟩
  · cases e2⟩
end
/-! ### arguments, displays, calls -/
theorem Rp.now {K : PySem.W.Frag} {B G' H0 H' : Hp} {u : Vl} {v : V} (h : Rp K B G' H' H' u v) : Rp K B G' H0 H' u v := by
  obtain ⟨k, d⟩ := u
  cases k with
  | g => exact h
  | b => exact h
  | h => exact h
  | o =>
    obtain ⟨L, vs, ds, _, _, e1, _, e2, _⟩ := h
    rw [e1] at e2
    cases e2
theorem RpL.mono {K : PySem.W.Frag} {B G' G'' H' H'' : Hp} (x : Ext G' H' G'' H'') : ∀ {us : List Vl} {vs : List V}, RpL K B G' H' us vs → RpL K B G'' H'' us vs
  | [], _, h => h
  | u :: us, _, ⟨v, r, e, h, l⟩ => ⟨v, r, e, Rp.mono x h.now, RpL.mono x l⟩
theorem RpL.len {K : PySem.W.Frag} {B G' H' : Hp} : ∀ {us : List Vl} {vs : List V}, RpL K B G' H' us vs → vs.length = us.length
  | [], _, h => by rw [h]; rfl
  | u :: us, _, ⟨v, r, e, h, l⟩ => by rw [e, List.length_cons, List.length_cons, RpL.len l]
/-- all kept -/
theorem RpL.keep {K : PySem.W.Frag} {B G' H' : Hp} : ∀ {us : List Vl} {vs : List V}, us.all Vl.keep = true → RpL K B G' H' us vs → RepL K G' vs (us.map Vl.d)
  | [], _, _, h => by rw [h]; exact .nil
  | u :: us, _, n, ⟨v, r, e, h, l⟩ => by
    rw [List.all_cons, Bool.and_eq_true] at n
    subst e
    refine .cons ?_ (RpL.keep n.2 l)
    obtain ⟨k, d⟩ := u
    cases k with
    | g => exact h
    | b => exact Rep.flat (show Rep K B v d from h) n.1
    | h =>
      obtain ⟨L, vs, ds, e1, e2, _⟩ := h
      dsimp only at e2
      subst e2
      cases n.1
    | o =>
      obtain ⟨L, vs, ds, _, _, e1, _, e2, _⟩ := h
      rw [e1] at e2
      cases e2
theorem eva_nil {K : PySem.W.Frag} : EvA K tNil nilA := fun B G0 G env σ H us r e Q k => by
  cases e
  exact k G H [] (Ext.refl r.gh) rfl
theorem eva_cons {K : PySem.W.Frag} {te : TE} {ta : TA} {f : En → Res Vl} {g : En → Res (List Vl)} (h : EvD K te f) (ht : EvA K ta g) : EvA K (tCons te ta) (consA f g) := fun B G0 G env σ H us r e Q k => by
  obtain ⟨u, e1, e⟩ := Res.bind_eq e
  obtain ⟨ws, e2, e⟩ := Res.bind_eq e
  cases e
  refine h B G0 G env σ H u r e1 _ fun G1 H1 v x hv => ?_
  obtain ⟨G2, x2, hv2⟩ := hv.arg x
  exact ht B G0 G2 env σ H1 ws (r.ext x2) e2 _ fun G3 H3 vs x3 hl => k G3 H3 (v :: vs) (x2.trans x3) ⟨v, vs, rfl, Rp.mono x3 hv2.now, hl⟩
theorem RpL.from {K : PySem.W.Frag} {B G' H' : Hp} {us : List Vl} {vs : List V} (h : RpL K B G' H' us vs) : RpL K B G' H' us vs := h
section
variable {X : Cx} {e : Expr} {es : List Expr} {te : TE} {ta : TA} {f : En → Res Vl} {g : En → Res (List Vl)}
theorem da_nil : DA X [] tNil nilA := ⟨pa_nil, eva_nil⟩
theorem da_cons (h : DE X e te f) (ht : DA X es ta g) (hs : starEach (e :: es) X.env = (false, eval e X.env) :: starEach es X.env := by rfl) : DA X (e :: es) (tCons te ta) (consA f g) := ⟨pa_cons h.pe ht.pa hs, eva_cons h.ev ht.ev⟩
end
def tupE (f : En → Res (List Vl)) : En → Res Vl := fun env => (f env).bind fun us => if us.all Vl.keep = true ∧ us.length ≤ sizeLine then .ok ⟨.g, .tup (us.map Vl.d)⟩ else .no
def lstE (f : En → Res (List Vl)) : En → Res Vl := fun env => (f env).bind fun us => if us.all Vl.keep = true ∧ us.length ≤ sizeLine then .ok ⟨.o, .lst (us.map Vl.d)⟩ else .no
section
variable {K : PySem.W.Frag} {ta : TA} {f : En → Res (List Vl)}
theorem ev_tup (h : EvA K ta f) : EvD K (tTup ta) (tupE f) := fun B G0 G env σ H z r e Q k => by
  obtain ⟨us, e1, e⟩ := Res.bind_eq e
  obtain ⟨⟨c1, c2⟩, rfl⟩ := if_ok e
  exact h B G0 G env σ H us r e1 _ fun G' H' vs x hl => ⟨by rw [hl.len]; exact c2, new_tup (r.ext x) (hl.keep c1) fun G2 H2 v x2 hv => k G2 H2 v (x.trans x2) hv⟩
theorem ev_lst (h : EvA K ta f) : EvD K (tLst ta) (lstE f) := fun B G0 G env σ H z r e Q k => by
  obtain ⟨us, e1, e⟩ := Res.bind_eq e
  obtain ⟨⟨c1, c2⟩, rfl⟩ := if_ok e
  exact h B G0 G env σ H us r e1 _ fun G' H' vs x hl => ⟨by rw [hl.len]; exact c2, new_list (r.ext x) (hl.keep c1) fun G2 H2 v x2 hv => k G2 H2 v (x.trans x2) (hv.from x.hh)⟩
end
/-- a reading of values does what p says -/
def SndC (K : PySem.W.Frag) (r : List V → Hp → VK → Prop) (p : List Vl → Res Vl) : Prop := ∀ (B G0 G' : Hp) (env : En) (σ : L2.St) (H' : Hp) (us : List Vl) (z : Vl) (vs : List V) (Q : VK), Rel K B G0 G' env σ H' → RpL K B G' H' us vs → p us = .ok z →
  (∀ G2 H2 v, Ext G' H' G2 H2 → Rp K B G2 H' H2 z v → Q v H2) → r vs H' Q
theorem ev_callB {K : PySem.W.Frag} {r : List V → Hp → VK → Prop} {p : List Vl → Res Vl} {ta : TA} {f : En → Res (List Vl)} (s : SndC K r p) (h : EvA K ta f) : EvD K (tCB r ta) (callE p f) := fun B G0 G env σ H z rl e Q k => by
  obtain ⟨us, e1, e⟩ := Res.bind_eq e
  exact h B G0 G env σ H us rl e1 _ fun G' H' vs x hl => s B G0 G' env σ H' us z vs Q (rl.ext x) hl e fun G2 H2 v x2 hv => k G2 H2 v (x.trans x2) (hv.from x.hh)
section
variable {X : Cx} {pos p : Pos} {e : Expr} {es : List Expr} {ta : TA} {f : En → Res (List Vl)} {x : Str}
theorem de_tup {x1} (h : DA X es ta f) : DE X (.Tuple es x1 pos) (tTup ta) (tupE f) := ⟨pe_tup h.pa, ev_tup h.ev⟩
theorem de_lst (h : DA X es ta f) : DE X (.List es pos) (tLst ta) (lstE f) := ⟨pe_lst h.pa, ev_lst h.ev⟩
theorem de_callB {K : PySem.W.Frag} {id : String} {r : List V → Hp → VK → Prop} {q : List Vl → Res Vl} (hc : CallR X (.builtin id) r) (s : SndC K r q) (hv : bootBuiltins x = some (.builtin id)) (hm : X.mg x = none) (h : DA X (e :: es) ta f) (hg : Gl X x := by rfl) (hn : x ≠ "__name__" := by decide) (hdb : (x == ("__debug__" : Str)) = false := by decide)
    (he : starEach (e :: es) X.env = (false, eval e X.env) :: starEach es X.env := by rfl) (hpl : (backTo pos (starEach es X.env)).any (·.1) = false := by rfl) (hK : X.K = K := by rfl) : DE X (.Call (.Name x p) (e :: es) [] pos) (tCB r ta) (callE q f) := by
  subst hK
  exact ⟨pe_callB hc hg hm hv h.pa hn hdb he hpl, ev_callB s h.ev⟩
theorem de_callTy {K : PySem.W.Frag} {T : String} {r : List V → Hp → VK → Prop} {q : List Vl → Res Vl} (hc : CallR X (.type T) r) (s : SndC K r q) (hv : bootBuiltins x = some (.type T)) (hm : X.mg x = none) (h : DA X (e :: es) ta f) (hg : Gl X x := by rfl) (hn : x ≠ "__name__" := by decide) (hdb : (x == ("__debug__" : Str)) = false := by decide)
    (he : starEach (e :: es) X.env = (false, eval e X.env) :: starEach es X.env := by rfl) (hpl : (backTo pos (starEach es X.env)).any (·.1) = false := by rfl) (hK : X.K = K := by rfl) : DE X (.Call (.Name x p) (e :: es) [] pos) (tCB r ta) (callE q f) := by
  subst hK
  exact ⟨pe_callTy hc hg hm hv h.pa hn hdb he hpl, ev_callB s h.ev⟩
end
theorem Rp.look' {K : PySem.W.Frag} {B G0 G' H' : Hp} {env : En} {σ : L2.St} {u : Vl} {v : V} {us : List Vl} {vs : List V} (r : Rel K B G0 G' env σ H') (h : RpL K B G' H' (u :: us) vs) : ∃ v w, vs = v :: w ∧ Rep K H' v u.d ∧ RpL K B G' H' us w := by
  obtain ⟨v, w, e, h, l⟩ := h
  exact ⟨v, w, e, h.look r, l⟩
/-! ### built-ins -/
def intC : List Vl → Res Vl := fun us => match us with
  | [⟨_, .int i⟩] => .ok ⟨.g, .int i⟩
  | [⟨_, .bl b⟩] => .ok ⟨.g, .int (if b then 1 else 0)⟩
  | _ => .no
def absC : List Vl → Res Vl := fun us => match us with
  | [⟨_, .int i⟩] => .ok ⟨.g, .int (if i < 0 then -i else i)⟩
  | _ => .no
def min2C : List Vl → Res Vl := fun us => match us with
  | [⟨_, .int i⟩, ⟨_, .int j⟩] => .ok ⟨.g, .int (if j < i then j else i)⟩
  | _ => .no
def max2C : List Vl → Res Vl := fun us => match us with
  | [⟨_, .int i⟩, ⟨_, .int j⟩] => .ok ⟨.g, .int (if j > i then j else i)⟩
  | _ => .no
def lenC : List Vl → Res Vl := fun us => match us with
  | [⟨_, .lst xs⟩] => .ok ⟨.g, .int xs.length⟩
  | [⟨_, .tup xs⟩] => .ok ⟨.g, .int xs.length⟩
  | [⟨_, .fz xs⟩] => .ok ⟨.g, .int xs.length⟩
  | [⟨_, .str x⟩] => if x.length ≤ sizeLine then .ok ⟨.g, .int x.length⟩ else .no
  | _ => .no
def divmodC : List Vl → Res Vl := fun us => match us with
  | [⟨_, .int i⟩, ⟨_, .int j⟩] => if CDiv i j then .ok ⟨.g, .tup [.int (i / j), .int (i % j)]⟩ else .no
  | _ => .no
def intsOf : List D → Option (List Int)
  | [] => some []
  | .int i :: r => (intsOf r).map (i :: ·)
  | _ => none
@[simp] theorem intsOf_map (ns : List Int) : intsOf (ns.map D.int) = some ns := by
  induction ns with
  | nil => rfl
  | cons n r ih => show (intsOf (r.map D.int)).map (n :: ·) = _; rw [ih]; rfl
theorem intsOf_inv : ∀ {ds : List D} {ns : List Int}, intsOf ds = some ns → ds = ns.map D.int
  | [], ns, h => by cases h; rfl
  | .int i :: r, ns, h => by
    unfold intsOf at h
    cases e : intsOf r with
    | none => rw [e] at h; cases h
    | some ms => rw [e] at h; cases h; rw [intsOf_inv e]; rfl
  | .non :: _, _, h => by cases h
  | .bl _ :: _, _, h => by cases h
  | .str _ :: _, _, h => by cases h
  | .lst _ :: _, _, h => by cases h
  | .tup _ :: _, _, h => by cases h
  | .fz _ :: _, _, h => by cases h
def sumC : List Vl → Res Vl := fun us => match us with
  | [⟨_, .lst xs⟩] => match intsOf xs with
    | some ns => .ok ⟨.g, .int ns.sum⟩
    | none => .no
  | [⟨_, .tup xs⟩] => match intsOf xs with
    | some ns => .ok ⟨.g, .int ns.sum⟩
    | none => .no
  | _ => .no
def minOf : List Int → Int
  | [] => 0
  | n :: r => r.foldl min n
def maxOf : List Int → Int
  | [] => 0
  | n :: r => r.foldl max n
theorem foldl_min (r : List Int) : ∀ n, (r.foldl min n ∈ n :: r) ∧ ∀ y ∈ n :: r, r.foldl min n ≤ y := by
  induction r with
  | nil => intro n; simp
  | cons a r ih =>
    intro n
    obtain ⟨h1, h2⟩ := ih (min n a)
    rw [List.foldl_cons]
    refine ⟨?_, fun y hy => ?_⟩
    · rcases List.mem_cons.mp h1 with h | h
      · rw [h]
        rcases Int.le_total n a with q | q
        · rw [Int.min_eq_left q]; exact List.mem_cons_self
        · rw [Int.min_eq_right q]; exact List.mem_cons_of_mem _ List.mem_cons_self
      · exact List.mem_cons_of_mem _ (List.mem_cons_of_mem _ h)
    · have hm := h2 (min n a) List.mem_cons_self
      rcases List.mem_cons.mp hy with rfl | hy
      · exact Int.le_trans hm (Int.min_le_left _ _)
      · rcases List.mem_cons.mp hy with rfl | hy
        · exact Int.le_trans hm (Int.min_le_right _ _)
        · exact h2 y (List.mem_cons_of_mem _ hy)
theorem foldl_max (r : List Int) : ∀ n, (r.foldl max n ∈ n :: r) ∧ ∀ y ∈ n :: r, y ≤ r.foldl max n := by
  induction r with
  | nil => intro n; simp
  | cons a r ih =>
    intro n
    obtain ⟨h1, h2⟩ := ih (max n a)
    rw [List.foldl_cons]
    refine ⟨?_, fun y hy => ?_⟩
    · rcases List.mem_cons.mp h1 with h | h
      · rw [h]
        rcases Int.le_total n a with q | q
        · rw [Int.max_eq_right q]; exact List.mem_cons_of_mem _ List.mem_cons_self
        · rw [Int.max_eq_left q]; exact List.mem_cons_self
      · exact List.mem_cons_of_mem _ (List.mem_cons_of_mem _ h)
    · have hm := h2 (max n a) List.mem_cons_self
      rcases List.mem_cons.mp hy with rfl | hy
      · exact Int.le_trans (Int.le_max_left _ _) hm
      · rcases List.mem_cons.mp hy with rfl | hy
        · exact Int.le_trans (Int.le_max_right _ _) hm
        · exact h2 y (List.mem_cons_of_mem _ hy)
theorem minOf_spec {ns : List Int} (h : ns ≠ []) : minOf ns ∈ ns ∧ ∀ y ∈ ns, minOf ns ≤ y := by
  cases ns with
  | nil => exact absurd rfl h
  | cons n r => exact foldl_min r n
theorem maxOf_spec {ns : List Int} (h : ns ≠ []) : maxOf ns ∈ ns ∧ ∀ y ∈ ns, y ≤ maxOf ns := by
  cases ns with
  | nil => exact absurd rfl h
  | cons n r => exact foldl_max r n
def minC : List Vl → Res Vl := fun us => match us with
  | [⟨_, .lst xs⟩] => match intsOf xs with
    | some ns => if ns ≠ [] then .ok ⟨.g, .int (minOf ns)⟩ else .no
    | none => .no
  | _ => .no
def maxC : List Vl → Res Vl := fun us => match us with
  | [⟨_, .lst xs⟩] => match intsOf xs with
    | some ns => if ns ≠ [] then .ok ⟨.g, .int (maxOf ns)⟩ else .no
    | none => .no
  | _ => .no
/-- list(xs): a new list -/
def listC : List Vl → Res Vl := fun us => match us with
  | [⟨k, .lst xs⟩] => if k.it xs = true then .ok ⟨.o, .lst xs⟩ else .no
  | [⟨k, .tup xs⟩] => if k.it xs = true then .ok ⟨.o, .lst xs⟩ else .no
  | [⟨k, .fz xs⟩] => if k.it xs = true then .ok ⟨.o, .lst xs⟩ else .no
  | _ => .no
def tupleC : List Vl → Res Vl := fun us => match us with
  | [⟨k, .lst xs⟩] => if k.it xs = true then .ok ⟨.g, .tup xs⟩ else .no
  | [⟨k, .tup xs⟩] => .ok ⟨k, .tup xs⟩
  | _ => .no
section
variable {K : PySem.W.Frag} {B G0 G' H' : Hp} {env : En} {σ : L2.St}
theorem Rp.tupItems {u : Vl} {v : V} {xs : List D} (r : Rel K B G0 G' env σ H') (h : Rp K B G' H' H' u v) (e : u.d = .tup xs) (hk : u.k.it xs = true) : ∃ a vs, v = .ref a ∧ SqT K H' a vs ∧ RepL K G' vs xs := by
  obtain ⟨k, d⟩ := u
  dsimp only at e hk
  subst e
  cases k with
  | g =>
    obtain ⟨a, vs, e, h1, h2⟩ := Rep.tup_inv h
    exact ⟨a, vs, e, Same.sqt r.gh h1, h2⟩
  | b =>
    obtain ⟨a, vs, e, h1, h2⟩ := Rep.tup_inv h
    exact ⟨a, vs, e, Same.sqt r.bh h1, h2.flat hk⟩
  | h => obtain ⟨L, vs, ds, e1, e2, _⟩ := h; cases e2
  | o => obtain ⟨L, vs, ds, e1, e2, _⟩ := h; cases e2
theorem Rp.fzItems {u : Vl} {v : V} {xs : List D} (r : Rel K B G0 G' env σ H') (h : Rp K B G' H' H' u v) (e : u.d = .fz xs) (hk : u.k.it xs = true) : ∃ a vs, v = .ref a ∧ SqL K H' a vs ∧ RepL K G' vs xs := by
  obtain ⟨k, d⟩ := u
  dsimp only at e hk
  subst e
  cases k with
  | g =>
    obtain ⟨a, vs, e, h1, h2⟩ := Rep.fz_inv h
    exact ⟨a, vs, e, r.gh.seq h1, h2⟩
  | b =>
    obtain ⟨a, vs, e, h1, h2⟩ := Rep.fz_inv h
    exact ⟨a, vs, e, r.bh.seq h1, h2.flat hk⟩
  | h => obtain ⟨L, vs, ds, e1, e2, _⟩ := h; cases e2
  | o => obtain ⟨L, vs, ds, e1, e2, _⟩ := h; cases e2
theorem one_int (r : Rel K B G0 G' env σ H') {k : Kd} {i : Int} {vs : List V} (h : RpL K B G' H' [⟨k, .int i⟩] vs) : vs = [.int i] := by
  obtain ⟨v, w, e, h, l⟩ := h
  subst e
  rw [show w = [] from l, (h.look r).int_inv]
theorem two_int (r : Rel K B G0 G' env σ H') {k l : Kd} {i j : Int} {vs : List V} (h : RpL K B G' H' [⟨k, .int i⟩, ⟨l, .int j⟩] vs) : vs = [.int i, .int j] := by
  obtain ⟨v, w, e, h, q⟩ := h
  subst e
  rw [one_int r q, (h.look r).int_inv]
end
section
variable {K : PySem.W.Frag}
theorem snc_int : SndC K (fun xs H Q => (∃ i, xs = [.int i] ∧ Q (.int i) H) ∨ ∃ k, xs = [.bl k] ∧ Q (.int (if k then 1 else 0)) H) intC := fun B G0 G' env σ H' us z vs Q r h e q => by
  unfold intC at e
  split at e
  · cases e
    exact .inl ⟨_, one_int r h, q _ _ _ (Ext.refl r.gh) (.int _)⟩
  · cases e
    obtain ⟨v, w, e, h, l⟩ := h
    subst e
    rw [show w = [] from l, (h.look r).bl_inv]
    exact .inr ⟨_, rfl, q _ _ _ (Ext.refl r.gh) (.int _)⟩
  · cases e
theorem snc_abs : SndC K (fun xs H Q => ∃ i, xs = [.int i] ∧ Q (.int (if i < 0 then -i else i)) H) absC := fun B G0 G' env σ H' us z vs Q r h e q => by
  unfold absC at e
  split at e
  · cases e
    exact ⟨_, one_int r h, q _ _ _ (Ext.refl r.gh) (.int _)⟩
  · cases e
theorem snc_min2 : SndC K (fun xs H Q => ∃ i j, xs = [.int i, .int j] ∧ Q (.int (if j < i then j else i)) H) min2C := fun B G0 G' env σ H' us z vs Q r h e q => by
  unfold min2C at e
  split at e
  · cases e
    exact ⟨_, _, two_int r h, q _ _ _ (Ext.refl r.gh) (.int _)⟩
  · cases e
theorem snc_max2 : SndC K (fun xs H Q => ∃ i j, xs = [.int i, .int j] ∧ Q (.int (if j > i then j else i)) H) max2C := fun B G0 G' env σ H' us z vs Q r h e q => by
  unfold max2C at e
  split at e
  · cases e
    exact ⟨_, _, two_int r h, q _ _ _ (Ext.refl r.gh) (.int _)⟩
  · cases e
theorem snc_len : SndC K (fun xs H Q => ∃ x n, xs = [x] ∧ LenV K x H n ∧ Q (.int n) H) lenC := fun B G0 G' env σ H' us z vs Q r h e q => by
  have one : ∀ {u : Vl}, us = [u] → ∃ v, vs = [v] ∧ Rep K H' v u.d := fun {u} eu => by
    subst eu
    obtain ⟨v, w, e, h, l⟩ := h
    subst e
    exact ⟨v, by rw [show w = [] from l], h.look r⟩
  unfold lenC at e
  split at e
  · cases e
    obtain ⟨v, rfl, hv⟩ := one rfl
    obtain ⟨a, ws, rfl, h1, h2⟩ := hv.lst_inv
    exact ⟨_, _, rfl, .inl ⟨_, SqL.of h1, h2.len.symm⟩, q _ _ _ (Ext.refl r.gh) (.int _)⟩
  · cases e
    obtain ⟨v, rfl, hv⟩ := one rfl
    obtain ⟨a, ws, rfl, h1, h2⟩ := hv.tup_inv
    exact ⟨_, _, rfl, .inr ⟨_, h1, h2.len.symm⟩, q _ _ _ (Ext.refl r.gh) (.int _)⟩
  · cases e
    obtain ⟨v, rfl, hv⟩ := one rfl
    obtain ⟨a, ws, rfl, h1, h2⟩ := hv.fz_inv
    exact ⟨_, _, rfl, .inl ⟨_, h1, h2.len.symm⟩, q _ _ _ (Ext.refl r.gh) (.int _)⟩
  · obtain ⟨c, rfl⟩ := if_ok e
    obtain ⟨v, rfl, hv⟩ := one rfl
    rw [hv.str_inv]
    exact ⟨_, _, rfl, ⟨c, rfl⟩, q _ _ _ (Ext.refl r.gh) (.int _)⟩
  · cases e
theorem snc_divmod : SndC K (fun xs H Q => ∃ i j, xs = [.int i, .int j] ∧ CDiv i j ∧ ∀ p, H p = none → Q (.ref p) (upd H p (.tup [.int (i / j), .int (i % j)]))) divmodC := fun B G0 G' env σ H' us z vs Q r h e q => by
  unfold divmodC at e
  split at e
  · obtain ⟨c, rfl⟩ := if_ok e
    exact ⟨_, _, two_int r h, c, new_tup r (.cons (.int _) (.cons (.int _) .nil)) q⟩
  · cases e
theorem snc_sum : SndC K (rSum2 K) sumC := fun B G0 G' env σ H' us z vs Q r h e q => by
  unfold sumC at e
  split at e
  · split at e
    · rename_i ns en
      cases e
      obtain ⟨v, w, e, h, l⟩ := h
      subst e
      obtain ⟨a, ws, rfl, h1, h2⟩ := (h.look r).lst_inv
      rw [intsOf_inv en] at h2
      rw [show w = [] from l]
      exact .inl ⟨a, ns, rfl, SqL.of (by rw [h1, h2.ints]), q _ _ _ (Ext.refl r.gh) (.int _)⟩
    · cases e
  · split at e
    · rename_i ns en
      cases e
      obtain ⟨v, w, e, h, l⟩ := h
      subst e
      obtain ⟨a, ws, rfl, h1, h2⟩ := (h.look r).tup_inv
      rw [intsOf_inv en] at h2
      rw [show w = [] from l]
      exact .inr ⟨a, ns, rfl, h2.ints ▸ h1, q _ _ _ (Ext.refl r.gh) (.int _)⟩
    · cases e
  · cases e
theorem snc_min : SndC K (rMin K) minC := fun B G0 G' env σ H' us z vs Q r h e q => by
  unfold minC at e
  split at e
  · split at e
    · rename_i ns en
      obtain ⟨c, rfl⟩ := if_ok e
      obtain ⟨v, w, e, h, l⟩ := h
      subst e
      obtain ⟨a, ws, rfl, h1, h2⟩ := (h.look r).lst_inv
      rw [intsOf_inv en] at h2
      rw [show w = [] from l]
      refine ⟨a, ns, rfl, SqL.of (by rw [h1, h2.ints]), List.length_pos_iff.mpr c, fun m hm hle => ?_⟩
      obtain ⟨m1, m2⟩ := minOf_spec c
      rw [Int.le_antisymm (hle _ m1) (m2 m hm)]
      exact q _ _ _ (Ext.refl r.gh) (.int _)
    · cases e
  · cases e
theorem snc_max : SndC K (rMax K) maxC := fun B G0 G' env σ H' us z vs Q r h e q => by
  unfold maxC at e
  split at e
  · split at e
    · rename_i ns en
      obtain ⟨c, rfl⟩ := if_ok e
      obtain ⟨v, w, e, h, l⟩ := h
      subst e
      obtain ⟨a, ws, rfl, h1, h2⟩ := (h.look r).lst_inv
      rw [intsOf_inv en] at h2
      rw [show w = [] from l]
      refine ⟨a, ns, rfl, SqL.of (by rw [h1, h2.ints]), List.length_pos_iff.mpr c, fun m hm hle => ?_⟩
      obtain ⟨m1, m2⟩ := maxOf_spec c
      rw [Int.le_antisymm (m2 m hm) (hle _ m1)]
      exact q _ _ _ (Ext.refl r.gh) (.int _)
    · cases e
  · cases e
theorem snc_list : SndC K (fun xs H Q => ∃ p ys, xs = [.ref p] ∧ (SqL K H p ys ∨ SqT K H p ys) ∧ ∀ l, H l = none → Q (.ref l) (upd H l (.lst ys))) listC := fun B G0 G' env σ H' us z vs Q r h e q => by
  unfold listC at e
  split at e
  · obtain ⟨c, rfl⟩ := if_ok e
    obtain ⟨v, w, e, h, l⟩ := h
    subst e
    obtain ⟨a, ws, rfl, h1, h2⟩ := Rp.items r h rfl c
    rw [show w = [] from l]
    exact ⟨a, ws, rfl, .inl (SqL.of h1), new_list r h2 q⟩
  · obtain ⟨c, rfl⟩ := if_ok e
    obtain ⟨v, w, e, h, l⟩ := h
    subst e
    obtain ⟨a, ws, rfl, h1, h2⟩ := Rp.tupItems r h rfl c
    rw [show w = [] from l]
    exact ⟨a, ws, rfl, .inr h1, new_list r h2 q⟩
  · obtain ⟨c, rfl⟩ := if_ok e
    obtain ⟨v, w, e, h, l⟩ := h
    subst e
    obtain ⟨a, ws, rfl, h1, h2⟩ := Rp.fzItems r h rfl c
    rw [show w = [] from l]
    exact ⟨a, ws, rfl, .inl h1, new_list r h2 q⟩
  · cases e
theorem snc_tuple : SndC K (fun xs H Q => ∃ p ys, xs = [.ref p] ∧ ((SqL K H p ys ∧ ∀ l, H l = none → Q (.ref l) (upd H l (.tup ys))) ∨ (SqT K H p ys ∧ Q (.ref p) H))) tupleC := fun B G0 G' env σ H' us z vs Q r h e q => by
  unfold tupleC at e
  split at e
  · obtain ⟨c, rfl⟩ := if_ok e
    obtain ⟨v, w, e, h, l⟩ := h
    subst e
    obtain ⟨a, ws, rfl, h1, h2⟩ := Rp.items r h rfl c
    rw [show w = [] from l]
    exact ⟨a, ws, rfl, .inl ⟨SqL.of h1, new_tup r h2 q⟩⟩
  · cases e
    obtain ⟨v, w, e, h, l⟩ := h
    subst e
    obtain ⟨a, ws, rfl, h1, h2⟩ := (h.look r).tup_inv
    rw [show w = [] from l]
    exact ⟨a, ws, rfl, .inr ⟨h1, q _ _ _ (Ext.refl r.gh) h⟩⟩
  · cases e
end
end DL
namespace DL
open PySem L2
/-! ### comparisons, as values and as tests -/
structure CmpR (X : Cx) (op : CmpOp) (r : R2) (p : Vl → Vl → Res Vl) : Prop where
  ho : OpR X (compareOp op) r
  s : Snd2 X.K r p
section
variable {X : Cx} {pos : Pos} {a b c : Expr} {ta tb tc : TE} {f g h : En → Res Vl} {op op' : CmpOp} {r r' : R2} {p p' : Vl → Vl → Res Vl}
theorem cm_lt : CmpR X .Lt (rI0 fun i j => .bl (decide (i < j))) (intP ltI) := ⟨op_lt, snd_lt⟩
theorem cm_le : CmpR X .LtE (rI0 fun i j => .bl (decide (i ≤ j))) (intP leI) := ⟨op_le, snd_le⟩
theorem cm_gt : CmpR X .Gt (rI0 fun i j => .bl (decide (j < i))) (intP gtI) := ⟨op_gt, snd_gt⟩
theorem cm_ge : CmpR X .GtE (rI0 fun i j => .bl (decide (j ≤ i))) (intP geI) := ⟨op_ge, snd_ge⟩
theorem cm_eq {K : PySem.W.Frag} (hu : X.A.units + 64 < cLine) (hK : X.K = K := by rfl) : CmpR X .Eq (fun x y H Q => rEq x y H Q ∨ rEqD K x y H Q) (eqP false) := by
  subst hK
  exact ⟨op_eq.or (op_eqD hu), snd_eq⟩
theorem cm_ne {K : PySem.W.Frag} (hu : X.A.units + 64 < cLine) (hK : X.K = K := by rfl) : CmpR X .NotEq (fun x y H Q => rNe x y H Q ∨ rNeD K x y H Q) (eqP true) := by
  subst hK
  exact ⟨op_ne.or (op_neD hu), snd_ne⟩
theorem cm_is : CmpR X .Is (rIs false) (isP false) := ⟨op_is, snd_is false⟩
theorem cm_isNot : CmpR X .IsNot (rIs true) (isP true) := ⟨op_isNot, snd_is true⟩
theorem de_cm (k : CmpR X op r p) (ha : DE X a ta f) (hb : DE X b tb g) (hm : behindInMarks op b = false := by first | exact nomark _ | rfl) : DE X (.Compare a [op] [b] pos) (tOp r ta tb) (binE p f g) := de_cmp k.ho k.s ha hb hm
theorem dt_cm (k : CmpR X op r p) (ha : DE X a ta f) (hb : DE X b tb g) (hm : behindInMarks op b = false := by first | exact nomark _ | rfl) : DT X (.Compare a [op] [b] pos) (tTest (tOp r ta tb)) (valT (binE p f g)) := ⟨pt_cmpR k.ho ha.pe hb.pe hm, evt_val (ev_bin k.s ha.ev hb.ev)⟩
theorem de_ch (k : CmpR X op r p) (k' : CmpR X op' r' p') (ha : DE X a ta f) (hb : DE X b tb g) (hc : DE X c tc h) (hm : lastMarks [op, op'] [b, c] = false := by with_unfolding_all rfl) : DE X (.Compare a [op, op'] [b, c] pos) (tChain r r' ta tb tc) (chainE p p' f g h) := ⟨pe_chain k.ho k'.ho ha.pe hb.pe hc.pe hm, ev_chain k.s k'.s ha.ev hb.ev hc.ev⟩
theorem dt_ch (k : CmpR X op r p) (k' : CmpR X op' r' p') (ha : DE X a ta f) (hb : DE X b tb g) (hc : DE X c tc h) (hm : lastMarks [op, op'] [b, c] = false := by with_unfolding_all rfl) : DT X (.Compare a [op, op'] [b, c] pos) (tTest (tChain r r' ta tb tc)) (valT (chainE p p' f g h)) := ⟨pt_chain k.ho k'.ho ha.pe hb.pe hc.pe hm, evt_val (ev_chain k.s k'.s ha.ev hb.ev hc.ev)⟩
/-- the calls of built-ins, the written part by its name -/
theorem ck_len {K : PySem.W.Frag} (hK : X.K = K := by rfl) : CallR X (.builtin "len") (fun xs H Q => ∃ x n, xs = [x] ∧ LenV K x H n ∧ Q (.int n) H) := by subst hK; exact call_len
theorem ck_sum {K : PySem.W.Frag} (hc : X.calm = true) (hK : X.K = K := by rfl) : CallR X (.builtin "sum") (rSum2 K) := by subst hK; exact (cr_sum hc).or (cr_sumT hc)
theorem ck_min {K : PySem.W.Frag} (hc : X.calm = true) (hK : X.K = K := by rfl) : CallR X (.builtin "min") (rMin K) := by subst hK; exact cr_min hc
theorem ck_max {K : PySem.W.Frag} (hc : X.calm = true) (hK : X.K = K := by rfl) : CallR X (.builtin "max") (rMax K) := by subst hK; exact cr_max hc
def rLs (K : PySem.W.Frag) : List V → Hp → VK → Prop := fun xs H Q => ∃ p ys, xs = [.ref p] ∧ (SqL K H p ys ∨ SqT K H p ys) ∧ ∀ l, H l = none → Q (.ref l) (upd H l (.lst ys))
def rTp (K : PySem.W.Frag) : List V → Hp → VK → Prop := fun xs H Q => ∃ p ys, xs = [.ref p] ∧ ((SqL K H p ys ∧ ∀ l, H l = none → Q (.ref l) (upd H l (.tup ys))) ∨ (SqT K H p ys ∧ Q (.ref p) H))
theorem ck_list {K : PySem.W.Frag} (hK : X.K = K := by rfl) : CallR X (.type "list") (rLs K) := by subst hK; exact call_list_of
theorem ck_tuple {K : PySem.W.Frag} (hK : X.K = K := by rfl) : CallR X (.type "tuple") (rTp K) := by subst hK; exact call_tuple_of
end
end DL

namespace DL
open PySem L2
/-! ### x[i] -/
def atD (xs : List D) (i : Int) : Res D := match atI xs i with
  | some d => .ok d
  | none => .no
def ixP : Vl → Vl → Res Vl := fun u w => match w.d with
  | .int i => match u.d with
    | .lst xs => (atD xs i).bind fun d => .ok ⟨u.k.sub, d⟩
    | .tup xs => (atD xs i).bind fun d => .ok ⟨u.k.sub, d⟩
    | .fz xs => (atD xs i).bind fun d => .ok ⟨u.k.sub, d⟩
    | .str x => if x.length ≤ sizeLine then (match atI x.cps.toList i with
      | some c => .ok ⟨.g, .str ⟨#[c]⟩⟩
      | none => .no) else .no
    | _ => .no
  | _ => .no
section
variable {K : PySem.W.Frag} {B G0 G G' H H' : Hp} {env : En} {σ : L2.St}
theorem atI_rep {vs : List V} {ds : List D} {i : Int} {d : D} (h : RepL K G vs ds) (e : atI ds i = some d) : ∃ v, atI vs i = some v ∧ Rep K G v d := by
  unfold atI at e ⊢
  rw [h.len]
  cases q : ixN ds.length i with
  | none => rw [q] at e; cases e
  | some j =>
    rw [q] at e
    exact h.get' e
/-- an item lies as its list does -/
theorem Rp.item {u : Vl} {v : V} {xs : List D} {i : Int} {d : D} (r : Rel K B G0 G' env σ H') (h : Rp K B G' H H' u v) (ex : u.d = .lst xs ∨ u.d = .tup xs ∨ u.d = .fz xs) (e : atI xs i = some d) :
    ∃ a vs y, v = .ref a ∧ (u.d = .lst xs → SqL K H' a vs) ∧ (u.d = .fz xs → SqL K H' a vs) ∧ (u.d = .tup xs → SqT K H' a vs) ∧ atI vs i = some y ∧ Rp K B G' H H' ⟨u.k.sub, d⟩ y := by
  obtain ⟨k, dd⟩ := u
  dsimp only at ex
  cases k with
  | g =>
    rcases ex with rfl | rfl | rfl
    · obtain ⟨a, vs, rfl, h1, h2⟩ := Rep.lst_inv h
      obtain ⟨y, e1, e2⟩ := atI_rep h2 e
      exact ⟨a, vs, y, rfl, fun _ => SqL.of (r.gh _ _ h1), (fun z => nomatch z), (fun z => nomatch z), e1, e2⟩
    · obtain ⟨a, vs, rfl, h1, h2⟩ := Rep.tup_inv h
      obtain ⟨y, e1, e2⟩ := atI_rep h2 e
      exact ⟨a, vs, y, rfl, (fun z => nomatch z), (fun z => nomatch z), (fun _ => Same.sqt r.gh h1), e1, e2⟩
    · obtain ⟨a, vs, rfl, h1, h2⟩ := Rep.fz_inv h
      obtain ⟨y, e1, e2⟩ := atI_rep h2 e
      exact ⟨a, vs, y, rfl, (fun z => nomatch z), (fun _ => r.gh.seq h1), (fun z => nomatch z), e1, e2⟩
  | b =>
    rcases ex with rfl | rfl | rfl
    · obtain ⟨a, vs, rfl, h1, h2⟩ := Rep.lst_inv h
      obtain ⟨y, e1, e2⟩ := atI_rep h2 e
      exact ⟨a, vs, y, rfl, fun _ => SqL.of (r.bh _ _ h1), (fun z => nomatch z), (fun z => nomatch z), e1, e2⟩
    · obtain ⟨a, vs, rfl, h1, h2⟩ := Rep.tup_inv h
      obtain ⟨y, e1, e2⟩ := atI_rep h2 e
      exact ⟨a, vs, y, rfl, (fun z => nomatch z), (fun z => nomatch z), (fun _ => Same.sqt r.bh h1), e1, e2⟩
    · obtain ⟨a, vs, rfl, h1, h2⟩ := Rep.fz_inv h
      obtain ⟨y, e1, e2⟩ := atI_rep h2 e
      exact ⟨a, vs, y, rfl, (fun z => nomatch z), (fun _ => r.bh.seq h1), (fun z => nomatch z), e1, e2⟩
  | h =>
    obtain ⟨L, vs, ds, rfl, e2, _, _, e3, e4⟩ := h
    dsimp only at e2
    subst e2
    rcases ex with q | q | q <;> cases q
    obtain ⟨y, e1, e2⟩ := atI_rep e4 e
    exact ⟨L, vs, y, rfl, fun _ => SqL.of e3, (fun z => nomatch z), (fun z => nomatch z), e1, e2⟩
  | o =>
    obtain ⟨L, vs, ds, rfl, e2, _, _, e3, e4⟩ := h
    dsimp only at e2
    subst e2
    rcases ex with q | q | q <;> cases q
    obtain ⟨y, e1, e2⟩ := atI_rep e4 e
    exact ⟨L, vs, y, rfl, fun _ => SqL.of e3, (fun z => nomatch z), (fun z => nomatch z), e1, e2⟩
theorem atD_inv {xs : List D} {i : Int} {d : D} (h : atD xs i = .ok d) : atI xs i = some d := by
  unfold atD at h
  split at h
  · cases h; assumption
  · cases h
theorem snd_ix : Snd2 K (rIx K) ixP := fun B G0 G G' env σ H H' u w z x y Q rl hu hw e q => by
  have hy := hw.look rl
  unfold ixP at e
  split at e
  · rename_i i ei
    rw [ei] at hy
    rw [hy.int_inv]
    split at e
    · rename_i xs ex
      obtain ⟨d, e1, e2⟩ := Res.bind_eq e
      cases e2
      obtain ⟨a, vs, t, rfl, h1, h2, h3, h4, h5⟩ := hu.item rl (.inl ex) (atD_inv e1)
      exact .inl ⟨a, vs, i, t, rfl, rfl, h1 ex, h4, q G' H' _ (Ext.refl rl.gh) (fix h5)⟩
    · rename_i xs ex
      obtain ⟨d, e1, e2⟩ := Res.bind_eq e
      cases e2
      obtain ⟨a, vs, t, rfl, h1, h2, h3, h4, h5⟩ := hu.item rl (.inr (.inl ex)) (atD_inv e1)
      exact .inr (.inl ⟨a, vs, i, t, rfl, rfl, h3 ex, h4, q G' H' _ (Ext.refl rl.gh) (fix h5)⟩)
    · rename_i xs ex
      obtain ⟨d, e1, e2⟩ := Res.bind_eq e
      cases e2
      obtain ⟨a, vs, t, rfl, h1, h2, h3, h4, h5⟩ := hu.item rl (.inr (.inr ex)) (atD_inv e1)
      exact .inl ⟨a, vs, i, t, rfl, rfl, h2 ex, h4, q G' H' _ (Ext.refl rl.gh) (fix h5)⟩
    · rename_i z' ez
      have hx := hu.look rl
      rw [ez] at hx
      rw [hx.str_inv]
      split at e
      · split at e
        · rename_i c hc
          cases e
          exact .inr (.inr ⟨z', i, c, rfl, rfl, by assumption, hc, q G' H' _ (Ext.refl rl.gh) (.str _)⟩)
        · cases e
      · cases e
    · cases e
  · cases e
where
  fix {B G' H0 H' H1 : Hp} {k : Kd} {d : D} {v : V} (h : Rp K B G' H0 H' ⟨k.sub, d⟩ v) : Rp K B G' H1 H' ⟨k.sub, d⟩ v := by
    cases k <;> exact h
end
section
variable {X : Cx} {pos : Pos} {a b : Expr} {ta tb : TE} {f g : En → Res Vl}
theorem de_ix {K : PySem.W.Frag} (ha : DE X a ta f) (hb : DE X b tb g) (hs : PlainIx b := by intro _ _; rfl) (hK : X.K = K := by rfl) : DE X (.Subscript a b pos) (tOp (rIx K) ta tb) (binE ixP f g) := by
  subst hK
  exact ⟨pe_ix ix_seq ha.pe hb.pe hs, ev_bin snd_ix ha.ev hb.ev⟩
end
/-! ### slices of lists -/
def cutD (xs : List D) (lo hi : Option Int) : List D := (xs.drop (HT.sIx xs.length 0 lo)).take (HT.sIx xs.length xs.length hi - HT.sIx xs.length 0 lo)
def noPart : En → Res (Option Int) := fun _ => .ok none
def part (f : En → Res Vl) : En → Res (Option Int) := fun env => (f env).bind fun u => match u.d with
  | .int i => .ok (some i)
  | _ => .no
def EvO (K : PySem.W.Frag) (to : TO) (f : En → Res (Option Int)) : Prop := ∀ (B G0 G : Hp) (env : En) (σ : L2.St) (H : Hp) (o : Option Int), Rel K B G0 G env σ H → f env = .ok o → ∀ Q : Option Int → Hp → Prop, (∀ G' H', Ext G H G' H' → Q o H') → to σ H Q
structure DO (X : Cx) (e : Option Expr) (to : TO) (f : En → Res (Option Int)) : Prop where
  po : PO X e to
  ev : EvO X.K to f
theorem do_none {X : Cx} : DO X none tNoPart noPart := ⟨po_none, fun B G0 G env σ H o r e Q k => by cases e; exact k G H (Ext.refl r.gh)⟩
theorem do_some {X : Cx} {e : Expr} {te : TE} {f : En → Res Vl} (h : DE X e te f) : DO X (some e) (tPart te) (part f) := ⟨po_some h.pe, fun B G0 G env σ H o r e Q k => by
  obtain ⟨u, e1, e2⟩ := Res.bind_eq e
  refine h.ev B G0 G env σ H u r e1 _ fun G' H' v x hv => ?_
  have y := hv.look (r.ext x)
  split at e2
  · rename_i i ei
    cases e2
    rw [ei] at y
    exact ⟨i, y.int_inv, k G' H' x⟩
  · cases e2⟩
def slP (u : Vl) (lo hi : Option Int) : Res Vl := match u.d with
  | .lst xs => if u.k.it xs = true then .ok ⟨.o, .lst (cutD xs lo hi)⟩ else .no
  | .fz xs => if u.k.it xs = true then .ok ⟨.o, .lst (cutD xs lo hi)⟩ else .no
  | .tup xs => if u.k.it xs = true ∧ ¬ (HT.sIx xs.length 0 lo = 0 ∧ HT.sIx xs.length xs.length hi = xs.length) then .ok ⟨.g, .tup (cutD xs lo hi)⟩ else .no
  | _ => .no
def rSl2 (K : PySem.W.Frag) : V → Option Int → Option Int → Hp → VK → Prop := fun x lo hi H Q => rSlL K x lo hi H Q ∨ rSlT K x lo hi H Q
def slE (f : En → Res Vl) (l h : En → Res (Option Int)) : En → Res Vl := fun env => (f env).bind fun u => (l env).bind fun lo => (h env).bind fun hi => slP u lo hi
theorem cut_rep {K : PySem.W.Frag} {G : Hp} {vs : List V} {ds : List D} (h : RepL K G vs ds) (lo hi : Option Int) : RepL K G (cutV vs lo hi) (cutD ds lo hi) := by
  unfold cutV cutD
  rw [h.len]
  exact (h.drop _).take _
theorem Rp.items2 {K : PySem.W.Frag} {B G0 G' H H' : Hp} {env : En} {σ : L2.St} {u : Vl} {v : V} {xs : List D} (r : Rel K B G0 G' env σ H') (h : Rp K B G' H H' u v) (e : u.d = .fz xs) (hk : u.k.it xs = true) : ∃ a vs, v = .ref a ∧ SqL K H' a vs ∧ RepL K G' vs xs := by
  obtain ⟨k, d⟩ := u
  dsimp only at e hk
  subst e
  cases k with
  | g =>
    obtain ⟨a, vs, e, h1, h2⟩ := Rep.fz_inv h
    exact ⟨a, vs, e, r.gh.seq h1, h2⟩
  | b =>
    obtain ⟨a, vs, e, h1, h2⟩ := Rep.fz_inv h
    exact ⟨a, vs, e, r.bh.seq h1, h2.flat hk⟩
  | h => obtain ⟨L, vs, ds, e1, e2, _⟩ := h; cases e2
  | o => obtain ⟨L, vs, ds, e1, e2, _⟩ := h; cases e2
theorem Rp.items3 {K : PySem.W.Frag} {B G0 G' H H' : Hp} {env : En} {σ : L2.St} {u : Vl} {v : V} {xs : List D} (r : Rel K B G0 G' env σ H') (h : Rp K B G' H H' u v) (e : u.d = .tup xs) (hk : u.k.it xs = true) : ∃ a vs, v = .ref a ∧ SqT K H' a vs ∧ RepL K G' vs xs := by
  obtain ⟨k, d⟩ := u
  dsimp only at e hk
  subst e
  cases k with
  | g =>
    obtain ⟨a, vs, e, h1, h2⟩ := Rep.tup_inv h
    exact ⟨a, vs, e, Same.sqt r.gh h1, h2⟩
  | b =>
    obtain ⟨a, vs, e, h1, h2⟩ := Rep.tup_inv h
    exact ⟨a, vs, e, Same.sqt r.bh h1, h2.flat hk⟩
  | h => obtain ⟨L, vs, ds, e1, e2, _⟩ := h; cases e2
  | o => obtain ⟨L, vs, ds, e1, e2, _⟩ := h; cases e2
theorem ev_sl {K : PySem.W.Frag} {te : TE} {tl th : TO} {f : En → Res Vl} {l h : En → Res (Option Int)} (h1 : EvD K te f) (h2 : EvO K tl l) (h3 : EvO K th h) : EvD K (tSl (rSl2 K) te tl th) (slE f l h) := fun B G0 G env σ H z rl e Q k => by
  obtain ⟨u, e1, e⟩ := Res.bind_eq e
  obtain ⟨lo, e2, e⟩ := Res.bind_eq e
  obtain ⟨hi, e3, e⟩ := Res.bind_eq e
  refine h1 B G0 G env σ H u rl e1 _ fun G1 H1 v x1 hv => h2 B G0 G1 env σ H1 lo (rl.ext x1) e2 _ fun G2 H2 x2 => h3 B G0 G2 env σ H2 hi ((rl.ext x1).ext x2) e3 _ fun G3 H3 x3 => ?_
  have rl3 := ((rl.ext x1).ext x2).ext x3
  have hv3 := (hv.mono x2).mono x3
  unfold slP at e
  split at e
  · rename_i xs ex
    obtain ⟨c, rfl⟩ := if_ok e
    obtain ⟨a, vs, rfl, q1, q2⟩ := hv3.items rl3 ex c
    exact .inl ⟨a, vs, rfl, SqL.of q1, new_list rl3 (cut_rep q2 lo hi) fun G4 H4 w x4 hw => k G4 H4 w (((x1.trans x2).trans x3).trans x4) (hw.from ((x1.hh.trans x2.hh).trans x3.hh))⟩
  · rename_i xs ex
    obtain ⟨c, rfl⟩ := if_ok e
    obtain ⟨a, vs, rfl, q1, q2⟩ := hv3.items2 rl3 ex c
    exact .inl ⟨a, vs, rfl, q1, new_list rl3 (cut_rep q2 lo hi) fun G4 H4 w x4 hw => k G4 H4 w (((x1.trans x2).trans x3).trans x4) (hw.from ((x1.hh.trans x2.hh).trans x3.hh))⟩
  · rename_i xs ex
    obtain ⟨⟨c, c2⟩, rfl⟩ := if_ok e
    obtain ⟨a, vs, rfl, q1, q2⟩ := Rp.items3 rl3 hv3 ex c
    exact .inr ⟨a, vs, rfl, q1, by rw [q2.len]; exact c2, new_tup rl3 (cut_rep q2 lo hi) fun G4 H4 w x4 hw => k G4 H4 w (((x1.trans x2).trans x3).trans x4) (hw.from ((x1.hh.trans x2.hh).trans x3.hh))⟩
  · cases e
theorem de_sl {K : PySem.W.Frag} {X : Cx} {pos p2 : Pos} {a : Expr} {lo hi : Option Expr} {te : TE} {tl th : TO} {f : En → Res Vl} {l h : En → Res (Option Int)} (h1 : DE X a te f) (h2 : DO X lo tl l) (h3 : DO X hi th h) (hK : X.K = K := by rfl) : DE X (.Subscript a (.Slice lo hi none p2) pos) (tSl (rSl2 K) te tl th) (slE f l h) := by
  subst hK
  exact ⟨pe_slice (SlR.or sl_list sl_tup) h1.pe h2.po h3.po, ev_sl h1.ev h2.ev h3.ev⟩
/-! ### isinstance(x, T), T a built-in type -/
def tyD : D → String
  | .non => "NoneType"
  | .bl _ => "bool"
  | .int _ => "int"
  | .str _ => "str"
  | .lst _ => "list"
  | .tup _ => "tuple"
  | .fz _ => "list"
def isiB (T : String) : D → Bool
  | .non => T == "NoneType"
  | .bl _ => T == "bool" || T == "int"
  | .int _ => T == "int"
  | .str _ => T == "str"
  | .lst _ => T == "list"
  | .tup _ => T == "tuple"
  | .fz _ => T == "list"
def goodT (T : String) : Bool := T == "int" || T == "str" || T == "bool" || T == "list" || T == "tuple"
def isiE (T : String) (f : En → Res Vl) : En → Res Vl := fun env => (f env).bind fun u => .ok ⟨.g, .bl (isiB T u.d)⟩
theorem ty_sqL {K : PySem.W.Frag} {H : Hp} {a : Addr} {xs : List V} (h : SqL K H a xs) : TyX K H (.ref a) (.type "list") := by
  rcases h with (h | ⟨o, h⟩) | ⟨o, its, n, h1, h2, h3, h4, h5⟩
  · exact .base (.lst h)
  · exact .base (.frz h)
  · exact .kList h1 h2
theorem ty_sqT {K : PySem.W.Frag} {H : Hp} {a : Addr} {xs : List V} (h : SqT K H a xs) : TyX K H (.ref a) (.type "tuple") := by
  rcases h with (h | ⟨o, h⟩) | ⟨o, its, n, h1, h2, h3, h4⟩
  · exact .base (.tup h)
  · exact .fTuple h
  · exact .kTuple h1 h2
theorem ty_rep {K : PySem.W.Frag} {H : Hp} {v : V} {d : D} (h : Rep K H v d) : TyX K H v (.type (tyD d)) := by
  cases h with
  | non => exact .base .non
  | bl b => exact .base (.bl b)
  | int i => exact .base (.int i)
  | str x => exact .base (.str x)
  | lst h l => exact .base (.lst h)
  | tup h l => exact ty_sqT h
  | fz h l => exact ty_sqL h
theorem kit_tab : ∀ t ∈ ["NoneType", "bool", "int", "str", "list", "tuple"], ∀ T ∈ ["int", "str", "bool", "list", "tuple"], kitB t T = some (t == T || (t == "bool" && T == "int")) := by decide +kernel
theorem kit_isi {K : PySem.W.Frag} {T : String} (h : goodT T = true) (d : D) : PySem.W.kitOne K (.type (tyD d)) (.type T) = some (isiB T d) := by
  have hT : T ∈ ["int", "str", "bool", "list", "tuple"] := by
    unfold goodT at h
    simp only [Bool.or_eq_true, beq_iff_eq] at h
    simp only [List.mem_cons, List.not_mem_nil, or_false]
    rcases h with (((h | h) | h) | h) | h
    · exact .inl h
    · exact .inr (.inl h)
    · exact .inr (.inr (.inl h))
    · exact .inr (.inr (.inr (.inl h)))
    · exact .inr (.inr (.inr (.inr h)))
  have e := kit_tab (tyD d) (by cases d <;> simp [tyD]) T hT
  refine kit_ty (e.trans ?_)
  congr 1
  simp only [List.mem_cons, List.not_mem_nil, or_false] at hT
  rcases hT with rfl | rfl | rfl | rfl | rfl <;> cases d <;> first | rfl | simp [tyD, isiB]
theorem de_isi {K : PySem.W.Frag} {X : Cx} {pos p p2 : Pos} {a : Expr} {ta : TE} {f : En → Res Vl} {T : Str} {Ts : String} (hT : goodT Ts = true) (hv : bootBuiltins T = some (.type Ts)) (hm : X.mg "isinstance" = none) (hmT : X.mg T = none) (h : DE X a ta f)
    (hg : Gl X "isinstance" := by rfl) (hgT : Gl X T := by rfl) (hn : T ≠ "__name__" := by decide) (hdb : (T == ("__debug__" : Str)) = false := by decide)
    (h1 : starEach (a :: [.Name T p2]) X.env = (false, eval a X.env) :: starEach [.Name T p2] X.env := by rfl) (hK : X.K = K := by rfl) : DE X (.Call (.Name "isinstance" p) [a, .Name T p2] [] pos) (tCB (rIsi K) (tCons ta (tCons (tC (.ty Ts)) tNil))) (isiE Ts f) := by
  subst hK
  exact ⟨pe_callB call_isi hg hm (by decide +kernel) (pa_cons h.pe (pa_cons (pe_bltn hgT hmT hv rfl hn hdb) pa_nil) h1) (by decide) (by decide) h1, fun B G0 G env σ H z rl e Q k => by
    obtain ⟨u, e1, e⟩ := Res.bind_eq e
    cases e
    exact h.ev B G0 G env σ H u rl e1 _ fun G' H' v x hv => ⟨v, .ty Ts, .type (tyD u.d), .type Ts, _, rfl, .ty Ts, ty_rep (hv.look (rl.ext x)), kit_isi hT u.d, k G' H' _ x (.bl _)⟩⟩
end DL

namespace DL
open PySem L2
/-! ### statements -/
inductive Out where
  | nx (e : En) | rt (u : Vl) | bk (e : En) | ct (e : En) | no
/-- what is wanted behind an outcome -/
def OutOk (K : PySem.W.Frag) (B G0 G : Hp) (D : Ends) : Out → Prop
  | .nx e => ∀ G' σ' H', Same G G' → Rel K B G0 G' e σ' H' → D.nx σ' H'
  | .bk e => ∀ G' σ' H', Same G G' → Rel K B G0 G' e σ' H' → D.bk σ' H'
  | .ct e => ∀ G' σ' H', Same G G' → Rel K B G0 G' e σ' H' → D.ct σ' H'
  | .rt u => ∀ G' H' v, Same G G' → Rel K B G0 G' [] [] H' → Rp K B G' B H' u v → D.rt v H'
  | .no => False
def SvD (K : PySem.W.Frag) (ts : TS) (f : En → Out) : Prop := ∀ (B G0 G : Hp) (env : En) (σ : L2.St) (H : Hp) (D : Ends), Rel K B G0 G env σ H → OutOk K B G0 G D (f env) → ts D σ H
structure DS (X : Cx) (st : Stmt) (ts : TS) (f : En → Out) : Prop where
  ps : PS X st ts
  sv : SvD X.K ts f
structure DSs (X : Cx) (st : List Stmt) (ts : TS) (f : En → Out) : Prop where
  ps : PSs X st ts
  sv : SvD X.K ts f
theorem OutOk.mono {K : PySem.W.Frag} {B G0 G G' : Hp} {D : Ends} {o : Out} (s : Same G G') (h : OutOk K B G0 G D o) : OutOk K B G0 G' D o := by
  cases o with
  | nx e => exact fun G2 σ' H' q r => h G2 σ' H' (s.trans q) r
  | bk e => exact fun G2 σ' H' q r => h G2 σ' H' (s.trans q) r
  | ct e => exact fun G2 σ' H' q r => h G2 σ' H' (s.trans q) r
  | rt u => exact fun G2 H' v q r => h G2 H' v (s.trans q) r
  | no => exact h
def seqO (f g : En → Out) : En → Out := fun env => match f env with
  | .nx e => g e
  | o => o
theorem sv_seq {K : PySem.W.Frag} {t u : TS} {f g : En → Out} (h1 : SvD K t f) (h2 : SvD K u g) : SvD K (tSeq t u) (seqO f g) := fun B G0 G env σ H D r k => by
  refine h1 B G0 G env σ H _ r ?_
  unfold seqO at k
  cases e : f env with
  | nx e' =>
    rw [e] at k
    exact fun G' σ' H' s r' => h2 B G0 G' e' σ' H' D r' (k.mono s)
  | _ => rw [e] at k; exact k
section
variable {X : Cx} {st : Stmt} {rest : List Stmt} {t u : TS} {f g : En → Out}
def nextO : En → Out := fun env => .nx env
theorem sv_next {K : PySem.W.Frag} : SvD K tNext nextO := fun B G0 G env σ H D r k => k G σ H (Same.refl G) r
theorem dss_nil : DSs X [] tNext nextO := ⟨pss_nil, sv_next⟩
theorem dss_cons (h1 : DS X st t f) (h2 : DSs X rest u g) : DSs X (st :: rest) (tSeq t u) (seqO f g) := ⟨pss_cons h1.ps h2.ps, sv_seq h1.sv h2.sv⟩
theorem dss_one (h1 : DS X st t f) : DSs X [st] t f := ⟨pss_one h1.ps, h1.sv⟩
theorem ds_pass {pos : Pos} : DS X (.Pass pos) tNext nextO := ⟨ps_pass, sv_next⟩
theorem ds_break {pos : Pos} : DS X (.Break pos) tBreak (fun env => .bk env) := ⟨ps_break, fun B G0 G env σ H D r k => k G σ H (Same.refl G) r⟩
theorem ds_continue {pos : Pos} : DS X (.Continue pos) tCont (fun env => .ct env) := ⟨ps_continue, fun B G0 G env σ H D r k => k G σ H (Same.refl G) r⟩
end
/-- a list that stands in slot i is kept from now on -/
def frz1 (i : Nat) (env : En) : En := match env[i]? with
  | some (.ow xs) => env.set i (.vl true (.lst xs))
  | _ => env
def frz : List Nat → En → En
  | [], env => env
  | i :: is, env => frz is (frz1 i env)
def frzO (is : List Nat) (f : En → Out) : En → Out := fun env => f (frz is env)
section
variable {K : PySem.W.Frag} {B G0 G G' H H' : Hp} {env : En} {σ : L2.St}
theorem set_get {α : Type} {l : List α} {i j : Nat} {x y : α} (h : (l.set i x)[j]? = some y) : (i = j ∧ y = x) ∨ (i ≠ j ∧ l[j]? = some y) := by
  by_cases e : i = j
  · subst e
    have hl : i < l.length := by
      have := (List.getElem?_eq_some_iff.mp h).1
      rwa [List.length_set] at this
    rw [List.getElem?_set_self hl] at h
    exact .inl ⟨rfl, (Option.some.inj h).symm⟩
  · rw [List.getElem?_set_ne e] at h
    exact .inr ⟨e, h⟩
theorem Rel.frz1 (r : Rel K B G0 G env σ H) (i : Nat) : ∃ G', Same G G' ∧ Rel K B G0 G' (frz1 i env) σ H := by
  unfold DL.frz1
  split
  · rename_i xs e
    have hi : i < σ.length := by
      have h1 := (List.getElem?_eq_some_iff.mp e).1
      have h2 := r.len
      omega
    have eo : σ[i]? = some σ[i] := List.getElem?_eq_getElem hi
    obtain ⟨L, vs, e1, b1, g1, h1, r1⟩ := r.sl i _ _ e eo
    have s1 : Same G (upd G L (.lst vs)) := same_upd (Same.refl _) g1
    refine ⟨upd G L (.lst vs), s1, r.g0.trans s1, fun b u q => ?_, r.bh, fun a q n => ?_, by rw [List.length_set]; exact r.len, fun j s o q1 q2 => ?_, fun j k xs' ys L' hjk q1 q2 q3 q4 => ?_⟩
    · by_cases z : b = L
      · subst z
        rw [upd_same] at q
        cases q
        exact h1
      · rw [upd_ne z] at q
        exact r.gh b u q
    · by_cases z : a = L
      · rw [z]; exact b1
      · rw [upd_ne z] at n
        exact r.fr a q n
    · rcases set_get q1 with ⟨rfl, rfl⟩ | ⟨ne, q1⟩
      · rw [eo] at q2
        cases q2
        exact ⟨.ref L, e1, .lst upd_same (r1.mono s1)⟩
      · have x := r.sl j s o q1 q2
        match s, x with
        | .no, _ => trivial
        | .vl true d, ⟨v, y1, y2⟩ => exact ⟨v, y1, y2.mono s1⟩
        | .vl false d, ⟨v, y1, y2⟩ => exact ⟨v, y1, y2⟩
        | .ow ys, ⟨L2, ws, y1, y2, y3, y4, y5⟩ =>
          refine ⟨L2, ws, y1, y2, ?_, y4, y5.mono s1⟩
          have : L2 ≠ L := fun z => r.ds i j xs ys L ne e q1 (by rw [eo, e1]) (by rw [q2, y1, z])
          rw [upd_ne this]
          exact y3
    · rcases set_get q1 with ⟨rfl, z⟩ | ⟨n1, q1⟩
      · cases z
      · rcases set_get q2 with ⟨rfl, z⟩ | ⟨n2, q2⟩
        · cases z
        · exact r.ds j k xs' ys L' hjk q1 q2 q3 q4
  · exact ⟨G, Same.refl G, r⟩
theorem Rel.frz : ∀ (is : List Nat) {G : Hp} {env : En}, Rel K B G0 G env σ H → ∃ G', Same G G' ∧ Rel K B G0 G' (frz is env) σ H
  | [], G, env, r => ⟨G, Same.refl G, r⟩
  | i :: is, G, env, r => by
    obtain ⟨G1, s1, r1⟩ := r.frz1 i
    obtain ⟨G2, s2, r2⟩ := Rel.frz is r1
    exact ⟨G2, s1.trans s2, r2⟩
/-- an own slot's value -/
def slotOf : Vl → Res Sl
  | ⟨.g, d⟩ => .ok (.vl true d)
  | ⟨.b, d⟩ => .ok (.vl false d)
  | ⟨.o, .lst xs⟩ => .ok (.ow xs)
  | ⟨_, _⟩ => .no
theorem list_ext {α : Type} {l : List α} {i : Nat} {x : α} (h : i < l.length) : l[i]? = some l[i] := List.getElem?_eq_getElem h
/-- a value goes into slot i -/
theorem Rel.put {u : Vl} {v : V} {s : Sl} (r : Rel K B G0 G env σ H) (x : Ext G H G' H') (h : Rp K B G' H H' u v) (e : slotOf u = .ok s) (i : Nat) : Rel K B G0 G' (env.set i s) (σ.set i (some v)) H' := by
  have r' := r.ext x
  refine ⟨r'.g0, r'.gh, r'.bh, r'.fr, by rw [List.length_set, List.length_set]; exact r'.len, fun j s' o q1 q2 => ?_, fun j k xs ys L hjk q1 q2 q3 q4 => ?_⟩
  · rcases set_get q1 with ⟨rfl, rfl⟩ | ⟨ne, q1⟩
    · rcases set_get q2 with ⟨_, rfl⟩ | ⟨ne, _⟩
      · obtain ⟨k, d⟩ := u
        cases k with
        | g => cases e; exact ⟨v, rfl, h⟩
        | b => cases e; exact ⟨v, rfl, h⟩
        | h =>
          cases d <;> cases e
        | o =>
          obtain ⟨L, vs, ds, e1, e2, e3, e4, e5, e6⟩ := h
          dsimp only at e2
          subst e2
          cases e
          exact ⟨L, vs, by rw [e1], r.bh.free e3, e4, e5, e6⟩
      · exact absurd rfl ne
    · rcases set_get q2 with ⟨z, _⟩ | ⟨_, q2⟩
      · exact absurd z ne
      · exact r'.sl j s' o q1 q2
  · have fresh : ∀ {j k : Nat} {xs ys : List D}, (i = j) → Sl.ow xs = s → i ≠ k → env[k]? = some (.ow ys) → σ[k]? = some (some (.ref L)) → v = .ref L → False := fun {j k xs ys} _ es nk q2 q4 ev => by
      obtain ⟨kk, d⟩ := u
      cases kk with
      | g => cases e; cases es
      | b => cases e; cases es
      | h => cases d <;> cases e
      | o =>
        obtain ⟨L', vs, ds, e1, e2, e3, e4, e5, e6⟩ := h
        obtain ⟨L2, ws, y1, y2, y3, y4, y5⟩ := r.sl k _ _ q2 q4
        have a1 : L' = L := by
          rw [e1] at ev
          cases ev
          rfl
        have a2 : L = L2 := by cases y1; rfl
        rw [← a2, ← a1, e3] at y4
        cases y4
    rcases set_get q1 with ⟨e1, z⟩ | ⟨n1, q1⟩
    · rcases set_get q2 with ⟨e2, _⟩ | ⟨n2, q2⟩
      · exact hjk (e1.symm.trans e2)
      · rcases set_get q3 with ⟨_, z3⟩ | ⟨n3, _⟩
        · rcases set_get q4 with ⟨z4, _⟩ | ⟨_, q4⟩
          · exact n2 z4
          · exact fresh e1 z n2 q2 q4 (Option.some.inj z3).symm
        · exact n3 e1
    · rcases set_get q2 with ⟨e2, z⟩ | ⟨n2, q2⟩
      · rcases set_get q4 with ⟨_, z4⟩ | ⟨n4, _⟩
        · rcases set_get q3 with ⟨z3, _⟩ | ⟨_, q3⟩
          · exact n1 z3
          · exact fresh e2 z n1 q1 q3 (Option.some.inj z4).symm
        · exact n4 e2
      · rcases set_get q3 with ⟨z3, _⟩ | ⟨_, q3⟩
        · exact n1 z3
        · rcases set_get q4 with ⟨z4, _⟩ | ⟨_, q4⟩
          · exact n2 z4
          · exact r'.ds j k xs ys L hjk q1 q2 q3 q4
theorem Rel.fin (r : Rel K B G0 G env σ H) : Rel K B G0 G [] [] H := ⟨r.g0, r.gh, r.bh, r.fr, rfl, fun i s o e => by simp at e, fun i j xs ys L _ e => by simp at e⟩
end
def setO (i : Nat) (f : En → Res Vl) : En → Out := fun env => match (f env).bind slotOf with
  | .ok s => .nx (env.set i s)
  | .no => .no
def retV : Vl → Res Vl
  | ⟨.g, d⟩ => .ok ⟨.g, d⟩
  | ⟨.o, d⟩ => .ok ⟨.o, d⟩
  | ⟨.h, d⟩ => .ok ⟨.o, d⟩
  | ⟨.b, d⟩ => if flat d = true then .ok ⟨.g, d⟩ else .no
def retO (f : En → Res Vl) : En → Out := fun env => match (f env).bind retV with
  | .ok u => .rt u
  | .no => .no
def ifO (p : En → Res Bool) (f g : En → Out) : En → Out := fun env => match p env with
  | .ok true => f env
  | .ok false => g env
  | .no => .no
def dropO (f : En → Res Vl) : En → Out := fun env => match f env with
  | .ok _ => .nx env
  | .no => .no
section
variable {K : PySem.W.Frag} {te : TE} {tt : TT} {ts tu : TS} {f : En → Res Vl} {p : En → Res Bool} {g h : En → Out}
theorem sv_set (i : Nat) (hf : EvD K te f) : SvD K (tAsg te (gName i)) (setO i f) := fun B G0 G env σ H D r k => by
  unfold setO at k
  split at k
  · rename_i s e
    obtain ⟨u, e1, e2⟩ := Res.bind_eq e
    exact hf B G0 G env σ H u r e1 _ fun G' H' v x hv => k G' _ H' x.gg (r.put x hv e2 i)
  · exact k.elim
theorem sv_ret (hf : EvD K te f) : SvD K (tRet te) (retO f) := fun B G0 G env σ H D r k => by
  unfold retO at k
  split at k
  · rename_i u e
    obtain ⟨w, e1, e2⟩ := Res.bind_eq e
    refine hf B G0 G env σ H w r e1 _ fun G' H' v x hv => k G' H' v x.gg (r.ext x).fin ?_
    obtain ⟨kk, d⟩ := w
    cases kk with
    | g => cases e2; exact hv
    | o => cases e2; exact Rp.from r.bh hv
    | h =>
      cases e2
      obtain ⟨L, vs, ds, e1, e2, b, g, e3, e4⟩ := hv
      exact ⟨L, vs, ds, e1, e2, b, g, e3, e4⟩
    | b =>
      obtain ⟨c, rfl⟩ := if_ok e2
      exact Rep.flat (show Rep K B v d from hv) c
  · exact k.elim
theorem sv_if (hp : EvT K tt p) (h1 : SvD K ts g) (h2 : SvD K tu h) : SvD K (tIfS tt ts tu) (ifO p g h) := fun B G0 G env σ H D r k => by
  unfold ifO at k
  split at k
  · rename_i e
    exact hp B G0 G env σ H true r e _ fun G' H' x => by
      rw [if_pos rfl]
      exact h1 B G0 G' env σ H' D (r.ext x) (k.mono x.gg)
  · rename_i e
    exact hp B G0 G env σ H false r e _ fun G' H' x => by
      rw [if_neg Bool.false_ne_true]
      exact h2 B G0 G' env σ H' D (r.ext x) (k.mono x.gg)
  · exact k.elim
theorem sv_frz (is : List Nat) (h1 : SvD K ts g) : SvD K ts (fun env => g (frz is env)) := fun B G0 G env σ H D r k => by
  obtain ⟨G', s, r'⟩ := r.frz is
  exact h1 B G0 G' (frz is env) σ H D r' (k.mono s)
theorem sv_drop (hf : EvD K te f) : SvD K (tDrop te) (dropO f) := fun B G0 G env σ H D r k => by
  unfold dropO at k
  split at k
  · rename_i u e
    exact hf B G0 G env σ H u r e _ fun G' H' v x hv => k G' σ H' x.gg (r.ext x)
  · exact k.elim
end
section
variable {X : Cx} {pos : Pos} {e : Expr} {te : TE} {tt : TT} {ts tu : TS} {f : En → Res Vl} {p : En → Res Bool} {g h : En → Out} {a b : List Stmt}
theorem ds_set (i : Nat) {x : Str} {pos' : Pos} (hN : X.N.Nodup) (he : DE X e te f) (hi : X.N[i]? = some x := by rfl) (hx : Loc X.env.scope x := by first | exact Or.inl rfl | exact Or.inr rfl) (hs : swapsWith e (some (.Name x pos')) pos.line X.env = pure false := by rfl)
    (hf : X.fn x = true ∨ X.env.scope.names.lookup x = some .local := by first | exact .inl rfl | exact .inr rfl | assumption) : DS X (.Assign [.Name x pos'] e pos) (tAsg te (gName i)) (setO i f) := ⟨ps_set hN hi hx he.pe hs hf, sv_set i he.ev⟩
theorem ds_ret (he : DE X e te f) : DS X (.Return (some e) pos) (tRet te) (retO f) := ⟨ps_ret he.pe, sv_ret he.ev⟩
theorem ds_retN : DS X (.Return none pos) tRetN (fun _ => .rt ⟨.g, .non⟩) := ⟨ps_retN, fun B G0 G env σ H D r k => k G H .non (Same.refl G) r.fin .non⟩
theorem ds_if {c : Expr} (hc : DT X c tt p) (ha : DSs X a ts g) (hb : DSs X b tu h) : DS X (.If c a b pos) (tIfS tt ts tu) (ifO p g h) := ⟨ps_if hc.pt ha.ps hb.ps, sv_if hc.ev ha.sv hb.sv⟩
theorem ds_frz {st : Stmt} (is : List Nat) (h1 : DS X st ts g) : DS X st ts (frzO is g) := ⟨h1.ps, sv_frz is h1.sv⟩
theorem ds_expr (he : DE X e te f) (hs : swapsWith e none pos.line X.env = pure false := by rfl) : DS X (.Expr e pos) (tDrop te) (dropO f) := ⟨ps_expr he.pe hs, sv_drop he.ev⟩
end
end DL

namespace DL
open PySem L2
/-! ### lists that stand in slots, changed -/
section
variable {K : PySem.W.Frag} {B G0 G G' H H' : Hp} {env : En} {σ : L2.St}
theorem Rel.slot (r : Rel K B G0 G env σ H) {i : Nat} {s : Sl} (e : env[i]? = some s) : ∃ o, σ[i]? = some o ∧ SlOk K B G H s o := by
  have hi : i < σ.length := by
    have h1 := (List.getElem?_eq_some_iff.mp e).1
    have h2 := r.len
    omega
  exact ⟨σ[i], List.getElem?_eq_getElem hi, r.sl i s _ e (List.getElem?_eq_getElem hi)⟩
/-- an object that no slot knows changes -/
theorem Rel.beside (r : Rel K B G0 G env σ H) {L : Addr} {o : HO} (b : B L = none) (g : G L = none) (n : ∀ (i : Nat) xs, env[i]? = some (.ow xs) → σ[i]? ≠ some (some (.ref L))) : Rel K B G0 G env σ (upd H L o) := by
  refine ⟨r.g0, fun x u q => ?_, fun x u q => ?_, r.fr, r.len, fun i s o' q1 q2 => ?_, r.ds⟩
  · rw [upd_ne (ne_of_none q g)]; exact r.gh x u q
  · rw [upd_ne (ne_of_none q b)]; exact r.bh x u q
  · have x := r.sl i s o' q1 q2
    match s, x, q1 with
    | .no, _, _ => trivial
    | .vl true d, x, _ => exact x
    | .vl false d, x, _ => exact x
    | .ow ys, ⟨L2, ws, y1, y2, y3, y4, y5⟩, q1 =>
      have : L2 ≠ L := fun z => n i ys q1 (by rw [q2, y1, z])
      exact ⟨L2, ws, y1, y2, y3, by rw [upd_ne this]; exact y4, y5⟩
theorem Rel.mut {i : Nat} {xs xs' : List D} {L : Addr} {vs' : List V} (r : Rel K B G0 G env σ H) (e : env[i]? = some (.ow xs)) (eL : σ[i]? = some (some (.ref L))) (h : RepL K G vs' xs') : Rel K B G0 G (env.set i (.ow xs')) σ (upd H L (.lst vs')) := by
  obtain ⟨L', vs, y1, y2, y3, y4, y5⟩ := r.sl i _ _ e eL
  cases y1
  have hi : i < env.length := (List.getElem?_eq_some_iff.mp e).1
  refine ⟨r.g0, fun x u q => ?_, fun x u q => ?_, r.fr, by rw [List.length_set]; exact r.len, fun j s o' q1 q2 => ?_, fun j k xs1 ys1 L1 hjk q1 q2 q3 q4 => ?_⟩
  · rw [upd_ne (ne_of_none q y3)]; exact r.gh x u q
  · rw [upd_ne (ne_of_none q y2)]; exact r.bh x u q
  · rcases set_get q1 with ⟨rfl, rfl⟩ | ⟨ne, q1⟩
    · rw [eL] at q2
      cases q2
      exact ⟨L, vs', rfl, y2, y3, upd_same, h⟩
    · have x := r.sl j s o' q1 q2
      match s, x, q1 with
      | .no, _, _ => trivial
      | .vl true d, x, _ => exact x
      | .vl false d, x, _ => exact x
      | .ow ys, ⟨L2, ws, z1, z2, z3, z4, z5⟩, q1 =>
        have : L2 ≠ L := fun z => r.ds i j xs ys L ne e q1 eL (by rw [q2, z1, z])
        exact ⟨L2, ws, z1, z2, z3, by rw [upd_ne this]; exact z4, z5⟩
  · rcases set_get q1 with ⟨e1, z⟩ | ⟨n1, q1⟩
    · rcases set_get q2 with ⟨e2, _⟩ | ⟨n2, q2⟩
      · exact hjk (e1.symm.trans e2)
      · exact r.ds i k xs ys1 L1 n2 e q2 (by rw [e1]; exact q3) q4
    · rcases set_get q2 with ⟨e2, _⟩ | ⟨n2, q2⟩
      · exact r.ds j i xs1 xs L1 (Ne.symm n1) q1 e q3 (by rw [e2]; exact q4)
      · exact r.ds j k xs1 ys1 L1 hjk q1 q2 q3 q4
end
def keepD (u : Vl) : Res D := if u.keep = true then .ok u.d else .no
def owAt (env : En) (i : Nat) : Res (List D) := match env[i]? with
  | some (.ow xs) => .ok xs
  | _ => .no
theorem owAt_inv {env : En} {i : Nat} {xs : List D} (h : owAt env i = .ok xs) : env[i]? = some (.ow xs) := by
  unfold owAt at h
  split at h
  · cases h; assumption
  · cases h
/-- x.append(e) -/
def appO (i : Nat) (f : En → Res Vl) : En → Out := fun env => match (f env).bind keepD with
  | .ok d => match owAt env i with
    | .ok xs => if xs.length < sizeLine then .nx (env.set i (.ow (xs ++ [d]))) else .no
    | .no => .no
  | .no => .no
/-- x[j] = e -/
def putO (i : Nat) (f g : En → Res Vl) : En → Out := fun env => match (f env).bind keepD with
  | .ok d => match g env with
    | .ok ⟨_, .int j⟩ => match owAt env i with
      | .ok xs => match ixN xs.length j with
        | some m => .nx (env.set i (.ow (xs.set m d)))
        | none => .no
      | .no => .no
    | _ => .no
  | .no => .no
/-- x.clear() -/
def clearO (i : Nat) : En → Out := fun env => match owAt env i with
  | .ok _ => .nx (env.set i (.ow []))
  | .no => .no
/-- i += e of ints -/
def augO (i : Nat) (p : Int → Int → Int) (f : En → Res Vl) : En → Out := fun env => match env[i]? with
  | some (.vl _ (.int a)) => match f env with
    | .ok ⟨_, .int b⟩ => .nx (env.set i (.vl true (.int (p a b))))
    | _ => .no
  | _ => .no
section
variable {K : PySem.W.Frag} {te tj : TE} {f g : En → Res Vl}
theorem keepD_inv {u : Vl} {d : D} (h : keepD u = .ok d) : u.keep = true ∧ u.d = d := if_ok h
theorem tyV_lst {K : PySem.W.Frag} {p : Addr} {xs : List V} {H : Hp} (h : H p = some (.lst xs)) : tyV K "list" (.ref p) H := Or.inl ⟨rfl, _, Or.inl (Or.inl h)⟩
theorem sv_app (i : Nat) (hf : EvD K te f) : SvD K (tDrop (tBM K "list" rAppend (tVar i) (tCons te tNil))) (appO i f) := fun B G0 G env σ H D r k => by
  unfold appO at k
  split at k
  · rename_i d e
    obtain ⟨u, e1, e2⟩ := Res.bind_eq e
    obtain ⟨kp, rfl⟩ := keepD_inv e2
    split at k
    · rename_i xs ex
      have ex := owAt_inv ex
      split at k
      · rename_i hz
        obtain ⟨o, eo, L, vs, y1, y2, y3, y4, y5⟩ := r.slot ex
        subst y1
        refine ⟨.ref L, eo, tyV_lst y4, hf B G0 G env σ H u r e1 _ fun G1 H1 v x hv => ?_⟩
        obtain ⟨G2, x2, s2, hd⟩ := hv.freeze x kp
        have r2 := r.ext x2
        refine ⟨L, vs, v, rfl, rfl, x2.hh _ _ y4, by rw [y5.len]; exact hz, ?_⟩
        exact k G2 σ _ x2.gg (r2.mut ex eo ((y5.mono x2.gg).app (.cons hd .nil)))
      · exact k.elim
    · exact k.elim
  · exact k.elim
theorem ixN_rep {n : Nat} {i : Int} {m : Nat} (h : ixN n i = some m) : m < n := (ixN_seq h).2.1
theorem sv_put (i : Nat) (hf : EvD K te f) (hg : EvD K tj g) : SvD K (tAsg te (gSub (tVar i) tj rSetL)) (putO i f g) := fun B G0 G env σ H D r k => by
  unfold putO at k
  split at k
  · rename_i d e
    obtain ⟨u, e1, e2⟩ := Res.bind_eq e
    obtain ⟨kp, rfl⟩ := keepD_inv e2
    split at k
    · rename_i kd j ej
      split at k
      · rename_i xs ex
        have ex := owAt_inv ex
        split at k
        · rename_i m em
          obtain ⟨o, eo, L, vs, y1, y2, y3, y4, y5⟩ := r.slot ex
          subst y1
          refine hf B G0 G env σ H u r e1 _ fun G1 H1 v x hv => ?_
          obtain ⟨G2, x2, s2, hd⟩ := hv.freeze x kp
          have r2 := r.ext x2
          refine ⟨.ref L, eo, hg B G0 G2 env σ H1 _ r2 ej _ fun G3 H3 w x3 hw => ?_⟩
          have r3 := r2.ext x3
          have hw' := hw.look r3
          refine ⟨L, vs, j, m, rfl, hw'.int_inv, x3.hh _ _ (x2.hh _ _ y4), by rw [y5.len]; exact em, ?_⟩
          exact k G3 σ _ (x2.gg.trans x3.gg) (r3.mut ex eo ((y5.mono (x2.gg.trans x3.gg)).set (hd.mono x3.gg) m))
        · exact k.elim
      · exact k.elim
    · exact k.elim
  · exact k.elim
theorem sv_clear (i : Nat) : SvD K (tDrop (tBM0 K "list" rClear (tVar i))) (clearO i) := fun B G0 G env σ H D r k => by
  unfold clearO at k
  split at k
  · rename_i xs ex
    have ex := owAt_inv ex
    obtain ⟨o, eo, L, vs, y1, y2, y3, y4, y5⟩ := r.slot ex
    subst y1
    exact ⟨.ref L, eo, tyV_lst y4, L, vs, rfl, rfl, y4, k G σ _ (Same.refl G) (r.mut ex eo .nil)⟩
  · exact k.elim
theorem sv_aug (i : Nat) {p : Int → Int → Int} (hf : EvD K te f) : SvD K (tAug i te (ipI p)) (augO i p f) := fun B G0 G env σ H D r k => by
  unfold augO at k
  split at k
  · rename_i b a ea
    split at k
    · rename_i kd c ec
      obtain ⟨o, eo, so⟩ := r.slot ea
      have : ∃ v, o = some v ∧ v = V.int a := by
        cases b with
        | true => obtain ⟨v, e, h⟩ := so; exact ⟨v, e, h.int_inv⟩
        | false => obtain ⟨v, e, h⟩ := so; exact ⟨v, e, h.int_inv⟩
      obtain ⟨_, rfl, rfl⟩ := this
      refine ⟨.int a, eo, hf B G0 G env σ H _ r ec _ fun G' H' v x hv => ?_⟩
      have hv' := hv.look (r.ext x)
      exact ⟨a, c, rfl, hv'.int_inv, k G' _ H' x.gg (Rel.put (u := ⟨.g, .int (p a c)⟩) r x (.int _) rfl i)⟩
    · exact k.elim
  · exact k.elim
end
section
variable {X : Cx} {pos apos cpos p1 p2 p3 : Pos} {e j : Expr} {te tj : TE} {f g : En → Res Vl} {x : Str}
theorem ds_app (i : Nat) (he : DE X e te f) (hN : X.N[i]? = some x := by rfl) (hv : Vis X.env.scope x := by first | exact Or.inl rfl | exact Or.inr (Or.inl rfl) | exact Or.inr (Or.inr rfl)) (hd : (x == ("__debug__" : Str)) = false := by decide)
    (hcd : (x == ("__classdict__" : Str)) = false := by decide) (hbase : attributeBase (.Name x p1) "append" X.env (eval (.Name x p1) X.env) = eval (.Name x p1) X.env := by rfl)
    (hfew : ((backTo cpos (starEach (e :: []) X.env)).all (fun x => !x.1) && (backToKw cpos (keywordEach [] X.env)).all (fun x => x.1.isSome)
      && decide ((e :: []).length + ([] : List Keyword).length + (if ([] : List Keyword).isEmpty then 0 else 1) < 30)) = true := by rfl)
    (hline : (apos.endLine == cpos.line) = true := by rfl) (hs : starEach (e :: []) X.env = (false, eval e X.env) :: starEach [] X.env := by rfl) (hplain : (backTo cpos (starEach [] X.env)).any (·.1) = false := by rfl)
    (hw : swapsWith (.Call (.Attribute (.Name x p1) "append" apos) [e] [] cpos) none pos.line X.env = pure false := by rfl) :
    DS X (.Expr (.Call (.Attribute (.Name x p1) "append" apos) [e] [] cpos) pos) (tDrop (tBM X.K "list" rAppend (tVar i) (tCons te tNil))) (appO i f) :=
  ⟨ps_expr (pe_bm PySem.F.plainAttrs_list PySem.F.slot_list_append PySem.F.type_list_append mt_append (pe_var hN hv hd hcd) (pa_cons he.pe pa_nil hs) hbase hfew hline hs hplain) hw, sv_app i he.ev⟩
theorem ds_clear (i : Nat) (hN : X.N[i]? = some x := by rfl) (hv : Vis X.env.scope x := by first | exact Or.inl rfl | exact Or.inr (Or.inl rfl) | exact Or.inr (Or.inr rfl)) (hd : (x == ("__debug__" : Str)) = false := by decide)
    (hcd : (x == ("__classdict__" : Str)) = false := by decide) (hbase : attributeBase (.Name x p1) "clear" X.env (eval (.Name x p1) X.env) = eval (.Name x p1) X.env := by rfl) (hline : (apos.endLine == cpos.line) = true := by rfl)
    (hw : swapsWith (.Call (.Attribute (.Name x p1) "clear" apos) [] [] cpos) none pos.line X.env = pure false := by rfl) :
    DS X (.Expr (.Call (.Attribute (.Name x p1) "clear" apos) [] [] cpos) pos) (tDrop (tBM0 X.K "list" rClear (tVar i))) (clearO i) :=
  ⟨ps_expr (pe_bm0 PySem.F.plainAttrs_list PySem.F.slot_list_clear PySem.F.type_list_clear mt_clear (pe_var hN hv hd hcd) hbase hline) hw, sv_clear i⟩
theorem ds_put (i : Nat) (he : DE X e te f) (hj : DE X j tj g) (hN : X.N[i]? = some x := by rfl) (hv : Vis X.env.scope x := by first | exact Or.inl rfl | exact Or.inr (Or.inl rfl) | exact Or.inr (Or.inr rfl)) (hd : (x == ("__debug__" : Str)) = false := by decide)
    (hcd : (x == ("__classdict__" : Str)) = false := by decide) (hs : swapsWithSole [.Subscript (.Name x p1) j p2] e pos.line X.env = pure false := by rfl) (hw : swappedStores [.Subscript (.Name x p1) j p2] e X.env = pure none := by rfl)
    (ha : ∀ v, assign (.Subscript (.Name x p1) j p2) X.env v = (do
      let ov ← holding [v] (eval (.Name x p1) X.env)
      let iv ← holding [v, ov] (eval j X.env)
      standAt p2
      holding [v, ov, iv] (setItem ov iv v)
      release [v, ov, iv] []) := by intro _; rfl) :
    DS X (.Assign [.Subscript (.Name x p1) j p2] e pos) (tAsg te (gSub (tVar i) tj rSetL)) (putO i f g) := ⟨ps_asg he.pe (pg_sub (pe_var hN hv hd hcd) hj.pe set_list ha) hs hw, sv_put i he.ev hj.ev⟩
theorem ds_augAdd (i : Nat) {pos' : Pos} (hN : X.N.Nodup) (he : DE X e te f) (hi : X.N[i]? = some x := by rfl) (hx : Loc X.env.scope x := by first | exact Or.inl rfl | exact Or.inr rfl)
    (hf : X.fn x = true ∨ X.env.scope.names.lookup x = some .local := by first | exact .inl rfl | exact .inr rfl | assumption) : DS X (.AugAssign (.Name x pos') .Add e pos) (tAug i te (ipI fun i j => i + j)) (augO i (fun i j => i + j) f) := ⟨ps_aug hN hi hx he.pe ip_add hf, sv_aug i he.ev⟩
theorem ds_augSub (i : Nat) {pos' : Pos} (hN : X.N.Nodup) (he : DE X e te f) (hi : X.N[i]? = some x := by rfl) (hx : Loc X.env.scope x := by first | exact Or.inl rfl | exact Or.inr rfl)
    (hf : X.fn x = true ∨ X.env.scope.names.lookup x = some .local := by first | exact .inl rfl | exact .inr rfl | assumption) : DS X (.AugAssign (.Name x pos') .Sub e pos) (tAug i te (ipI fun i j => i - j)) (augO i (fun i j => i - j) f) := ⟨ps_aug hN hi hx he.pe ip_sub hf, sv_aug i he.ev⟩
end
/-! ### targets -/
abbrev Tg := Vl → En → Res En
/-- the target's reading does what t says; ws: the slots it writes -/
def TgD (K : PySem.W.Frag) (g : TG) (t : Tg) (ws : List Nat) : Prop := ∀ (B G0 G G' : Hp) (env env' : En) (σ : L2.St) (H H' : Hp) (u : Vl) (v : V), Rel K B G0 G env σ H → Ext G H G' H' → Rp K B G' H H' u v → t u env = .ok env' → ∀ Q : L2.St → Hp → Prop,
  (∀ σ', Rel K B G0 G' env' σ' H' → (∀ vs : List Nat, (∀ i ∈ ws, i ∈ vs) → wipe σ' vs = wipe σ vs) → Q σ' H') → g v σ H' Q
structure DG (X : Cx) (e : Expr) (g : TG) (t : Tg) (ws : List Nat) : Prop where
  pg : PG X e g
  tg : TgD X.K g t ws
def TgsD (K : PySem.W.Frag) (g : TGs) (t : Kd → List D → En → Res En) (ws : List Nat) : Prop := ∀ (B G0 G : Hp) (env env' : En) (σ : L2.St) (H : Hp) (k : Kd) (ds : List D) (vs : List V), Rel K B G0 G env σ H → k ≠ .o → vs.length = ds.length → (∀ (i : Nat) v d, vs[i]? = some v → ds[i]? = some d → Rp K B G H H ⟨k, d⟩ v) → t k ds env = .ok env' →
  ∀ Q : L2.St → Hp → Prop, (∀ σ', Rel K B G0 G env' σ' H → (∀ ks : List Nat, (∀ i ∈ ws, i ∈ ks) → wipe σ' ks = wipe σ ks) → Q σ' H) → g vs σ H Q
structure DGs (X : Cx) (es : List Expr) (g : TGs) (t : Kd → List D → En → Res En) (ws : List Nat) : Prop where
  pgs : PGs X es g
  tg : TgsD X.K g t ws
def nmT (i : Nat) : Tg := fun u env => (slotOf u).bind fun s => .ok (env.set i s)
def nilT : Kd → List D → En → Res En := fun _ ds env => match ds with
  | [] => .ok env
  | _ => .no
def consT (t : Tg) (r : Kd → List D → En → Res En) : Kd → List D → En → Res En := fun k ds env => match ds with
  | d :: ds => (t ⟨k, d⟩ env).bind fun env' => r k ds env'
  | [] => .no
def tupT (n : Nat) (r : Kd → List D → En → Res En) : Tg := fun u env => match u.d with
  | .tup ds => if ds.length = n then r u.k.sub ds env else .no
  | _ => .no
theorem wipe_set {i : Nat} {x : Option V} : ∀ {vs : List Nat} {σ : L2.St}, i ∈ vs → wipe (σ.set i x) vs = wipe σ vs
  | [], _, h => absurd h (by simp)
  | v :: vs, σ, h => by
    unfold wipe
    by_cases hm : i ∈ vs
    · rw [wipe_set hm]
    · have hv : i = v := by
        rcases List.mem_cons.mp h with h | h
        · exact h
        · exact absurd h hm
      subst hv
      rw [wipe_comm hm, List.set_set]
where
  wipe_comm {i : Nat} {x : Option V} : ∀ {vs : List Nat} {σ : L2.St}, i ∉ vs → wipe (σ.set i x) vs = (wipe σ vs).set i x
    | [], _, _ => rfl
    | v :: vs, σ, h => by
      unfold wipe
      rw [wipe_comm (fun z => h (List.mem_cons_of_mem _ z)), List.set_comm]
      exact fun z => h (by rw [z]; exact List.mem_cons_self)
section
variable {X : Cx} {pos : Pos} {e : Expr} {es : List Expr} {g : TG} {gs : TGs} {t : Tg} {r : Kd → List D → En → Res En} {ws ws' : List Nat}
theorem tg_nm {K : PySem.W.Frag} (i : Nat) : TgD K (gName i) (nmT i) [i] := fun B G0 G G' env env' σ H H' u v rl x h e Q k => by
  obtain ⟨s, e1, e2⟩ := Res.bind_eq e
  cases e2
  exact k _ (rl.put x h e1 i) fun vs hv => wipe_set (hv i List.mem_cons_self)
theorem dg_nm (i : Nat) {x : Str} (hN : X.N.Nodup) (hi : X.N[i]? = some x := by rfl) (hx : Loc X.env.scope x := by first | exact Or.inl rfl | exact Or.inr rfl) (hf : X.fn x = true ∨ X.env.scope.names.lookup x = some .local := by first | exact .inl rfl | exact .inr rfl | assumption) :
    DG X (.Name x pos) (gName i) (nmT i) [i] := ⟨pg_name hN hi hx hf, tg_nm i⟩
theorem dgs_nil : DGs X [] gNil nilT [] := ⟨pgs_nil, fun B G0 G env env' σ H k ds vs rl ko hl hi e Q q => by
  unfold nilT at e
  split at e
  · cases e
    exact ⟨List.length_eq_zero_iff.mp hl, q σ rl fun _ _ => rfl⟩
  · cases e⟩
theorem tgs_cons {K : PySem.W.Frag} (h1 : TgD K g t ws) (h2 : TgsD K gs r ws') : TgsD K (gCons g gs) (consT t r) (ws ++ ws') := fun B G0 G env env' σ H k ds vs rl ko hl hi e Q q => by
  unfold consT at e
  split at e
  · rename_i d ds'
    obtain ⟨env1, e1, e2⟩ := Res.bind_eq e
    cases vs with
    | nil => cases hl
    | cons v vs' =>
      refine ⟨v, vs', rfl, h1 B G0 G G env env1 σ H H ⟨k, d⟩ v rl (Ext.refl rl.gh) (hi 0 v d rfl rfl) e1 _ fun σ1 r1 w1 => ?_⟩
      exact h2 B G0 G env1 env' σ1 H k ds' vs' r1 ko (by simpa using hl) (fun i v' d' a b => hi (i + 1) v' d' (by simpa using a) (by simpa using b)) e2 Q fun σ2 r2 w2 => q σ2 r2 fun ks hk => (w2 ks fun i hi => hk i (List.mem_append_right _ hi)).trans (w1 ks fun i hi => hk i (List.mem_append_left _ hi))
  · cases e
theorem dgs_cons (h1 : DG X e g t ws) (h2 : DGs X es gs r ws') (hs : (assignEach (e :: es) X.env).map (·.2) = assign e X.env :: (assignEach es X.env).map (·.2) := by rfl) : DGs X (e :: es) (gCons g gs) (consT t r) (ws ++ ws') := ⟨pgs_cons h1.pg h2.pgs hs, tgs_cons h1.tg h2.tg⟩
theorem tg_tup {K : PySem.W.Frag} {n : Nat} (h : TgsD K gs r ws) : TgD K (gTup K n gs) (tupT n r) ws := fun B G0 G G' env env' σ H H' u v rl x hv e Q k => by
  unfold tupT at e
  split at e
  · rename_i ds ed
    by_cases hn : ds.length = n
    · rw [if_pos hn] at e
      have rl' := rl.ext x
      obtain ⟨kk, d⟩ := u
      dsimp only at ed e
      subst ed
      cases kk with
      | g =>
        obtain ⟨a, vs, rfl, h1, h2⟩ := Rep.tup_inv hv
        refine ⟨a, vs, rfl, Same.sqt rl'.gh h1, by rw [h2.len]; exact hn, h B G0 G' env env' σ H' .g ds vs rl' (fun z => nomatch z) h2.len (fun i y d a b => ?_) e Q k⟩
        obtain ⟨d', q1, q2⟩ := h2.get a
        rw [b] at q1
        cases q1
        exact q2
      | b =>
        obtain ⟨a, vs, rfl, h1, h2⟩ := Rep.tup_inv hv
        refine ⟨a, vs, rfl, Same.sqt rl'.bh h1, by rw [h2.len]; exact hn, h B G0 G' env env' σ H' .b ds vs rl' (fun z => nomatch z) h2.len (fun i y d a b => ?_) e Q k⟩
        obtain ⟨d', q1, q2⟩ := h2.get a
        rw [b] at q1
        cases q1
        exact q2
      | h => obtain ⟨L, vs, ds, e1, e2, _⟩ := hv; cases e2
      | o => obtain ⟨L, vs, ds, e1, e2, _⟩ := hv; cases e2
    · rw [if_neg hn] at e
      cases e
  · cases e
theorem dg_tup {K : PySem.W.Frag} {k n : Nat} (hc : X.calm = true) (h : DGs X es gs r ws) (hn : (assignEach es X.env).length = n := by rfl) (hst : (assignEach es X.env).findIdx? (·.1) = none := by rfl) (hK : X.K = K := by rfl) : DG X (.Tuple es k pos) (gTup K n gs) (tupT n r) ws := by
  subst hK
  exact ⟨pg_tup hc h.pgs hn hst, tg_tup h.tg⟩
def asgO (t : Tg) (f : En → Res Vl) : En → Out := fun env => match (f env).bind fun u => t u env with
  | .ok e => .nx e
  | .no => .no
theorem sv_asg {K : PySem.W.Frag} {te : TE} {f : En → Res Vl} (hf : EvD K te f) (ht : TgD K g t ws) : SvD K (tAsg te g) (asgO t f) := fun B G0 G env σ H D rl k => by
  unfold asgO at k
  split at k
  · rename_i env' e
    obtain ⟨u, e1, e2⟩ := Res.bind_eq e
    exact hf B G0 G env σ H u rl e1 _ fun G' H' v x hv => ht B G0 G G' env env' σ H H' u v rl x hv e2 _ fun σ' r' _ => k G' σ' H' x.gg r'
  · exact k.elim
theorem ds_asg {te : TE} {f : En → Res Vl} {tg e : Expr} (he : DE X e te f) (ht : DG X tg g t ws) (hs : swapsWithSole [tg] e pos.line X.env = pure false := by rfl) (hw : swappedStores [tg] e X.env = pure none := by rfl) (h1 : (assignEach [tg] X.env).map (·.2) = [assign tg X.env] := by rfl) : DS X (.Assign [tg] e pos) (tAsg te g) (asgO t f) := ⟨ps_asg he.pe ht.pg hs hw h1, sv_asg he.ev ht.tg⟩
end
end DL

namespace DL
open PySem L2
/-! ### loops -/
/-- the iterator J goes over xs, of kind k, as long as the kept and the lent part stand -/
def Walks (K : PySem.W.Frag) (B G' : Hp) (J : It) (k : Kd) (xs : List D) : Prop := (k = .g ∨ k = .b) ∧ ∃ vs : List V, vs.length = xs.length ∧ (∀ (i : Nat) v d, vs[i]? = some v → xs[i]? = some d → ∀ G2 H, Same G' G2 → Rp K B G2 H H ⟨k, d⟩ v) ∧
  (∀ (i : Nat) H, Same G' H → Same B H → i < xs.length → J.go i H) ∧ (∀ (i : Nat) H x H', Same G' H → Same B H → J.yld i H x H' → H' = H ∧ (i < xs.length → vs[i]? = some x)) ∧ (∀ H, Same G' H → Same B H → J.stop xs.length H)
def ItD (K : PySem.W.Frag) (wi : TI) (f : En → Res (Kd × List D)) : Prop := ∀ (B G0 G : Hp) (env : En) (σ : L2.St) (H : Hp) (k : Kd) (xs : List D), Rel K B G0 G env σ H → f env = .ok (k, xs) → ∀ R : It → Hp → Prop, (∀ G' H' J, Ext G H G' H' → Walks K B G' J k xs → R J H') → wi σ H R
structure DI (X : Cx) (tg iter : Expr) (wi : TI) (f : En → Res (Kd × List D)) : Prop where
  pi : PI X tg iter wi
  it : ItD X.K wi f
def seqI (f : En → Res Vl) : En → Res (Kd × List D) := fun env => (f env).bind fun u => match u with
  | ⟨.g, .lst xs⟩ => .ok (.g, xs)
  | ⟨.o, .lst xs⟩ => .ok (.g, xs)
  | ⟨.b, .lst xs⟩ => .ok (.b, xs)
  | ⟨.g, .tup xs⟩ => .ok (.g, xs)
  | ⟨.b, .tup xs⟩ => .ok (.b, xs)
  | ⟨.g, .fz xs⟩ => .ok (.g, xs)
  | ⟨.b, .fz xs⟩ => .ok (.b, xs)
  | _ => .no
def rngD (lo : Int) (n : Nat) : List D := (List.range n).map fun (i : Nat) => .int (lo + i)
def rng1 (f : En → Res Vl) : En → Res (Kd × List D) := fun env => (f env).bind fun u => match u.d with
  | .int j => if -(2 ^ 62) ≤ j ∧ j < 2 ^ 62 then .ok (.g, rngD 0 j.toNat) else .no
  | _ => .no
def rng2 (f g : En → Res Vl) : En → Res (Kd × List D) := fun env => (f env).bind fun u => (g env).bind fun w => match u.d, w.d with
  | .int i, .int j => if -(2 ^ 62) ≤ i ∧ i < 2 ^ 62 ∧ -(2 ^ 62) ≤ j ∧ j < 2 ^ 62 then .ok (.g, rngD i (j - i).toNat) else .no
  | _, _ => .no
section
variable {K : PySem.W.Frag} {B G0 G G' H H' : Hp} {env : En} {σ : L2.St}
theorem walks_list {a : Addr} {vs : List V} {ds : List D} (hs : ∀ H, Same G' H → Same B H → SqL K H a vs) (h : RepL K G' vs ds) : Walks K B G' (Itl K a) .g ds :=
  ⟨.inl rfl, vs, h.len, fun i v d e1 e2 G2 H s => by
    obtain ⟨d', q1, q2⟩ := h.get e1
    rw [e2] at q1
    cases q1
    exact q2.mono s, fun i H s1 s2 hi => ⟨vs, vs[i]'(by rw [h.len]; exact hi), hs H s1 s2, List.getElem?_eq_getElem _⟩, fun i H x H' s1 s2 ⟨e, y⟩ => ⟨e, fun _ => y vs (hs H s1 s2)⟩, fun H s1 s2 => ⟨vs, hs H s1 s2, by rw [h.len]; exact Nat.le_refl _⟩⟩
theorem walks_listB {a : Addr} {vs : List V} {ds : List D} (hs : ∀ H, Same G' H → Same B H → SqL K H a vs) (h : RepL K B vs ds) : Walks K B G' (Itl K a) .b ds :=
  ⟨.inr rfl, vs, h.len, fun i v d e1 e2 G2 H s => by
    obtain ⟨d', q1, q2⟩ := h.get e1
    rw [e2] at q1
    cases q1
    exact q2, fun i H s1 s2 hi => ⟨vs, vs[i]'(by rw [h.len]; exact hi), hs H s1 s2, List.getElem?_eq_getElem _⟩, fun i H x H' s1 s2 ⟨e, y⟩ => ⟨e, fun _ => y vs (hs H s1 s2)⟩, fun H s1 s2 => ⟨vs, hs H s1 s2, by rw [h.len]; exact Nat.le_refl _⟩⟩
theorem walks_tup {a : Addr} {vs : List V} {ds : List D} (hs : ∀ H, Same G' H → Same B H → SqT K H a vs) (h : RepL K G' vs ds) : Walks K B G' (Itt K a) .g ds :=
  ⟨.inl rfl, vs, h.len, fun i v d e1 e2 G2 H s => by
    obtain ⟨d', q1, q2⟩ := h.get e1
    rw [e2] at q1
    cases q1
    exact q2.mono s, fun i H s1 s2 hi => ⟨vs, vs[i]'(by rw [h.len]; exact hi), hs H s1 s2, List.getElem?_eq_getElem _⟩, fun i H x H' s1 s2 ⟨e, y⟩ => ⟨e, fun _ => y vs (hs H s1 s2)⟩, fun H s1 s2 => ⟨vs, hs H s1 s2, by rw [h.len]; exact Nat.le_refl _⟩⟩
theorem walks_tupB {a : Addr} {vs : List V} {ds : List D} (hs : ∀ H, Same G' H → Same B H → SqT K H a vs) (h : RepL K B vs ds) : Walks K B G' (Itt K a) .b ds :=
  ⟨.inr rfl, vs, h.len, fun i v d e1 e2 G2 H s => by
    obtain ⟨d', q1, q2⟩ := h.get e1
    rw [e2] at q1
    cases q1
    exact q2, fun i H s1 s2 hi => ⟨vs, vs[i]'(by rw [h.len]; exact hi), hs H s1 s2, List.getElem?_eq_getElem _⟩, fun i H x H' s1 s2 ⟨e, y⟩ => ⟨e, fun _ => y vs (hs H s1 s2)⟩, fun H s1 s2 => ⟨vs, hs H s1 s2, by rw [h.len]; exact Nat.le_refl _⟩⟩
theorem walks_rng {lo : Int} {n : Nat} : Walks K B G' (Itr lo n) .g (rngD lo n) := by
  refine ⟨.inl rfl, (List.range n).map fun (i : Nat) => V.int (lo + i), by simp [rngD], fun i v d e1 e2 G2 H s => ?_, fun i H s1 s2 hi => (show i < n by simpa [rngD] using hi), fun i H x H' s1 s2 ⟨e, y⟩ => ⟨e, fun hi => ?_⟩, fun H s1 s2 => by simp [rngD, Itr]⟩
  · rw [rngD, List.getElem?_map] at e2
    rw [List.getElem?_map] at e1
    cases q : (List.range n)[i]? with
    | none => rw [q] at e1; cases e1
    | some j =>
      rw [q] at e1 e2
      cases e1
      cases e2
      exact .int _
  · have hn : i < n := by simpa [rngD] using hi
    rw [List.getElem?_map, List.getElem?_range hn, y]
    rfl
/-- list or tuple -/
theorem it_seq {te : TE} {f : En → Res Vl} (h : EvD K te f) : ItD K (fun σ H R => iList K te σ H R ∨ iTup K te σ H R) (seqI f) := fun B G0 G env σ H k xs r e R q => by
  obtain ⟨u, e1, e2⟩ := Res.bind_eq e
  have L : ∀ ds, u.d = .lst ds → (∀ G' H' v, Ext G H G' H' → Rp K B G' H H' u v → ∃ a, v = .ref a ∧ ∃ G2, Ext G H G2 H' ∧ (∃ zs, SqL K H' a zs) ∧ Walks K B G2 (Itl K a) k xs) → iList K te σ H R ∨ iTup K te σ H R := fun ds _ hh =>
    .inl (h B G0 G env σ H u r e1 _ fun G' H' v x hv => by
      obtain ⟨a, rfl, G2, x2, hz, w⟩ := hh G' H' v x hv
      exact ⟨a, rfl, hz, q G2 H' _ x2 w⟩)
  obtain ⟨kk, d⟩ := u
  cases kk with
  | g =>
    cases d with
    | lst ds =>
      cases e2
      exact .inl (h B G0 G env σ H _ r e1 _ fun G' H' v x hv => by
        obtain ⟨a, vs, rfl, h1, h2⟩ := Rep.lst_inv hv
        exact ⟨a, rfl, ⟨vs, SqL.of (x.gh _ _ h1)⟩, q G' H' _ x (walks_list (fun H s1 s2 => SqL.of (s1 _ _ h1)) h2)⟩)
    | tup ds =>
      cases e2
      exact .inr (h B G0 G env σ H _ r e1 _ fun G' H' v x hv => by
        obtain ⟨a, vs, rfl, h1, h2⟩ := Rep.tup_inv hv
        exact ⟨a, rfl, ⟨vs, Same.sqt x.gh h1⟩, q G' H' _ x (walks_tup (fun H s1 s2 => Same.sqt s1 h1) h2)⟩)
    | fz ds =>
      cases e2
      exact .inl (h B G0 G env σ H _ r e1 _ fun G' H' v x hv => by
        obtain ⟨a, vs, rfl, h1, h2⟩ := Rep.fz_inv hv
        exact ⟨a, rfl, ⟨vs, x.gh.seq h1⟩, q G' H' _ x (walks_list (fun H s1 s2 => s1.seq h1) h2)⟩)
    | _ => cases e2
  | b =>
    cases d with
    | lst ds =>
      cases e2
      exact .inl (h B G0 G env σ H _ r e1 _ fun G' H' v x hv => by
        obtain ⟨a, vs, rfl, h1, h2⟩ := Rep.lst_inv hv
        exact ⟨a, rfl, ⟨vs, SqL.of (x.hh _ _ (r.bh _ _ h1))⟩, q G' H' _ x (walks_listB (fun H s1 s2 => SqL.of (s2 _ _ h1)) h2)⟩)
    | tup ds =>
      cases e2
      exact .inr (h B G0 G env σ H _ r e1 _ fun G' H' v x hv => by
        obtain ⟨a, vs, rfl, h1, h2⟩ := Rep.tup_inv hv
        exact ⟨a, rfl, ⟨vs, Same.sqt (r.bh.trans x.hh) h1⟩, q G' H' _ x (walks_tupB (fun H s1 s2 => Same.sqt s2 h1) h2)⟩)
    | fz ds =>
      cases e2
      exact .inl (h B G0 G env σ H _ r e1 _ fun G' H' v x hv => by
        obtain ⟨a, vs, rfl, h1, h2⟩ := Rep.fz_inv hv
        exact ⟨a, rfl, ⟨vs, (r.bh.trans x.hh).seq h1⟩, q G' H' _ x (walks_listB (fun H s1 s2 => s2.seq h1) h2)⟩)
    | _ => cases e2
  | h => cases d <;> cases e2
  | o =>
    cases d with
    | lst ds =>
      cases e2
      exact .inl (h B G0 G env σ H _ r e1 _ fun G' H' v x hv => by
        obtain ⟨G2, x2, s2, hv2⟩ := hv.freeze x rfl
        obtain ⟨a, vs, rfl, h1, h2⟩ := Rep.lst_inv hv2
        exact ⟨a, rfl, ⟨vs, SqL.of (x2.gh _ _ h1)⟩, q G2 H' _ x2 (walks_list (fun H s1 s2 => SqL.of (s1 _ _ h1)) h2)⟩)
    | _ => cases e2
theorem it_rng1 {te : TE} {f : En → Res Vl} (h : EvD K te f) : ItD K (iRng1 (tCons te tNil)) (rng1 f) := fun B G0 G env σ H k xs r e R q => by
  obtain ⟨u, e1, e2⟩ := Res.bind_eq e
  refine h B G0 G env σ H u r e1 _ fun G' H' v x hv => ?_
  have y := hv.look (r.ext x)
  split at e2
  · rename_i j ej
    obtain ⟨⟨c1, c2⟩, e3⟩ := if_ok e2
    cases e3
    rw [ej] at y
    exact ⟨j, by rw [y.int_inv], c1, c2, q G' H' _ x walks_rng⟩
  · cases e2
theorem it_rng2 {ta tb : TE} {f g : En → Res Vl} (h1 : EvD K ta f) (h2 : EvD K tb g) : ItD K (iRng2 (tCons ta (tCons tb tNil))) (rng2 f g) := fun B G0 G env σ H k xs r e R q => by
  obtain ⟨u, e1, e2⟩ := Res.bind_eq e
  obtain ⟨w, e3, e4⟩ := Res.bind_eq e2
  exact ev_two h1 h2 r e1 e3 fun G' H' x y xt r' hx hy => by
    have a := hx.look r'
    have b := hy.look r'
    split at e4
    · rename_i i j ei ej
      obtain ⟨c, e5⟩ := if_ok e4
      cases e5
      rw [ei] at a
      rw [ej] at b
      exact ⟨i, j, by rw [a.int_inv, b.int_inv], c, q G' H' _ xt walks_rng⟩
    · cases e4
end
section
variable {X : Cx} {tg : Expr} {p pos : Pos} {a b : Expr} {ta tb : TE} {f g : En → Res Vl}
theorem pi_or {wi wj : TI} {e : Expr} (h1 : PI X tg e wi) (h2 : PI X tg e wj) : PI X tg e (fun σ H R => wi σ H R ∨ wj σ H R) := ⟨fun pins s σ H R I h => by
  rcases h with h | h
  · exact h1.run pins s σ H R I h
  · exact h2.run pins s σ H R I h⟩
theorem di_seq (h : DE X a ta f) : DI X tg a (fun σ H R => iList X.K ta σ H R ∨ iTup X.K ta σ H R) (seqI f) := ⟨pi_or (pi_list h.pe) (pi_tup h.pe), it_seq h.ev⟩
theorem di_rng1 (hm : X.mg "range" = none) (h : DE X a ta f) (hg : Gl X "range" := by rfl) (hs : starEach [a] X.env = [(false, eval a X.env)] := by rfl) (hs' : starEach (a :: []) X.env = (false, eval a X.env) :: starEach [] X.env := by rfl) : DI X tg (.Call (.Name "range" p) [a] [] pos) (iRng1 (tCons ta tNil)) (rng1 f) := ⟨pi_range1 hg hm (pa_cons h.pe pa_nil hs') hs, it_rng1 h.ev⟩
theorem di_rng2 (hm : X.mg "range" = none) (h : DE X a ta f) (h2 : DE X b tb g) (hg : Gl X "range" := by rfl) (hs : starEach [a, b] X.env = [(false, eval a X.env), (false, eval b X.env)] := by rfl) (hs2 : starEach [b] X.env = [(false, eval b X.env)] := by rfl)
    (hs3 : starEach (a :: [b]) X.env = (false, eval a X.env) :: starEach [b] X.env := by rfl) (hs4 : starEach (b :: []) X.env = (false, eval b X.env) :: starEach [] X.env := by rfl) : DI X tg (.Call (.Name "range" p) [a, b] [] pos) (iRng2 (tCons ta (tCons tb tNil))) (rng2 f g) :=
  ⟨pi_range2 hg hm (pa_cons h.pe (pa_cons h2.pe pa_nil hs4) hs3) hs hs2, it_rng2 h.ev h2.ev⟩
end
def forO (t : Tg) (b : En → Out) (k : Kd) : List D → En → Out
  | [], env => .nx env
  | x :: xs, env => match t ⟨k, x⟩ env with
    | .no => .no
    | .ok e => match b e with
      | .nx e' => forO t b k xs e'
      | .ct e' => forO t b k xs e'
      | .bk e' => .nx e'
      | .rt u => .rt u
      | .no => .no
def forS (it : En → Res (Kd × List D)) (t : Tg) (b : En → Out) : En → Out := fun env => match it env with
  | .ok (k, xs) => forO t b k xs env
  | .no => .no
theorem sv_for {K : PySem.W.Frag} {wi : TI} {g : TG} {tb : TS} {it : En → Res (Kd × List D)} {t : Tg} {ws : List Nat} {b : En → Out} (hi : ItD K wi it) (hg : TgD K g t ws) (hb : SvD K tb b) : SvD K (tFor wi g tb) (forS it t b) := fun B G0 G env σ H D r q => by
  unfold forS at q
  split at q
  · rename_i k xs e
    refine hi B G0 G env σ H k xs r e _ fun G1 H1 J x1 ⟨hk, vs, hl, hv, hgo, hy, hst⟩ => ?_
    refine ⟨fun i m σ' H' => m = xs.length - i ∧ i ≤ xs.length ∧ ∃ G2 env', Same G1 G2 ∧ Rel K B G0 G2 env' σ' H' ∧ OutOk K B G0 G2 D (forO t b k (xs.drop i) env'), ⟨xs.length, by simp, Nat.zero_le _, G1, env, Same.refl _, r.ext x1, by rw [List.drop_zero]; exact q.mono x1.gg⟩, ?_⟩
    rintro i m σ' H' ⟨rfl, hle, G2, env', s2, r2, o⟩
    by_cases hlt : i < xs.length
    · refine .inr ⟨hgo i H' (s2.trans r2.gh) r2.bh hlt, fun σ'' H'' => i + 1 ≤ xs.length ∧ ∃ G3 env'', Same G1 G3 ∧ Rel K B G0 G3 env'' σ'' H'' ∧ OutOk K B G0 G3 D (forO t b k (xs.drop (i + 1)) env''), fun σ'' H'' ⟨a, b⟩ => ⟨xs.length - (i + 1), by omega, rfl, a, b⟩, fun x H3 y => ?_⟩
      obtain ⟨rfl, hx⟩ := hy i H' x H3 (s2.trans r2.gh) r2.bh y
      have hx := hx hlt
      have ed : xs[i]? = some xs[i] := List.getElem?_eq_getElem hlt
      have hrp := hv i x xs[i] hx ed G2 H3 s2
      have edrop : xs.drop i = xs[i] :: xs.drop (i + 1) := List.drop_eq_getElem_cons hlt
      rw [edrop] at o
      unfold forO at o
      split at o
      · exact o.elim
      · rename_i e1 et
        refine hg B G0 G2 G2 env' e1 σ' H3 H3 ⟨k, xs[i]⟩ x r2 (Ext.refl r2.gh) hrp et _ fun σ4 r4 _ => ?_
        refine hb B G0 G2 e1 σ4 H3 _ r4 ?_
        split at o <;> rename_i eb <;> rw [eb]
        · exact fun G5 σ5 H5 s5 r5 => ⟨hlt, G5, _, s2.trans s5, r5, o.mono s5⟩
        · exact fun G5 σ5 H5 s5 r5 => ⟨hlt, G5, _, s2.trans s5, r5, o.mono s5⟩
        · exact fun G5 σ5 H5 s5 r5 => o G5 σ5 H5 s5 r5
        · exact fun G5 H5 v s5 r5 h5 => o G5 H5 v s5 r5 h5
        · exact o
    · have ei : i = xs.length := by omega
      subst ei
      rw [List.drop_length] at o
      exact .inl ⟨hst H' (s2.trans r2.gh) r2.bh, o G2 σ' H' (Same.refl _) r2⟩
  · exact q.elim
theorem ds_for {X : Cx} {tg iter : Expr} {body : List Stmt} {wi : TI} {g : TG} {tb : TS} {it : En → Res (Kd × List D)} {t : Tg} {ws : List Nat} {b : En → Out} {pos : Pos} (hp : PassesOwn (model X.prog X.w) X.A X.env X.xe) (hc : X.calm = true) (hi : DI X tg iter wi it) (hg : DG X tg g t ws) (hb : DSs X body tb b)
    (hs : ∀ x, foldedSetIterable iter X.env x = pure x := by intro _; rfl) : DS X (.For tg iter body [] pos) (tFor wi g tb) (forS it t b) := ⟨ps_for hp hc hi.pi hg.pg hb.ps hs, sv_for hi.it hg.tg hb.sv⟩
end DL

namespace DL
open PySem L2
/-! ### comprehensions -/
def wipeE (env : En) : List Nat → En
  | [] => env
  | v :: vs => (wipeE env vs).set v .no
def lcO (t : Tg) (c : En → Res Bool) (f : En → Res Vl) (k : Kd) (env : En) : List D → Res (List D)
  | [] => .ok []
  | x :: xs => (t ⟨k, x⟩ env).bind fun e => (c e).bind fun b => match b with
    | true => ((f e).bind keepD).bind fun d => (lcO t c f k env xs).bind fun ds => .ok (d :: ds)
    | false => lcO t c f k env xs
def lcE (it : En → Res (Kd × List D)) (t : Tg) (c : En → Res Bool) (f : En → Res Vl) (own : List Nat) : En → Res Vl := fun env => (it env).bind fun p => if p.2.length < sizeLine then (lcO t c f p.1 (wipeE env own) p.2).bind fun ds => .ok ⟨.o, .lst ds⟩ else .no
theorem lcO_len {t : Tg} {c : En → Res Bool} {f : En → Res Vl} {k : Kd} {env : En} : ∀ {xs ds : List D}, lcO t c f k env xs = .ok ds → ds.length ≤ xs.length
  | [], ds, h => by cases h; exact Nat.le_refl _
  | x :: xs, ds, h => by
    unfold lcO at h
    obtain ⟨e, _, h⟩ := Res.bind_eq h
    obtain ⟨b, _, h⟩ := Res.bind_eq h
    cases b with
    | true =>
      obtain ⟨d, _, h⟩ := Res.bind_eq h
      obtain ⟨ds', h1, h⟩ := Res.bind_eq h
      cases h
      have := lcO_len h1
      simp only [List.length_cons]
      omega
    | false =>
      have := lcO_len (show lcO t c f k env xs = .ok ds from h)
      simp only [List.length_cons]
      omega
section
variable {K : PySem.W.Frag} {B G0 G G' H H' : Hp} {env : En} {σ : L2.St}
theorem Rel.unset (r : Rel K B G0 G env σ H) (i : Nat) : Rel K B G0 G (env.set i .no) (σ.set i none) H := by
  refine ⟨r.g0, r.gh, r.bh, r.fr, by rw [List.length_set, List.length_set]; exact r.len, fun j s o q1 q2 => ?_, fun j k xs ys L hjk q1 q2 q3 q4 => ?_⟩
  · rcases set_get q1 with ⟨_, rfl⟩ | ⟨n1, q1⟩
    · trivial
    · rcases set_get q2 with ⟨z, _⟩ | ⟨_, q2⟩
      · exact absurd z n1
      · exact r.sl j s o q1 q2
  · rcases set_get q1 with ⟨_, z⟩ | ⟨n1, q1⟩
    · cases z
    · rcases set_get q2 with ⟨_, z⟩ | ⟨n2, q2⟩
      · cases z
      · rcases set_get q3 with ⟨z, _⟩ | ⟨_, q3⟩
        · exact n1 z
        · rcases set_get q4 with ⟨z, _⟩ | ⟨_, q4⟩
          · exact n2 z
          · exact r.ds j k xs ys L hjk q1 q2 q3 q4
theorem Rel.wipe (r : Rel K B G0 G env σ H) : ∀ vs : List Nat, Rel K B G0 G (wipeE env vs) (L2.wipe σ vs) H
  | [] => r
  | v :: vs => (Rel.wipe r vs).unset v
theorem wipe_idem : ∀ (vs ws : List Nat) (σ : L2.St), (∀ i ∈ ws, i ∈ vs) → L2.wipe (L2.wipe σ ws) vs = L2.wipe σ vs
  | vs, [], σ, _ => rfl
  | vs, w :: ws, σ, h => by
    show L2.wipe ((L2.wipe σ ws).set w none) vs = _
    rw [wipe_set (h w List.mem_cons_self)]
    exact wipe_idem vs ws σ fun i hi => h i (List.mem_cons_of_mem _ hi)
theorem ev_lc {wi : TI} {g : TG} {tt : TT} {te : TE} {it : En → Res (Kd × List D)} {t : Tg} {ws own : List Nat} {c : En → Res Bool} {f : En → Res Vl} (hi : ItD K wi it) (hg : TgD K g t ws) (hw : ∀ i ∈ ws, i ∈ own) (hc : EvT K tt c) (hf : EvD K te f) : EvD K (tLc wi g tt te own) (lcE it t c f own) := fun B G0 G env σ H z r e Q q => by
  obtain ⟨⟨k, xs⟩, e1, e2⟩ := Res.bind_eq e
  dsimp only at e2
  by_cases hz : xs.length < sizeLine
  · rw [if_pos hz] at e2
    obtain ⟨ds, e3, e4⟩ := Res.bind_eq e2
    cases e4
    refine hi B G0 G env σ H k xs r e1 _ fun G1 H1 J x1 ⟨hk, vs, hl, hv, hgo, hy, hst⟩ D hD => ?_
    have r1 := (r.ext x1).wipe own
    have gD : G1 D = none := x1.gh.free hD
    have bD : B D = none := (r.ext x1).bh.free hD
    have nD : ∀ (i : Nat) ys, (wipeE env own)[i]? = some (.ow ys) → (L2.wipe σ own)[i]? ≠ some (some (.ref D)) := fun i ys a b => by
      obtain ⟨o, eo, so⟩ := r1.slot a
      rw [b] at eo
      cases eo
      obtain ⟨L, zs, y1, y2, y3, y4, y5⟩ := so
      cases y1
      rw [hD] at y4
      cases y4
    refine ⟨fun i m H' => m = xs.length - i ∧ i ≤ xs.length ∧ ∃ G2 acc da db, Ext G1 H1 G2 H' ∧ G2 D = none ∧ Rel K B G0 G2 (wipeE env own) (L2.wipe σ own) H' ∧ H' D = some (.lst acc) ∧ RepL K G2 acc da ∧ acc.length ≤ i ∧ lcO t c f k (wipeE env own) (xs.drop i) = .ok db ∧ ds = da ++ db,
      ⟨xs.length, by simp, Nat.zero_le _, G1, [], [], ds, Ext.new (r.ext x1).gh hD, gD, r1.beside bD gD nD, upd_same, .nil, Nat.le_refl _, by rw [List.drop_zero]; exact e3, rfl⟩, ?_⟩
    rintro i m H' ⟨rfl, hle, G2, acc, da, db, x2, g2, r2, hD2, ra, hla, el, ed⟩
    by_cases hlt : i < xs.length
    · refine .inr ⟨hgo i H' (x2.gg.trans r2.gh) r2.bh hlt, fun H'' => i + 1 ≤ xs.length ∧ ∃ G3 acc da db, Ext G1 H1 G3 H'' ∧ G3 D = none ∧ Rel K B G0 G3 (wipeE env own) (L2.wipe σ own) H'' ∧ H'' D = some (.lst acc) ∧ RepL K G3 acc da ∧ acc.length ≤ i + 1 ∧ lcO t c f k (wipeE env own) (xs.drop (i + 1)) = .ok db ∧ ds = da ++ db,
        fun H'' ⟨a, b⟩ => ⟨xs.length - (i + 1), by omega, rfl, a, b⟩, fun x H3 y => ?_⟩
      obtain ⟨rfl, hx⟩ := hy i H' x H3 (x2.gg.trans r2.gh) r2.bh y
      have hx := hx hlt
      have exd : xs[i]? = some xs[i] := List.getElem?_eq_getElem hlt
      have hrp := hv i x xs[i] hx exd G2 H3 x2.gg
      rw [List.drop_eq_getElem_cons hlt] at el
      unfold lcO at el
      obtain ⟨e', et, el⟩ := Res.bind_eq el
      obtain ⟨b, eb, el⟩ := Res.bind_eq el
      refine hg B G0 G2 G2 (wipeE env own) e' (L2.wipe σ own) H3 H3 ⟨k, xs[i]⟩ x r2 (Ext.refl r2.gh) hrp et _ fun σ4 r4 w4 => ⟨(w4 own hw).trans (wipe_idem own own σ fun _ h => h), ?_⟩
      refine hc B G0 G2 e' σ4 H3 b r4 eb _ fun G5 H5 x5 => ?_
      have g5 : G5 D = none := x5.out g2 hD2
      cases b with
      | true =>
        rw [if_pos rfl]
        obtain ⟨d, e5, el⟩ := Res.bind_eq el
        obtain ⟨u, e6, e7⟩ := Res.bind_eq e5
        obtain ⟨kp, rfl⟩ := keepD_inv e7
        obtain ⟨db', e8, el⟩ := Res.bind_eq el
        cases el
        refine hf B G0 G5 e' σ4 H5 u (r4.ext x5) e6 _ fun G6 H6 v x6 hv6 => ?_
        obtain ⟨G7, x7, s7, hd7⟩ := hv6.freeze x6 kp
        have x57 := x5.trans x7
        have hD6 : H6 D = some (.lst acc) := x57.hh _ _ hD2
        have g7 : G7 D = none := x57.out g2 hD2
        refine ⟨acc, hD6, Nat.lt_of_le_of_lt hla (Nat.lt_of_lt_of_le hlt (Nat.le_of_lt hz)), hlt, G7, acc ++ [v], da ++ [u.d], db', ?_, g7, (r2.ext x57).beside bD g7 nD, upd_same, (ra.mono x57.gg).app (.cons hd7 .nil), by rw [List.length_append, List.length_singleton]; omega, e8, by rw [ed, List.append_assoc]; rfl⟩
        have xx := x2.trans x57
        exact ⟨xx.gg, same_upd xx.hh hD, same_upd xx.gh g7, xx.fr⟩
      | false =>
        rw [if_neg Bool.false_ne_true]
        exact ⟨hlt, G5, acc, da, db, x2.trans x5, g5, r2.ext x5, x5.hh _ _ hD2, ra.mono x5.gg, Nat.le_succ_of_le hla, el, ed⟩
    · have ei : i = xs.length := by omega
      subst ei
      rw [List.drop_length] at el
      cases el
      rw [List.append_nil] at ed
      subst ed
      exact .inl ⟨hst H' (x2.gg.trans r2.gh) r2.bh, q G2 H' _ (x1.trans x2) ⟨D, acc, _, rfl, rfl, x1.hh.free hD, g2, hD2, ra⟩⟩
  · rw [if_neg hz] at e2
    cases e2
def yesT : En → Res Bool := fun _ => .ok true
theorem evt_yes : EvT K tYes yesT := fun B G0 G env σ H b r e Q k => by cases e; exact k G H (Ext.refl r.gh)
end
structure DTs (X : Cx) (es : List Expr) (tt : TT) (f : En → Res Bool) : Prop where
  pts : PTs X es tt
  ev : EvT X.K tt f
section
variable {X : Cx} {elt tg iter : Expr} {ifs : List Expr} {scope : Scope} {own : List (Str × Nat)} {pos spos py : Pos} {wi : TI} {g : TG} {tt : TT} {te : TE} {it : En → Res (Kd × List D)} {t : Tg} {ws : List Nat} {c : En → Res Bool} {f : En → Res Vl} {y : Str}
theorem dts_nil : DTs X [] tYes yesT := ⟨pts_nil, evt_yes⟩
theorem dts_one {e : Expr} (h : DT X e tt c) : DTs X [e] tt c := ⟨pts_one h.pt, h.ev⟩
theorem de_lc (hc : X.calm = true) (hN : X.N.Nodup) (hi : DI X tg iter wi it) (ok : BlkOk X.N X.env.scope scope own)
    (hg : ∀ (s : Shared) (H : Hp) (C : Addr) (cl : List (Str × Addr)) (fp : List Addr), DG (X.blk s H scope (compEnvC scope cl C X.env) fp) tg g t ws) (ht : ∀ (s : Shared) (H : Hp) (C : Addr) (cl : List (Str × Addr)) (fp : List Addr), DTs (X.blk s H scope (compEnvC scope cl C X.env) fp) ifs tt c)
    (he : ∀ (s : Shared) (H : Hp) (C : Addr) (cl : List (Str × Addr)) (fp : List Addr), DE (X.blk s H scope (compEnvC scope cl C X.env) fp) elt te f) (hw : ∀ i ∈ ws, i ∈ own.map (·.2) := by decide) (hs : ∀ x, foldedSetIterable iter X.env x = pure x := by intro _; rfl) (z1 : Shared) (z2 : Hp) :
    DE X (.ListComp elt [⟨tg, iter, ifs, 0⟩] scope pos) (tLc wi g tt te (own.map (·.2))) (lcE it t c f (own.map (·.2))) :=
  ⟨pe_lc hc hN hi.pi ok (fun s H C cl fp => (hg s H C cl fp).pg) (fun s H C cl fp => (ht s H C cl fp).pts) (fun s H C cl fp => (he s H C cl fp).pe) hs,
    ev_lc (K := X.K) hi.it (hg z1 z2 0 [] []).tg hw (ht z1 z2 0 [] []).ev (he z1 z2 0 [] []).ev⟩
theorem ds_setLc (i : Nat) (hc : X.calm = true) (hN : X.N.Nodup) (hi : DI X tg iter wi it) (ok : BlkOk X.N X.env.scope scope own)
    (hg : ∀ (s : Shared) (H : Hp) (C : Addr) (cl : List (Str × Addr)) (fp : List Addr), DG (X.blk s H scope (compEnvC scope cl C X.env) fp) tg g t ws) (ht : ∀ (s : Shared) (H : Hp) (C : Addr) (cl : List (Str × Addr)) (fp : List Addr), DTs (X.blk s H scope (compEnvC scope cl C X.env) fp) ifs tt c)
    (he : ∀ (s : Shared) (H : Hp) (C : Addr) (cl : List (Str × Addr)) (fp : List Addr), DE (X.blk s H scope (compEnvC scope cl C X.env) fp) elt te f) (z1 : Shared) (z2 : Hp)
    (hsw : swapsWith (.ListComp elt [⟨tg, iter, ifs, 0⟩] scope pos) (some (.Name y py)) spos.line X.env = pure true) (hy : X.N[i]? = some y := by rfl) (hyl : X.env.scope.names.lookup y = some .local := by rfl) (hw : ∀ i ∈ ws, i ∈ own.map (·.2) := by decide) (hs : ∀ x, foldedSetIterable iter X.env x = pure x := by intro _; rfl) :
    DS X (.Assign [.Name y py] (.ListComp elt [⟨tg, iter, ifs, 0⟩] scope pos) spos) (tAsg (tLc wi g tt te (own.map (·.2))) (gName i)) (setO i (lcE it t c f (own.map (·.2)))) :=
  ⟨ps_setLc hc hN hy hyl hsw hi.pi ok (fun s H C cl fp => (hg s H C cl fp).pg) (fun s H C cl fp => (ht s H C cl fp).pts) (fun s H C cl fp => (he s H C cl fp).pe) hs,
    sv_set i (ev_lc (K := X.K) hi.it (hg z1 z2 0 [] []).tg hw (ht z1 z2 0 [] []).ev (he z1 z2 0 [] []).ev)⟩
end
/-! ### a def's promise -/
def ArgOk (K : PySem.W.Frag) (G H : Hp) : Bool × D → V → Prop
  | (true, d), v => Rep K G v d
  | (false, d), v => Rep K H v d
def ArgsOk (K : PySem.W.Frag) (G H : Hp) : List (Bool × D) → List V → Prop
  | [], vs => vs = []
  | a :: as, vs => ∃ v r, vs = v :: r ∧ ArgOk K G H a v ∧ ArgsOk K G H as r
abbrev Fn := List (Bool × D) → Res Vl
def spD (K : PySem.W.Frag) (n : Nat) (F : Fn) : Sp := fun vs H Q _ => ∃ (G : Hp) (as : List (Bool × D)) (z : Vl), Same G H ∧ as.length = n ∧ ArgsOk K G H as vs ∧ F as = .ok z ∧ (∀ G' H' v, Ext G H G' H' → Rp K H G' H H' z v → Q v H')
def Vl.ba (u : Vl) : Bool × D := (u.keep, u.d)
def fin (z : Vl) : Res Vl := match z.k with
  | .g => .ok z
  | .o => .ok z
  | _ => .no
/-- f(..), the defaults behind -/
def callF (F : Fn) (ds : List D) (f : En → Res (List Vl)) : En → Res Vl := fun env => (f env).bind fun us => (F (us.map Vl.ba ++ ds.map fun d => (true, d))).bind fin
section
variable {K : PySem.W.Frag} {B G0 G G' H H' : Hp} {env : En} {σ : L2.St}
theorem ArgsOk.len : ∀ {as : List (Bool × D)} {vs : List V}, ArgsOk K G H as vs → vs.length = as.length
  | [], _, h => by rw [h]; rfl
  | a :: as, _, ⟨v, r, e, _, l⟩ => by rw [e, List.length_cons, List.length_cons, ArgsOk.len l]
theorem ArgsOk.app : ∀ {as bs : List (Bool × D)} {vs ws : List V}, ArgsOk K G H as vs → ArgsOk K G H bs ws → ArgsOk K G H (as ++ bs) (vs ++ ws)
  | [], _, _, _, h, k => by rw [h]; exact k
  | a :: as, _, _, ws, ⟨v, r, e, h, l⟩, k => ⟨v, r ++ ws, by rw [e]; rfl, h, ArgsOk.app l k⟩
theorem RpL.args (r : Rel K B G0 G' env σ H') : ∀ {us : List Vl} {vs : List V}, RpL K B G' H' us vs → ArgsOk K G' H' (us.map Vl.ba) vs
  | [], _, h => h
  | u :: us, _, ⟨v, w, e, h, l⟩ => by
    refine ⟨v, w, e, ?_, RpL.args r l⟩
    show ArgOk K G' H' (u.keep, u.d) v
    cases hk : u.keep with
    | true =>
      obtain ⟨k, d⟩ := u
      cases k with
      | g => exact h
      | b => exact Rep.flat (show Rep K B v d from h) hk
      | h =>
        obtain ⟨L, vs, ds, _, e2, _⟩ := h
        dsimp only at e2
        subst e2
        cases hk
      | o =>
        obtain ⟨L, vs, ds, _, _, e1, _, e2, _⟩ := h
        rw [e1] at e2
        cases e2
    | false => exact h.look r
theorem ev_call {F : Fn} {n : Nat} {ds : List D} {dvs : List V} {E : XK} {ta : TA} {f : En → Res (List Vl)} (hd : ∀ G, ArgsOk K G G (ds.map fun d => (true, d)) dvs) (hn : ∀ as z, F as = .ok z → as.length = n) (h : EvA K ta f) : EvD K (tCall (spD K n F) dvs E ta) (callF F ds f) := fun B G0 G env σ H z r e Q q => by
  obtain ⟨us, e1, e⟩ := Res.bind_eq e
  obtain ⟨w, e2, e3⟩ := Res.bind_eq e
  have hw : z = w ∧ (w.k = .g ∨ w.k = .o) := by
    unfold fin at e3
    split at e3 <;> cases e3
    · exact ⟨rfl, .inl (by assumption)⟩
    · exact ⟨rfl, .inr (by assumption)⟩
  obtain ⟨rfl, hk⟩ := hw
  refine h B G0 G env σ H us r e1 _ fun G1 H1 vs x hl => ?_
  have r1 := r.ext x
  have hd' : ArgsOk K G1 H1 (ds.map fun d => (true, d)) dvs := dflt (hd G1)
  refine ⟨G1, us.map Vl.ba ++ ds.map fun d => (true, d), z, r1.gh, hn _ _ e2, (hl.args r1).app hd', e2, fun G2 H2 v x2 hv => q G2 H2 v (x.trans x2) ?_⟩
  obtain ⟨k, d⟩ := z
  rcases hk with rfl | rfl
  · exact hv
  · exact Rp.from x.hh (show Rp K B G2 H1 H2 ⟨.o, d⟩ v from hv)
where
  dflt {G H : Hp} : ∀ {ds : List D} {vs : List V}, ArgsOk K G G (ds.map fun d => (true, d)) vs → ArgsOk K G H (ds.map fun d => (true, d)) vs
    | [], _, h => h
    | d :: ds, _, ⟨v, r, e, h, l⟩ => ⟨v, r, e, h, dflt l⟩
end
section
variable {X : Cx} {k n : Nat} {fa : Addr} {fd : FuncData} {ps : List Str} {F : Fn} {dvs : List V} {dds : List D} {ds : List Value} {x : Str} {p pos : Pos} {e : Expr} {es : List Expr} {ta : TA} {f : En → Res (List Vl)}
/-- a call of a def of the text -/
theorem de_call (G : FnOk X.prog X.w X.K X.mg X.base CX0 k fa fd ps (spD X.K n F)) (hr : Room k X.A) (hm : X.mg x = some (.ref fa)) (hk : PySem.W.keepIn X.K (.ref fa) = true) (hb : Binds X.K fd ps ds) (hd : Vals dvs ds) (hd2 : ∀ G, ArgsOk X.K G G (dds.map fun d => (true, d)) dvs) (hn : ∀ as z, F as = .ok z → as.length = n)
    (ha : DA X (e :: es) ta f) (hg : Gl X x := by rfl) (hdb : (x == ("__debug__" : Str)) = false := by decide) (he : starEach (e :: es) X.env = (false, eval e X.env) :: starEach es X.env := by rfl) (hpl : (backTo pos (starEach es X.env)).any (·.1) = false := by rfl) :
    DE X (.Call (.Name x p) (e :: es) [] pos) (tCall (spD X.K n F) dvs E0 ta) (callF F dds f) := ⟨pe_call G hr hg hm hk hb hd pass0 ha.pa hdb he hpl, ev_call hd2 hn ha.ev⟩
end
def startE (n : Nat) (as : List (Bool × D)) : En := as.map (fun a => .vl a.1 a.2) ++ List.replicate (n - as.length) .no
/-- what a body hands back -/
def runF (m n : Nat) (b : En → Out) : Fn := fun as => if as.length = m then match b (startE n as) with
  | .rt u => .ok u
  | .nx _ => .ok ⟨.g, .non⟩
  | _ => .no else .no
theorem runF_len {m n : Nat} {b : En → Out} : ∀ as z, runF m n b as = .ok z → as.length = m := fun as z h => by
  unfold runF at h
  by_cases e : as.length = m
  · exact e
  · rw [if_neg e] at h; cases h
theorem args_slot {K : PySem.W.Frag} {G H : Hp} : ∀ {as : List (Bool × D)} {vs : List V} {i : Nat} {s : Sl} {o : Option V}, ArgsOk K G H as vs → (as.map fun a => Sl.vl a.1 a.2)[i]? = some s → (vs.map some)[i]? = some o → SlOk K H G H s o
  | [], _, _, _, _, h, e, _ => by simp at e
  | a :: as, _, 0, s, o, ⟨v, r, e, h, l⟩, e1, e2 => by
    subst e
    simp at e1 e2
    subst e1 e2
    obtain ⟨b, d⟩ := a
    cases b with
    | true => exact ⟨v, rfl, h⟩
    | false => exact ⟨v, rfl, h⟩
  | a :: as, _, i + 1, s, o, ⟨v, r, e, h, l⟩, e1, e2 => by
    subst e
    exact args_slot (i := i) l (by simpa using e1) (by simpa using e2)
theorem start_rel {K : PySem.W.Frag} {G H : Hp} {N : List Str} {as : List (Bool × D)} {vs : List V} (gh : Same G H) (h : ArgsOk K G H as vs) : Rel K H G G (startE N.length as) (L2.start N vs) H := by
  have hl := h.len
  refine ⟨Same.refl _, gh, Same.refl _, fun a e n => absurd e n, by unfold startE L2.start; simp [hl], fun i s o q1 q2 => ?_, fun i j xs ys L _ q1 => ?_⟩
  · unfold startE at q1
    unfold L2.start at q2
    by_cases hi : i < as.length
    · rw [List.getElem?_append_left (by simpa using hi)] at q1
      rw [List.getElem?_append_left (by simpa [hl] using hi)] at q2
      exact args_slot h q1 q2
    · rw [List.getElem?_append_right (by simpa using Nat.le_of_not_lt hi)] at q1
      rw [List.getElem?_replicate] at q1
      split at q1
      · cases q1; trivial
      · cases q1
  · exfalso
    unfold startE at q1
    by_cases hi : i < as.length
    · rw [List.getElem?_append_left (by simpa using hi), List.getElem?_map] at q1
      cases e : as[i]? with
      | none => rw [e] at q1; cases q1
      | some a => rw [e] at q1; cases q1
    · rw [List.getElem?_append_right (by simpa using Nat.le_of_not_lt hi), List.getElem?_replicate] at q1
      split at q1 <;> cases q1
/-- THE RULE for a def -/
theorem fn_ok {P : Program} {w : World} {K : PySem.W.Frag} {mg : Str → Option Value} {base : Heap} {x qual : Str} {st : Stmt} {fa : Addr} {fd : FuncData} {N ps : List Str} {k m n : Nat} {b : En → Out} (F : Fun K x qual st fa fd) (S : FnScope N ps (defScope st)) (hm : m = ps.length) (hn : n = N.length)
    (h : ∀ (cdv : Value) (A : Around) (outer : List Env) (s : Shared) (H : Hp) (E : XK), Room k (A.deeper (PyProof.Rows.envOfC qual (defScope st) s.heap.objs.size fa cdv)) → ∃ t, DSs (cxOf CX0 P w K mg base N qual (defScope st) fa cdv A outer s H E).nox (defBody st) t b) :
    FnOk P w K mg base CX0 (k + 1) fa fd ps (spD K m (runF m n b)) := by
  subst hm hn
  refine F.ok S (fun vs H Q E hs => ?_) (fun cdv A outer s H vs Q E hr hs => ?_)
  · obtain ⟨G, as, z, _, hl, ha, _⟩ := hs
    rw [ha.len, hl]
  · obtain ⟨t, ht⟩ := h cdv A outer s H E hr
    obtain ⟨G, as, z, gh, hl, ha, hz, q⟩ := hs
    refine ⟨t, ht.ps, ?_⟩
    have r : Rel K H G G (startE N.length as) (L2.start N vs) H := start_rel gh ha
    refine ht.sv H G G _ _ H _ r ?_
    unfold runF at hz
    rw [if_pos hl] at hz
    split at hz
    · rename_i u eu
      cases hz
      rw [eu]
      exact fun G' H' v s r' hv => q G' H' v ⟨s, r'.bh, r'.gh, r'.fr⟩ hv
    · rename_i e' ee
      cases hz
      rw [ee]
      exact fun G' σ' H' s r' => q G' H' .non ⟨s, r'.bh, r'.gh, r'.fr⟩ .non
    · cases hz
end DL

namespace DL
open PySem L2
def vOf : D → V
  | .bl b => .bl b
  | .int i => .int i
  | .str x => .str x
  | _ => .non
theorem args_flat {K : PySem.W.Frag} {G : Hp} : ∀ {ds : List D}, ds.all flat = true → ArgsOk K G G (ds.map fun d => (true, d)) (ds.map vOf)
  | [], _ => rfl
  | d :: ds, h => by
    rw [List.all_cons, Bool.and_eq_true] at h
    refine ⟨vOf d, ds.map vOf, rfl, ?_, args_flat h.2⟩
    cases d <;> first
      | exact .non
      | exact .bl _
      | exact .int _
      | exact .str _
      | cases h.1
/-- a def that may be called -/
structure Cl (P : Program) (w : World) (K : PySem.W.Frag) (mg : Str → Option Value) (base : Heap) (k : Nat) (x : Str) (n : Nat) (F : Fn) (dds : List D) : Prop where
  ex : ∃ (fa : Addr) (fd : FuncData) (ps : List Str) (ds : List Value), FnOk P w K mg base CX0 k fa fd ps (spD K n F) ∧ mg x = some (.ref fa) ∧ PySem.W.keepIn K (.ref fa) = true ∧ Binds K fd ps ds ∧ Vals (dds.map vOf) ds
  fl : dds.all flat = true
  len : ∀ as z, F as = .ok z → as.length = n
section
variable {X : Cx} {k j n : Nat} {F : Fn} {dds : List D} {x : Str} {p pos : Pos} {e : Expr} {es : List Expr} {ta : TA} {f : En → Res (List Vl)}
theorem de_c {K : PySem.W.Frag} (c : Cl X.prog X.w X.K X.mg X.base k x n F dds) (hr : Room j X.A) (ha : DA X (e :: es) ta f) (hkj : k ≤ j := by decide) (hg : Gl X x := by rfl) (hdb : (x == ("__debug__" : Str)) = false := by decide) (he : starEach (e :: es) X.env = (false, eval e X.env) :: starEach es X.env := by rfl) (hpl : (backTo pos (starEach es X.env)).any (·.1) = false := by rfl) (hK : X.K = K := by rfl) :
    DE X (.Call (.Name x p) (e :: es) [] pos) (tCall (spD K n F) (dds.map vOf) E0 ta) (callF F dds f) := by
  subst hK
  obtain ⟨fa, fd, ps, ds, G, hm, hk, hb, hd⟩ := c.ex
  exact de_call G (hr.mono hkj) hm hk hb hd (fun _ => args_flat c.fl) c.len ha hg hdb he hpl
/-- a constant of the module -/
theorem de_glob {d : D} (h : ∃ u, X.mg x = some u ∧ RelV (vOf d) u) (hf : flat d = true := by rfl) (hg : Gl X x := by rfl) (hd : (x == ("__debug__" : Str)) = false := by decide) : DE X (.Name x pos) (tC (vOf d)) (cE d) := by
  obtain ⟨u, hm, r⟩ := h
  refine ⟨pe_glob hg hm r hd, ev_c fun G => ?_⟩
  cases d <;> first
    | exact .non
    | exact .bl _
    | exact .int _
    | exact .str _
    | cases hf
end
/-- a def of the text, all whose parameters are given -/
structure Dn (K : PySem.W.Frag) (mg : Str → Option Value) (x : Str) (st : Stmt) (ps : List Str) : Prop where
  ex : ∃ (fa : Addr) (fd : FuncData), Fun K x x st fa fd ∧ mg x = some (.ref fa) ∧ Binds K fd ps []
theorem dn_mk {K : PySem.W.Frag} {h : Heap} {mg : Str → Option Value} {x : Str} {st : Stmt} {ps : List Str} {f : Addr} {oc : Value} {od an : Option Addr} {sl : Array (Option Value)} {kV dc pm cd ct : Value} (X : K.In h) (G : h.Ns mainGlobals mg) (a : PySem.W.nsIn K mainGlobals x = some (some (.ref f)))
    (l : K.lookup f = some ⟨oc, od, .func (PySem.W.fnOf x x (defArgs st) (defBody st) (defScope st) .none kV dc pm an cd ct), sl⟩) (c : PySem.W.codeIn K cd x = true) (k : PySem.W.keepIn K (.ref f) = true)
    (hb : ∀ (kV doc pm : Value) (an : Option Addr) (cdv ct : Value) (us : List Value), us.length = ps.length → bindArgs (PySem.W.fnOf x x (defArgs st) (defBody st) (defScope st) .none kV doc pm an cdv ct) ⟨us, []⟩ = pure (ps.zip us)) : Dn K mg x st ps :=
  ⟨f, _, fun_mk l c k, PySem.W.mg_of X G a, (fun_mk l c k).binds hb⟩
/-- THE RULE for a def of the text -/
theorem cl_mk {P : Program} {w : World} {K : PySem.W.Frag} {mg : Str → Option Value} {base : Heap} {x : Str} {st : Stmt} {N ps : List Str} {k m n : Nat} {b : En → Out} (d : Dn K mg x st ps) (S : FnScope N ps (defScope st)) (hm : m = ps.length) (hn : n = N.length)
    (h : ∀ (fa : Addr) (cdv : Value) (A : Around) (outer : List Env) (s : Shared) (H : Hp) (E : XK), Room k (A.deeper (PyProof.Rows.envOfC x (defScope st) s.heap.objs.size fa cdv)) → ∃ t, DSs (cxOf CX0 P w K mg base N x (defScope st) fa cdv A outer s H E).nox (defBody st) t b) :
    Cl P w K mg base (k + 1) x m (runF m n b) [] := by
  obtain ⟨fa, fd, F, hm', hb⟩ := d.ex
  exact ⟨⟨fa, fd, ps, [], fn_ok F S hm hn (fun cdv A outer s H E hr => h fa cdv A outer s H E hr), hm', F.kp, hb, .nil⟩, rfl, runF_len⟩
theorem cl_no {P : Program} {w : World} {K : PySem.W.Frag} {mg : Str → Option Value} {base : Heap} {x : Str} {st : Stmt} {ps : List Str} {m k : Nat} (d : Dn K mg x st ps) : Cl P w K mg base k x m (fun _ => .no) [] := by
  obtain ⟨fa, fd, F, hm', hb⟩ := d.ex
  exact ⟨⟨fa, fd, ps, [], ⟨fun vs H Q E ⟨_, _, _, _, _, _, h, _⟩ => (nomatch h), fun A outer s H args us vs Q E _ _ _ _ ⟨_, _, _, _, _, _, h, _⟩ => (nomatch h)⟩, hm', F.kp, hb, .nil⟩, rfl, fun as z h => nomatch h⟩
end DL

namespace DL
open PySem L2
/-! ### defs with defaults; keywords -/
structure DK (X : Cx) (kws : List Keyword) (tk : TA) (f : En → Res (List Vl)) : Prop where
  pk : PK X kws tk
  ev : EvA X.K tk f
theorem dk_nil {X : Cx} : DK X [] tNil nilA := ⟨pk_nil, eva_nil⟩
theorem dk_cons {X : Cx} {e : Expr} {te : TE} {f : En → Res Vl} {kws : List Keyword} {tk : TA} {g : En → Res (List Vl)} {nm : Option Str} {kpos : Pos} (h : DE X e te f) (ht : DK X kws tk g) : DK X (⟨nm, e, kpos⟩ :: kws) (tCons te tk) (consA f g) := ⟨pk_cons h.pe ht.pk, eva_cons h.ev ht.ev⟩
/-- f(e, .., k = v, ..), the keywords behind in the parameters' order -/
def callK (F : Fn) (n m : Nat) (f g : En → Res (List Vl)) : En → Res Vl := fun env => (f env).bind fun us => (g env).bind fun ws => if us.length = n ∧ ws.length = m then (F ((us ++ ws).map Vl.ba)).bind fin else .no
structure ClK (P : Program) (w : World) (K : PySem.W.Frag) (mg : Str → Option Value) (base : Heap) (k : Nat) (x : Str) (n : Nat) (ks : List Str) (F : Fn) : Prop where
  ex : ∃ (fa : Addr) (fd : FuncData) (ps : List Str), FnOk P w K mg base CX0 k fa fd ps (spD K (n + ks.length) F) ∧ mg x = some (.ref fa) ∧ PySem.W.keepIn K (.ref fa) = true ∧ KBn K fd ps n ks (fun us ws => us ++ ws) (fun vs zs => vs ++ zs)
theorem RpL.app {K : PySem.W.Frag} {B G' H' : Hp} : ∀ {us ws : List Vl} {vs zs : List V}, RpL K B G' H' us vs → RpL K B G' H' ws zs → RpL K B G' H' (us ++ ws) (vs ++ zs)
  | [], _, _, _, h, k => by rw [h]; exact k
  | u :: us, _, _, zs, ⟨v, r, e, h, l⟩, k => ⟨v, r ++ zs, by rw [e]; rfl, h, RpL.app l k⟩
theorem ev_callK {K : PySem.W.Frag} {F : Fn} {n m : Nat} {E : XK} {ta tk : TA} {f g : En → Res (List Vl)} (h : EvA K ta f) (h2 : EvA K tk g) : EvD K (tCallN n m (spD K (n + m) F) (fun vs zs => vs ++ zs) E ta tk) (callK F n m f g) := fun B G0 G env σ H z r e Q q => by
  obtain ⟨us, e1, e⟩ := Res.bind_eq e
  obtain ⟨ws, e2, e⟩ := Res.bind_eq e
  by_cases hl : us.length = n ∧ ws.length = m
  · rw [if_pos hl] at e
    obtain ⟨w, e3, e4⟩ := Res.bind_eq e
    have hw : z = w ∧ (w.k = .g ∨ w.k = .o) := by
      unfold fin at e4
      split at e4 <;> cases e4
      · exact ⟨rfl, .inl (by assumption)⟩
      · exact ⟨rfl, .inr (by assumption)⟩
    obtain ⟨rfl, hk⟩ := hw
    refine h B G0 G env σ H us r e1 _ fun G1 H1 vs x1 l1 => h2 B G0 G1 env σ H1 ws (r.ext x1) e2 _ fun G2 H2 zs x2 l2 => ?_
    have r2 := (r.ext x1).ext x2
    have l1' := l1.mono x2
    refine ⟨by rw [l1.len, hl.1], by rw [l2.len, hl.2], G2, (us ++ ws).map Vl.ba, z, r2.gh, by simp [hl.1, hl.2], (l1'.app l2).args r2, e3, fun G3 H3 v x3 hv => q G3 H3 v ((x1.trans x2).trans x3) ?_⟩
    obtain ⟨k, d⟩ := z
    rcases hk with rfl | rfl
    · exact hv
    · exact Rp.from (x1.hh.trans x2.hh) (show Rp K B G3 H2 H3 ⟨.o, d⟩ v from hv)
  · rw [if_neg hl] at e
    cases e
theorem de_ck {K : PySem.W.Frag} {X : Cx} {k j n : Nat} {ks : List Str} {F : Fn} {x : Str} {p pos : Pos} {e : Expr} {es : List Expr} {kws : List Keyword} {ta tk : TA} {f g : En → Res (List Vl)} (c : ClK X.prog X.w X.K X.mg X.base k x n ks F) (hr : Room j X.A) (ha : DA X (e :: es) ta f) (hkw : DK X kws tk g)
    (hkj : k ≤ j := by decide) (hg : Gl X x := by rfl) (hall : (backToKw pos (keywordEach kws X.env)).all (·.1.isSome) = true := by rfl) (hks : (backToKw pos (keywordEach kws X.env)).filterMap (·.1) = ks := by rfl)
    (hdb : (x == ("__debug__" : Str)) = false := by decide) (he : starEach (e :: es) X.env = (false, eval e X.env) :: starEach es X.env := by rfl)
    (hpl : ((backTo pos (starEach (e :: es) X.env)).any (·.1) || (backToKw pos (keywordEach kws X.env)).any (·.1.isNone)) = false := by rfl) (hK : X.K = K := by rfl) :
    DE X (.Call (.Name x p) (e :: es) kws pos) (tCallN n ks.length (spD K (n + ks.length) F) (fun vs zs => vs ++ zs) E0 ta tk) (callK F n ks.length f g) := by
  subst hK
  obtain ⟨fa, fd, ps, G, hm, hk, hb⟩ := c.ex
  exact ⟨pe_callN G (hr.mono hkj) hg hm hk hb pass0 ha.pa hkw.pk hall hks hdb he hpl, ev_callK ha.ev hkw.ev⟩
/-- a def with defaults -/
structure DnD (K : PySem.W.Frag) (mg : Str → Option Value) (x : Str) (st : Stmt) (dds : List D) : Prop where
  ex : ∃ (fa : Addr) (fd : FuncData), FunD K x x (defArgs st) (defBody st) (defScope st) (dds.map vOf) [] fa fd ∧ mg x = some (.ref fa)
theorem fnD_ok {P : Program} {w : World} {K : PySem.W.Frag} {mg : Str → Option Value} {base : Heap} {x : Str} {st : Stmt} {dvs : List V} {fa : Addr} {fd : FuncData} {N ps : List Str} {k m n : Nat} {b : En → Out} (F : FunD K x x (defArgs st) (defBody st) (defScope st) dvs [] fa fd) (S : FnScope N ps (defScope st)) (hm : m = ps.length) (hn : n = N.length)
    (h : ∀ (fa : Addr) (cdv : Value) (A : Around) (outer : List Env) (s : Shared) (H : Hp) (E : XK), Room k (A.deeper (PyProof.Rows.envOfC x (defScope st) s.heap.objs.size fa cdv)) → ∃ t, DSs (cxOf CX0 P w K mg base N x (defScope st) fa cdv A outer s H E).nox (defBody st) t b) :
    FnOk P w K mg base CX0 (k + 1) fa fd ps (spD K m (runF m n b)) := by
  subst hm hn
  refine F.ok S (fun vs H Q E hs => ?_) (fun cdv A outer s H vs Q E hr hs => ?_)
  · obtain ⟨G, as, z, _, hl, ha, _⟩ := hs
    rw [ha.len, hl]
  · obtain ⟨t, ht⟩ := h fa cdv A outer s H E hr
    obtain ⟨G, as, z, gh, hl, ha, hz, q⟩ := hs
    refine ⟨t, ht.ps.nox, ?_⟩
    have r : Rel K H G G (startE N.length as) (L2.start N vs) H := start_rel gh ha
    refine ht.sv H G G _ _ H _ r ?_
    unfold runF at hz
    rw [if_pos hl] at hz
    split at hz
    · rename_i u eu
      cases hz
      rw [eu]
      exact fun G' H' v s r' hv => q G' H' v ⟨s, r'.bh, r'.gh, r'.fr⟩ hv
    · rename_i e' ee
      cases hz
      rw [ee]
      exact fun G' σ' H' s r' => q G' H' .non ⟨s, r'.bh, r'.gh, r'.fr⟩ .non
    · cases hz
/-- its promise, and how it may be called -/
structure Fd (P : Program) (w : World) (K : PySem.W.Frag) (mg : Str → Option Value) (base : Heap) (k : Nat) (x : Str) (st : Stmt) (ps : List Str) (dds : List D) (F : Fn) : Prop where
  ex : ∃ (fa : Addr) (fd : FuncData), FunD K x x (defArgs st) (defBody st) (defScope st) (dds.map vOf) [] fa fd ∧ mg x = some (.ref fa) ∧ FnOk P w K mg base CX0 k fa fd ps (spD K ps.length F)
  len : ∀ as z, F as = .ok z → as.length = ps.length
theorem fd_mk {P : Program} {w : World} {K : PySem.W.Frag} {mg : Str → Option Value} {base : Heap} {x : Str} {st : Stmt} {dds : List D} {N ps : List Str} {k m n : Nat} {b : En → Out} (d : DnD K mg x st dds) (S : FnScope N ps (defScope st)) (hm : m = ps.length) (hn : n = N.length)
    (h : ∀ (fa : Addr) (cdv : Value) (A : Around) (outer : List Env) (s : Shared) (H : Hp) (E : XK), Room k (A.deeper (PyProof.Rows.envOfC x (defScope st) s.heap.objs.size fa cdv)) → ∃ t, DSs (cxOf CX0 P w K mg base N x (defScope st) fa cdv A outer s H E).nox (defBody st) t b) :
    Fd P w K mg base (k + 1) x st ps dds (runF m n b) := by
  obtain ⟨fa, fd, F, hm'⟩ := d.ex
  subst hm
  exact ⟨⟨fa, fd, F, hm', fnD_ok F S rfl hn h⟩, runF_len⟩
section
variable {P : Program} {w : World} {K : PySem.W.Frag} {mg : Str → Option Value} {base : Heap} {k : Nat} {x : Str} {st : Stmt} {ps : List Str} {dds : List D} {F : Fn}
/-- n values are written, the defaults behind the first j fill up -/
theorem Fd.cl (c : Fd P w K mg base k x st ps dds F) (n j : Nat) (hd : dds ≠ []) (hf : (dds.drop j).all flat = true) (hn : n + (dds.length - j) = ps.length)
    (h : ∀ (T : Addr) (kV doc pm : Value) (an : Option Addr) (cdv ct : Value) (us its : List Value), us.length = n → its.length = dds.length →
      ∃ k, bindArgs (PySem.W.fnOf x x (defArgs st) (defBody st) (defScope st) (.ref T) kV doc pm an cdv ct) ⟨us, []⟩ = seqItems? (.ref T) >>= k ∧ k (some its.toArray) = pure (ps.zip (us ++ its.drop j))) : Cl P w K mg base k x ps.length F (dds.drop j) := by
  obtain ⟨fa, fd, G, hm, ho⟩ := c.ex
  obtain ⟨ds, r, b⟩ := G.binds1 n j (by simpa using hd) (by simpa using hn) (by simpa using h)
  exact ⟨⟨fa, fd, ps, ds, ho, hm, G.kp, b, by rw [List.map_drop]; exact r⟩, hf, c.len⟩
theorem Fd.clK (c : Fd P w K mg base k x st ps dds F) (n : Nat) (ks : List Str) (hd : dds ≠ []) (hn : n + ks.length = ps.length)
    (h : ∀ (T : Addr) (kV doc pm : Value) (an : Option Addr) (cdv ct : Value) (us ws its : List Value), us.length = n → ws.length = ks.length → its.length = dds.length →
      ∃ k, bindArgs (PySem.W.fnOf x x (defArgs st) (defBody st) (defScope st) (.ref T) kV doc pm an cdv ct) ⟨us, ks.zip ws⟩ = seqItems? (.ref T) >>= k ∧ k (some its.toArray) = pure (ps.zip (us ++ ws))) : ClK P w K mg base k x n ks F := by
  obtain ⟨fa, fd, G, hm, ho⟩ := c.ex
  refine ⟨fa, fd, ps, by rw [hn]; exact ho, hm, G.kp, ⟨fun s us ws X l1 l2 => ?_, fun r1 r2 => r1.append r2⟩⟩
  obtain ⟨oc, od, dV, kV, doc, pm, an, cdv, ct, osl, rfl, lk, hcd, hD, hK⟩ := G.ex
  rcases hD with ⟨e, _⟩ | ⟨_, T, o, its, m, rfl, lT, oT, rT⟩
  · exact absurd e (by simpa using hd)
  · obtain ⟨k', e1, e2⟩ := h T kV doc pm an cdv ct us ws its l1 l2 (by rw [← rT.length, List.length_map])
    refine BindsTo.of_looks fun M => ?_
    rw [e1]
    exact looks_items X lT oT (.of_pure e2)
end
theorem dnd_mk {K : PySem.W.Frag} {h : Heap} {mg : Str → Option Value} {x : Str} {st : Stmt} {dds : List D} {f T : Addr} {oc : Value} {od an : Option Addr} {sl : Array (Option Value)} {kV dc pm cd ct : Value} {o : Obj} {its : List Value} {n : Nat} (X : K.In h) (G : h.Ns mainGlobals mg) (a : PySem.W.nsIn K mainGlobals x = some (some (.ref f)))
    (l : K.lookup f = some ⟨oc, od, .func (PySem.W.fnOf x x (defArgs st) (defBody st) (defScope st) (.ref T) kV dc pm an cd ct), sl⟩) (c : PySem.W.codeIn K cd x = true) (k : PySem.W.keepIn K (.ref f) = true) (t : K.lookup T = some o) (td : o.data = .seq its.toArray n) (r : Vals (dds.map vOf) its) (hd : dds ≠ []) : DnD K mg x st dds :=
  ⟨f, _, ⟨⟨oc, od, _, kV, dc, pm, an, cd, ct, sl, rfl, l, c, .inr ⟨by simpa using hd, T, o, its, n, rfl, t, td, r⟩, .inl rfl⟩, k⟩, PySem.W.mg_of X G a⟩
end DL

namespace DLong
open PySem
open Sem (wp)
open AutoSeq1 (wpAny_loadPart')
section
variable {prog : Program} {w : World} {A : Around} {E : Value → Shared → Prop} {s : Shared}
theorem ext_long {R : Result → Shared → Prop} {r : Addr} {a b c : Int} {t u v : Tok} {n : Nat} (hh : A.handled = none) (hr : IsRange s.heap r a b c t u v) (big : Builtin.Range.small a b c = false)
    (hn : Builtin.Range.rangeSize a b c = n) (nl : n ≤ 2 ^ 24) (S : Addr) (res : Value) (c₀ : Nat) (hS : s.heap.get? S = some { cls := .type "list", data := .seq #[] c₀ })
    (kR : ∀ h' tk ac c', (∀ b o, b ≠ S → s.heap.get? b = some o → h'.get? b = some o) → h'.get? S = some { cls := .type "list", dict := none, data := .seq ac c', slots := #[] } →
      ItemsOf (fun i v => ∃ t, v = .int (a + i * c) t) ac n → R (.ok (.ret res)) { s with heap := h', toks := tk }) :
    wpAny (model prog w) A.in1 (Builtin.List.listExtendWith (.ref S) (.ref r) res)
      (fun fin s' => match fin with | .done f => R (.ok f) s' | .again c' => c'.quiet = true ∧ codeAny (model prog w) A c' R s') (fun e s' => R (.error e) s') s := by
  have nSr : S ≠ r := fun e => by rw [e, hr] at hS; simp at hS
  have lS : S < s.heap.objs.size := Heap.lt_size hS
  have nSI : S ≠ s.heap.objs.size := Nat.ne_of_lt lS
  have fS : S ∉ [s.heap.objs.size] := fun hm => nSI (List.mem_singleton.mp hm)
  have W := (Walks.longrange (prog := prog) (w := w) (A := A.in1) hh s.heap.objs.size a c n).toS

  have key : ∀ (h : Heap) (c₁ tk : Nat), IsLongIter h s.heap.objs.size (a + ((0 : Nat) : Int) * c) ((n : Int) - ((0 : Nat) : Int)) c → (∀ b o, b ≠ S → s.heap.get? b = some o → h.get? b = some o) →
      h.get? S = some { cls := .type "list", data := .seq #[] c₁ } → codeAny (model prog w) A (.builtin "list.extend.loop" ⟨[.ref S, .ref s.heap.objs.size, res], []⟩) R { s with heap := h, toks := tk } := by
    intro h c₁ tk i0 kp s1
    refine codeAny_extend_loopS W (by rw [sizeLine_eq]; omega) S fS res n 0 _ #[] c₁ rfl (Nat.zero_le _) i0 s1 (ItemsOf.nil _) fun s' ac c' hm sS ha => ?_
    rw [Moved.eq_with hm]
    refine kR s'.heap s'.toks ac c' (fun b o hb e => hm.heap b o (fun hmem => ?_) (kp b o hb e)) sS ha
    rcases List.mem_cons.mp hmem with e' | hmem
    · exact hb e'
    · exact absurd (Heap.lt_size e) (by rw [List.mem_singleton.mp hmem]; exact Nat.lt_irrefl _)
  unfold Builtin.List.listExtendWith
  refine wpAny_bind (wpAny_typeOf (T := "range") ⟨_, hr, rfl⟩ ?_)
  have h1 : Builtin.List.listSameRef (.ref S) (.ref r) = false := by simp [Builtin.List.listSameRef, nSr]
  have h2 : (Value.type "range" == Value.type "list") = false := by decide
  have h3 : (Value.type "range" == Value.type "tuple") = false := by decide
  simp only [h1, h2, h3, Bool.or_false, Bool.false_eq_true, if_false]
  refine wpAny_bind (wpAny_pyIter_longrange hr big ?_)
  refine wpAny_bind (wpAny_holding (wpAny_hint_range (n := n) (Heap.get?_push_of_some _ hr) hn nl ?_))
  have i1 : IsLongIter (s.heap.push { cls := .type "longrange_iterator", data := .fields #[rawInt a, rawInt (Builtin.Range.rangeSize a b c), rawInt c] }) s.heap.objs.size (a + ((0 : Nat) : Int) * c) ((n : Int) - ((0 : Nat) : Int)) c := by
    show IsLongIter _ _ _ _ _; rw [hn]; simpa using Heap.get?_push_size _ rfl
  have s1 := Heap.get?_push_of_some { cls := .type "longrange_iterator", data := .fields #[rawInt a, rawInt (Builtin.Range.rangeSize a b c), rawInt c] } hS
  refine wpAny_ite_split (fun _ => ?_) (fun _ => wpAny_pure ⟨plainId_quiet F.plain_extend_loop _, key _ c₀ _ i1 (fun b o _ e => Heap.get?_push_of_some _ e) s1⟩)
  refine wpAny_bind (wpAny_rule ?_)
  refine wpAny_bind ?_
  show wpAny _ _ (updateSeq S (·.push .none) >>= fun _ => updateSeq S (·.pop)) _ _ _
  refine wpAny_bind (wpAny_updateSeq s1 rfl ?_)
  have s2 := Heap.get?_update_self (Obj.mapSeq (·.push Value.none)) s1 rfl
  refine wpAny_updateSeq (hz := by seq_fits) s2 rfl ?_
  have s3 := Heap.get?_update_self (Obj.mapSeq (·.pop)) s2 rfl
  refine wpAny_pure ⟨plainId_quiet F.plain_extend_loop _, key _ _ _ ?_ (fun b o hb e => ?_) s3⟩
  · exact (Heap.get?_update_other _ _ nSI).trans ((Heap.get?_update_other _ _ nSI).trans i1)
  · exact (Heap.get?_update_other _ _ (Ne.symm hb)).trans ((Heap.get?_update_other _ _ (Ne.symm hb)).trans (Heap.get?_push_of_some _ e))

theorem init_long {R : Result → Shared → Prop} {r : Addr} {a b c : Int} {t u v : Tok} {n : Nat} (hh : A.handled = none) (hr : IsRange s.heap r a b c t u v) (big : Builtin.Range.small a b c = false)
    (hn : Builtin.Range.rangeSize a b c = n) (nl : n ≤ 2 ^ 24) (S : Addr) (hS : s.heap.get? S = some { cls := .type "list", data := .seq #[] })
    (kR : ∀ h' tk ac c', (∀ b o, b ≠ S → s.heap.get? b = some o → h'.get? b = some o) → h'.get? S = some { cls := .type "list", dict := none, data := .seq ac c', slots := #[] } →
      ItemsOf (fun i v => ∃ t, v = .int (a + i * c) t) ac n → R (.ok (.ret .none)) { s with heap := h', toks := tk }) :
    wpAny (model prog w) A.in1 (Builtin.«list.__init__» ⟨[.ref S, .ref r], []⟩)
      (fun fin s' => match fin with | .done f => R (.ok f) s' | .again c' => c'.quiet = true ∧ codeAny (model prog w) A c' R s') (fun e s' => R (.error e) s') s := by
  have nSr : S ≠ r := fun e => by rw [e, hr] at hS; simp at hS
  show wpAny _ _ (do let old ← Builtin.List.listItems (.ref S); Builtin.List.listUpdate (.ref S) (fun _ => #[]); letGo old.toList.reverse; Builtin.List.listExtendWith (.ref S) (.ref r) .none) _ _ s
  refine wpAny_bind ?_
  unfold Builtin.List.listItems
  refine wpAny_bind (wpAny_seqItems hS rfl (wpAny_pure ?_))
  show wpAny _ _ (updateSeq S (fun _ => #[]) >>= fun _ => letGo (#[] : Array Value).toList.reverse >>= fun _ => Builtin.List.listExtendWith (.ref S) (.ref r) .none) _ _ s
  refine wpAny_bind (wpAny_updateSeq hS rfl ?_)
  have s2 := Heap.get?_update_self (Obj.mapSeq (fun _ => (#[] : Array Value))) hS rfl
  have oth : ∀ b o, b ≠ S → s.heap.get? b = some o → (s.heap.update S (Obj.mapSeq (fun _ => (#[] : Array Value)))).get? b = some o :=
    fun b o hb e => (Heap.get?_update_other _ _ (Ne.symm hb)).trans e
  refine wpAny_bind (wpAny_letGo ?_)
  refine ext_long hh (oth r _ (Ne.symm nSr) hr) big hn nl S .none _ s2 fun h' tk ac c' kp sS ha => ?_
  exact kR h' tk ac c' (fun b o hb e => kp b o hb (oth b o hb e)) sS ha
theorem list_long {Q : Value → Shared → Prop} {r : Addr} {a b c : Int} {t u v : Tok} {n : Nat} (hh : A.handled = none) (hr : IsRange s.heap r a b c t u v) (big : Builtin.Range.small a b c = false)
    (hn : Builtin.Range.rangeSize a b c = n) (nl : n ≤ 2 ^ 24)
    (kQ : ∀ h' tk ac c', (∀ b o, s.heap.get? b = some o → h'.get? b = some o) →
      h'.get? s.heap.objs.size = some { cls := .type "list", dict := none, data := .seq ac c', slots := #[] } → ItemsOf (fun i v => ∃ t, v = .int (a + i * c) t) ac n → Q (.ref s.heap.objs.size) { s with heap := h', toks := tk }) :
    wpAny (model prog w) A (call (.type "list") [.ref r]) Q E s := by
  refine callType_codes (Q₁ := fun obj s₁ => obj = .ref s.heap.objs.size ∧ s₁ = { s with heap := s.heap.push { cls := .type "list", data := .seq #[] } }) F.called_list (F.typeCall_list_1 _) F.entry_list_init
    (code_list_new _ ⟨rfl, rfl⟩) fun obj s₁ h₁ => ?_
  obtain ⟨rfl, rfl⟩ := h₁
  have hS : (s.heap.push { cls := .type "list", data := .seq #[] }).get? s.heap.objs.size = some { cls := .type "list", data := .seq #[] } := Heap.get?_push_size _ rfl
  refine ⟨⟨_, hS, rfl⟩, F.args_list_init_2 _ _, init_long (A := A.in1) hh (Heap.get?_push_of_some _ hr) big hn nl _ hS fun h' tk ac c' kp sS ha => ?_⟩
  exact ⟨rfl, kQ h' tk ac c' (fun b o e => kp b o (Nat.ne_of_lt (Heap.lt_size e)) (Heap.get?_push_of_some _ e)) sS ha⟩
end
end DLong
namespace DL
open PySem L2 PySem.Spec PyProof.Rows
section
variable {X : Cx} {e a b : Expr} {ta tb : TE} {f g : En → Res Vl} {te : L2.St → Hp → (Int → Int → Hp → Prop) → Prop}
/-- list(range(..)), whatever its bounds; its length is bounded -/
def tLsR (te : L2.St → Hp → (Int → Int → Hp → Prop) → Prop) : TE := fun σ H Q => te σ H fun a b H1 => (b - a).toNat ≤ 2 ^ 24 ∧ ∀ q, H1 q = none → Q (.ref q) (upd H1 q (.lst (rgV a b)))
theorem pe_lsR {p pos : Pos} (hc : X.calm = true) (hg : Gl X "list") (hm : X.mg "list" = none) (he : PRg X e te) (na : starEach [e] X.env = (false, eval e X.env) :: starEach [] X.env) : PE X (.Call (.Name "list" p) [e] [] pos) (tLsR te) := by
  refine ⟨fun pins s σ H Q I h => Call_ (ld_blt I hg hm PyProof.Rows.boot_list (PyProof.Rows.callWith_type1 (PyProof.Rows.args_cons (thn (he pins s σ H _ I h) fun x s1 ⟨r, i, j, t, u, v, H1, ex, hr, I1, nl, q⟩ => PyProof.Rows.args_nil ?_) na) na))⟩
  subst ex
  have fin : ∀ (h' : Heap) (tk : Nat) (acc : Array Value) (c' : Nat), (∀ b o, s1.heap.get? b = some o → h'.get? b = some o) → h'.get? s1.heap.objs.size = some { cls := .type "list", dict := none, data := .seq acc c', slots := #[] } →
      ItemsOf (fun n v => ∃ t, v = .int (i + n * 1) t) acc (j - i).toNat → EP X pins σ Q (.ref s1.heap.objs.size) { s1 with heap := h', toks := tk } := fun h' tk acc c' hk e' hi => by
    refine ⟨.ref s1.heap.objs.size, upd H1 s1.heap.objs.size (.lst (rgV i j)), I1.laid hk (Nat.le_refl _) (show ObjOk X.prog X.w _ _ _ (.lst (rgV i j)) from ⟨?_, acc.toList, c', vals_rg hi, ?_⟩), rfl, q _ (I1.hok.fresh (Nat.le_refl _))⟩
    · rw [rgV_length, sizeLine_eq]
      exact nl
    · rw [Array.toArray_toList]
      exact e'
  cases hs : Builtin.Range.small i j 1 with
  | true => exact call_list_range (n := (j - i).toNat) (I1.ok.hd hc) hr hs (PyProof.Rows.rangeSize_nat i j) nl fin
  | false => exact DLong.list_long (n := (j - i).toNat) (I1.ok.hd hc) hr hs (PyProof.Rows.rangeSize_nat i j) nl fin
def lsR1 (f : En → Res Vl) : En → Res Vl := fun env => (f env).bind fun u => match u.d with
  | .int j => if j.toNat ≤ 2 ^ 24 then .ok ⟨.o, .lst (rngD 0 j.toNat)⟩ else .no
  | _ => .no
def lsR2 (f g : En → Res Vl) : En → Res Vl := fun env => (f env).bind fun u => (g env).bind fun w => match u.d, w.d with
  | .int i, .int j => if (j - i).toNat ≤ 2 ^ 24 then .ok ⟨.o, .lst (rngD i (j - i).toNat)⟩ else .no
  | _, _ => .no
theorem rep_rgV {K : PySem.W.Frag} {G : Hp} (a b : Int) : RepL K G (rgV a b) (rngD a (b - a).toNat) := by
  unfold rgV rngD
  generalize (b - a).toNat = n
  have : ∀ l : List Nat, RepL K G (l.map fun i => V.int (a + (i : Nat))) (l.map fun (i : Nat) => D.int (a + i)) := fun l => by
    induction l with
    | nil => exact .nil
    | cons x l ih => exact .cons (.int _) ih
  exact this _
theorem de_lsR1 {p p2 pos pos2 : Pos} (hm : X.mg "list" = none) (hmr : X.mg "range" = none) (ha : DE X a ta f) (hc : X.calm = true := by rfl) (hg : Gl X "list" := by rfl) (hgr : Gl X "range" := by rfl) (na : starEach [a] X.env = (false, eval a X.env) :: starEach [] X.env := by rfl)
    (nb : starEach [.Call (.Name "range" p2) [a] [] pos2] X.env = (false, eval (.Call (.Name "range" p2) [a] [] pos2) X.env) :: starEach [] X.env := by rfl) : DE X (.Call (.Name "list" p) [.Call (.Name "range" p2) [a] [] pos2] [] pos) (tLsR (tRg1 ta)) (lsR1 f) :=
  ⟨pe_lsR hc hg hm (prg_1 hgr hmr ha.pe na) nb, fun B G0 G env σ H z r e Q k => by
    obtain ⟨u, e1, e2⟩ := Res.bind_eq e
    refine ha.ev B G0 G env σ H u r e1 _ fun G' H' v x hv => ?_
    have y := hv.look (r.ext x)
    split at e2
    · rename_i j ej
      obtain ⟨c, rfl⟩ := if_ok e2
      rw [ej] at y
      refine ⟨j, y.int_inv, by simpa using c, new_list (r.ext x) (by have := rep_rgV (K := X.K) (G := G') 0 j; simpa using this) fun G2 H2 w x2 hw => k G2 H2 w (x.trans x2) (hw.from x.hh)⟩
    · cases e2⟩
theorem de_lsR2 {p p2 pos pos2 : Pos} (hm : X.mg "list" = none) (hmr : X.mg "range" = none) (ha : DE X a ta f) (hb : DE X b tb g) (hc : X.calm = true := by rfl) (hg : Gl X "list" := by rfl) (hgr : Gl X "range" := by rfl) (na : starEach [a, b] X.env = (false, eval a X.env) :: starEach [b] X.env := by rfl)
    (nb : starEach [b] X.env = (false, eval b X.env) :: starEach [] X.env := by rfl) (np : (backTo pos2 (starEach [b] X.env)).any (·.1) = false := by rfl)
    (nc : starEach [.Call (.Name "range" p2) [a, b] [] pos2] X.env = (false, eval (.Call (.Name "range" p2) [a, b] [] pos2) X.env) :: starEach [] X.env := by rfl) : DE X (.Call (.Name "list" p) [.Call (.Name "range" p2) [a, b] [] pos2] [] pos) (tLsR (tRg2 ta tb)) (lsR2 f g) :=
  ⟨pe_lsR hc hg hm (prg_2 hgr hmr ha.pe hb.pe na nb np) nc, fun B G0 G env σ H z r e Q k => by
    obtain ⟨u, e1, e2⟩ := Res.bind_eq e
    obtain ⟨w, e3, e4⟩ := Res.bind_eq e2
    exact ev_two ha.ev hb.ev r e1 e3 fun G' H' x y xt r' hx hy => by
      have a1 := hx.look r'
      have b1 := hy.look r'
      split at e4
      · rename_i i j ei ej
        obtain ⟨c, rfl⟩ := if_ok e4
        rw [ei] at a1
        rw [ej] at b1
        exact ⟨i, j, a1.int_inv, b1.int_inv, c, new_list r' (rep_rgV i j) fun G2 H2 w x2 hw => k G2 H2 w (xt.trans x2) (hw.from xt.hh)⟩
      · cases e4⟩
end
end DL

namespace DL
open PySem L2
/-! the law itself -/
structure DnL (K : PySem.W.Frag) (mg : Str → Option Value) (x : Str) (st : Stmt) (p : Str) : Prop where
  ex : ∃ (fa : Addr) (fd : FuncData), Fun K x x st fa fd ∧ mg x = some (.ref fa) ∧ ∀ (s : Shared) (v : Value), BindsTo s fd ⟨[v], []⟩ [(p, v)]
theorem dnl_mk {K : PySem.W.Frag} {h : Heap} {mg : Str → Option Value} {x : Str} {st : Stmt} {p : Str} {f : Addr} {oc : Value} {od an : Option Addr} {sl : Array (Option Value)} {kV dc pm cd ct : Value} (X : K.In h) (G : h.Ns mainGlobals mg) (a : PySem.W.nsIn K mainGlobals x = some (some (.ref f)))
    (l : K.lookup f = some ⟨oc, od, .func (PySem.W.fnOf x x (defArgs st) (defBody st) (defScope st) .none kV dc pm an cd ct), sl⟩) (c : PySem.W.codeIn K cd x = true) (k : PySem.W.keepIn K (.ref f) = true)
    (hb : ∀ (kV doc pm : Value) (an : Option Addr) (cdv ct v : Value), bindArgs (PySem.W.fnOf x x (defArgs st) (defBody st) (defScope st) .none kV doc pm an cdv ct) ⟨[v], []⟩ = pure [(p, v)]) : DnL K mg x st p :=
  ⟨f, _, fun_mk l c k, PySem.W.mg_of X G a, fun s v => .of_eq (hb _ _ _ _ _ _ v)⟩
def LawOk (P : Program) (w : World) (K : PySem.W.Frag) (mg : Str → Option Value) (k : Nat) (x p : Str) (F : Fn) : Prop := ∃ (fa : Addr) (fd : FuncData), mg x = some (.ref fa) ∧ (∀ (s : Shared) (v : Value), BindsTo s fd ⟨[v], []⟩ [(p, v)]) ∧ ∀ base : Heap, FnOk P w K mg base CX0 k fa fd [p] (spD K 1 F)
theorem law_mk {P : Program} {w : World} {K : PySem.W.Frag} {mg : Str → Option Value} {x : Str} {st : Stmt} {N : List Str} {p : Str} {k n : Nat} {b : En → Out} (d : DnL K mg x st p) (S : FnScope N [p] (defScope st)) (hn : n = N.length)
    (h : ∀ (base : Heap) (fa : Addr) (cdv : Value) (A : Around) (outer : List Env) (s : Shared) (H : Hp) (E : XK), Room k (A.deeper (PyProof.Rows.envOfC x (defScope st) s.heap.objs.size fa cdv)) → ∃ t, DSs (cxOf CX0 P w K mg base N x (defScope st) fa cdv A outer s H E).nox (defBody st) t b) :
    LawOk P w K mg (k + 1) x p (runF 1 n b) := by
  obtain ⟨fa, fd, F, hm', hb⟩ := d.ex
  exact ⟨fa, fd, hm', hb, fun base => fn_ok F S rfl hn (fun cdv A outer s H E hr => h base fa cdv A outer s H E hr)⟩
theorem law_walk {l : PySem.W.OpenLaw} {k : Nat} {q : Program} {loose : List Str} {XP : (Str → Option Value) → Heap → Prop} {YP : World → Heap → Prop} {d : DefRec} {K : Params → PySem.W.Frag} {x p : Str} {Fl : Fn} (hF : ∀ ns : List Int, Fl [(true, .fz (ns.map D.int))] = .ok ⟨.g, .bl true⟩)
    (hn : l.most = some 63) (hdf : d.params.defaults = []) (hr : Room k callerA) (hx : d.name = x)
    (hY : ∀ (w : World) (h : Heap), YP w h → (K w.params).In h)
    (F : ∀ (w : World) (mg : Str → Option Value) (h : Heap), (K w.params).In h → h.Ns mainGlobals mg → LawOk l.prog w (K w.params) mg k x p Fl) :
    PySem.W.WalkO q loose XP YP l.row.toRowW d [] (fun f vs => PySem.call f vs) := by
  refine L2.walk_of (n := 63) (k := k) (x := p) (CX := fun _ => CX0) (sp := fun w => spD (K w.params) 1 Fl) hn (by decide) hdf hr hY ?_ ?_ fun _ _ _ _ _ z => z
  · intro w mg fa h KX G hmg
    obtain ⟨fa', fd, hm, hb, hf⟩ := F w mg h KX G
    rw [hx, hm] at hmg
    cases hmg
    exact ⟨fd, hb, fun base _ _ => hf base⟩
  · intro w H a ns hl hO hS
    refine ⟨H, [(true, .fz (ns.map D.int))], ⟨.g, .bl true⟩, Same.refl H, rfl, ?_, hF ns, ?_⟩
    · exact ⟨.ref a, [], rfl, .fz hS (RepL.ofInts _), rfl⟩
    · intro G' H' v x hv
      cases hv
      rfl
end DL

/-! DLs: how the combinators reckon, as rules for simp. -/
namespace DL
open PySem L2
def lsV : D → Res Vl
  | .int j => if j.toNat ≤ 2 ^ 24 then .ok ⟨.o, .lst (rngD 0 j.toNat)⟩ else .no
  | _ => .no
def lsW : D → D → Res Vl
  | .int i, .int j => if (j - i).toNat ≤ 2 ^ 24 then .ok ⟨.o, .lst (rngD i (j - i).toNat)⟩ else .no
  | _, _ => .no
section
variable {env : En} {i j : Nat} {k l : Bool} {d : D} {xs ys : List D} {a b : Int} {s t : Str} {u w : Vl} {q q' : Kd}
def nmV : Option Sl → Res Vl
  | some (.vl k d) => .ok ⟨kd k, d⟩
  | some (.ow xs) => .ok ⟨.h, .lst xs⟩
  | _ => .no
theorem nmE_eq : nmE i env = nmV env[i]? := by
  unfold nmE
  cases h : env[i]? with
  | none => rfl
  | some s => cases s <;> rfl
theorem nmV_vl : nmV (some (.vl k d)) = .ok ⟨kd k, d⟩ := rfl
theorem nmV_ow : nmV (some (.ow xs)) = .ok ⟨.h, .lst xs⟩ := rfl
theorem kd_true : kd true = .g := rfl
theorem kd_false : kd false = .b := rfl
theorem nmE_vl (h : env[i]? = some (.vl k d)) : nmE i env = .ok ⟨kd k, d⟩ := by unfold nmE; rw [h]
theorem nmE_ow (h : env[i]? = some (.ow xs)) : nmE i env = .ok ⟨.h, .lst xs⟩ := by unfold nmE; rw [h]
theorem cE_eq : cE d env = .ok ⟨.g, d⟩ := rfl
theorem binE_eq {p : Vl → Vl → Res Vl} {f g : En → Res Vl} : binE p f g env = (f env).bind fun x => (g env).bind fun y => p x y := rfl
theorem unE_eq {p : Vl → Res Vl} {f : En → Res Vl} : unE p f env = (f env).bind p := rfl
theorem negP_int : negP ⟨q, .int a⟩ = .ok ⟨.g, .int (-a)⟩ := rfl
theorem callE_eq {p : List Vl → Res Vl} {f : En → Res (List Vl)} : callE p f env = (f env).bind p := rfl
theorem callF_eq {F : Fn} {ds : List D} {f : En → Res (List Vl)} : callF F ds f env = (f env).bind fun us => (F (us.map Vl.ba ++ ds.map fun d => (true, d))).bind fin := rfl
theorem callK_eq {F : Fn} {n m : Nat} {f g : En → Res (List Vl)} : callK F n m f g env = (f env).bind fun us => (g env).bind fun ws => if us.length = n ∧ ws.length = m then (F ((us ++ ws).map Vl.ba)).bind fin else .no := rfl
theorem fin_g : fin ⟨.g, d⟩ = .ok ⟨.g, d⟩ := rfl
theorem fin_o : fin ⟨.o, d⟩ = .ok ⟨.o, d⟩ := rfl
theorem nilA_eq : nilA env = .ok [] := rfl
theorem consA_eq {f : En → Res Vl} {g : En → Res (List Vl)} : consA f g env = (f env).bind fun x => (g env).bind fun xs => .ok (x.arg :: xs) := rfl
theorem arg_kd : (⟨kd k, d⟩ : Vl).arg = ⟨kd k, d⟩ := by cases k <;> rfl
theorem arg_g : (⟨.g, d⟩ : Vl).arg = ⟨.g, d⟩ := rfl
theorem arg_h : (⟨.h, d⟩ : Vl).arg = ⟨.h, d⟩ := rfl
theorem arg_b : (⟨.b, d⟩ : Vl).arg = ⟨.b, d⟩ := rfl
theorem arg_o : (⟨.o, d⟩ : Vl).arg = ⟨.g, d⟩ := rfl
theorem ba_kd : Vl.ba ⟨kd k, d⟩ = (k || flat d, d) := by cases k <;> rfl
theorem ba_g : Vl.ba ⟨.g, d⟩ = (true, d) := rfl
theorem ba_h : Vl.ba ⟨.h, .lst xs⟩ = (false, .lst xs) := rfl
theorem keep_kd : (⟨kd k, d⟩ : Vl).keep = (k || flat d) := by cases k <;> rfl
theorem keep_g : (⟨.g, d⟩ : Vl).keep = true := rfl
theorem keep_o : (⟨.o, d⟩ : Vl).keep = true := rfl
theorem flat_int : flat (.int a) = true := rfl
theorem flat_bl : flat (.bl k) = true := rfl
theorem flat_str : flat (.str s) = true := rfl
theorem flat_non : flat .non = true := rfl
theorem flat_lst : flat (.lst xs) = false := rfl
theorem flat_tup : flat (.tup xs) = false := rfl
theorem slot_kd : slotOf ⟨kd k, d⟩ = .ok (.vl k d) := by cases k <;> rfl
theorem slot_g : slotOf ⟨.g, d⟩ = .ok (.vl true d) := rfl
theorem slot_b : slotOf ⟨.b, d⟩ = .ok (.vl false d) := rfl
theorem slot_o : slotOf ⟨.o, .lst xs⟩ = .ok (.ow xs) := rfl
theorem sub_kd : (kd k).sub = kd k := by cases k <;> rfl
theorem sub_g : Kd.sub .g = .g := rfl
theorem sub_h : Kd.sub .h = .g := rfl
theorem sub_o : Kd.sub .o = .g := rfl
theorem sub_b : Kd.sub .b = .b := rfl
theorem it_kd : (kd k).it xs = (k || xs.all flat) := by cases k <;> rfl
theorem it_g : Kd.it .g xs = true := rfl
theorem it_h : Kd.it .h xs = true := rfl
theorem it_o : Kd.it .o xs = true := rfl
theorem intP_int {g : Int → Int → Res D} : intP g ⟨q, .int a⟩ ⟨q', .int b⟩ = (g a b).bind fun d => .ok ⟨.g, d⟩ := rfl
theorem addP_int : addP ⟨q, .int a⟩ ⟨q', .int b⟩ = .ok ⟨.g, .int (a + b)⟩ := rfl
theorem addP_lst : addP ⟨q, .lst xs⟩ ⟨q', .lst ys⟩ = if q.it xs = true ∧ q'.it ys = true ∧ xs.length + ys.length ≤ sizeLine then .ok ⟨.o, .lst (xs ++ ys)⟩ else .no := rfl
theorem addP_str : addP ⟨q, .str s⟩ ⟨q', .str t⟩ = if s.length + t.length ≤ sizeLine then .ok ⟨.g, .str (s ++ t)⟩ else .no := rfl
theorem addI_eq : addI a b = .ok (.int (a + b)) := rfl
theorem subI_eq : subI a b = .ok (.int (a - b)) := rfl
theorem ltI_eq : ltI a b = .ok (.bl (decide (a < b))) := rfl
theorem leI_eq : leI a b = .ok (.bl (decide (a ≤ b))) := rfl
theorem gtI_eq : gtI a b = .ok (.bl (decide (b < a))) := rfl
theorem geI_eq : geI a b = .ok (.bl (decide (b ≤ a))) := rfl
theorem modI_eq : modI a b = if 0 < b then .ok (.int (a % b)) else .no := rfl
theorem eqP_eq {n : Bool} : eqP n u w = (eqB n u.d w.d).bind fun b => .ok ⟨.g, .bl b⟩ := rfl
theorem eqB_int {n : Bool} : eqB n (.int a) (.int b) = .ok (if n then !decide (a = b) else decide (a = b)) := rfl
theorem eqB_str {n : Bool} : eqB n (.str s) (.str t) = .ok (if n then !decide (s = t) else decide (s = t)) := rfl
theorem eqB_bl {n : Bool} : eqB n (.bl k) (.bl l) = .ok (if n then !decide (k = l) else decide (k = l)) := rfl
theorem eqB_non {n : Bool} : eqB n .non .non = .ok (if n then !true else true) := rfl
theorem isP_non {n : Bool} : isP n ⟨q, .non⟩ ⟨q', .non⟩ = .ok ⟨.g, .bl (!n)⟩ := rfl
theorem isP_int_non {n : Bool} : isP n ⟨q, .int a⟩ ⟨q', .non⟩ = .ok ⟨.g, .bl n⟩ := rfl
theorem isP_str_non {n : Bool} : isP n ⟨q, .str s⟩ ⟨q', .non⟩ = .ok ⟨.g, .bl n⟩ := rfl
theorem isP_bl_non {n : Bool} : isP n ⟨q, .bl k⟩ ⟨q', .non⟩ = .ok ⟨.g, .bl n⟩ := rfl
theorem isP_lst_non {n : Bool} : isP n ⟨q, .lst xs⟩ ⟨q', .non⟩ = .ok ⟨.g, .bl n⟩ := rfl
theorem isP_tup_non {n : Bool} : isP n ⟨q, .tup xs⟩ ⟨q', .non⟩ = .ok ⟨.g, .bl n⟩ := rfl
theorem isP_bl {n : Bool} : isP n ⟨q, .bl k⟩ ⟨q', .bl l⟩ = .ok ⟨.g, .bl (if n then !decide (k = l) else decide (k = l))⟩ := rfl
theorem isP_non_bl {n : Bool} : isP n ⟨q, .non⟩ ⟨q', .bl l⟩ = .ok ⟨.g, .bl n⟩ := rfl
theorem isP_int_bl {n : Bool} : isP n ⟨q, .int a⟩ ⟨q', .bl l⟩ = .ok ⟨.g, .bl n⟩ := rfl
theorem isP_str_bl {n : Bool} : isP n ⟨q, .str s⟩ ⟨q', .bl l⟩ = .ok ⟨.g, .bl n⟩ := rfl
theorem isP_lst_bl {n : Bool} : isP n ⟨q, .lst xs⟩ ⟨q', .bl l⟩ = .ok ⟨.g, .bl n⟩ := rfl
theorem isP_tup_bl {n : Bool} : isP n ⟨q, .tup xs⟩ ⟨q', .bl l⟩ = .ok ⟨.g, .bl n⟩ := rfl
theorem intC_int : intC [⟨q, .int a⟩] = .ok ⟨.g, .int a⟩ := rfl
theorem intC_bl : intC [⟨q, .bl k⟩] = .ok ⟨.g, .int (if k then 1 else 0)⟩ := rfl
theorem absC_int : absC [⟨q, .int a⟩] = .ok ⟨.g, .int (if a < 0 then -a else a)⟩ := rfl
theorem min2C_int : min2C [⟨q, .int a⟩, ⟨q', .int b⟩] = .ok ⟨.g, .int (if b < a then b else a)⟩ := rfl
theorem max2C_int : max2C [⟨q, .int a⟩, ⟨q', .int b⟩] = .ok ⟨.g, .int (if b > a then b else a)⟩ := rfl
theorem lenC_lst : lenC [⟨q, .lst xs⟩] = .ok ⟨.g, .int xs.length⟩ := rfl
theorem lenC_tup : lenC [⟨q, .tup xs⟩] = .ok ⟨.g, .int xs.length⟩ := rfl
theorem divmodC_int : divmodC [⟨q, .int a⟩, ⟨q', .int b⟩] = if CDiv a b then .ok ⟨.g, .tup [.int (a / b), .int (a % b)]⟩ else .no := rfl
theorem sumC_ints {ns : List Int} : sumC [⟨q, .lst (ns.map D.int)⟩] = .ok ⟨.g, .int ns.sum⟩ := by unfold sumC; simp
theorem sumC_tup {ns : List Int} : sumC [⟨q, .tup (ns.map D.int)⟩] = .ok ⟨.g, .int ns.sum⟩ := by unfold sumC; simp
theorem listC_lst : listC [⟨q, .lst xs⟩] = if q.it xs = true then .ok ⟨.o, .lst xs⟩ else .no := rfl
theorem listC_tup : listC [⟨q, .tup xs⟩] = if q.it xs = true then .ok ⟨.o, .lst xs⟩ else .no := rfl
theorem tupleC_lst : tupleC [⟨q, .lst xs⟩] = if q.it xs = true then .ok ⟨.g, .tup xs⟩ else .no := rfl
theorem tupleC_tup : tupleC [⟨q, .tup xs⟩] = .ok ⟨q, .tup xs⟩ := rfl
theorem ixP_lst : ixP ⟨q, .lst xs⟩ ⟨q', .int a⟩ = (atD xs a).bind fun d => .ok ⟨q.sub, d⟩ := rfl
theorem ixP_tup : ixP ⟨q, .tup xs⟩ ⟨q', .int a⟩ = (atD xs a).bind fun d => .ok ⟨q.sub, d⟩ := rfl
theorem tupE_eq {f : En → Res (List Vl)} : tupE f env = (f env).bind fun us => if us.all Vl.keep = true ∧ us.length ≤ sizeLine then .ok ⟨.g, .tup (us.map Vl.d)⟩ else .no := rfl
theorem lstE_eq {f : En → Res (List Vl)} : lstE f env = (f env).bind fun us => if us.all Vl.keep = true ∧ us.length ≤ sizeLine then .ok ⟨.o, .lst (us.map Vl.d)⟩ else .no := rfl
theorem isiE_eq {T : String} {f : En → Res Vl} : isiE T f env = (f env).bind fun u => .ok ⟨.g, .bl (isiB T u.d)⟩ := rfl
theorem isi_non_int : isiB "int" .non = false := rfl
theorem isi_non_str : isiB "str" .non = false := rfl
theorem isi_non_bool : isiB "bool" .non = false := rfl
theorem isi_non_list : isiB "list" .non = false := rfl
theorem isi_non_tuple : isiB "tuple" .non = false := rfl
theorem isi_bl_int : isiB "int" (.bl k) = true := rfl
theorem isi_bl_str : isiB "str" (.bl k) = false := rfl
theorem isi_bl_bool : isiB "bool" (.bl k) = true := rfl
theorem isi_bl_list : isiB "list" (.bl k) = false := rfl
theorem isi_bl_tuple : isiB "tuple" (.bl k) = false := rfl
theorem isi_int_int : isiB "int" (.int a) = true := rfl
theorem isi_int_str : isiB "str" (.int a) = false := rfl
theorem isi_int_bool : isiB "bool" (.int a) = false := rfl
theorem isi_int_list : isiB "list" (.int a) = false := rfl
theorem isi_int_tuple : isiB "tuple" (.int a) = false := rfl
theorem isi_str_int : isiB "int" (.str s) = false := rfl
theorem isi_str_str : isiB "str" (.str s) = true := rfl
theorem isi_str_bool : isiB "bool" (.str s) = false := rfl
theorem isi_str_list : isiB "list" (.str s) = false := rfl
theorem isi_str_tuple : isiB "tuple" (.str s) = false := rfl
theorem isi_lst_int : isiB "int" (.lst xs) = false := rfl
theorem isi_lst_str : isiB "str" (.lst xs) = false := rfl
theorem isi_lst_bool : isiB "bool" (.lst xs) = false := rfl
theorem isi_lst_list : isiB "list" (.lst xs) = true := rfl
theorem isi_lst_tuple : isiB "tuple" (.lst xs) = false := rfl
theorem isi_tup_int : isiB "int" (.tup xs) = false := rfl
theorem isi_tup_str : isiB "str" (.tup xs) = false := rfl
theorem isi_tup_bool : isiB "bool" (.tup xs) = false := rfl
theorem isi_tup_list : isiB "list" (.tup xs) = false := rfl
theorem isi_tup_tuple : isiB "tuple" (.tup xs) = true := rfl
theorem isi_fz_int : isiB "int" (.fz xs) = false := rfl
theorem isi_fz_str : isiB "str" (.fz xs) = false := rfl
theorem isi_fz_bool : isiB "bool" (.fz xs) = false := rfl
theorem isi_fz_list : isiB "list" (.fz xs) = true := rfl
theorem isi_fz_tuple : isiB "tuple" (.fz xs) = false := rfl
theorem slE_eq {f : En → Res Vl} {p r : En → Res (Option Int)} : slE f p r env = (f env).bind fun u => (p env).bind fun lo => (r env).bind fun hi => slP u lo hi := rfl
theorem slP_lst {lo hi : Option Int} : slP ⟨q, .lst xs⟩ lo hi = if q.it xs = true then .ok ⟨.o, .lst (cutD xs lo hi)⟩ else .no := rfl
theorem slP_fz {lo hi : Option Int} : slP ⟨q, .fz xs⟩ lo hi = if q.it xs = true then .ok ⟨.o, .lst (cutD xs lo hi)⟩ else .no := rfl
theorem slP_tup {lo hi : Option Int} : slP ⟨q, .tup xs⟩ lo hi = if q.it xs = true ∧ ¬ (HT.sIx xs.length 0 lo = 0 ∧ HT.sIx xs.length xs.length hi = xs.length) then .ok ⟨.g, .tup (cutD xs lo hi)⟩ else .no := rfl
theorem noPart_eq : noPart env = .ok none := rfl
theorem part_eq {f : En → Res Vl} : part f env = (f env).bind fun u => match u.d with
  | .int i => .ok (some i)
  | _ => .no := rfl
theorem truT_eq {f : En → Res Vl} : truT f env = (f env).bind fun u => truD u.d := rfl
theorem valT_eq {f : En → Res Vl} : valT f env = (f env).bind fun u => boolD u.d := rfl
theorem truD_bl : truD (.bl k) = .ok k := rfl
theorem truD_int : truD (.int a) = .ok (a != 0) := rfl
theorem truD_lst : truD (.lst xs) = .ok (!xs.isEmpty) := rfl
theorem truD_tup : truD (.tup xs) = .ok (!xs.isEmpty) := rfl
theorem truD_non : truD .non = .ok false := rfl
theorem boolD_bl : boolD (.bl k) = .ok k := rfl
theorem andT_eq {f g : En → Res Bool} : andT f g env = (f env).bind fun b => if b = true then g env else .ok false := by unfold andT; congr; funext b; cases b <;> rfl
theorem orT_eq {f g : En → Res Bool} : orT f g env = (f env).bind fun b => if b = true then .ok true else g env := by unfold orT; congr; funext b; cases b <;> rfl
theorem notT_eq {f : En → Res Bool} : notT f env = (f env).bind fun b => .ok (!b) := rfl
theorem andE_eq {f g : En → Res Vl} : andE f g env = (f env).bind fun u => (boolD u.d).bind fun c => if c = true then g env else .ok ⟨.g, .bl false⟩ := by unfold andE; congr; funext u; congr; funext b; cases b <;> rfl
theorem orE_eq {f g : En → Res Vl} : orE f g env = (f env).bind fun u => (boolD u.d).bind fun c => if c = true then .ok ⟨.g, .bl true⟩ else g env := by unfold orE; congr; funext u; congr; funext b; cases b <;> rfl
theorem notE_eq {f : En → Res Vl} : notE f env = (f env).bind fun u => (boolD u.d).bind fun c => .ok ⟨.g, .bl (!c)⟩ := rfl
theorem ifE_eq {p : En → Res Bool} {f g : En → Res Vl} : ifE p f g env = (p env).bind fun c => if c = true then f env else g env := by unfold ifE; congr; funext b; cases b <;> rfl
/-- what follows an outcome -/
def Out.bind : Out → (En → Out) → Out
  | .nx e, g => g e
  | o, _ => o
theorem seqO_eq {f g : En → Out} : seqO f g env = (f env).bind g := by unfold seqO Out.bind; cases f env <;> rfl
theorem ob_nx {g : En → Out} : (Out.nx env).bind g = g env := rfl
theorem ob_rt {g : En → Out} : (Out.rt u).bind g = .rt u := rfl
theorem ob_bk {g : En → Out} : (Out.bk env).bind g = .bk env := rfl
theorem ob_ct {g : En → Out} : (Out.ct env).bind g = .ct env := rfl
theorem ob_if {c : Prop} [Decidable c] {x y : Out} {g : En → Out} : (if c then x else y).bind g = if c then x.bind g else y.bind g := by split <;> rfl
def Res.out {α : Type} (r : Res α) (g : α → Out) : Out := match r with
  | .ok a => g a
  | .no => .no
theorem out_ok {α : Type} {a : α} {g : α → Out} : (Res.ok a).out g = g a := rfl
theorem out_no {α : Type} {g : α → Out} : (Res.no : Res α).out g = .no := rfl
theorem ob_no {g : En → Out} : Out.no.bind g = .no := rfl
theorem setO_eq {f : En → Res Vl} : setO i f env = ((f env).bind slotOf).out fun s => .nx (env.set i s) := by
  unfold setO Res.out
  cases (f env).bind slotOf <;> rfl
theorem asgO_eq {t : Tg} {f : En → Res Vl} : asgO t f env = ((f env).bind fun u => t u env).out fun e => .nx e := by
  unfold asgO Res.out
  cases (f env).bind fun u => t u env <;> rfl
theorem retO_eq {f : En → Res Vl} : retO f env = ((f env).bind retV).out fun u => .rt u := by
  unfold retO Res.out
  cases (f env).bind retV <;> rfl
theorem retV_g : retV ⟨.g, d⟩ = .ok ⟨.g, d⟩ := rfl
theorem retV_o : retV ⟨.o, d⟩ = .ok ⟨.o, d⟩ := rfl
theorem retV_h : retV ⟨.h, d⟩ = .ok ⟨.o, d⟩ := rfl
theorem retV_kd (h : flat d = true) : retV ⟨kd k, d⟩ = .ok ⟨.g, d⟩ := by
  cases k
  · show (if flat d = true then _ else _) = _
    rw [if_pos h]
  · rfl
theorem ifO_eq {p : En → Res Bool} {f g : En → Out} : ifO p f g env = (p env).out fun b => if b = true then f env else g env := by
  unfold ifO Res.out
  cases p env with
  | ok b => cases b <;> rfl
  | no => rfl
theorem nextO_eq : nextO env = .nx env := rfl
theorem dropO_eq {f : En → Res Vl} : dropO f env = (f env).out fun _ => .nx env := by
  unfold dropO Res.out
  cases f env <;> rfl
theorem appO_eq {f : En → Res Vl} : appO i f env = ((f env).bind keepD).out fun d => (owAt env i).out fun xs => if xs.length < sizeLine then .nx (env.set i (.ow (xs ++ [d]))) else .no := by
  unfold appO Res.out
  cases (f env).bind keepD with
  | no => rfl
  | ok d => cases owAt env i <;> rfl
theorem putO_eq {f g : En → Res Vl} : putO i f g env = ((f env).bind keepD).out fun d => (g env).out fun w => match w with
  | ⟨_, .int j⟩ => (owAt env i).out fun xs => match ixN xs.length j with
    | some m => .nx (env.set i (.ow (xs.set m d)))
    | none => .no
  | _ => .no := by
  unfold putO Res.out
  cases (f env).bind keepD with
  | no => rfl
  | ok d =>
    cases g env with
    | no => rfl
    | ok w =>
      obtain ⟨k, e⟩ := w
      cases e with
      | int j => cases owAt env i <;> rfl
      | _ => rfl
theorem augO_int {p : Int → Int → Int} {f : En → Res Vl} (h : env[i]? = some (.vl k (.int a))) (h2 : f env = .ok ⟨q, .int b⟩) : augO i p f env = .nx (env.set i (.vl true (.int (p a b)))) := by
  unfold augO
  rw [h]
  dsimp only
  rw [h2]
theorem keepD_eq : keepD u = if u.keep = true then .ok u.d else .no := rfl
def owV : Option Sl → Res (List D)
  | some (.ow xs) => .ok xs
  | _ => .no
theorem owAt_eq : owAt env i = owV env[i]? := by
  unfold owAt
  cases h : env[i]? with
  | none => rfl
  | some s => cases s <;> rfl
theorem owV_ow : owV (some (.ow xs)) = .ok xs := rfl
def frzV (env : En) (i : Nat) : Option Sl → En
  | some (.ow xs) => env.set i (.vl true (.lst xs))
  | _ => env
theorem frz1_eq : frz1 i env = frzV env i env[i]? := by
  unfold frz1
  cases h : env[i]? with
  | none => rfl
  | some s => cases s <;> rfl
theorem frzV_ow : frzV env i (some (.ow xs)) = env.set i (.vl true (.lst xs)) := rfl
theorem frzV_vl : frzV env i (some (.vl k d)) = env := rfl
theorem frzV_no : frzV env i (some .no) = env := rfl
def augV (p : Int → Int → Int) (i : Nat) (r : Res Vl) (env : En) : Option Sl → Out
  | some (.vl _ (.int a)) => match r with
    | .ok ⟨_, .int b⟩ => .nx (env.set i (.vl true (.int (p a b))))
    | _ => .no
  | _ => .no
theorem augO_eq {p : Int → Int → Int} {f : En → Res Vl} : augO i p f env = augV p i (f env) env env[i]? := by
  unfold augO augV
  cases h : env[i]? with
  | none => rfl
  | some s =>
    cases s with
    | vl k d => cases d <;> rfl
    | _ => rfl
theorem augV_int {p : Int → Int → Int} : augV p i (.ok ⟨q, .int b⟩) env (some (.vl k (.int a))) = .nx (env.set i (.vl true (.int (p a b)))) := rfl
theorem owAt_ow (h : env[i]? = some (.ow xs)) : owAt env i = .ok xs := by unfold owAt; rw [h]
theorem frzO_eq {is : List Nat} {f : En → Out} : frzO is f env = f (frz is env) := rfl
theorem frz_nil : frz [] env = env := rfl
theorem frz_cons {is : List Nat} : frz (i :: is) env = frz is (frz1 i env) := rfl
theorem frz1_ow (h : env[i]? = some (.ow xs)) : frz1 i env = env.set i (.vl true (.lst xs)) := by unfold frz1; rw [h]
theorem frz1_vl (h : env[i]? = some (.vl k d)) : frz1 i env = env := by unfold frz1; rw [h]
theorem frz1_no (h : env[i]? = some .no) : frz1 i env = env := by unfold frz1; rw [h]
def seqV : Vl → Res (Kd × List D)
  | ⟨.g, .lst xs⟩ => .ok (.g, xs)
  | ⟨.o, .lst xs⟩ => .ok (.g, xs)
  | ⟨.b, .lst xs⟩ => .ok (.b, xs)
  | ⟨.g, .tup xs⟩ => .ok (.g, xs)
  | ⟨.b, .tup xs⟩ => .ok (.b, xs)
  | ⟨.g, .fz xs⟩ => .ok (.g, xs)
  | ⟨.b, .fz xs⟩ => .ok (.b, xs)
  | _ => .no
theorem seqI_eq {f : En → Res Vl} : seqI f env = (f env).bind seqV := by
  unfold seqI
  congr
theorem seqV_gf : seqV ⟨.g, .fz xs⟩ = .ok (.g, xs) := rfl
theorem seqV_kf : seqV ⟨kd k, .fz xs⟩ = .ok (kd k, xs) := by cases k <;> rfl
theorem seqV_kd : seqV ⟨kd k, .lst xs⟩ = .ok (kd k, xs) := by cases k <;> rfl
theorem seqV_kdt : seqV ⟨kd k, .tup xs⟩ = .ok (kd k, xs) := by cases k <;> rfl
theorem seqV_g : seqV ⟨.g, .lst xs⟩ = .ok (.g, xs) := rfl
theorem seqV_gt : seqV ⟨.g, .tup xs⟩ = .ok (.g, xs) := rfl
theorem seqV_o : seqV ⟨.o, .lst xs⟩ = .ok (.g, xs) := rfl
theorem seqV_b : seqV ⟨.b, .lst xs⟩ = .ok (.b, xs) := rfl
theorem seqV_bt : seqV ⟨.b, .tup xs⟩ = .ok (.b, xs) := rfl
def rg (j : Int) : Bool := decide (-(2 ^ 62) ≤ j ∧ j < 2 ^ 62)
theorem rg_in {j : Int} (h1 : -1000000000 ≤ j) (h2 : j ≤ 1000000000) : rg j = true := decide_eq_true ⟨by omega, by omega⟩
def rng1V : D → Res (Kd × List D)
  | .int j => if rg j = true then .ok (.g, rngD 0 j.toNat) else .no
  | _ => .no
def rng2V : D → D → Res (Kd × List D)
  | .int i, .int j => if rg i = true ∧ rg j = true then .ok (.g, rngD i (j - i).toNat) else .no
  | _, _ => .no
theorem rg_iff {j : Int} : (rg j = true) ↔ (-(2 ^ 62) ≤ j ∧ j < 2 ^ 62) := decide_eq_true_iff
theorem rng1_eq {f : En → Res Vl} : rng1 f env = (f env).bind fun u => rng1V u.d := by
  unfold rng1
  congr
  funext u
  obtain ⟨k, e⟩ := u
  cases e with
  | int j =>
    unfold rng1V
    simp only [rg_iff]
  | _ => rfl
theorem rng2_eq {f g : En → Res Vl} : rng2 f g env = (f env).bind fun u => (g env).bind fun w => rng2V u.d w.d := by
  unfold rng2
  congr
  funext u
  congr
  funext w
  obtain ⟨k, e⟩ := u
  obtain ⟨k', e'⟩ := w
  cases e <;> cases e' <;> first
    | rfl
    | (unfold rng2V
       simp only [rg_iff, and_assoc])
theorem rng1V_int : rng1V (.int a) = if rg a = true then .ok (.g, rngD 0 a.toNat) else .no := rfl
theorem rng2V_int : rng2V (.int a) (.int b) = if rg a = true ∧ rg b = true then .ok (.g, rngD a (b - a).toNat) else .no := rfl
theorem forS_eq {it : En → Res (Kd × List D)} {t : Tg} {f : En → Out} : forS it t f env = (it env).out fun p => forO t f p.1 p.2 env := by
  unfold forS Res.out
  cases it env with
  | ok p => rfl
  | no => rfl
theorem lcE_eq {it : En → Res (Kd × List D)} {t : Tg} {c : En → Res Bool} {f : En → Res Vl} {own : List Nat} : lcE it t c f own env = (it env).bind fun p => if p.2.length < sizeLine then (lcO t c f p.1 (wipeE env own) p.2).bind fun ds => .ok ⟨.o, .lst ds⟩ else .no := rfl
theorem lcO_nil {t : Tg} {c : En → Res Bool} {f : En → Res Vl} : lcO t c f q env [] = .ok [] := rfl
theorem lcO_cons {t : Tg} {c : En → Res Bool} {f : En → Res Vl} {x : D} : lcO t c f q env (x :: xs) = (t ⟨q, x⟩ env).bind fun e => (c e).bind fun b => if b = true then ((f e).bind keepD).bind fun d => (lcO t c f q env xs).bind fun ds => .ok (d :: ds) else lcO t c f q env xs := by
  conv => lhs; unfold lcO
  congr
  funext e
  congr
  funext b
  cases b <;> rfl
theorem nmT_eq : nmT i u env = (slotOf u).bind fun s => .ok (env.set i s) := rfl
theorem tupT_tup {n : Nat} {r : Kd → List D → En → Res En} : tupT n r ⟨q, .tup xs⟩ env = if xs.length = n then r q.sub xs env else .no := rfl
theorem consT_cons {t : Tg} {r : Kd → List D → En → Res En} : consT t r q (d :: xs) env = (t ⟨q, d⟩ env).bind fun e => r q xs e := rfl
theorem nilT_nil : nilT q [] env = .ok env := rfl
theorem wipeE_nil : wipeE env [] = env := rfl
theorem wipeE_cons {is : List Nat} : wipeE env (i :: is) = (wipeE env is).set i .no := rfl
theorem forO_nil {t : Tg} {f : En → Out} : forO t f q [] env = .nx env := rfl
/-- a turn's end -/
def Out.turn (o : Out) (g : En → Out) : Out := match o with
  | .nx e => g e
  | .ct e => g e
  | .bk e => .nx e
  | .rt u => .rt u
  | .no => .no
theorem forO_cons {t : Tg} {f : En → Out} {x : D} : forO t f q (x :: xs) env = (t ⟨q, x⟩ env).out fun e => (f e).turn fun e' => forO t f q xs e' := by
  unfold Res.out Out.turn
  conv => lhs; unfold forO
  cases t ⟨q, x⟩ env with
  | no => rfl
  | ok e => cases f e <;> rfl
theorem turn_nx {g : En → Out} : (Out.nx env).turn g = g env := rfl
theorem turn_ct {g : En → Out} : (Out.ct env).turn g = g env := rfl
theorem turn_bk {g : En → Out} : (Out.bk env).turn g = .nx env := rfl
theorem turn_rt {g : En → Out} : (Out.rt u).turn g = .rt u := rfl
theorem turn_if {c : Prop} [Decidable c] {x y : Out} {g : En → Out} : (if c then x else y).turn g = if c then x.turn g else y.turn g := by split <;> rfl
def Out.val : Out → Res Vl
  | .rt u => .ok u
  | .nx _ => .ok ⟨.g, .non⟩
  | _ => .no
theorem runF_eq {m n : Nat} {f : En → Out} {as : List (Bool × D)} : runF m n f as = if as.length = m then (f (startE n as)).val else .no := by
  unfold runF Out.val
  split
  · cases f (startE n as) <;> rfl
  · rfl
theorem val_rt : (Out.rt u).val = .ok u := rfl
theorem val_nx : (Out.nx env).val = .ok ⟨.g, .non⟩ := rfl
theorem val_if {c : Prop} [Decidable c] {x y : Out} : (if c then x else y).val = if c then x.val else y.val := by split <;> rfl
theorem rb_if {α β : Type} {c : Prop} [Decidable c] {x y : Res α} {g : α → Res β} : (if c then x else y).bind g = if c then x.bind g else y.bind g := by split <;> rfl
theorem ro_if {α : Type} {c : Prop} [Decidable c] {x y : Res α} {g : α → Out} : (if c then x else y).out g = if c then x.out g else y.out g := by split <;> rfl
theorem mulI_ok {i j : Int} (a b : Nat) (hi : i.natAbs < 2 ^ a) (hj : j.natAbs < 2 ^ b) (h0 : 0 < a := by decide) (h1 : 0 < b := by decide) (h : a + b ≤ 1000000 := by decide) : mulI i j = .ok (.int (i * j)) := by
  unfold mulI
  rw [if_pos (wide_mul hi hj h0 h1 h)]
theorem mulI_200 {i j : Int} (h1 : i.natAbs < 2 ^ 200) (h2 : j.natAbs < 2 ^ 200) : mulI i j = .ok (.int (i * j)) := mulI_ok 200 200 h1 h2
theorem divI_64 {i j : Int} (h : 0 < j) (h2 : j < 2 ^ 64) : divI i j = .ok (.int (i / j)) := by
  unfold divI
  rw [if_pos (wide_div (b := 64) h (by omega) (by decide) (by decide))]
theorem modI_ok {i j : Int} (h : 0 < j) : modI i j = .ok (.int (i % j)) := by
  unfold modI
  rw [if_pos h]
theorem if_true_true {α : Type} {a b : α} : (if true = true then a else b) = a := if_pos rfl
theorem if_false_true {α : Type} {a b : α} : (if false = true then a else b) = b := if_neg Bool.false_ne_true
theorem toPyL_ints {p : List Int} : toPyL (p.map D.int) = p.map PyData.int := by
  induction p with
  | nil => rfl
  | cons x p ih => rw [List.map_cons, List.map_cons, ← ih]; rfl
theorem eqvAll_ints : ∀ {p r : List Int}, PyData.eqvAll (p.map PyData.int) (r.map PyData.int) = decide (p = r)
  | [], [] => rfl
  | [], _ :: _ => rfl
  | _ :: _, [] => rfl
  | x :: p, y :: r => by
    have ih := eqvAll_ints (p := p) (r := r)
    rw [List.map_cons, List.map_cons]
    show (x == y && PyData.eqvAll (p.map PyData.int) (r.map PyData.int)) = _
    rw [ih]
    by_cases h : x = y <;> by_cases h2 : p = r <;> simp [h, h2]
theorem canL_ints : ∀ {p : List Int}, PyData.canLayAll0 (p.map PyData.int) = true
  | [] => rfl
  | x :: p => by
    rw [List.map_cons]
    simp [PyData.canLayAll0, PyData.canLay0, canL_ints (p := p)]
theorem depth_ints : ∀ {p : List Int}, PyData.depthAll (p.map PyData.int) = 0
  | [] => rfl
  | x :: p => by
    rw [List.map_cons]
    simp [PyData.depthAll, PyData.depth, depth_ints (p := p)]
theorem shaped_ints {p : List Int} : SeqAt.shaped (.list (p.map PyData.int)) = true := by
  simp [SeqAt.shaped, PyData.canLay0, PyData.depth, canL_ints, depth_ints]
theorem eqB_ints {n : Bool} {p r : List Int} : eqB n (.lst (p.map D.int)) (.lst (r.map D.int)) = .ok (if n then !decide (p = r) else decide (p = r)) := by
  unfold eqB
  show (if SeqAt.shaped (.list (toPyL (p.map D.int))) = true ∧ SeqAt.shaped (.list (toPyL (r.map D.int))) = true then _ else _) = _
  rw [toPyL_ints, toPyL_ints, if_pos ⟨shaped_ints, shaped_ints⟩]
  show Res.ok (if n then !PyData.eqvAll (toPyL (p.map D.int)) (toPyL (r.map D.int)) else PyData.eqvAll (toPyL (p.map D.int)) (toPyL (r.map D.int))) = _
  rw [toPyL_ints, toPyL_ints, eqvAll_ints]
theorem eqB_ints0 {n : Bool} {p : List Int} : eqB n (.lst (p.map D.int)) (.lst []) = .ok (if n then !decide (p = []) else decide (p = [])) := eqB_ints (r := [])
theorem sz_le {n : Nat} (h : n ≤ 4000000) : (n ≤ sizeLine) = True := eq_true (Nat.le_trans h (by decide))
theorem sz_lt {n : Nat} (h : n < 4000000) : (n < sizeLine) = True := eq_true (Nat.lt_trans h (by decide))
theorem powI_18 : powI 10 18 = .ok (.int 1000000000000000000) := by unfold powI; rw [if_pos (by decide)]; rfl
theorem powI_30 : powI 10 30 = .ok (.int 1000000000000000000000000000000) := by unfold powI; rw [if_pos (by decide)]; rfl
theorem ints_snoc {p : List Int} {x : Int} : p.map D.int ++ [D.int x] = (p ++ [x]).map D.int := by rw [List.map_append]; rfl
theorem ints_set {p : List Int} {x : Int} {m : Nat} : (p.map D.int).set m (D.int x) = (p.set m x).map D.int := by rw [List.map_set]
theorem ints_app {p r : List Int} : p.map D.int ++ r.map D.int = (p ++ r).map D.int := by rw [List.map_append]
theorem all_ints {p : List Int} : (p.map D.int).all flat = true := by
  rw [List.all_eq_true]
  intro x hx
  obtain ⟨y, _, rfl⟩ := List.mem_map.1 hx
  rfl
theorem lsR1_eq {f : En → Res Vl} : lsR1 f env = (f env).bind fun u => lsV u.d := by
  unfold lsR1
  congr
theorem lsR2_eq {f g : En → Res Vl} : lsR2 f g env = (f env).bind fun u => (g env).bind fun w => lsW u.d w.d := by
  unfold lsR2
  congr
theorem lsV_int : lsV (.int a) = if a.toNat ≤ 2 ^ 24 then .ok ⟨.o, .lst (rngD 0 a.toNat)⟩ else .no := rfl
theorem lsW_int : lsW (.int a) (.int b) = if (b - a).toNat ≤ 2 ^ 24 then .ok ⟨.o, .lst (rngD a (b - a).toNat)⟩ else .no := rfl
end
end DL

local macro_rules | `(tactic| walk_at "dl") => `(tactic| simp -implicitDefEqProofs only [DL.nmE_eq, DL.nmV_vl, DL.nmV_ow, DL.kd_true, DL.kd_false, DL.cE_eq, DL.binE_eq, DL.unE_eq, DL.negP_int, DL.callE_eq, DL.callF_eq, DL.callK_eq, DL.fin_g, DL.fin_o, DL.nilA_eq, DL.consA_eq, DL.arg_kd, DL.arg_g, DL.arg_h, DL.arg_b, DL.arg_o, DL.ba_kd, DL.ba_g, DL.ba_h, DL.keep_kd, DL.keep_g, DL.keep_o, DL.flat_int, DL.flat_bl, DL.flat_str, DL.flat_non, DL.flat_lst, DL.flat_tup, DL.slot_kd, DL.slot_g, DL.slot_b, DL.slot_o, DL.sub_kd, DL.sub_g, DL.sub_h, DL.sub_o, DL.sub_b, DL.it_kd, DL.it_g, DL.it_h, DL.it_o, DL.intP_int, DL.addP_int, DL.addP_lst, DL.addP_str, DL.addI_eq, DL.subI_eq, DL.ltI_eq, DL.leI_eq, DL.gtI_eq, DL.geI_eq, DL.modI_eq, DL.eqP_eq, DL.eqB_int, DL.eqB_str, DL.eqB_bl, DL.eqB_non, DL.isP_non, DL.isP_int_non, DL.isP_str_non, DL.isP_bl_non, DL.isP_lst_non, DL.isP_tup_non, DL.isP_bl, DL.isP_non_bl, DL.isP_int_bl, DL.isP_str_bl, DL.isP_lst_bl, DL.isP_tup_bl, DL.intC_int, DL.intC_bl, DL.absC_int, DL.min2C_int, DL.max2C_int, DL.lenC_lst, DL.lenC_tup, DL.divmodC_int, DL.sumC_ints, DL.sumC_tup, DL.listC_lst, DL.listC_tup, DL.tupleC_lst, DL.tupleC_tup, DL.ixP_lst, DL.ixP_tup, DL.tupE_eq, DL.lstE_eq, DL.isiE_eq, DL.isi_non_int, DL.isi_non_str, DL.isi_non_bool, DL.isi_non_list, DL.isi_non_tuple, DL.isi_bl_int, DL.isi_bl_str, DL.isi_bl_bool, DL.isi_bl_list, DL.isi_bl_tuple, DL.isi_int_int, DL.isi_int_str, DL.isi_int_bool, DL.isi_int_list, DL.isi_int_tuple, DL.isi_str_int, DL.isi_str_str, DL.isi_str_bool, DL.isi_str_list, DL.isi_str_tuple, DL.isi_lst_int, DL.isi_lst_str, DL.isi_lst_bool, DL.isi_lst_list, DL.isi_lst_tuple, DL.isi_tup_int, DL.isi_tup_str, DL.isi_tup_bool, DL.isi_tup_list, DL.isi_tup_tuple, DL.isi_fz_int, DL.isi_fz_str, DL.isi_fz_bool, DL.isi_fz_list, DL.isi_fz_tuple, DL.slE_eq, DL.slP_lst, DL.slP_fz, DL.slP_tup, DL.noPart_eq, DL.part_eq, DL.truT_eq, DL.valT_eq, DL.truD_bl, DL.truD_int, DL.truD_lst, DL.truD_tup, DL.truD_non, DL.boolD_bl, DL.andT_eq, DL.orT_eq, DL.notT_eq, DL.andE_eq, DL.orE_eq, DL.notE_eq, DL.ifE_eq, DL.seqO_eq, DL.ob_nx, DL.ob_rt, DL.ob_bk, DL.ob_ct, DL.out_ok, DL.out_no, DL.ob_no, DL.setO_eq, DL.asgO_eq, DL.retO_eq, DL.retV_g, DL.retV_o, DL.retV_h, DL.ifO_eq, DL.nextO_eq, DL.dropO_eq, DL.appO_eq, DL.putO_eq, DL.keepD_eq, DL.owAt_eq, DL.owV_ow, DL.frz1_eq, DL.frzV_ow, DL.frzV_vl, DL.frzV_no, DL.augO_eq, DL.augV_int, DL.frzO_eq, DL.frz_nil, DL.frz_cons, DL.seqI_eq, DL.seqV_gf, DL.seqV_kf, DL.seqV_kd, DL.seqV_kdt, DL.seqV_g, DL.seqV_gt, DL.seqV_o, DL.seqV_b, DL.seqV_bt, DL.rg_in, DL.rng1_eq, DL.rng2_eq, DL.rng1V_int, DL.rng2V_int, DL.forS_eq, DL.lcE_eq, DL.nmT_eq, DL.tupT_tup, DL.consT_cons, DL.nilT_nil, DL.wipeE_nil, DL.wipeE_cons, DL.turn_nx, DL.turn_ct, DL.turn_bk, DL.turn_rt, DL.runF_eq, DL.val_rt, DL.val_nx, DL.rb_if, DL.ro_if, DL.modI_ok, DL.if_true_true, DL.if_false_true, DL.eqB_ints, DL.eqB_ints0, DL.sz_le, DL.sz_lt, DL.powI_18, DL.powI_30, DL.ints_snoc, DL.ints_set, DL.ints_app, DL.all_ints, DL.lsR1_eq, DL.lsR2_eq, DL.lsV_int, DL.lsW_int, DL.Res.bind_ok, DL.Res.bind_no, DL.startE, DL.yesT, List.map_cons, List.map_nil, List.length_cons, List.length_nil, List.cons_append, List.nil_append, List.getElem?_cons_zero, List.getElem?_cons_succ, List.set_cons_zero, List.set_cons_succ, Nat.reduceAdd, Nat.reduceSub, List.replicate, ↓reduceIte, List.all_cons, List.all_nil, Bool.and_true, Bool.true_and, Bool.or_true, Bool.true_or, Bool.and_self, and_true, true_and, and_self, Bool.false_eq_true, Bool.not_true, Bool.not_false, Bool.or_false, Bool.false_or, decide_eq_true_eq, List.isEmpty_cons, List.isEmpty_nil, Int.ofNat_eq_natCast, Int.reduceLT, Int.reduceLE, Int.reduceMod, Int.reduceDiv, Int.reduceAdd, Int.reduceSub, Int.reduceMul, Int.reduceNeg, Int.reduceEq, Nat.reduceLT, Nat.reduceLeDiff, Nat.reduceEqDiff, Nat.reduceMul, Nat.reducePow, Int.reducePow, Nat.reduceMod, Nat.reduceDiv, Int.reduceToNat, decide_true, decide_false, ite_true, ite_false, false_and, and_false, reduceCtorEq, if_true, if_false, Nat.zero_le, Int.zero_add, Int.add_zero, Int.toNat_natCast, List.length_map])
local macro_rules | `(tactic| walk_at "dlh") => `(tactic| simp -implicitDefEqProofs only [DL.nmE_eq, DL.nmV_vl, DL.nmV_ow, DL.kd_true, DL.kd_false, DL.cE_eq, DL.binE_eq, DL.unE_eq, DL.negP_int, DL.callE_eq, DL.callF_eq, DL.callK_eq, DL.fin_g, DL.fin_o, DL.nilA_eq, DL.consA_eq, DL.arg_kd, DL.arg_g, DL.arg_h, DL.arg_b, DL.arg_o, DL.ba_kd, DL.ba_g, DL.ba_h, DL.keep_kd, DL.keep_g, DL.keep_o, DL.flat_int, DL.flat_bl, DL.flat_str, DL.flat_non, DL.flat_lst, DL.flat_tup, DL.slot_kd, DL.slot_g, DL.slot_b, DL.slot_o, DL.sub_kd, DL.sub_g, DL.sub_h, DL.sub_o, DL.sub_b, DL.it_kd, DL.it_g, DL.it_h, DL.it_o, DL.intP_int, DL.addP_int, DL.addP_lst, DL.addP_str, DL.addI_eq, DL.subI_eq, DL.ltI_eq, DL.leI_eq, DL.gtI_eq, DL.geI_eq, DL.modI_eq, DL.eqP_eq, DL.eqB_int, DL.eqB_str, DL.eqB_bl, DL.eqB_non, DL.isP_non, DL.isP_int_non, DL.isP_str_non, DL.isP_bl_non, DL.isP_lst_non, DL.isP_tup_non, DL.isP_bl, DL.isP_non_bl, DL.isP_int_bl, DL.isP_str_bl, DL.isP_lst_bl, DL.isP_tup_bl, DL.intC_int, DL.intC_bl, DL.absC_int, DL.min2C_int, DL.max2C_int, DL.lenC_lst, DL.lenC_tup, DL.divmodC_int, DL.sumC_ints, DL.sumC_tup, DL.listC_lst, DL.listC_tup, DL.tupleC_lst, DL.tupleC_tup, DL.ixP_lst, DL.ixP_tup, DL.tupE_eq, DL.lstE_eq, DL.isiE_eq, DL.isi_non_int, DL.isi_non_str, DL.isi_non_bool, DL.isi_non_list, DL.isi_non_tuple, DL.isi_bl_int, DL.isi_bl_str, DL.isi_bl_bool, DL.isi_bl_list, DL.isi_bl_tuple, DL.isi_int_int, DL.isi_int_str, DL.isi_int_bool, DL.isi_int_list, DL.isi_int_tuple, DL.isi_str_int, DL.isi_str_str, DL.isi_str_bool, DL.isi_str_list, DL.isi_str_tuple, DL.isi_lst_int, DL.isi_lst_str, DL.isi_lst_bool, DL.isi_lst_list, DL.isi_lst_tuple, DL.isi_tup_int, DL.isi_tup_str, DL.isi_tup_bool, DL.isi_tup_list, DL.isi_tup_tuple, DL.isi_fz_int, DL.isi_fz_str, DL.isi_fz_bool, DL.isi_fz_list, DL.isi_fz_tuple, DL.slE_eq, DL.slP_lst, DL.slP_fz, DL.slP_tup, DL.noPart_eq, DL.part_eq, DL.truT_eq, DL.valT_eq, DL.truD_bl, DL.truD_int, DL.truD_lst, DL.truD_tup, DL.truD_non, DL.boolD_bl, DL.andT_eq, DL.orT_eq, DL.notT_eq, DL.andE_eq, DL.orE_eq, DL.notE_eq, DL.ifE_eq, DL.seqO_eq, DL.ob_nx, DL.ob_rt, DL.ob_bk, DL.ob_ct, DL.out_ok, DL.out_no, DL.ob_no, DL.setO_eq, DL.asgO_eq, DL.retO_eq, DL.retV_g, DL.retV_o, DL.retV_h, DL.ifO_eq, DL.nextO_eq, DL.dropO_eq, DL.appO_eq, DL.putO_eq, DL.keepD_eq, DL.owAt_eq, DL.owV_ow, DL.frz1_eq, DL.frzV_ow, DL.frzV_vl, DL.frzV_no, DL.augO_eq, DL.augV_int, DL.frzO_eq, DL.frz_nil, DL.frz_cons, DL.seqI_eq, DL.seqV_gf, DL.seqV_kf, DL.seqV_kd, DL.seqV_kdt, DL.seqV_g, DL.seqV_gt, DL.seqV_o, DL.seqV_b, DL.seqV_bt, DL.rg_in, DL.rng1_eq, DL.rng2_eq, DL.rng1V_int, DL.rng2V_int, DL.forS_eq, DL.lcE_eq, DL.nmT_eq, DL.tupT_tup, DL.consT_cons, DL.nilT_nil, DL.wipeE_nil, DL.wipeE_cons, DL.turn_nx, DL.turn_ct, DL.turn_bk, DL.turn_rt, DL.runF_eq, DL.val_rt, DL.val_nx, DL.rb_if, DL.ro_if, DL.modI_ok, DL.if_true_true, DL.if_false_true, DL.eqB_ints, DL.eqB_ints0, DL.sz_le, DL.sz_lt, DL.powI_18, DL.powI_30, DL.ints_snoc, DL.ints_set, DL.ints_app, DL.all_ints, DL.lsR1_eq, DL.lsR2_eq, DL.lsV_int, DL.lsW_int, DL.Res.bind_ok, DL.Res.bind_no, DL.startE, DL.yesT, List.map_cons, List.map_nil, List.length_cons, List.length_nil, List.cons_append, List.nil_append, List.getElem?_cons_zero, List.getElem?_cons_succ, List.set_cons_zero, List.set_cons_succ, Nat.reduceAdd, Nat.reduceSub, List.replicate, ↓reduceIte, List.all_cons, List.all_nil, Bool.and_true, Bool.true_and, Bool.or_true, Bool.true_or, Bool.and_self, and_true, true_and, and_self, Bool.false_eq_true, Bool.not_true, Bool.not_false, Bool.or_false, Bool.false_or, decide_eq_true_eq, List.isEmpty_cons, List.isEmpty_nil, Int.ofNat_eq_natCast, Int.reduceLT, Int.reduceLE, Int.reduceMod, Int.reduceDiv, Int.reduceAdd, Int.reduceSub, Int.reduceMul, Int.reduceNeg, Int.reduceEq, Nat.reduceLT, Nat.reduceLeDiff, Nat.reduceEqDiff, Nat.reduceMul, Nat.reducePow, Int.reducePow, Nat.reduceMod, Nat.reduceDiv, Int.reduceToNat, decide_true, decide_false, ite_true, ite_false, false_and, and_false, reduceCtorEq, if_true, if_false, Nat.zero_le, Int.zero_add, Int.add_zero, Int.toNat_natCast, List.length_map, *])
local macro_rules | `(tactic| walk_at "dlt") => `(tactic| try walk_at "dl")

namespace DL
open PySem L2
section
variable {env : En} {q : Kd}
theorem rngD_zero {lo : Int} : rngD lo 0 = [] := rfl
theorem rngD_len {lo : Int} {n : Nat} : (rngD lo n).length = n := by simp [rngD]
theorem rngD_succ {lo : Int} {n : Nat} : rngD lo (n + 1) = .int lo :: rngD (lo + 1) n := by
  unfold rngD
  rw [List.range_succ_eq_map, List.map_cons, List.map_map]
  congr 1
  · show D.int (lo + ((0 : Nat) : Int)) = _
    rw [Int.natCast_zero, Int.add_zero]
  · apply List.map_congr_left
    intro i _
    show D.int (lo + ((i + 1 : Nat) : Int)) = D.int (lo + 1 + (i : Int))
    congr 1
    omega
/-- a loop over a range, by an invariant -/
theorem forO_inv {t : Tg} {f : En → Out} (I : Nat → En → Prop) (lo : Int) (n : Nat) (h0 : I 0 env) (hs : ∀ k e, k < n → I k e → ∃ e', ((t ⟨q, .int (lo + k)⟩ e).out fun a => f a) = .nx e' ∧ I (k + 1) e') : ∃ e', forO t f q (rngD lo n) env = .nx e' ∧ I n e' := by
  induction n generalizing lo env I with
  | zero => exact ⟨env, rfl, h0⟩
  | succ n ih =>
    obtain ⟨e1, q1, i1⟩ := hs 0 env (Nat.succ_pos n) h0
    have := ih (fun k e => I (k + 1) e) (lo + 1) i1 (fun k e hk hi => by
      obtain ⟨e', q2, i2⟩ := hs (k + 1) e (by omega) hi
      refine ⟨e', ?_, i2⟩
      rw [← q2]
      congr 3
      congr 1
      show lo + 1 + (k : Int) = lo + ((k + 1 : Nat) : Int)
      omega)
    obtain ⟨e', q3, i3⟩ := this
    refine ⟨e', ?_, i3⟩
    rw [rngD_succ, forO_cons]
    rw [Int.natCast_zero, Int.add_zero] at q1
    rw [show ((t ⟨q, .int lo⟩ env).out fun e => (f e).turn fun e' => forO t f q (rngD (lo + 1) n) e') = ((t ⟨q, .int lo⟩ env).out fun a => f a).turn fun e' => forO t f q (rngD (lo + 1) n) e' by cases t ⟨q, .int lo⟩ env <;> rfl]
    rw [q1]
    exact q3
/-- a loop over a range that may return or leave -/
theorem forO_find {t : Tg} {f : En → Out} (I : Nat → En → Prop) (P : Nat → Prop) (R : Out → Prop) (lo : Int) (n : Nat) (h0 : I 0 env) (hr : ∀ o, R o → ∃ u, o = .rt u)
    (hs : ∀ k e, k < n → I k e → (P k ∧ R ((t ⟨q, .int (lo + k)⟩ e).out fun a => f a)) ∨ (¬ P k ∧ ∃ e', ((t ⟨q, .int (lo + k)⟩ e).out fun a => f a) = .nx e' ∧ I (k + 1) e')) :
    ((∃ k, k < n ∧ P k) ∧ R (forO t f q (rngD lo n) env)) ∨ ((∀ k, k < n → ¬ P k) ∧ ∃ e', forO t f q (rngD lo n) env = .nx e' ∧ I n e') := by
  induction n generalizing lo env I P with
  | zero => exact .inr ⟨fun k hk => absurd hk (Nat.not_lt_zero k), env, rfl, h0⟩
  | succ n ih =>
    have e0 : forO t f q (rngD lo (n + 1)) env = ((t ⟨q, .int (lo + (0 : Nat))⟩ env).out fun a => f a).turn fun e' => forO t f q (rngD (lo + 1) n) e' := by
      rw [rngD_succ, forO_cons, Int.natCast_zero, Int.add_zero]
      cases t ⟨q, .int lo⟩ env <;> rfl
    rcases hs 0 env (Nat.succ_pos n) h0 with ⟨p, r⟩ | ⟨p, e1, q1, i1⟩
    · refine .inl ⟨⟨0, Nat.succ_pos n, p⟩, ?_⟩
      obtain ⟨u, hu⟩ := hr _ r
      rw [e0, hu, turn_rt, ← hu]
      exact r
    · have := ih (fun k e => I (k + 1) e) (fun k => P (k + 1)) (lo + 1) i1 (fun k e hk hi => by
        have := hs (k + 1) e (by omega) hi
        rw [show lo + ((k + 1 : Nat) : Int) = lo + 1 + (k : Int) by omega] at this
        exact this)
      rw [q1, turn_nx] at e0
      rw [e0]
      rcases this with ⟨⟨k, hk, pk⟩, r⟩ | ⟨h, r⟩
      · exact .inl ⟨⟨k + 1, by omega, pk⟩, r⟩
      · refine .inr ⟨fun k hk => ?_, r⟩
        cases k with
        | zero => exact p
        | succ k => exact h k (by omega)
/-- the same over a list -/
theorem forO_invL {α : Type} {t : Tg} {f : En → Out} (g : α → D) (xs : List α) (I : Nat → En → Prop) (h0 : I 0 env) (hs : ∀ k e (h : k < xs.length), I k e → ∃ e', ((t ⟨q, g xs[k]⟩ e).out fun a => f a) = .nx e' ∧ I (k + 1) e') : ∃ e', forO t f q (xs.map g) env = .nx e' ∧ I xs.length e' := by
  induction xs generalizing env I with
  | nil => exact ⟨env, rfl, h0⟩
  | cons x xs ih =>
    obtain ⟨e1, q1, i1⟩ := hs 0 env (Nat.succ_pos _) h0
    obtain ⟨e', q3, i3⟩ := ih (fun k e => I (k + 1) e) i1 (fun k e hk hi => hs (k + 1) e (Nat.succ_lt_succ hk) hi)
    refine ⟨e', ?_, i3⟩
    rw [List.map_cons, forO_cons]
    rw [show ((t ⟨q, g x⟩ env).out fun e => (f e).turn fun e' => forO t f q (xs.map g) e') = ((t ⟨q, g x⟩ env).out fun a => f a).turn fun e' => forO t f q (xs.map g) e' by cases t ⟨q, g x⟩ env <;> rfl]
    rw [show ((t ⟨q, g x⟩ env).out fun a => f a) = .nx e1 from q1]
    exact q3
theorem forO_findL {α : Type} {t : Tg} {f : En → Out} (g : α → D) (xs : List α) (I : En → Prop) (P : α → Prop) (R : Out → Prop) (h0 : I env) (hr : ∀ o, R o → ∃ u, o = .rt u)
    (hs : ∀ x e, x ∈ xs → I e → (P x ∧ R ((t ⟨q, g x⟩ e).out fun a => f a)) ∨ (¬ P x ∧ ∃ e', ((t ⟨q, g x⟩ e).out fun a => f a) = .nx e' ∧ I e')) :
    ((∃ x, x ∈ xs ∧ P x) ∧ R (forO t f q (xs.map g) env)) ∨ ((∀ x, x ∈ xs → ¬ P x) ∧ ∃ e', forO t f q (xs.map g) env = .nx e' ∧ I e') := by
  induction xs generalizing env with
  | nil => exact .inr ⟨fun x hx => absurd hx (List.not_mem_nil), env, rfl, h0⟩
  | cons x xs ih =>
    have e0 : forO t f q ((x :: xs).map g) env = ((t ⟨q, g x⟩ env).out fun a => f a).turn fun e' => forO t f q (xs.map g) e' := by
      rw [List.map_cons, forO_cons]
      cases t ⟨q, g x⟩ env <;> rfl
    rcases hs x env List.mem_cons_self h0 with ⟨p, r⟩ | ⟨p, e1, q1, i1⟩
    · refine .inl ⟨⟨x, List.mem_cons_self, p⟩, ?_⟩
      obtain ⟨u, hu⟩ := hr _ r
      rw [e0, hu, turn_rt, ← hu]
      exact r
    · rw [q1, turn_nx] at e0
      rw [e0]
      rcases ih i1 (fun y e hy => hs y e (List.mem_cons_of_mem _ hy)) with ⟨⟨y, hy, py⟩, r⟩ | ⟨h, r⟩
      · exact .inl ⟨⟨y, List.mem_cons_of_mem _ hy, py⟩, r⟩
      · refine .inr ⟨fun y hy => ?_, r⟩
        rcases List.mem_cons.1 hy with rfl | hy
        · exact p
        · exact h y hy
/-- a comprehension with no test, over what a map gives -/
theorem lcO_map {α : Type} {t : Tg} {f : En → Res Vl} (g h : α → D) (xs : List α) (hs : ∀ x ∈ xs, ((t ⟨q, g x⟩ env).bind fun e => (f e).bind keepD) = .ok (h x)) : lcO t yesT f q env (xs.map g) = .ok (xs.map h) := by
  induction xs with
  | nil => rfl
  | cons x xs ih =>
    rw [List.map_cons, lcO_cons]
    have h1 := hs x List.mem_cons_self
    cases q1 : t ⟨q, g x⟩ env with
    | no => rw [q1] at h1; cases h1
    | ok e =>
      rw [q1] at h1
      have h1 : (f e).bind keepD = .ok (h x) := h1
      rw [Res.bind_ok, show yesT e = .ok true from rfl, Res.bind_ok, if_pos rfl, h1, ih fun y hy => hs y (List.mem_cons_of_mem _ hy)]
      rfl
theorem lcO_rng {t : Tg} {f : En → Res Vl} {lo : Int} {n : Nat} (h : Nat → D) (hs : ∀ k, k < n → ((t ⟨q, .int (lo + k)⟩ env).bind fun e => (f e).bind keepD) = .ok (h k)) : lcO t yesT f q env (rngD lo n) = .ok ((List.range n).map h) :=
  lcO_map (g := fun (i : Nat) => .int (lo + i)) (h := h) _ fun k hk => hs k (List.mem_range.1 hk)
theorem getD_at {α : Type} {p : List α} {i : Nat} {d : α} (h : i < p.length) : p.getD i d = p[i] := by simp [List.getD, h]
theorem ixN_in {n : Nat} {i : Int} (h0 : 0 ≤ i) (h : i < n) : ixN n i = some i.toNat := by
  unfold ixN
  rw [if_pos h0, if_pos h]
theorem atD_in {p : List D} {i : Int} (h0 : 0 ≤ i) (h : i < p.length) : atD p i = .ok (p.getD i.toNat .non) := by
  unfold atD atI
  rw [ixN_in h0 h]
  have h2 : i.toNat < p.length := by omega
  show (match p[i.toNat]? with | some d => Res.ok d | none => .no) = _
  rw [List.getElem?_eq_getElem h2, getD_at h2]
theorem atD_map {p : List Int} {i : Int} (h0 : 0 ≤ i) (h : i < p.length) : atD (p.map D.int) i = .ok (.int (p.getD i.toNat 0)) := by
  have h2 : i.toNat < p.length := by omega
  rw [atD_in h0 (by rw [List.length_map]; exact h), getD_at (by rw [List.length_map]; exact h2), List.getElem_map, getD_at h2]
theorem cutD_take {p : List D} {k : Int} (h : 0 ≤ k) : cutD p none (some k) = p.take k.toNat := by
  unfold cutD
  have h1 : HT.sIx p.length 0 none = 0 := rfl
  rw [h1, List.drop_zero, Nat.sub_zero]
  have h2 : HT.sIx p.length p.length (some k) = min k.toNat p.length := by
    have e : k = ((k.toNat : Nat) : Int) := by omega
    rw [e]
    exact HT.sIx_nat _ _ _
  rw [h2]
  by_cases h3 : k.toNat ≤ p.length
  · rw [Nat.min_eq_left h3]
  · rw [Nat.min_eq_right (by omega), List.take_length, List.take_of_length_le (by omega)]
/-! a small logic of what a text leaves -/
inductive Out.hs (N : En → Prop) (R : Vl → Prop) (B C : En → Prop) : Out → Prop where
  | nx {e : En} : N e → Out.hs N R B C (.nx e)
  | rt {u : Vl} : R u → Out.hs N R B C (.rt u)
  | bk {e : En} : B e → Out.hs N R B C (.bk e)
  | ct {e : En} : C e → Out.hs N R B C (.ct e)
section
variable {N N' M : En → Prop} {R R' : Vl → Prop} {B C : En → Prop} {o : Out} {g : En → Out}
theorem hs_nx (h : N env) : Out.hs N R B C (Out.nx env) := .nx h
theorem hs_rt {u : Vl} (h : R u) : Out.hs N R B C (Out.rt u) := .rt h
theorem hs_bk (h : B env) : Out.hs N R B C (Out.bk env) := .bk h
theorem hs_ct (h : C env) : Out.hs N R B C (Out.ct env) := .ct h
theorem hs_bind (M : En → Prop) (h : Out.hs M R B C o) (k : ∀ e, M e → Out.hs N R B C (g e)) : Out.hs N R B C (o.bind g) := by
  cases h with
  | nx h => exact k _ h
  | rt h => exact .rt h
  | bk h => exact .bk h
  | ct h => exact .ct h
theorem hs_mono (h : Out.hs N R B C o) (h1 : ∀ e, N e → N' e) (h2 : ∀ u, R u → R' u) : Out.hs N' R' B C o := by
  cases h with
  | nx h => exact .nx (h1 _ h)
  | rt h => exact .rt (h2 _ h)
  | bk h => exact .bk h
  | ct h => exact .ct h
theorem hs_turn {t : Out} (h : Out.hs M R N M t) (k : ∀ e, M e → Out.hs N R B C (g e)) : Out.hs N R B C (t.turn g) := by
  cases h with
  | nx h => exact k _ h
  | ct h => exact k _ h
  | bk h => exact .nx h
  | rt h => exact .rt h
theorem hs_forL {α : Type} {t : Tg} {f : En → Out} (v : α → D) (xs : List α) (I : Nat → En → Prop) (h0 : I 0 env) (hs : ∀ k e (h : k < xs.length), I k e → Out.hs (I (k + 1)) R N (I (k + 1)) ((t ⟨q, v xs[k]⟩ e).out fun a => f a)) (hl : ∀ e, I xs.length e → N e) : Out.hs N R B C (forO t f q (xs.map v) env) := by
  induction xs generalizing env I with
  | nil => exact .nx (hl _ h0)
  | cons x xs ih =>
    rw [List.map_cons, forO_cons]
    rw [show ((t ⟨q, v x⟩ env).out fun e => (f e).turn fun e' => forO t f q (xs.map v) e') = ((t ⟨q, v x⟩ env).out fun a => f a).turn fun e' => forO t f q (xs.map v) e' by cases t ⟨q, v x⟩ env <;> rfl]
    exact hs_turn (hs 0 env (Nat.succ_pos _) h0) fun e he => ih (fun k e => I (k + 1) e) he (fun k e hk hi => hs (k + 1) e (Nat.succ_lt_succ hk) hi) hl
theorem hs_forR {t : Tg} {f : En → Out} {lo : Int} {n : Nat} (I : Nat → En → Prop) (h0 : I 0 env) (hs : ∀ k e, k < n → I k e → Out.hs (I (k + 1)) R N (I (k + 1)) ((t ⟨q, .int (lo + k)⟩ e).out fun a => f a)) (hl : ∀ e, I n e → N e) : Out.hs N R B C (forO t f q (rngD lo n) env) :=
  hs_forL (fun (i : Nat) => .int (lo + i)) (List.range n) I h0 (fun k e h hi => by
    rw [List.getElem_range]
    exact hs k e (by rwa [List.length_range] at h) hi) (by rw [List.length_range]; exact hl)
theorem run_hs {m n : Nat} {b : En → Out} {as : List (Bool × D)} (h : as.length = m) (hb : Out.hs (fun _ => R ⟨.g, .non⟩) R (fun _ => False) (fun _ => False) (b (startE n as))) : ∃ u, runF m n b as = .ok u ∧ R u := by
  rw [runF_eq, if_pos h]
  cases q : b (startE n as) with
  | nx e => rw [q] at hb; cases hb with | nx h => exact ⟨_, rfl, h⟩
  | rt u => rw [q] at hb; cases hb with | rt h => exact ⟨_, rfl, h⟩
  | bk e => rw [q] at hb; cases hb with | bk h => exact h.elim
  | ct e => rw [q] at hb; cases hb with | ct h => exact h.elim
  | no => rw [q] at hb; cases hb
end
end
end DL

namespace M60
def hd (p : List Int) (i : Nat) : Int := p.getD (i % p.length) 0
def arc (f : Nat → Int) (a : Nat) : Nat → Int
  | 0 => 0
  | n + 1 => arc f a n + f (a + n)
theorem arc_add (f : Nat → Int) (a n m : Nat) : arc f a (n + m) = arc f a n + arc f (a + n) m := by
  induction m with
  | zero => show arc f a n = _ + 0; omega
  | succ m ih =>
    show arc f a (n + m) + f (a + (n + m)) = arc f a n + (arc f (a + n) m + f (a + n + m))
    rw [ih, Nat.add_assoc a n m]
    omega
theorem arc_one (f : Nat → Int) (a : Nat) : arc f a 1 = f a := by
  show 0 + f (a + 0) = f a
  rw [Nat.add_zero, Int.zero_add]
theorem arc_left (f : Nat → Int) (a n : Nat) : arc f a (n + 1) = f a + arc f (a + 1) n := by
  rw [Nat.add_comm n 1, arc_add, arc_one]
theorem arc_congr {f g : Nat → Int} {a b : Nat} (n : Nat) (h : ∀ k, k < n → f (a + k) = g (b + k)) : arc f a n = arc g b n := by
  induction n with
  | zero => rfl
  | succ n ih =>
    show arc f a n + f (a + n) = arc g b n + g (b + n)
    rw [ih fun k hk => h k (by omega), h n (by omega)]
theorem arc_ge {f : Nat → Int} {c : Int} (h : ∀ i, c ≤ f i) (a n : Nat) : c * n ≤ arc f a n := by
  induction n with
  | zero => show c * 0 ≤ 0; omega
  | succ n ih =>
    show c * ((n + 1 : Nat) : Int) ≤ arc f a n + f (a + n)
    have := h (a + n)
    rw [Int.natCast_add, Int.mul_add]
    omega
theorem arc_le {f : Nat → Int} {c : Int} (h : ∀ i, f i ≤ c) (a n : Nat) : arc f a n ≤ c * n := by
  induction n with
  | zero => show 0 ≤ c * 0; omega
  | succ n ih =>
    show arc f a n + f (a + n) ≤ c * ((n + 1 : Nat) : Int)
    have := h (a + n)
    rw [Int.natCast_add, Int.mul_add]
    omega
theorem hd_mod (p : List Int) (i k : Nat) : hd p (i % p.length + k) = hd p (i + k) := by
  unfold hd
  rw [Nat.mod_add_mod]
theorem hd_add (p : List Int) (i : Nat) : hd p (i + p.length) = hd p i := by
  unfold hd
  rw [Nat.add_mod_right]
theorem hd_in {p : List Int} {c d : Int} (h0 : 0 < p.length) (h : ∀ x ∈ p, c ≤ x ∧ x ≤ d) (i : Nat) : c ≤ hd p i ∧ hd p i ≤ d := by
  unfold hd
  have h1 : i % p.length < p.length := Nat.mod_lt _ h0
  have h2 : p.getD (i % p.length) 0 = p[i % p.length] := by simp [List.getD, h1]
  rw [h2]
  exact h _ (List.getElem_mem _)
/-- any whole turn of the pattern holds the same -/
theorem arc_turn (p : List Int) (a : Nat) : arc (hd p) a p.length = arc (hd p) 0 p.length := by
  induction a with
  | zero => rfl
  | succ a ih =>
    rw [← ih]
    have h1 := arc_left (hd p) a p.length
    have h2 : arc (hd p) a (p.length + 1) = arc (hd p) a p.length + hd p (a + p.length) := rfl
    rw [hd_add] at h2
    omega
theorem arc_mod (p : List Int) (a n : Nat) : arc (hd p) (a % p.length) n = arc (hd p) a n := arc_congr n fun k _ => hd_mod p a k
/-! ### the least -/
def Least (P : Int → Prop) : Option Int → Prop
  | none => ∀ m, ¬ P m
  | some m => P m ∧ ∀ m', P m' → m ≤ m'
theorem Least.unique {P : Int → Prop} {o o' : Option Int} (h : Least P o) (h' : Least P o') : o = o' := by
  cases o with
  | none =>
    cases o' with
    | none => rfl
    | some m => exact absurd h'.1 (h m)
  | some m =>
    cases o' with
    | none => exact absurd h.1 (h' m)
    | some m' =>
      have := h.2 _ h'.1
      have := h'.2 _ h.1
      congr 1
      omega
theorem Least.congr {P P' : Int → Prop} {o : Option Int} (h : Least P o) (e : ∀ m, P m ↔ P' m) : Least P' o := by
  cases o with
  | none => exact fun m hm => h m ((e m).2 hm)
  | some m => exact ⟨(e m).1 h.1, fun m' hm => h.2 m' ((e m').2 hm)⟩
theorem Least.add_new {P P' : Int → Prop} {o : Option Int} {x : Int} (h : Least P o) (e : ∀ m, P' m ↔ P m ∨ m = x) : (o = none → Least P' (some x)) ∧ ∀ y, o = some y → (x < y → Least P' (some x)) ∧ (¬ x < y → Least P' (some y)) := by
  refine ⟨fun q => ?_, fun y q => ⟨fun l => ?_, fun l => ?_⟩⟩
  · subst q
    refine ⟨(e x).2 (.inr rfl), fun m hm => ?_⟩
    rcases (e m).1 hm with hm | rfl
    · exact absurd hm (h m)
    · exact Int.le_refl _
  · subst q
    refine ⟨(e x).2 (.inr rfl), fun m hm => ?_⟩
    rcases (e m).1 hm with hm | rfl
    · have := h.2 m hm; omega
    · exact Int.le_refl _
  · subst q
    refine ⟨(e y).2 (.inl h.1), fun m hm => ?_⟩
    rcases (e m).1 hm with hm | rfl
    · exact h.2 m hm
    · omega
/-! ### rows -/
/-- the stretch that begins at i and has g people between its ends -/
def St (p : List Int) (f b most : Int) (i g : Nat) : Prop := hd p i ≤ f ∧ hd p (i + 1 + g) ≤ b ∧ arc (hd p) i (g + 2) ≤ most
def Row (p : List Int) (many f b most : Int) (m : Int) : Prop := ∃ i g : Nat, ((i + 1 + g : Nat) : Int) < many ∧ St p f b most i g ∧ arc (hd p) i (g + 2) = m
def Near (p : List Int) (f b most : Int) (m : Int) : Prop := ∃ i g : Nat, St p f b most i g ∧ ((i + 1 + g : Nat) : Int) + 1 = m
theorem St.mod {p : List Int} {f b most : Int} {i g : Nat} (h : St p f b most i g) : St p f b most (i % p.length) g := by
  obtain ⟨h1, h2, h3⟩ := h
  refine ⟨?_, ?_, ?_⟩
  · have := hd_mod p i 0; rw [Nat.add_zero, Nat.add_zero] at this; rw [this]; exact h1
  · rw [Nat.add_assoc, hd_mod, ← Nat.add_assoc]; exact h2
  · rw [arc_mod]; exact h3
theorem St.short {p : List Int} {f b most : Int} {i g : Nat} (hp : ∀ i, 1 ≤ hd p i) (h : St p f b most i g) : (g + 2 : Nat) ≤ most := by
  have := arc_ge hp i (g + 2)
  have := h.2.2
  omega
/-- what the program looks through -/
theorem row_prog {p : List Int} {many f b most : Int} (h0 : 0 < p.length) (hp : ∀ i, 1 ≤ hd p i) (m : Int) :
    (∃ i g : Nat, (i < p.length ∧ (i : Int) < many - 1) ∧ (((i + 1 + g : Nat) : Int) < many ∧ ((i + 1 + g : Nat) : Int) < i + most) ∧ St p f b most i g ∧ arc (hd p) i (g + 2) = m) ↔ Row p many f b most m := by
  constructor
  · rintro ⟨i, g, _, h2, h3, h4⟩
    exact ⟨i, g, h2.1, h3, h4⟩
  · rintro ⟨i, g, h1, h2, h3⟩
    have hl := h2.short hp
    have hm := Nat.mod_le i p.length
    have hlt := Nat.mod_lt i h0
    exact ⟨i % p.length, g, ⟨hlt, by omega⟩, ⟨by omega, by omega⟩, h2.mod, by rw [arc_mod]; exact h3⟩
theorem near_prog {p : List Int} {f b most : Int} (h0 : 0 < p.length) (hp : ∀ i, 1 ≤ hd p i) (o : Option Int)
    (h : Least (fun m => ∃ i g : Nat, (i < p.length ∧ (i : Int) < p.length + most - 1) ∧ (((i + 1 + g : Nat) : Int) < p.length + most ∧ ((i + 1 + g : Nat) : Int) < i + most) ∧ St p f b most i g ∧ ((i + 1 + g : Nat) : Int) + 1 = m) o) : Least (Near p f b most) o := by
  cases o with
  | none =>
    rintro m ⟨i, g, h2, h3⟩
    have hl := h2.short hp
    have hm := Nat.mod_le i p.length
    have hlt := Nat.mod_lt i h0
    exact h _ ⟨i % p.length, g, ⟨hlt, by omega⟩, ⟨by omega, by omega⟩, h2.mod, rfl⟩
  | some m =>
    obtain ⟨⟨i, g, _, _, h3, h4⟩, h5⟩ := h
    refine ⟨⟨i, g, h3, h4⟩, ?_⟩
    rintro m' ⟨i', g', h2, h3'⟩
    have hl := h2.short hp
    have hm := Nat.mod_le i' p.length
    have hlt := Nat.mod_lt i' h0
    have := h5 _ ⟨i' % p.length, g', ⟨hlt, by omega⟩, ⟨by omega, by omega⟩, h2.mod, rfl⟩
    omega
theorem near_some {p : List Int} {f b most m : Int} (h : Least (Near p f b most) (some m)) : (∃ x, Row p m f b most x) ∧ ∀ x, ¬ Row p (m - 1) f b most x := by
  obtain ⟨⟨i, g, h1, h2⟩, h3⟩ := h
  refine ⟨⟨_, i, g, by omega, h1, rfl⟩, ?_⟩
  rintro x ⟨i', g', h4, h5, h6⟩
  have := h3 _ ⟨i', g', h5, rfl⟩
  omega
theorem near_none {p : List Int} {f b most m : Int} (h : Least (Near p f b most) none) : ∀ x, ¬ Row p m f b most x := by
  rintro x ⟨i', g', h4, h5, h6⟩
  exact h _ ⟨i', g', h5, rfl⟩
/-- what the law looks through: among the first 54 -/
theorem row_law {p : List Int} {many f b most : Int} (h0 : 0 < p.length) (h6 : p.length ≤ 6) (hm48 : most ≤ 48) (hp : ∀ i, 1 ≤ hd p i) (m : Int) :
    (∃ i g : Nat, (((i + 1 + g : Nat) : Int) < many ∧ i + 1 + g < 54) ∧ St p f b most i g ∧ arc (hd p) i (g + 2) = m) ↔ Row p many f b most m := by
  constructor
  · rintro ⟨i, g, h2, h3, h4⟩
    exact ⟨i, g, h2.1, h3, h4⟩
  · intro h
    obtain ⟨i, g, h1, h2, h3, h4⟩ := (row_prog h0 hp m).2 h
    exact ⟨i, g, ⟨by omega, by omega⟩, h3, h4⟩
theorem near_law {p : List Int} {f b most : Int} (h0 : 0 < p.length) (h6 : p.length ≤ 6) (hm48 : most ≤ 48) (hp : ∀ i, 1 ≤ hd p i) (o : Option Int)
    (h : Least (fun m => ∃ i g : Nat, i + 1 + g < 54 ∧ St p f b most i g ∧ ((i + 1 + g : Nat) : Int) + 1 = m) o) : Least (Near p f b most) o := by
  have key : ∀ i g, St p f b most i g → ∃ i' g', i' + 1 + g' < 54 ∧ St p f b most i' g' ∧ ((i' + 1 + g' : Nat) : Int) + 1 ≤ ((i + 1 + g : Nat) : Int) + 1 := by
    intro i g h2
    have hl := h2.short hp
    have hm := Nat.mod_le i p.length
    have hlt := Nat.mod_lt i h0
    exact ⟨i % p.length, g, by omega, h2.mod, by omega⟩
  cases o with
  | none =>
    rintro m ⟨i, g, h2, h3⟩
    obtain ⟨i', g', k1, k2, _⟩ := key i g h2
    exact h _ ⟨i', g', k1, k2, rfl⟩
  | some m =>
    obtain ⟨⟨i, g, _, h3, h4⟩, h5⟩ := h
    refine ⟨⟨i, g, h3, h4⟩, ?_⟩
    rintro m' ⟨i', g', h2, h3'⟩
    obtain ⟨i', g', k1, k2, k3⟩ := key i' g' h2
    have := h5 _ ⟨i', g', k1, k2, rfl⟩
    omega
end M60

namespace M60
/-- hands on a ring of M people -/
def rh (p : List Int) (M : Nat) (k : Nat) : Int := hd p (k % M)
def tog (p : List Int) (M : Nat) : Int := arc (hd p) 0 M
/-- a short arc: first, then len people -/
def Sh (p : List Int) (M steps : Nat) (L : Int) (first len : Nat) : Prop := L * ((len : Int) + steps - 1) < arc (rh p M) first len
def Bad (p : List Int) (M steps : Nat) (L : Int) : Prop := ∃ first len, first < M ∧ 1 ≤ len ∧ len + steps ≤ M ∧ Sh p M steps L first len
def Ring (p : List Int) (M steps : Nat) (L : Int) (o : Option Int) : Prop := (o = none ∧ (L * M < tog p M ∨ Bad p M steps L)) ∨ (o = some (tog p M) ∧ tog p M ≤ L * M ∧ ¬ Bad p M steps L)
theorem Ring.unique {p : List Int} {M steps : Nat} {L : Int} {o o' : Option Int} (h : Ring p M steps L o) (h' : Ring p M steps L o') : o = o' := by
  rcases h with ⟨h1, h2⟩ | ⟨h1, h2, h3⟩ <;> rcases h' with ⟨g1, g2⟩ | ⟨g1, g2, g3⟩
  · rw [h1, g1]
  · rcases h2 with h2 | h2
    · omega
    · exact absurd h2 g3
  · rcases g2 with g2 | g2
    · omega
    · exact absurd g2 h3
  · rw [h1, g1]
theorem mul_up {L L' x : Int} (h : L ≤ L') (hx : 0 ≤ x) : L * x ≤ L' * x := Int.mul_le_mul_of_nonneg_right h hx
/-- more dishes do no harm -/
theorem Ring.up {p : List Int} {M steps : Nat} {L L' : Int} {t : Int} {o : Option Int} (hs : 1 ≤ steps) (h : Ring p M steps L (some t)) (hl : L ≤ L') (h' : Ring p M steps L' o) : o ≠ none := by
  rintro rfl
  rcases h with ⟨h1, _⟩ | ⟨_, h2, h3⟩
  · cases h1
  rcases h' with ⟨_, g2⟩ | ⟨g1, _⟩
  · rcases g2 with g2 | ⟨a, n, k1, k2, k3, k4⟩
    · have := mul_up hl (show (0 : Int) ≤ M by omega)
      omega
    · refine h3 ⟨a, n, k1, k2, k3, ?_⟩
      unfold Sh at k4 ⊢
      have := mul_up hl (show (0 : Int) ≤ (n : Int) + steps - 1 by omega)
      omega
  · cases g1
theorem Ring.twice {p r : List Int} {M steps : Nat} {L : Int} {o : Option Int} (e : ∀ i, hd p i = hd r i) (h : Ring p M steps L o) : Ring r M steps L o := by
  have : hd p = hd r := funext e
  unfold Ring Bad Sh tog rh at *
  rw [this] at h
  exact h
theorem hd_twice (p : List Int) (i : Nat) : hd p i = hd (p ++ p) i := by
  unfold hd
  rw [List.length_append]
  by_cases h0 : p.length = 0
  · have : p = [] := List.eq_nil_of_length_eq_zero h0
    subst this
    rfl
  have h1 : i % p.length < p.length := Nat.mod_lt _ (by omega)
  have h2 : i % (p.length + p.length) < p.length + p.length := Nat.mod_lt _ (by omega)
  have h3 : i % (p.length + p.length) % p.length = i % p.length := Nat.mod_mod_of_dvd _ ⟨2, by omega⟩
  simp only [List.getD]
  congr 1
  by_cases h4 : i % (p.length + p.length) < p.length
  · rw [List.getElem?_append_left h4]
    rw [Nat.mod_eq_of_lt h4] at h3
    rw [h3]
  · rw [List.getElem?_append_right (by omega)]
    have h5 : i % (p.length + p.length) - p.length < p.length := by omega
    rw [Nat.mod_eq_sub_mod (by omega), Nat.mod_eq_of_lt h5] at h3
    rw [h3]
/-- arcs that do not pass the seam -/
theorem arc_plain {p : List Int} {M a n : Nat} (h : a + n ≤ M) : arc (rh p M) a n = arc (hd p) a n := arc_congr n fun k hk => by
  unfold rh
  rw [Nat.mod_eq_of_lt (by omega)]
/-- arcs that pass it: x before, y behind -/
theorem arc_seam {p : List Int} {M x y : Nat} (hx : x ≤ M) (hx0 : 1 ≤ x) (hy : y ≤ M) : arc (rh p M) (M - x) (x + y) = arc (hd p) (M - x) x + arc (hd p) 0 y := by
  rw [arc_add, arc_plain (by omega)]
  congr 1
  apply arc_congr
  intro k hk
  unfold rh
  rw [show M - x + x + k = M + k by omega, Nat.add_mod_left, Nat.zero_add, Nat.mod_eq_of_lt (by omega)]
theorem cut_mid {p : List Int} {L : Int} (hS : arc (hd p) 0 p.length ≤ L * p.length) (h0 : 0 < p.length) : ∀ (n a : Nat), 1 ≤ n → ∃ a' n', 1 ≤ n' ∧ n' ≤ n ∧ n' ≤ p.length ∧ a' < p.length ∧ arc (hd p) a n - L * n ≤ arc (hd p) a' n' - L * n' := by
  intro n
  induction n using Nat.strongRecOn with
  | _ n ih =>
    intro a h1
    by_cases h : n ≤ p.length
    · exact ⟨a % p.length, n, h1, Nat.le_refl _, h, Nat.mod_lt _ h0, by rw [arc_mod]; exact Int.le_refl _⟩
    · obtain ⟨a', n', k1, k2, k3, k4, k5⟩ := ih (n - p.length) (by omega) (a + p.length) (by omega)
      refine ⟨a', n', k1, by omega, k3, k4, ?_⟩
      have e : arc (hd p) a n = arc (hd p) a p.length + arc (hd p) (a + p.length) (n - p.length) := by
        rw [← arc_add, show p.length + (n - p.length) = n by omega]
      rw [arc_turn] at e
      have e2 : L * ((n - p.length : Nat) : Int) = L * n - L * p.length := by
        rw [Int.ofNat_sub (by omega), Int.mul_sub]
      omega
theorem cut_low {p : List Int} {L : Int} (hS : arc (hd p) 0 p.length ≤ L * p.length) (h0 : 0 < p.length) (M : Nat) : ∀ (x : Nat), 1 ≤ x → x ≤ M → ∃ x', 1 ≤ x' ∧ x' ≤ x ∧ x' ≤ p.length ∧ arc (hd p) (M - x) x - L * x ≤ arc (hd p) (M - x') x' - L * x' := by
  intro n
  induction n using Nat.strongRecOn with
  | _ n ih =>
    intro h1 hM
    by_cases h : n ≤ p.length
    · exact ⟨n, h1, Nat.le_refl _, h, Int.le_refl _⟩
    · obtain ⟨n', k1, k2, k3, k5⟩ := ih (n - p.length) (by omega) (by omega) (by omega)
      refine ⟨n', k1, by omega, k3, ?_⟩
      have e : arc (hd p) (M - n) n = arc (hd p) (M - n) p.length + arc (hd p) (M - (n - p.length)) (n - p.length) := by
        rw [show M - (n - p.length) = M - n + p.length by omega, ← arc_add, show p.length + (n - p.length) = n by omega]
      rw [arc_turn] at e
      have e2 : L * ((n - p.length : Nat) : Int) = L * n - L * p.length := by
        rw [Int.ofNat_sub (by omega), Int.mul_sub]
      omega
theorem cut_high {p : List Int} {L : Int} (hS : arc (hd p) 0 p.length ≤ L * p.length) (h0 : 0 < p.length) : ∀ (x : Nat), 1 ≤ x → ∃ x', 1 ≤ x' ∧ x' ≤ x ∧ x' ≤ p.length ∧ arc (hd p) 0 x - L * x ≤ arc (hd p) 0 x' - L * x' := by
  intro n
  induction n using Nat.strongRecOn with
  | _ n ih =>
    intro h1
    by_cases h : n ≤ p.length
    · exact ⟨n, h1, Nat.le_refl _, h, Int.le_refl _⟩
    · obtain ⟨n', k1, k2, k3, k5⟩ := ih (n - p.length) (by omega) (by omega)
      refine ⟨n', k1, by omega, k3, ?_⟩
      have e : arc (hd p) 0 n = arc (hd p) 0 (n - p.length) + arc (hd p) (0 + (n - p.length)) p.length := by
        rw [← arc_add, show (n - p.length) + p.length = n by omega]
      rw [arc_turn] at e
      have e2 : L * ((n - p.length : Nat) : Int) = L * n - L * p.length := by
        rw [Int.ofNat_sub (by omega), Int.mul_sub]
      omega
/-- a bad arc on a ring has a bad arc close to the seam, of at most two turns -/
theorem bad_cut {p : List Int} {M : Nat} {L c : Int} (hS : arc (hd p) 0 p.length ≤ L * p.length) (h0 : 0 < p.length) (hM : 2 * p.length ≤ M) {a n : Nat} (ha : a < M) (h1 : 1 ≤ n) (hn : n ≤ M) (h : L * n + c < arc (rh p M) a n) :
    (∃ a' n', 1 ≤ n' ∧ n' ≤ n ∧ n' ≤ p.length ∧ a' < p.length ∧ L * n' + c < arc (hd p) a' n') ∨
    (∃ x y, 1 ≤ x ∧ x ≤ p.length ∧ 1 ≤ y ∧ y ≤ p.length ∧ x + y ≤ n ∧ L * ((x + y : Nat) : Int) + c < arc (hd p) (M - x) x + arc (hd p) 0 y) := by
  by_cases hs : a + n ≤ M
  · rw [arc_plain hs] at h
    obtain ⟨a', n', k1, k2, k3, k4, k5⟩ := cut_mid hS h0 n a h1
    exact .inl ⟨a', n', k1, k2, k3, k4, by omega⟩
  · have e : arc (rh p M) a n = arc (hd p) (M - (M - a)) (M - a) + arc (hd p) 0 (a + n - M) := by
      rw [← arc_seam (by omega) (by omega) (by omega), show M - (M - a) = a by omega, show M - a + (a + n - M) = n by omega]
    obtain ⟨x, x1, x2, x3, x4⟩ := cut_low hS h0 M (M - a) (by omega) (by omega)
    obtain ⟨y, y1, y2, y3, y4⟩ := cut_high hS h0 (a + n - M) (by omega)
    refine .inr ⟨x, y, x1, x3, y1, y3, by omega, ?_⟩
    have e2 : L * ((x + y : Nat) : Int) = L * x + L * y := by rw [Int.natCast_add, Int.mul_add]
    have e3 : L * (n : Int) = L * ((M - a : Nat) : Int) + L * ((a + n - M : Nat) : Int) := by
      rw [← Int.mul_add]
      congr 1
      omega
    omega
theorem sh_iff {p : List Int} {M steps : Nat} {L : Int} {a n : Nat} : Sh p M steps L a n ↔ L * n + L * ((steps : Int) - 1) < arc (rh p M) a n := by
  unfold Sh
  rw [← Int.mul_add, show (n : Int) + ((steps : Int) - 1) = n + steps - 1 by omega]
/-- what the program looks through, over 80 people -/
theorem bad_prog {p : List Int} {M steps : Nat} {L : Int} (hS : arc (hd p) 0 p.length ≤ L * p.length) (h0 : 0 < p.length) (hM : 2 * p.length ≤ M) (hs : 1 ≤ steps) :
    Bad p M steps L ↔ ∃ first len, (first < p.length ∨ (M - p.length ≤ first ∧ first < M)) ∧ 1 ≤ len ∧ len + steps ≤ M ∧ len ≤ 2 * p.length ∧ Sh p M steps L first len := by
  constructor
  · rintro ⟨a, n, h1, h2, h3, h4⟩
    rcases bad_cut hS h0 hM h1 h2 (by omega) (sh_iff.1 h4) with ⟨a', n', k1, k2, k3, k4, k5⟩ | ⟨x, y, x1, x2, y1, y2, k, h⟩
    · exact ⟨a', n', .inl k4, k1, by omega, by omega, sh_iff.2 (by rw [arc_plain (by omega)]; exact k5)⟩
    · exact ⟨M - x, x + y, .inr ⟨by omega, by omega⟩, by omega, by omega, by omega, sh_iff.2 (by rw [arc_seam (by omega) x1 (by omega)]; exact h)⟩
  · rintro ⟨a, n, h1, h2, h3, h4, h5⟩
    exact ⟨a, n, by omega, h2, h3, h5⟩
theorem arc_turns (p : List Int) (k r : Nat) : arc (hd p) 0 (k * p.length + r) = k * arc (hd p) 0 p.length + arc (hd p) 0 r := by
  induction k with
  | zero => rw [Nat.zero_mul, Nat.zero_add]; simp
  | succ k ih =>
    rw [show (k + 1) * p.length + r = p.length + (k * p.length + r) by rw [Nat.succ_mul]; omega, arc_add]
    have : arc (hd p) (0 + p.length) (k * p.length + r) = arc (hd p) 0 (k * p.length + r) := arc_congr _ fun i _ => by
      rw [Nat.zero_add, Nat.zero_add, Nat.add_comm, hd_add]
    rw [this, ih, Int.natCast_add, Int.add_mul]
    omega
/-- all together within the ring's dishes: so is a turn -/
theorem turn_le {p : List Int} {M : Nat} {L : Int} (h0 : 0 < p.length) (h6 : p.length ≤ 6) (hp : ∀ i, 1 ≤ hd p i ∧ hd p i ≤ 4) (hM : 66 < M) (hL : 0 ≤ L) (h : tog p M ≤ L * M) : arc (hd p) 0 p.length ≤ L * p.length := by
  have e : M = M / p.length * p.length + M % p.length := by rw [Nat.mul_comm]; exact (Nat.div_add_mod M p.length).symm
  have e1 : tog p M = (M / p.length : Nat) * arc (hd p) 0 p.length + arc (hd p) 0 (M % p.length) := by
    unfold tog
    rw [← arc_turns, ← e]
  have hr := Nat.mod_lt M h0
  have hw : 11 ≤ M / p.length := by
    rw [Nat.le_div_iff_mul_le h0]
    omega
  have g1 : (1 : Int) * (M % p.length : Nat) ≤ arc (hd p) 0 (M % p.length) := arc_ge (fun i => (hp i).1) 0 _
  have g2 : arc (hd p) 0 p.length ≤ 4 * (p.length : Nat) := arc_le (fun i => (hp i).2) 0 _
  generalize arc (hd p) 0 p.length = S at *
  generalize arc (hd p) 0 (M % p.length) = R at *
  generalize M / p.length = w at *
  generalize M % p.length = r at *
  generalize p.length = n at *
  by_cases hc : S ≤ L * n
  · exact hc
  exfalso
  have h4 : L ≤ 3 := by
    by_cases h4 : L ≤ 3
    · exact h4
    have : 4 * (n : Int) ≤ L * n := Int.mul_le_mul_of_nonneg_right (by omega) (by omega)
    omega
  have h5 : L * (M : Int) = L * ((w : Int) * n) + L * r := by
    rw [e, Int.natCast_add, Int.natCast_mul, Int.mul_add]
  have h7 : (w : Int) * (L * n + 1) ≤ w * S := Int.mul_le_mul_of_nonneg_left (by omega) (by omega)
  have h8 : (w : Int) * (L * n + 1) = L * ((w : Int) * n) + w := by
    rw [Int.mul_add, Int.mul_one, Int.mul_left_comm]
  have h9 : L * (r : Int) ≤ 3 * r := Int.mul_le_mul_of_nonneg_right h4 (by omega)
  omega
/-- what the law looks through, over 66 people -/
theorem bad_law {p : List Int} {M steps P : Nat} {L : Int} (hS : arc (hd p) 0 p.length ≤ L * p.length) (h0 : 0 < p.length) (h6 : p.length ≤ 6) (hM : 66 < M) (hs : 1 ≤ steps) (hs2 : steps + 24 ≤ M) (hP : P = 60 + (M - 60) % p.length) :
    Bad p M steps L ↔ ∃ first len, first < P ∧ 1 ≤ len ∧ len ≤ 24 ∧ Sh p P steps L first len := by
  have hlt := Nat.mod_lt (M - 60) h0
  have hPM : M = P + (M - 60) / p.length * p.length := by
    have := Nat.div_add_mod (M - 60) p.length
    rw [Nat.mul_comm] at this
    omega
  have hadd : ∀ k i, hd p (i + k * p.length) = hd p i := by
    intro k
    induction k with
    | zero => intro i; rw [Nat.zero_mul, Nat.add_zero]
    | succ k ih => intro i; rw [Nat.succ_mul, ← Nat.add_assoc, hd_add, ih]
  have key : ∀ x, x ≤ P → arc (hd p) (M - x) x = arc (hd p) (P - x) x := by
    intro x hx
    apply arc_congr
    intro k hk
    rw [show M - x + k = P - x + k + (M - 60) / p.length * p.length by omega, hadd]
  constructor
  · rintro ⟨a, n, h1, h2, h3, h4⟩
    rcases bad_cut hS h0 (by omega) h1 h2 (by omega) (sh_iff.1 h4) with ⟨a', n', k1, k2, k3, k4, k5⟩ | ⟨x, y, x1, x2, y1, y2, k, h⟩
    · exact ⟨a', n', by omega, k1, by omega, sh_iff.2 (by rw [arc_plain (by omega)]; exact k5)⟩
    · exact ⟨P - x, x + y, by omega, by omega, by omega, sh_iff.2 (by rw [arc_seam (by omega) x1 (by omega), ← key x (by omega)]; exact h)⟩
  · rintro ⟨a, n, h1, h2, h3, h4⟩
    rw [sh_iff] at h4
    by_cases hc : a + n ≤ P
    · exact ⟨a, n, by omega, h2, by omega, sh_iff.2 (by rw [arc_plain (by omega)]; rw [arc_plain hc] at h4; exact h4)⟩
    · refine ⟨M - (P - a), n, by omega, h2, by omega, sh_iff.2 ?_⟩
      have e : n = P - a + (a + n - P) := by omega
      have e1 : arc (rh p P) a n = arc (hd p) (P - (P - a)) (P - a) + arc (hd p) 0 (a + n - P) := by
        rw [← arc_seam (by omega) (by omega) (by omega), show P - (P - a) = a by omega, ← e]
      have e2 : arc (rh p M) (M - (P - a)) n = arc (hd p) (M - (P - a)) (P - a) + arc (hd p) 0 (a + n - P) := by
        rw [← arc_seam (by omega) (by omega) (by omega), ← e]
      rw [key _ (by omega)] at e2
      rw [e2, ← e1]
      exact h4
/-- with many steps no arc is short -/
theorem bad_far {p : List Int} {M steps : Nat} {L : Int} (hS : arc (hd p) 0 p.length ≤ L * p.length) (h0 : 0 < p.length) (h6 : p.length ≤ 6) (hp : ∀ i, 1 ≤ hd p i ∧ hd p i ≤ 4) (hM : 66 < M) (hL : 1 ≤ L) (h36 : 36 ≤ L * ((steps : Int) - 1)) (hs : 1 ≤ steps) : ¬ Bad p M steps L := by
  intro hb
  obtain ⟨a, n, h1, h2, h3, h4, h5⟩ := (bad_prog hS h0 (by omega) hs).1 hb
  rw [sh_iff] at h5
  have : arc (rh p M) a n ≤ 4 * (n : Int) := arc_le (fun i => (hp _).2) a n
  have : 1 * (n : Int) ≤ L * n := Int.mul_le_mul_of_nonneg_right hL (by omega)
  omega
end M60

namespace Lw
open PySem L2 DL
def top (i : Nat) : Stmt := PySem.Challenge.pw_handsatwork_k60_whole_long_rows_and_ring.main.body.getD i (.Pass ⟨0, 0, 0, 0⟩)
abbrev s_hands_together : Stmt := top 2
abbrev s_arc_starts : Stmt := top 3
abbrev s_has_short_arc : Stmt := top 4
abbrev s_ring_least : Stmt := top 5
abbrev s_dishes_together : Stmt := top 7
abbrev s_full_stretches : Stmt := top 8
abbrev s_row_least : Stmt := top 9
abbrev s_row_first_stuck : Stmt := top 10
abbrev s_law_mixed : Stmt := top 12
abbrev s_law_pool : Stmt := top 13
abbrev s_law_same : Stmt := top 14
abbrev s_law_number : Stmt := top 15
abbrev s_law_stretches : Stmt := top 16
abbrev s_law_least_told : Stmt := top 17
abbrev s_law_first_told : Stmt := top 18
abbrev s_law_turns : Stmt := top 19
abbrev s_law_ring_due : Stmt := top 20
abbrev s_law_ring_pattern : Stmt := top 21
abbrev s_law_ring_right : Stmt := top 22
abbrev s_law : Stmt := top 23
structure Tx (K : PySem.W.Frag) (mg : Str → Option Value) : Prop where
  z_abs : mg "abs" = none
  z_bool : mg "bool" = none
  z_divmod : mg "divmod" = none
  z_int : mg "int" = none
  z_isinstance : mg "isinstance" = none
  z_len : mg "len" = none
  z_list : mg "list" = none
  z_max : mg "max" = none
  z_min : mg "min" = none
  z_range : mg "range" = none
  z_str : mg "str" = none
  z_sum : mg "sum" = none
  z_tuple : mg "tuple" = none
  g_FEW_PEOPLE : ∃ u, mg "FEW_PEOPLE" = some u ∧ RelV (vOf (.int 80)) u
  d_hands_together : Dn K mg "hands_together" s_hands_together ["pattern", "many"]
  d_arc_starts : Dn K mg "arc_starts" s_arc_starts ["pattern", "many"]
  d_has_short_arc : Dn K mg "has_short_arc" s_has_short_arc ["pattern", "many", "steps", "most"]
  d_ring_least : Dn K mg "ring_least" s_ring_least ["pattern", "many", "steps", "most"]
  d_dishes_together : Dn K mg "dishes_together" s_dishes_together ["forward", "backward", "both"]
  d_full_stretches : Dn K mg "full_stretches" s_full_stretches ["pattern", "many", "forward", "backward", "both"]
  d_row_least : DnD K mg "row_least" s_row_least [.non]
  d_row_first_stuck : DnD K mg "row_first_stuck" s_row_first_stuck [.non]
  d_law_mixed : Dn K mg "_law_mixed" s_law_mixed ["number", "turn"]
  d_law_pool : Dn K mg "_law_pool" s_law_pool ["script", "many"]
  d_law_same : Dn K mg "_law_same" s_law_same ["actual", "due"]
  d_law_number : Dn K mg "_law_number" s_law_number ["pool", "start"]
  d_law_stretches : Dn K mg "_law_stretches" s_law_stretches ["pattern", "many", "forward", "backward", "joint"]
  d_law_least_told : Dn K mg "_law_least_told" s_law_least_told ["pattern", "many", "forward", "backward", "joint"]
  d_law_first_told : Dn K mg "_law_first_told" s_law_first_told ["pattern", "forward", "backward", "joint"]
  d_law_turns : Dn K mg "_law_turns" s_law_turns ["pattern", "forward", "backward", "joint", "nearest"]
  d_law_ring_due : Dn K mg "_law_ring_due" s_law_ring_due ["pattern", "many", "steps", "most"]
  d_law_ring_pattern : Dn K mg "_law_ring_pattern" s_law_ring_pattern ["pattern", "steps"]
  d_law_ring_right : Dn K mg "_law_ring_right" s_law_ring_right ["pool", "pattern", "many"]
  d_law : DnL K mg "law" s_law "script"
section
variable {P : Program} {w : World} {K : PySem.W.Frag} {mg : Str → Option Value} {base : Heap}
/-! hands_together: 0 pattern, 1 many, 2 whole, 3 rest -/
def b_hands_together : En → Out := (seqO (asgO (tupT 2 (consT (nmT 2) (consT (nmT 3) nilT))) (callE divmodC (consA (nmE 1) (consA (callE lenC (consA (nmE 0) nilA)) nilA)))) (retO (binE (addP) (binE (intP mulI) (nmE 2) (callE sumC (consA (nmE 0) nilA))) (callE sumC (consA (slE (nmE 0) noPart (part (nmE 3))) nilA)))))
def F_hands_together : Fn := runF 2 4 b_hands_together
theorem sc_hands_together : FnScope ["pattern", "many", "whole", "rest"] ["pattern", "many"] (defScope s_hands_together) := ⟨rfl, rfl, rfl, by decide +kernel, rfl, by decide +kernel, by decide +kernel⟩
theorem c_hands_together (T : Tx K mg) : Cl P w K mg base 1 "hands_together" 2 F_hands_together [] :=
  cl_mk T.d_hands_together sc_hands_together rfl rfl fun fa cdv A outer s H E hr => ⟨_, (dss_cons (ds_asg (de_callB (K := K) call_divmod snc_divmod (by decide +kernel) T.z_divmod (da_cons (de_nm 1) (da_cons (de_callB (K := K) (ck_len (K := K)) snc_len (by decide +kernel) T.z_len (da_cons (de_nm 0) da_nil)) da_nil))) (dg_tup (K := K) rfl (dgs_cons (dg_nm 2 sc_hands_together.nd) (dgs_cons (dg_nm 3 sc_hands_together.nd) dgs_nil)))) (dss_one (ds_ret (de_add (de_mul (de_nm 2) (de_callB (K := K) (ck_sum (K := K) rfl) snc_sum (by decide +kernel) T.z_sum (da_cons (de_nm 0) da_nil))) (de_callB (K := K) (ck_sum (K := K) rfl) snc_sum (by decide +kernel) T.z_sum (da_cons (de_sl (K := K) (de_nm 0) do_none (do_some (de_nm 3))) da_nil))))))⟩
/-! arc_starts: 0 pattern, 1 many, 2 size -/
def b_arc_starts : En → Out := (seqO (ifO (valT (binE (intP leI) (nmE 1) (cE (.int 80)))) (retO (lsR1 (nmE 1))) nextO) (seqO (setO 2 (callE lenC (consA (nmE 0) nilA))) (retO (binE (addP) (lsR1 (nmE 2)) (lsR2 (binE (intP subI) (nmE 1) (nmE 2)) (nmE 1))))))
def F_arc_starts : Fn := runF 2 3 b_arc_starts
theorem sc_arc_starts : FnScope ["pattern", "many", "size"] ["pattern", "many"] (defScope s_arc_starts) := ⟨rfl, rfl, rfl, by decide +kernel, rfl, by decide +kernel, by decide +kernel⟩
theorem c_arc_starts (T : Tx K mg) : Cl P w K mg base 1 "arc_starts" 2 F_arc_starts [] :=
  cl_mk T.d_arc_starts sc_arc_starts rfl rfl fun fa cdv A outer s H E hr => ⟨_, (dss_cons (ds_if (dt_cm cm_le (de_nm 1) (de_glob (d := .int 80) T.g_FEW_PEOPLE)) (dss_one (ds_ret (de_lsR1 T.z_list T.z_range (de_nm 1)))) dss_nil) (dss_cons (ds_set 2 sc_arc_starts.nd (de_callB (K := K) (ck_len (K := K)) snc_len (by decide +kernel) T.z_len (da_cons (de_nm 0) da_nil))) (dss_one (ds_ret (de_add (de_lsR1 T.z_list T.z_range (de_nm 2)) (de_lsR2 T.z_list T.z_range (de_sub (de_nm 1) (de_nm 2)) (de_nm 1)))))))⟩
/-! has_short_arc: 0 pattern, 1 many, 2 steps, 3 most, 4 longest, 5 first, 6 hands, 7 length, 8 person -/
def b_has_short_arc : En → Out := (seqO (setO 4 (binE (intP subI) (nmE 1) (nmE 2))) (seqO (ifO (valT (binE (intP gtI) (nmE 1) (cE (.int 80)))) (setO 4 (callE min2C (consA (nmE 4) (consA (binE (intP mulI) (cE (.int 2)) (callE lenC (consA (nmE 0) nilA))) nilA)))) nextO) (seqO (frzO [0, 1] (forS (seqI (callF F_arc_starts [] (consA (nmE 0) (consA (nmE 1) nilA)))) (nmT 5) (seqO (setO 6 (cE (.int 0))) (forS (rng2 (cE (.int 1)) (binE (addP) (nmE 4) (cE (.int 1)))) (nmT 7) (seqO (setO 8 (binE (intP modI) (binE (intP subI) (binE (addP) (nmE 5) (nmE 7)) (cE (.int 1))) (nmE 1))) (seqO (augO 6 (fun i j => i + j) (binE ixP (nmE 0) (binE (intP modI) (nmE 8) (callE lenC (consA (nmE 0) nilA))))) (ifO (valT (binE (intP gtI) (nmE 6) (binE (intP mulI) (nmE 3) (binE (intP subI) (binE (addP) (nmE 7) (nmE 2)) (cE (.int 1)))))) (retO (cE (.bl true))) nextO))))))) (retO (cE (.bl false))))))
def F_has_short_arc : Fn := runF 4 9 b_has_short_arc
theorem sc_has_short_arc : FnScope ["pattern", "many", "steps", "most", "longest", "first", "hands", "length", "person"] ["pattern", "many", "steps", "most"] (defScope s_has_short_arc) := ⟨rfl, rfl, rfl, by decide +kernel, rfl, by decide +kernel, by decide +kernel⟩
theorem c_has_short_arc (T : Tx K mg) : Cl P w K mg base 2 "has_short_arc" 4 F_has_short_arc [] :=
  cl_mk T.d_has_short_arc sc_has_short_arc rfl rfl fun fa cdv A outer s H E hr => ⟨_, (dss_cons (ds_set 4 sc_has_short_arc.nd (de_sub (de_nm 1) (de_nm 2))) (dss_cons (ds_if (dt_cm cm_gt (de_nm 1) (de_glob (d := .int 80) T.g_FEW_PEOPLE)) (dss_one (ds_set 4 sc_has_short_arc.nd (de_callB (K := K) (call_min2 rfl) snc_min2 (by decide +kernel) T.z_min (da_cons (de_nm 4) (da_cons (de_mul de_int (de_callB (K := K) (ck_len (K := K)) snc_len (by decide +kernel) T.z_len (da_cons (de_nm 0) da_nil))) da_nil))))) dss_nil) (dss_cons (ds_frz [0, 1] (ds_for PassesOwn.never rfl (di_seq (de_c (K := K) (c_arc_starts T) hr (da_cons (de_nm 0) (da_cons (de_nm 1) da_nil)))) (dg_nm 5 sc_has_short_arc.nd) (dss_cons (ds_set 6 sc_has_short_arc.nd de_int) (dss_one (ds_for PassesOwn.never rfl (di_rng2 T.z_range de_int (de_add (de_nm 4) de_int)) (dg_nm 7 sc_has_short_arc.nd) (dss_cons (ds_set 8 sc_has_short_arc.nd (de_mod (de_sub (de_add (de_nm 5) (de_nm 7)) de_int) (de_nm 1))) (dss_cons (ds_augAdd 6 sc_has_short_arc.nd (de_ix (K := K) (de_nm 0) (de_mod (de_nm 8) (de_callB (K := K) (ck_len (K := K)) snc_len (by decide +kernel) T.z_len (da_cons (de_nm 0) da_nil))))) (dss_one (ds_if (dt_cm cm_gt (de_nm 6) (de_mul (de_nm 3) (de_sub (de_add (de_nm 7) (de_nm 2)) de_int))) (dss_one (ds_ret de_bl)) dss_nil))))))))) (dss_one (ds_ret de_bl)))))⟩
/-! ring_least: 0 pattern, 1 many, 2 steps, 3 most, 4 together -/
def b_ring_least : En → Out := (seqO (frzO [0, 1] (setO 4 (callF F_hands_together [] (consA (nmE 0) (consA (nmE 1) nilA))))) (seqO (frzO [0, 1, 2, 3] (ifO (orT (valT (binE (intP gtI) (nmE 4) (binE (intP mulI) (nmE 3) (nmE 1)))) (truT (callF F_has_short_arc [] (consA (nmE 0) (consA (nmE 1) (consA (nmE 2) (consA (nmE 3) nilA))))))) (retO (cE .non)) nextO)) (retO (nmE 4))))
def F_ring_least : Fn := runF 4 5 b_ring_least
theorem sc_ring_least : FnScope ["pattern", "many", "steps", "most", "together"] ["pattern", "many", "steps", "most"] (defScope s_ring_least) := ⟨rfl, rfl, rfl, by decide +kernel, rfl, by decide +kernel, by decide +kernel⟩
theorem c_ring_least (T : Tx K mg) : Cl P w K mg base 3 "ring_least" 4 F_ring_least [] :=
  cl_mk T.d_ring_least sc_ring_least rfl rfl fun fa cdv A outer s H E hr => ⟨_, (dss_cons (ds_frz [0, 1] (ds_set 4 sc_ring_least.nd (de_c (K := K) (c_hands_together T) hr (da_cons (de_nm 0) (da_cons (de_nm 1) da_nil))))) (dss_cons (ds_frz [0, 1, 2, 3] (ds_if (dt_w (dw_or (dt_cm cm_gt (de_nm 4) (de_mul (de_nm 3) (de_nm 1))) (dw_or1 (dt_tru (K := K) (de_c (K := K) (c_has_short_arc T) hr (da_cons (de_nm 0) (da_cons (de_nm 1) (da_cons (de_nm 2) (da_cons (de_nm 3) da_nil))))))))) (dss_one (ds_ret de_non)) dss_nil)) (dss_one (ds_ret (de_nm 4)))))⟩
/-! dishes_together: 0 forward, 1 backward, 2 both -/
def b_dishes_together : En → Out := (seqO (ifO (valT (binE (isP false) (nmE 2) (cE .non))) (retO (binE (addP) (nmE 0) (nmE 1))) nextO) (retO (callE min2C (consA (nmE 2) (consA (binE (addP) (nmE 0) (nmE 1)) nilA)))))
def F_dishes_together : Fn := runF 3 3 b_dishes_together
theorem sc_dishes_together : FnScope ["forward", "backward", "both"] ["forward", "backward", "both"] (defScope s_dishes_together) := ⟨rfl, rfl, rfl, by decide +kernel, rfl, by decide +kernel, by decide +kernel⟩
theorem c_dishes_together (T : Tx K mg) : Cl P w K mg base 1 "dishes_together" 3 F_dishes_together [] :=
  cl_mk T.d_dishes_together sc_dishes_together rfl rfl fun fa cdv A outer s H E hr => ⟨_, (dss_cons (ds_if (dt_cm cm_is (de_nm 2) de_non) (dss_one (ds_ret (de_add (de_nm 0) (de_nm 1)))) dss_nil) (dss_one (ds_ret (de_callB (K := K) (call_min2 rfl) snc_min2 (by decide +kernel) T.z_min (da_cons (de_nm 2) (da_cons (de_add (de_nm 0) (de_nm 1)) da_nil))))))⟩
/-! full_stretches: 0 pattern, 1 many, 2 forward, 3 backward, 4 both, 5 most, 6 found, 7 first, 8 hands, 9 last, 10 end -/
def b_full_stretches : En → Out := (seqO (frzO [2, 3, 4] (setO 5 (callF F_dishes_together [] (consA (nmE 2) (consA (nmE 3) (consA (nmE 4) nilA)))))) (seqO (setO 6 (lstE nilA)) (seqO (forS (rng1 (callE min2C (consA (callE lenC (consA (nmE 0) nilA)) (consA (binE (intP subI) (nmE 1) (cE (.int 1))) nilA)))) (nmT 7) (seqO (setO 8 (binE ixP (nmE 0) (nmE 7))) (forS (rng2 (binE (addP) (nmE 7) (cE (.int 1))) (callE min2C (consA (nmE 1) (consA (binE (addP) (nmE 7) (nmE 5)) nilA)))) (nmT 9) (seqO (setO 10 (binE ixP (nmE 0) (binE (intP modI) (nmE 9) (callE lenC (consA (nmE 0) nilA))))) (seqO (setO 8 (binE (addP) (nmE 8) (nmE 10))) (ifO (andT (valT (binE (intP leI) (binE ixP (nmE 0) (nmE 7)) (nmE 2))) (andT (valT (binE (intP leI) (nmE 10) (nmE 3))) (valT (binE (intP leI) (nmE 8) (nmE 5))))) (frzO [9, 8] (appO 6 (tupE (consA (nmE 9) (consA (nmE 8) nilA))))) nextO)))))) (retO (nmE 6)))))
def F_full_stretches : Fn := runF 5 11 b_full_stretches
theorem sc_full_stretches : FnScope ["pattern", "many", "forward", "backward", "both", "most", "found", "first", "hands", "last", "end"] ["pattern", "many", "forward", "backward", "both"] (defScope s_full_stretches) := ⟨rfl, rfl, rfl, by decide +kernel, rfl, by decide +kernel, by decide +kernel⟩
theorem c_full_stretches (T : Tx K mg) : Cl P w K mg base 2 "full_stretches" 5 F_full_stretches [] :=
  cl_mk T.d_full_stretches sc_full_stretches rfl rfl fun fa cdv A outer s H E hr => ⟨_, (dss_cons (ds_frz [2, 3, 4] (ds_set 5 sc_full_stretches.nd (de_c (K := K) (c_dishes_together T) hr (da_cons (de_nm 2) (da_cons (de_nm 3) (da_cons (de_nm 4) da_nil)))))) (dss_cons (ds_set 6 sc_full_stretches.nd (de_lst da_nil)) (dss_cons (ds_for PassesOwn.never rfl (di_rng1 T.z_range (de_callB (K := K) (call_min2 rfl) snc_min2 (by decide +kernel) T.z_min (da_cons (de_callB (K := K) (ck_len (K := K)) snc_len (by decide +kernel) T.z_len (da_cons (de_nm 0) da_nil)) (da_cons (de_sub (de_nm 1) de_int) da_nil)))) (dg_nm 7 sc_full_stretches.nd) (dss_cons (ds_set 8 sc_full_stretches.nd (de_ix (K := K) (de_nm 0) (de_nm 7))) (dss_one (ds_for PassesOwn.never rfl (di_rng2 T.z_range (de_add (de_nm 7) de_int) (de_callB (K := K) (call_min2 rfl) snc_min2 (by decide +kernel) T.z_min (da_cons (de_nm 1) (da_cons (de_add (de_nm 7) (de_nm 5)) da_nil)))) (dg_nm 9 sc_full_stretches.nd) (dss_cons (ds_set 10 sc_full_stretches.nd (de_ix (K := K) (de_nm 0) (de_mod (de_nm 9) (de_callB (K := K) (ck_len (K := K)) snc_len (by decide +kernel) T.z_len (da_cons (de_nm 0) da_nil))))) (dss_cons (ds_set 8 sc_full_stretches.nd (de_add (de_nm 8) (de_nm 10))) (dss_one (ds_if (dt_w (dw_and (dt_cm cm_le (de_ix (K := K) (de_nm 0) (de_nm 7)) (de_nm 2)) (dw_and (dt_cm cm_le (de_nm 10) (de_nm 3)) (dw_and1 (dt_cm cm_le (de_nm 8) (de_nm 5)))))) (dss_one (ds_frz [9, 8] (ds_app 6 (de_tup (da_cons (de_nm 9) (da_cons (de_nm 8) da_nil)))))) dss_nil)))))))) (dss_one (ds_ret (de_nm 6))))))⟩
/-! row_least: 0 pattern, 1 many, 2 forward, 3 backward, 4 both, 5 found, 6 _, 7 hands -/
def b_row_least : En → Out := (seqO (frzO [0, 1, 2, 3, 4] (setO 5 (callF F_full_stretches [] (consA (nmE 0) (consA (nmE 1) (consA (nmE 2) (consA (nmE 3) (consA (nmE 4) nilA)))))))) (seqO (ifO (valT (binE (eqP false) (callE lenC (consA (nmE 5) nilA)) (cE (.int 0)))) (retO (cE .non)) nextO) (frzO [7, 5] (retO (callE minC (consA (lcE (seqI (nmE 5)) (tupT 2 (consT (nmT 6) (consT (nmT 7) nilT))) yesT (nmE 7) [6, 7]) nilA))))))
def F_row_least : Fn := runF 5 8 b_row_least
theorem sc_row_least : FnScope ["pattern", "many", "forward", "backward", "both", "found", "_", "hands"] ["pattern", "many", "forward", "backward", "both"] (defScope s_row_least) := ⟨rfl, rfl, rfl, by decide +kernel, rfl, by decide +kernel, by decide +kernel⟩
theorem f_row_least (T : Tx K mg) : Fd P w K mg base 3 "row_least" s_row_least ["pattern", "many", "forward", "backward", "both"] [.non] F_row_least :=
  fd_mk T.d_row_least sc_row_least rfl rfl fun fa cdv A outer s H E hr => ⟨_, (dss_cons (ds_frz [0, 1, 2, 3, 4] (ds_set 5 sc_row_least.nd (de_c (K := K) (c_full_stretches T) hr (da_cons (de_nm 0) (da_cons (de_nm 1) (da_cons (de_nm 2) (da_cons (de_nm 3) (da_cons (de_nm 4) da_nil)))))))) (dss_cons (ds_if (dt_cm (cm_eq (K := K) hr.units) (de_callB (K := K) (ck_len (K := K)) snc_len (by decide +kernel) T.z_len (da_cons (de_nm 5) da_nil)) de_int) (dss_one (ds_ret de_non)) dss_nil) (dss_one (ds_frz [7, 5] (ds_ret (de_callB (K := K) (ck_min (K := K) rfl) snc_min (by decide +kernel) T.z_min (da_cons (de_lc (own := [("_", 6), ("hands", 7)]) (ws := [6, 7]) rfl sc_row_least.nd (di_seq (de_nm 5)) (blkOk_by (N := ["pattern", "many", "forward", "backward", "both", "found", "_", "hands"]) (sc := defScope s_row_least) (by decide +kernel)) (fun _ _ _ _ _ => (dg_tup (K := K) rfl (dgs_cons (dg_nm 6 sc_row_least.nd) (dgs_cons (dg_nm 7 sc_row_least.nd) dgs_nil)))) (fun _ _ _ _ _ => dts_nil) (fun _ _ _ _ _ => (de_nm 7)) (z1 := s) (z2 := H)) da_nil)))))))⟩
theorem c_row_least_k4 (T : Tx K mg) : ClK P w K mg base 3 "row_least" 4 ["both"] F_row_least :=
  (f_row_least T).clK 4 ["both"] (by decide) rfl fun _ _ _ _ _ _ _ us ws its h0 h1 h2 => match us, ws, its, h0, h1, h2 with | [_, _, _, _], [_], [_], _, _, _ => ⟨_, rfl, rfl⟩
theorem c_row_least_4 (T : Tx K mg) : Cl P w K mg base 3 "row_least" 5 F_row_least ([.non] : List D) :=
  (f_row_least T).cl 4 0 (by decide) rfl rfl fun _ _ _ _ _ _ _ us its h1 h2 => match us, its, h1, h2 with | [_, _, _, _], [_], _, _ => ⟨_, rfl, rfl⟩
theorem c_row_least_5 (T : Tx K mg) : Cl P w K mg base 3 "row_least" 5 F_row_least ([] : List D) :=
  (f_row_least T).cl 5 1 (by decide) rfl rfl fun _ _ _ _ _ _ _ us its h1 h2 => match us, its, h1, h2 with | [_, _, _, _, _], [_], _, _ => ⟨_, rfl, rfl⟩
/-! row_first_stuck: 0 pattern, 1 forward, 2 backward, 3 both, 4 many, 5 found, 6 last, 7 _ -/
def b_row_first_stuck : En → Out := (seqO (frzO [1, 2, 3] (setO 4 (binE (addP) (callE lenC (consA (nmE 0) nilA)) (callF F_dishes_together [] (consA (nmE 1) (consA (nmE 2) (consA (nmE 3) nilA))))))) (seqO (frzO [0, 4, 1, 2, 3] (setO 5 (callF F_full_stretches [] (consA (nmE 0) (consA (nmE 4) (consA (nmE 1) (consA (nmE 2) (consA (nmE 3) nilA)))))))) (seqO (ifO (valT (binE (eqP false) (callE lenC (consA (nmE 5) nilA)) (cE (.int 0)))) (retO (cE .non)) nextO) (frzO [6, 5] (retO (binE (addP) (callE minC (consA (lcE (seqI (nmE 5)) (tupT 2 (consT (nmT 6) (consT (nmT 7) nilT))) yesT (nmE 6) [6, 7]) nilA)) (cE (.int 1))))))))
def F_row_first_stuck : Fn := runF 4 8 b_row_first_stuck
theorem sc_row_first_stuck : FnScope ["pattern", "forward", "backward", "both", "many", "found", "last", "_"] ["pattern", "forward", "backward", "both"] (defScope s_row_first_stuck) := ⟨rfl, rfl, rfl, by decide +kernel, rfl, by decide +kernel, by decide +kernel⟩
theorem f_row_first_stuck (T : Tx K mg) : Fd P w K mg base 3 "row_first_stuck" s_row_first_stuck ["pattern", "forward", "backward", "both"] [.non] F_row_first_stuck :=
  fd_mk T.d_row_first_stuck sc_row_first_stuck rfl rfl fun fa cdv A outer s H E hr => ⟨_, (dss_cons (ds_frz [1, 2, 3] (ds_set 4 sc_row_first_stuck.nd (de_add (de_callB (K := K) (ck_len (K := K)) snc_len (by decide +kernel) T.z_len (da_cons (de_nm 0) da_nil)) (de_c (K := K) (c_dishes_together T) hr (da_cons (de_nm 1) (da_cons (de_nm 2) (da_cons (de_nm 3) da_nil))))))) (dss_cons (ds_frz [0, 4, 1, 2, 3] (ds_set 5 sc_row_first_stuck.nd (de_c (K := K) (c_full_stretches T) hr (da_cons (de_nm 0) (da_cons (de_nm 4) (da_cons (de_nm 1) (da_cons (de_nm 2) (da_cons (de_nm 3) da_nil)))))))) (dss_cons (ds_if (dt_cm (cm_eq (K := K) hr.units) (de_callB (K := K) (ck_len (K := K)) snc_len (by decide +kernel) T.z_len (da_cons (de_nm 5) da_nil)) de_int) (dss_one (ds_ret de_non)) dss_nil) (dss_one (ds_frz [6, 5] (ds_ret (de_add (de_callB (K := K) (ck_min (K := K) rfl) snc_min (by decide +kernel) T.z_min (da_cons (de_lc (own := [("last", 6), ("_", 7)]) (ws := [6, 7]) rfl sc_row_first_stuck.nd (di_seq (de_nm 5)) (blkOk_by (N := ["pattern", "forward", "backward", "both", "many", "found", "last", "_"]) (sc := defScope s_row_first_stuck) (by decide +kernel)) (fun _ _ _ _ _ => (dg_tup (K := K) rfl (dgs_cons (dg_nm 6 sc_row_first_stuck.nd) (dgs_cons (dg_nm 7 sc_row_first_stuck.nd) dgs_nil)))) (fun _ _ _ _ _ => dts_nil) (fun _ _ _ _ _ => (de_nm 6)) (z1 := s) (z2 := H)) da_nil)) de_int)))))))⟩
theorem c_row_first_stuck_k3 (T : Tx K mg) : ClK P w K mg base 3 "row_first_stuck" 3 ["both"] F_row_first_stuck :=
  (f_row_first_stuck T).clK 3 ["both"] (by decide) rfl fun _ _ _ _ _ _ _ us ws its h0 h1 h2 => match us, ws, its, h0, h1, h2 with | [_, _, _], [_], [_], _, _, _ => ⟨_, rfl, rfl⟩
theorem c_row_first_stuck_3 (T : Tx K mg) : Cl P w K mg base 3 "row_first_stuck" 4 F_row_first_stuck ([.non] : List D) :=
  (f_row_first_stuck T).cl 3 0 (by decide) rfl rfl fun _ _ _ _ _ _ _ us its h1 h2 => match us, its, h1, h2 with | [_, _, _], [_], _, _ => ⟨_, rfl, rfl⟩
theorem c_row_first_stuck_4 (T : Tx K mg) : Cl P w K mg base 3 "row_first_stuck" 4 F_row_first_stuck ([] : List D) :=
  (f_row_first_stuck T).cl 4 1 (by decide) rfl rfl fun _ _ _ _ _ _ _ us its h1 h2 => match us, its, h1, h2 with | [_, _, _, _], [_], _, _ => ⟨_, rfl, rfl⟩
/-! _law_mixed: 0 number, 1 turn, 2 first, 3 second -/
def b_law_mixed : En → Out := (seqO (setO 2 (binE (intP modI) (callE intC (consA (binE (addP) (binE (addP) (binE (intP mulI) (nmE 0) (cE (.int 48271))) (binE (intP mulI) (nmE 1) (cE (.int 69621)))) (cE (.int 11))) nilA)) (cE (.int 2147483647)))) (seqO (setO 3 (binE (intP modI) (callE intC (consA (binE (addP) (binE (addP) (binE (intP mulI) (nmE 2) (nmE 2)) (binE (intP mulI) (nmE 1) (cE (.int 40692)))) (cE (.int 7))) nilA)) (cE (.int 2147483399)))) (retO (binE (intP modI) (callE intC (consA (binE (intP divI) (nmE 3) (cE (.int 7))) nilA)) (cE (.int 1000))))))
def F_law_mixed : Fn := runF 2 4 b_law_mixed
theorem sc_law_mixed : FnScope ["number", "turn", "first", "second"] ["number", "turn"] (defScope s_law_mixed) := ⟨rfl, rfl, rfl, by decide +kernel, rfl, by decide +kernel, by decide +kernel⟩
theorem c_law_mixed (T : Tx K mg) : Cl P w K mg base 1 "_law_mixed" 2 F_law_mixed [] :=
  cl_mk T.d_law_mixed sc_law_mixed rfl rfl fun fa cdv A outer s H E hr => ⟨_, (dss_cons (ds_set 2 sc_law_mixed.nd (de_mod (de_callTy (K := K) call_int1 snc_int (by decide +kernel) T.z_int (da_cons (de_add (de_add (de_mul (de_nm 0) de_int) (de_mul (de_nm 1) de_int)) de_int) da_nil)) de_int)) (dss_cons (ds_set 3 sc_law_mixed.nd (de_mod (de_callTy (K := K) call_int1 snc_int (by decide +kernel) T.z_int (da_cons (de_add (de_add (de_mul (de_nm 2) (de_nm 2)) (de_mul (de_nm 1) de_int)) de_int) da_nil)) de_int)) (dss_one (ds_ret (de_mod (de_callTy (K := K) call_int1 snc_int (by decide +kernel) T.z_int (da_cons (de_div (de_nm 3) de_int) da_nil)) de_int)))))⟩
/-! _law_pool: 0 script, 1 many, 2 cell, 3 cells, 4 digits, 5 row, 6 rest, 7 turn, 8 pool, 9 k, 10 at -/
def b_law_pool : En → Out := (seqO (setO 3 (lcE (seqI (slE (nmE 0) noPart (part (cE (.int 63))))) (nmT 2) yesT (callE absC (consA (callE intC (consA (nmE 2) nilA)) nilA)) [2])) (seqO (ifO (valT (binE (eqP false) (nmE 3) (lstE nilA))) (setO 3 (lstE (consA (cE (.int 0)) nilA))) nextO) (seqO (setO 4 (lstE nilA)) (seqO (frzO [3] (forS (seqI (nmE 3)) (nmT 2) (seqO (setO 5 (lstE nilA)) (seqO (frzO [2] (setO 6 (nmE 2))) (seqO (ifO (valT (binE (intP geI) (nmE 2) (binE (intP powI) (cE (.int 10)) (cE (.int 18))))) (forS (rng1 (cE (.int 90))) (nmT 7) (ifO (valT (binE (intP gtI) (nmE 6) (cE (.int 0)))) (seqO (appO 5 (binE (intP modI) (callE intC (consA (nmE 6) nilA)) (cE (.int 1000)))) (setO 6 (binE (intP divI) (nmE 6) (cE (.int 1000))))) nextO)) nextO) (frzO [5] (appO 4 (nmE 5)))))))) (seqO (setO 8 (lstE nilA)) (seqO (forS (rng1 (nmE 1)) (nmT 9) (seqO (setO 10 (binE (intP modI) (callE intC (consA (nmE 9) nilA)) (callE lenC (consA (nmE 3) nilA)))) (seqO (setO 7 (binE (intP divI) (nmE 9) (callE lenC (consA (nmE 3) nilA)))) (ifO (valT (binE (intP ltI) (nmE 7) (callE lenC (consA (binE ixP (nmE 4) (nmE 10)) nilA)))) (appO 8 (binE ixP (binE ixP (nmE 4) (nmE 10)) (nmE 7))) (appO 8 (callF F_law_mixed [] (consA (binE (addP) (binE (intP modI) (callE intC (consA (binE ixP (nmE 3) (nmE 10)) nilA)) (cE (.int 1000003))) (binE (intP mulI) (cE (.int 7919)) (nmE 10))) (consA (binE (addP) (nmE 7) (cE (.int 1))) nilA)))))))) (retO (nmE 8))))))))
def F_law_pool : Fn := runF 2 11 b_law_pool
theorem sc_law_pool : FnScope ["script", "many", "cell", "cells", "digits", "row", "rest", "turn", "pool", "k", "at"] ["script", "many"] (defScope s_law_pool) := ⟨rfl, rfl, rfl, by decide +kernel, rfl, by decide +kernel, by decide +kernel⟩
theorem c_law_pool (T : Tx K mg) : Cl P w K mg base 2 "_law_pool" 2 F_law_pool [] :=
  cl_mk T.d_law_pool sc_law_pool rfl rfl fun fa cdv A outer s H E hr => ⟨_, (dss_cons (ds_setLc (own := [("cell", 2)]) (ws := [2]) 3 rfl sc_law_pool.nd (di_seq (de_sl (K := K) (de_nm 0) do_none (do_some de_int))) (blkOk_by (N := ["script", "many", "cell", "cells", "digits", "row", "rest", "turn", "pool", "k", "at"]) (sc := defScope s_law_pool) (by decide +kernel)) (fun _ _ _ _ _ => (dg_nm 2 sc_law_pool.nd)) (fun _ _ _ _ _ => dts_nil) (fun _ _ _ _ _ => (de_callB (K := K) call_abs snc_abs (by decide +kernel) T.z_abs (da_cons (de_callTy (K := K) call_int1 snc_int (by decide +kernel) T.z_int (da_cons (de_nm 2) da_nil)) da_nil))) s H (sw_true rfl rfl rfl (by decide +kernel))) (dss_cons (ds_if (dt_cm (cm_eq (K := K) hr.units) (de_nm 3) (de_lst da_nil)) (dss_one (ds_set 3 sc_law_pool.nd (de_lst (da_cons de_int da_nil)))) dss_nil) (dss_cons (ds_set 4 sc_law_pool.nd (de_lst da_nil)) (dss_cons (ds_frz [3] (ds_for PassesOwn.never rfl (di_seq (de_nm 3)) (dg_nm 2 sc_law_pool.nd) (dss_cons (ds_set 5 sc_law_pool.nd (de_lst da_nil)) (dss_cons (ds_frz [2] (ds_set 6 sc_law_pool.nd (de_nm 2))) (dss_cons (ds_if (dt_cm cm_ge (de_nm 2) (de_pow de_int de_int)) (dss_one (ds_for PassesOwn.never rfl (di_rng1 T.z_range de_int) (dg_nm 7 sc_law_pool.nd) (dss_one (ds_if (dt_cm cm_gt (de_nm 6) de_int) (dss_cons (ds_app 5 (de_mod (de_callTy (K := K) call_int1 snc_int (by decide +kernel) T.z_int (da_cons (de_nm 6) da_nil)) de_int)) (dss_one (ds_set 6 sc_law_pool.nd (de_div (de_nm 6) de_int)))) dss_nil)))) dss_nil) (dss_one (ds_frz [5] (ds_app 4 (de_nm 5))))))))) (dss_cons (ds_set 8 sc_law_pool.nd (de_lst da_nil)) (dss_cons (ds_for PassesOwn.never rfl (di_rng1 T.z_range (de_nm 1)) (dg_nm 9 sc_law_pool.nd) (dss_cons (ds_set 10 sc_law_pool.nd (de_mod (de_callTy (K := K) call_int1 snc_int (by decide +kernel) T.z_int (da_cons (de_nm 9) da_nil)) (de_callB (K := K) (ck_len (K := K)) snc_len (by decide +kernel) T.z_len (da_cons (de_nm 3) da_nil)))) (dss_cons (ds_set 7 sc_law_pool.nd (de_div (de_nm 9) (de_callB (K := K) (ck_len (K := K)) snc_len (by decide +kernel) T.z_len (da_cons (de_nm 3) da_nil)))) (dss_one (ds_if (dt_cm cm_lt (de_nm 7) (de_callB (K := K) (ck_len (K := K)) snc_len (by decide +kernel) T.z_len (da_cons (de_ix (K := K) (de_nm 4) (de_nm 10)) da_nil))) (dss_one (ds_app 8 (de_ix (K := K) (de_ix (K := K) (de_nm 4) (de_nm 10)) (de_nm 7)))) (dss_one (ds_app 8 (de_c (K := K) (c_law_mixed T) hr (da_cons (de_add (de_mod (de_callTy (K := K) call_int1 snc_int (by decide +kernel) T.z_int (da_cons (de_ix (K := K) (de_nm 3) (de_nm 10)) da_nil)) de_int) (de_mul de_int (de_nm 10))) (da_cons (de_add (de_nm 7) de_int) da_nil)))))))))) (dss_one (ds_ret (de_nm 8)))))))))⟩
/-! _law_same: 0 actual, 1 due, 2 k -/
def b_law_same (F : Fn) : En → Out := (seqO (ifO (valT (binE (isP false) (nmE 1) (cE .non))) (retO (binE (isP false) (nmE 0) (cE .non))) nextO) (seqO (ifO (valT (binE (isP false) (nmE 1) (cE (.bl true)))) (retO (binE (isP false) (nmE 0) (cE (.bl true)))) nextO) (seqO (ifO (valT (binE (isP false) (nmE 1) (cE (.bl false)))) (retO (binE (isP false) (nmE 0) (cE (.bl false)))) nextO) (seqO (ifO (truT (isiE "int" (nmE 1))) (retO (andE (isiE "int" (nmE 0)) (andE (notE (isiE "bool" (nmE 0))) (binE (eqP false) (nmE 0) (nmE 1))))) nextO) (seqO (ifO (truT (isiE "str" (nmE 1))) (retO (andE (isiE "str" (nmE 0)) (binE (eqP false) (nmE 0) (nmE 1)))) nextO) (seqO (ifO (truT (isiE "tuple" (nmE 1))) (ifO (orT (notT (truT (isiE "tuple" (nmE 0)))) (valT (binE (eqP true) (callE lenC (consA (nmE 0) nilA)) (callE lenC (consA (nmE 1) nilA))))) (retO (cE (.bl false))) nextO) (ifO (orT (notT (truT (isiE "list" (nmE 0)))) (valT (binE (eqP true) (callE lenC (consA (nmE 0) nilA)) (callE lenC (consA (nmE 1) nilA))))) (retO (cE (.bl false))) nextO)) (seqO (forS (rng1 (callE lenC (consA (nmE 1) nilA))) (nmT 2) (ifO (notT (truT (callF F [] (consA (binE ixP (nmE 0) (nmE 2)) (consA (binE ixP (nmE 1) (nmE 2)) nilA))))) (retO (cE (.bl false))) nextO)) (retO (cE (.bl true))))))))))
def F_law_same : Nat → Fn
  | 0 => fun _ => .no
  | j + 1 => runF 2 3 (b_law_same (F_law_same j))
theorem sc_law_same : FnScope ["actual", "due", "k"] ["actual", "due"] (defScope s_law_same) := ⟨rfl, rfl, rfl, by decide +kernel, rfl, by decide +kernel, by decide +kernel⟩
theorem c_law_same (T : Tx K mg) : ∀ j : Nat, Cl P w K mg base (j + 1) "_law_same" 2 (F_law_same j) []
  | 0 => cl_no T.d_law_same
  | j + 1 => by
    have ih : Cl P w K mg base (j + 1) "_law_same" 2 (F_law_same j) [] := c_law_same T j
    exact cl_mk T.d_law_same sc_law_same rfl rfl fun fa cdv A outer s H E hr => ⟨_, (dss_cons (ds_if (dt_cm cm_is (de_nm 1) de_non) (dss_one (ds_ret (de_cm cm_is (de_nm 0) de_non))) dss_nil) (dss_cons (ds_if (dt_cm cm_is (de_nm 1) de_bl) (dss_one (ds_ret (de_cm cm_is (de_nm 0) de_bl))) dss_nil) (dss_cons (ds_if (dt_cm cm_is (de_nm 1) de_bl) (dss_one (ds_ret (de_cm cm_is (de_nm 0) de_bl))) dss_nil) (dss_cons (ds_if (dt_tru (K := K) (de_isi (K := K) (Ts := "int") rfl (by decide +kernel) T.z_isinstance T.z_int (de_nm 1))) (dss_one (ds_ret (de_and (de_isi (K := K) (Ts := "int") rfl (by decide +kernel) T.z_isinstance T.z_int (de_nm 0)) (de_and (de_not (de_isi (K := K) (Ts := "bool") rfl (by decide +kernel) T.z_isinstance T.z_bool (de_nm 0))) (de_one (de_cm (cm_eq (K := K) hr.units) (de_nm 0) (de_nm 1))))))) dss_nil) (dss_cons (ds_if (dt_tru (K := K) (de_isi (K := K) (Ts := "str") rfl (by decide +kernel) T.z_isinstance T.z_str (de_nm 1))) (dss_one (ds_ret (de_and (de_isi (K := K) (Ts := "str") rfl (by decide +kernel) T.z_isinstance T.z_str (de_nm 0)) (de_one (de_cm (cm_eq (K := K) hr.units) (de_nm 0) (de_nm 1)))))) dss_nil) (dss_cons (ds_if (dt_tru (K := K) (de_isi (K := K) (Ts := "tuple") rfl (by decide +kernel) T.z_isinstance T.z_tuple (de_nm 1))) (dss_one (ds_if (dt_w (dw_or (dt_not (dt_tru (K := K) (de_isi (K := K) (Ts := "tuple") rfl (by decide +kernel) T.z_isinstance T.z_tuple (de_nm 0)))) (dw_or1 (dt_cm (cm_ne (K := K) hr.units) (de_callB (K := K) (ck_len (K := K)) snc_len (by decide +kernel) T.z_len (da_cons (de_nm 0) da_nil)) (de_callB (K := K) (ck_len (K := K)) snc_len (by decide +kernel) T.z_len (da_cons (de_nm 1) da_nil)))))) (dss_one (ds_ret de_bl)) dss_nil)) (dss_one (ds_if (dt_w (dw_or (dt_not (dt_tru (K := K) (de_isi (K := K) (Ts := "list") rfl (by decide +kernel) T.z_isinstance T.z_list (de_nm 0)))) (dw_or1 (dt_cm (cm_ne (K := K) hr.units) (de_callB (K := K) (ck_len (K := K)) snc_len (by decide +kernel) T.z_len (da_cons (de_nm 0) da_nil)) (de_callB (K := K) (ck_len (K := K)) snc_len (by decide +kernel) T.z_len (da_cons (de_nm 1) da_nil)))))) (dss_one (ds_ret de_bl)) dss_nil))) (dss_cons (ds_for PassesOwn.never rfl (di_rng1 T.z_range (de_callB (K := K) (ck_len (K := K)) snc_len (by decide +kernel) T.z_len (da_cons (de_nm 1) da_nil))) (dg_nm 2 sc_law_same.nd) (dss_one (ds_if (dt_not (dt_tru (K := K) (de_c (K := K) ih hr (da_cons (de_ix (K := K) (de_nm 0) (de_nm 2)) (da_cons (de_ix (K := K) (de_nm 1) (de_nm 2)) da_nil)) (Nat.le_refl _)))) (dss_one (ds_ret de_bl)) dss_nil))) (dss_one (ds_ret de_bl)))))))))⟩
/-! _law_number: 0 pool, 1 start, 2 total, 3 k -/
def b_law_number : En → Out := (seqO (setO 2 (cE (.int 0))) (seqO (forS (rng1 (cE (.int 10))) (nmT 3) (setO 2 (binE (addP) (binE (intP mulI) (nmE 2) (cE (.int 1000))) (binE ixP (nmE 0) (binE (addP) (nmE 1) (nmE 3)))))) (retO (nmE 2))))
def F_law_number : Fn := runF 2 4 b_law_number
theorem sc_law_number : FnScope ["pool", "start", "total", "k"] ["pool", "start"] (defScope s_law_number) := ⟨rfl, rfl, rfl, by decide +kernel, rfl, by decide +kernel, by decide +kernel⟩
theorem c_law_number (T : Tx K mg) : Cl P w K mg base 1 "_law_number" 2 F_law_number [] :=
  cl_mk T.d_law_number sc_law_number rfl rfl fun fa cdv A outer s H E hr => ⟨_, (dss_cons (ds_set 2 sc_law_number.nd de_int) (dss_cons (ds_for PassesOwn.never rfl (di_rng1 T.z_range de_int) (dg_nm 3 sc_law_number.nd) (dss_one (ds_set 2 sc_law_number.nd (de_add (de_mul (de_nm 2) de_int) (de_ix (K := K) (de_nm 0) (de_add (de_nm 1) (de_nm 3))))))) (dss_one (ds_ret (de_nm 2)))))⟩
/-! _law_stretches: 0 pattern, 1 many, 2 forward, 3 backward, 4 joint, 5 room, 6 k, 7 hands, 8 least, 9 nearest, 10 last, 11 total, 12 gap -/
def b_law_stretches : En → Out := (seqO (setO 5 (binE (addP) (nmE 2) (nmE 3))) (seqO (ifO (andT (valT (binE (isP true) (nmE 4) (cE .non))) (valT (binE (intP ltI) (nmE 4) (nmE 5)))) (frzO [4] (setO 5 (nmE 4))) nextO) (seqO (setO 7 (lcE (rng1 (callE min2C (consA (nmE 1) (consA (cE (.int 54)) nilA)))) (nmT 6) yesT (binE ixP (nmE 0) (binE (intP modI) (callE intC (consA (nmE 6) nilA)) (callE lenC (consA (nmE 0) nilA)))) [6])) (seqO (setO 8 (cE .non)) (seqO (setO 9 (cE .non)) (seqO (forS (rng2 (cE (.int 1)) (callE lenC (consA (nmE 7) nilA))) (nmT 10) (seqO (setO 11 (binE ixP (nmE 7) (nmE 10))) (forS (rng2 (cE (.int 1)) (binE (addP) (nmE 10) (cE (.int 1)))) (nmT 12) (seqO (setO 11 (binE (addP) (nmE 11) (binE ixP (nmE 7) (binE (intP subI) (nmE 10) (nmE 12))))) (seqO (ifO (valT (binE (intP gtI) (nmE 11) (nmE 5))) (fun env => .bk env) nextO) (ifO (andT (valT (binE (intP leI) (binE ixP (nmE 7) (binE (intP subI) (nmE 10) (nmE 12))) (nmE 2))) (valT (binE (intP leI) (binE ixP (nmE 7) (nmE 10)) (nmE 3)))) (seqO (ifO (orT (valT (binE (isP false) (nmE 8) (cE .non))) (valT (binE (intP ltI) (nmE 11) (nmE 8)))) (frzO [11] (setO 8 (nmE 11))) nextO) (ifO (valT (binE (isP false) (nmE 9) (cE .non))) (setO 9 (binE (addP) (nmE 10) (cE (.int 1)))) nextO)) nextO)))))) (frzO [8, 9] (retO (tupE (consA (nmE 8) (consA (nmE 9) nilA)))))))))))
def F_law_stretches : Fn := runF 5 13 b_law_stretches
theorem sc_law_stretches : FnScope ["pattern", "many", "forward", "backward", "joint", "room", "k", "hands", "least", "nearest", "last", "total", "gap"] ["pattern", "many", "forward", "backward", "joint"] (defScope s_law_stretches) := ⟨rfl, rfl, rfl, by decide +kernel, rfl, by decide +kernel, by decide +kernel⟩
theorem c_law_stretches (T : Tx K mg) : Cl P w K mg base 1 "_law_stretches" 5 F_law_stretches [] :=
  cl_mk T.d_law_stretches sc_law_stretches rfl rfl fun fa cdv A outer s H E hr => ⟨_, (dss_cons (ds_set 5 sc_law_stretches.nd (de_add (de_nm 2) (de_nm 3))) (dss_cons (ds_if (dt_w (dw_and (dt_cm cm_isNot (de_nm 4) de_non) (dw_and1 (dt_cm cm_lt (de_nm 4) (de_nm 5))))) (dss_one (ds_frz [4] (ds_set 5 sc_law_stretches.nd (de_nm 4)))) dss_nil) (dss_cons (ds_setLc (own := [("k", 6)]) (ws := [6]) 7 rfl sc_law_stretches.nd (di_rng1 T.z_range (de_callB (K := K) (call_min2 rfl) snc_min2 (by decide +kernel) T.z_min (da_cons (de_nm 1) (da_cons de_int da_nil)))) (blkOk_by (N := ["pattern", "many", "forward", "backward", "joint", "room", "k", "hands", "least", "nearest", "last", "total", "gap"]) (sc := defScope s_law_stretches) (by decide +kernel)) (fun _ _ _ _ _ => (dg_nm 6 sc_law_stretches.nd)) (fun _ _ _ _ _ => dts_nil) (fun _ _ _ _ _ => (de_ix (K := K) (de_nm 0) (de_mod (de_callTy (K := K) call_int1 snc_int (by decide +kernel) T.z_int (da_cons (de_nm 6) da_nil)) (de_callB (K := K) (ck_len (K := K)) snc_len (by decide +kernel) T.z_len (da_cons (de_nm 0) da_nil))))) s H (sw_true rfl rfl rfl (by decide +kernel))) (dss_cons (ds_set 8 sc_law_stretches.nd de_non) (dss_cons (ds_set 9 sc_law_stretches.nd de_non) (dss_cons (ds_for PassesOwn.never rfl (di_rng2 T.z_range de_int (de_callB (K := K) (ck_len (K := K)) snc_len (by decide +kernel) T.z_len (da_cons (de_nm 7) da_nil))) (dg_nm 10 sc_law_stretches.nd) (dss_cons (ds_set 11 sc_law_stretches.nd (de_ix (K := K) (de_nm 7) (de_nm 10))) (dss_one (ds_for PassesOwn.never rfl (di_rng2 T.z_range de_int (de_add (de_nm 10) de_int)) (dg_nm 12 sc_law_stretches.nd) (dss_cons (ds_set 11 sc_law_stretches.nd (de_add (de_nm 11) (de_ix (K := K) (de_nm 7) (de_sub (de_nm 10) (de_nm 12))))) (dss_cons (ds_if (dt_cm cm_gt (de_nm 11) (de_nm 5)) (dss_one ds_break) dss_nil) (dss_one (ds_if (dt_w (dw_and (dt_cm cm_le (de_ix (K := K) (de_nm 7) (de_sub (de_nm 10) (de_nm 12))) (de_nm 2)) (dw_and1 (dt_cm cm_le (de_ix (K := K) (de_nm 7) (de_nm 10)) (de_nm 3))))) (dss_cons (ds_if (dt_w (dw_or (dt_cm cm_is (de_nm 8) de_non) (dw_or1 (dt_cm cm_lt (de_nm 11) (de_nm 8))))) (dss_one (ds_frz [11] (ds_set 8 sc_law_stretches.nd (de_nm 11)))) dss_nil) (dss_one (ds_if (dt_cm cm_is (de_nm 9) de_non) (dss_one (ds_set 9 sc_law_stretches.nd (de_add (de_nm 10) de_int))) dss_nil))) dss_nil)))))))) (dss_one (ds_frz [8, 9] (ds_ret (de_tup (da_cons (de_nm 8) (da_cons (de_nm 9) da_nil))))))))))))⟩
/-! _law_least_told: 0 pattern, 1 many, 2 forward, 3 backward, 4 joint -/
def b_law_least_told : En → Out := (seqO (ifO (valT (binE (isP false) (nmE 4) (cE .non))) (frzO [0, 1, 2, 3] (retO (callF F_row_least [.non] (consA (nmE 0) (consA (nmE 1) (consA (nmE 2) (consA (nmE 3) nilA))))))) nextO) (frzO [0, 1, 2, 3] (retO (callK F_row_least 4 1 (consA (nmE 0) (consA (nmE 1) (consA (nmE 2) (consA (nmE 3) nilA)))) (consA (nmE 4) nilA)))))
def F_law_least_told : Fn := runF 5 5 b_law_least_told
theorem sc_law_least_told : FnScope ["pattern", "many", "forward", "backward", "joint"] ["pattern", "many", "forward", "backward", "joint"] (defScope s_law_least_told) := ⟨rfl, rfl, rfl, by decide +kernel, rfl, by decide +kernel, by decide +kernel⟩
theorem c_law_least_told (T : Tx K mg) : Cl P w K mg base 4 "_law_least_told" 5 F_law_least_told [] :=
  cl_mk T.d_law_least_told sc_law_least_told rfl rfl fun fa cdv A outer s H E hr => ⟨_, (dss_cons (ds_if (dt_cm cm_is (de_nm 4) de_non) (dss_one (ds_frz [0, 1, 2, 3] (ds_ret (de_c (K := K) (c_row_least_4 T) hr (da_cons (de_nm 0) (da_cons (de_nm 1) (da_cons (de_nm 2) (da_cons (de_nm 3) da_nil)))))))) dss_nil) (dss_one (ds_frz [0, 1, 2, 3] (ds_ret (de_ck (K := K) (c_row_least_k4 T) hr (da_cons (de_nm 0) (da_cons (de_nm 1) (da_cons (de_nm 2) (da_cons (de_nm 3) da_nil)))) (dk_cons (de_nm 4) dk_nil))))))⟩
/-! _law_first_told: 0 pattern, 1 forward, 2 backward, 3 joint -/
def b_law_first_told : En → Out := (seqO (ifO (valT (binE (isP false) (nmE 3) (cE .non))) (frzO [0, 1, 2] (retO (callF F_row_first_stuck [.non] (consA (nmE 0) (consA (nmE 1) (consA (nmE 2) nilA)))))) nextO) (frzO [0, 1, 2] (retO (callK F_row_first_stuck 3 1 (consA (nmE 0) (consA (nmE 1) (consA (nmE 2) nilA))) (consA (nmE 3) nilA)))))
def F_law_first_told : Fn := runF 4 4 b_law_first_told
theorem sc_law_first_told : FnScope ["pattern", "forward", "backward", "joint"] ["pattern", "forward", "backward", "joint"] (defScope s_law_first_told) := ⟨rfl, rfl, rfl, by decide +kernel, rfl, by decide +kernel, by decide +kernel⟩
theorem c_law_first_told (T : Tx K mg) : Cl P w K mg base 4 "_law_first_told" 4 F_law_first_told [] :=
  cl_mk T.d_law_first_told sc_law_first_told rfl rfl fun fa cdv A outer s H E hr => ⟨_, (dss_cons (ds_if (dt_cm cm_is (de_nm 3) de_non) (dss_one (ds_frz [0, 1, 2] (ds_ret (de_c (K := K) (c_row_first_stuck_3 T) hr (da_cons (de_nm 0) (da_cons (de_nm 1) (da_cons (de_nm 2) da_nil))))))) dss_nil) (dss_one (ds_frz [0, 1, 2] (ds_ret (de_ck (K := K) (c_row_first_stuck_k3 T) hr (da_cons (de_nm 0) (da_cons (de_nm 1) (da_cons (de_nm 2) da_nil))) (dk_cons (de_nm 3) dk_nil))))))⟩
/-! _law_turns: 0 pattern, 1 forward, 2 backward, 3 joint, 4 nearest, 5 due -/
def b_law_turns : En → Out := (seqO (ifO (valT (binE (isP false) (nmE 4) (cE .non))) (frzO [1, 2, 3] (retO (binE (isP false) (callF F_row_least [] (consA (callE listC (consA (nmE 0) nilA)) (consA (binE (intP powI) (cE (.int 10)) (cE (.int 30))) (consA (nmE 1) (consA (nmE 2) (consA (nmE 3) nilA)))))) (cE .non)))) nextO) (seqO (frzO [0, 4, 1, 2, 3] (setO 5 (binE ixP (callF F_law_stretches [] (consA (nmE 0) (consA (nmE 4) (consA (nmE 1) (consA (nmE 2) (consA (nmE 3) nilA)))))) (cE (.int 0))))) (seqO (frzO [5, 4, 1, 2, 3] (ifO (orT (valT (binE (isP false) (nmE 5) (cE .non))) (notT (truT (callF (F_law_same 12) [] (consA (callF F_row_least [] (consA (callE listC (consA (nmE 0) nilA)) (consA (nmE 4) (consA (nmE 1) (consA (nmE 2) (consA (nmE 3) nilA)))))) (consA (nmE 5) nilA)))))) (retO (cE (.bl false))) nextO)) (seqO (ifO (valT (binE (intP gtI) (nmE 4) (cE (.int 2)))) (frzO [1, 2, 3] (retO (binE (isP false) (callF F_row_least [] (consA (callE listC (consA (nmE 0) nilA)) (consA (binE (intP subI) (nmE 4) (cE (.int 1))) (consA (nmE 1) (consA (nmE 2) (consA (nmE 3) nilA)))))) (cE .non)))) nextO) (retO (cE (.bl true)))))))
def F_law_turns : Fn := runF 5 6 b_law_turns
theorem sc_law_turns : FnScope ["pattern", "forward", "backward", "joint", "nearest", "due"] ["pattern", "forward", "backward", "joint", "nearest"] (defScope s_law_turns) := ⟨rfl, rfl, rfl, by decide +kernel, rfl, by decide +kernel, by decide +kernel⟩
theorem c_law_turns (T : Tx K mg) : Cl P w K mg base 14 "_law_turns" 5 F_law_turns [] :=
  cl_mk T.d_law_turns sc_law_turns rfl rfl fun fa cdv A outer s H E hr => ⟨_, (dss_cons (ds_if (dt_cm cm_is (de_nm 4) de_non) (dss_one (ds_frz [1, 2, 3] (ds_ret (de_cm cm_is (de_c (K := K) (c_row_least_5 T) hr (da_cons (de_callTy (K := K) (ck_list (K := K)) snc_list (by decide +kernel) T.z_list (da_cons (de_nm 0) da_nil)) (da_cons (de_pow de_int de_int) (da_cons (de_nm 1) (da_cons (de_nm 2) (da_cons (de_nm 3) da_nil)))))) de_non)))) dss_nil) (dss_cons (ds_frz [0, 4, 1, 2, 3] (ds_set 5 sc_law_turns.nd (de_ix (K := K) (de_c (K := K) (c_law_stretches T) hr (da_cons (de_nm 0) (da_cons (de_nm 4) (da_cons (de_nm 1) (da_cons (de_nm 2) (da_cons (de_nm 3) da_nil)))))) de_int))) (dss_cons (ds_frz [5, 4, 1, 2, 3] (ds_if (dt_w (dw_or (dt_cm cm_is (de_nm 5) de_non) (dw_or1 (dt_not (dt_tru (K := K) (de_c (K := K) (c_law_same T 12) hr (da_cons (de_c (K := K) (c_row_least_5 T) hr (da_cons (de_callTy (K := K) (ck_list (K := K)) snc_list (by decide +kernel) T.z_list (da_cons (de_nm 0) da_nil)) (da_cons (de_nm 4) (da_cons (de_nm 1) (da_cons (de_nm 2) (da_cons (de_nm 3) da_nil)))))) (da_cons (de_nm 5) da_nil)))))))) (dss_one (ds_ret de_bl)) dss_nil)) (dss_cons (ds_if (dt_cm cm_gt (de_nm 4) de_int) (dss_one (ds_frz [1, 2, 3] (ds_ret (de_cm cm_is (de_c (K := K) (c_row_least_5 T) hr (da_cons (de_callTy (K := K) (ck_list (K := K)) snc_list (by decide +kernel) T.z_list (da_cons (de_nm 0) da_nil)) (da_cons (de_sub (de_nm 4) de_int) (da_cons (de_nm 1) (da_cons (de_nm 2) (da_cons (de_nm 3) da_nil)))))) de_non)))) dss_nil) (dss_one (ds_ret de_bl))))))⟩
/-! _law_ring_due: 0 pattern, 1 many, 2 steps, 3 most, 4 size, 5 whole, 6 together, 7 longest, 8 people, 9 first, 10 hands, 11 length -/
def b_law_ring_due : En → Out := (seqO (setO 4 (callE lenC (consA (nmE 0) nilA))) (seqO (setO 5 (binE (intP divI) (nmE 1) (nmE 4))) (seqO (setO 6 (binE (addP) (binE (intP mulI) (nmE 5) (callE sumC (consA (nmE 0) nilA))) (callE sumC (consA (slE (nmE 0) noPart (part (binE (intP subI) (nmE 1) (binE (intP mulI) (nmE 5) (nmE 4))))) nilA)))) (seqO (ifO (valT (binE (intP gtI) (nmE 6) (binE (intP mulI) (nmE 3) (nmE 1)))) (retO (cE .non)) nextO) (seqO (setO 7 (binE (intP subI) (nmE 1) (nmE 2))) (seqO (frzO [1] (setO 8 (nmE 1))) (seqO (ifO (valT (binE (intP gtI) (nmE 1) (cE (.int 66)))) (seqO (ifO (valT (binE (intP geI) (binE (intP mulI) (nmE 3) (binE (intP subI) (nmE 2) (cE (.int 1)))) (cE (.int 36)))) (retO (nmE 6)) nextO) (seqO (setO 7 (cE (.int 24))) (setO 8 (binE (addP) (cE (.int 60)) (binE (intP modI) (callE intC (consA (binE (intP subI) (nmE 1) (cE (.int 60))) nilA)) (nmE 4)))))) nextO) (seqO (forS (rng1 (nmE 8)) (nmT 9) (seqO (setO 10 (cE (.int 0))) (forS (rng2 (cE (.int 1)) (binE (addP) (callE min2C (consA (nmE 7) (consA (nmE 8) nilA))) (cE (.int 1)))) (nmT 11) (seqO (setO 10 (binE (addP) (nmE 10) (binE ixP (nmE 0) (binE (intP modI) (callE intC (consA (binE (intP modI) (callE intC (consA (binE (intP subI) (binE (addP) (nmE 9) (nmE 11)) (cE (.int 1))) nilA)) (nmE 8)) nilA)) (nmE 4))))) (ifO (valT (binE (intP gtI) (nmE 10) (binE (intP mulI) (nmE 3) (binE (intP subI) (binE (addP) (nmE 11) (nmE 2)) (cE (.int 1)))))) (retO (cE .non)) nextO))))) (retO (nmE 6))))))))))
def F_law_ring_due : Fn := runF 4 12 b_law_ring_due
theorem sc_law_ring_due : FnScope ["pattern", "many", "steps", "most", "size", "whole", "together", "longest", "people", "first", "hands", "length"] ["pattern", "many", "steps", "most"] (defScope s_law_ring_due) := ⟨rfl, rfl, rfl, by decide +kernel, rfl, by decide +kernel, by decide +kernel⟩
theorem c_law_ring_due (T : Tx K mg) : Cl P w K mg base 1 "_law_ring_due" 4 F_law_ring_due [] :=
  cl_mk T.d_law_ring_due sc_law_ring_due rfl rfl fun fa cdv A outer s H E hr => ⟨_, (dss_cons (ds_set 4 sc_law_ring_due.nd (de_callB (K := K) (ck_len (K := K)) snc_len (by decide +kernel) T.z_len (da_cons (de_nm 0) da_nil))) (dss_cons (ds_set 5 sc_law_ring_due.nd (de_div (de_nm 1) (de_nm 4))) (dss_cons (ds_set 6 sc_law_ring_due.nd (de_add (de_mul (de_nm 5) (de_callB (K := K) (ck_sum (K := K) rfl) snc_sum (by decide +kernel) T.z_sum (da_cons (de_nm 0) da_nil))) (de_callB (K := K) (ck_sum (K := K) rfl) snc_sum (by decide +kernel) T.z_sum (da_cons (de_sl (K := K) (de_nm 0) do_none (do_some (de_sub (de_nm 1) (de_mul (de_nm 5) (de_nm 4))))) da_nil)))) (dss_cons (ds_if (dt_cm cm_gt (de_nm 6) (de_mul (de_nm 3) (de_nm 1))) (dss_one (ds_ret de_non)) dss_nil) (dss_cons (ds_set 7 sc_law_ring_due.nd (de_sub (de_nm 1) (de_nm 2))) (dss_cons (ds_frz [1] (ds_set 8 sc_law_ring_due.nd (de_nm 1))) (dss_cons (ds_if (dt_cm cm_gt (de_nm 1) de_int) (dss_cons (ds_if (dt_cm cm_ge (de_mul (de_nm 3) (de_sub (de_nm 2) de_int)) de_int) (dss_one (ds_ret (de_nm 6))) dss_nil) (dss_cons (ds_set 7 sc_law_ring_due.nd de_int) (dss_one (ds_set 8 sc_law_ring_due.nd (de_add de_int (de_mod (de_callTy (K := K) call_int1 snc_int (by decide +kernel) T.z_int (da_cons (de_sub (de_nm 1) de_int) da_nil)) (de_nm 4))))))) dss_nil) (dss_cons (ds_for PassesOwn.never rfl (di_rng1 T.z_range (de_nm 8)) (dg_nm 9 sc_law_ring_due.nd) (dss_cons (ds_set 10 sc_law_ring_due.nd de_int) (dss_one (ds_for PassesOwn.never rfl (di_rng2 T.z_range de_int (de_add (de_callB (K := K) (call_min2 rfl) snc_min2 (by decide +kernel) T.z_min (da_cons (de_nm 7) (da_cons (de_nm 8) da_nil))) de_int)) (dg_nm 11 sc_law_ring_due.nd) (dss_cons (ds_set 10 sc_law_ring_due.nd (de_add (de_nm 10) (de_ix (K := K) (de_nm 0) (de_mod (de_callTy (K := K) call_int1 snc_int (by decide +kernel) T.z_int (da_cons (de_mod (de_callTy (K := K) call_int1 snc_int (by decide +kernel) T.z_int (da_cons (de_sub (de_add (de_nm 9) (de_nm 11)) de_int) da_nil)) (de_nm 8)) da_nil)) (de_nm 4))))) (dss_one (ds_if (dt_cm cm_gt (de_nm 10) (de_mul (de_nm 3) (de_sub (de_add (de_nm 11) (de_nm 2)) de_int))) (dss_one (ds_ret de_non)) dss_nil))))))) (dss_one (ds_ret (de_nm 6)))))))))))⟩
/-! _law_ring_pattern: 0 pattern, 1 steps, 2 many -/
def b_law_ring_pattern : En → Out := (seqO (ifO (valT (binE (eqP false) (nmE 1) (cE (.int 1)))) (retO (callE listC (consA (nmE 0) nilA))) nextO) (frzO [0] (retO (lcE (seqI (nmE 0)) (nmT 2) yesT (callE max2C (consA (cE (.int 2)) (consA (nmE 2) nilA))) [2]))))
def F_law_ring_pattern : Fn := runF 2 3 b_law_ring_pattern
theorem sc_law_ring_pattern : FnScope ["pattern", "steps", "many"] ["pattern", "steps"] (defScope s_law_ring_pattern) := ⟨rfl, rfl, rfl, by decide +kernel, rfl, by decide +kernel, by decide +kernel⟩
theorem c_law_ring_pattern (T : Tx K mg) : Cl P w K mg base 1 "_law_ring_pattern" 2 F_law_ring_pattern [] :=
  cl_mk T.d_law_ring_pattern sc_law_ring_pattern rfl rfl fun fa cdv A outer s H E hr => ⟨_, (dss_cons (ds_if (dt_cm (cm_eq (K := K) hr.units) (de_nm 1) de_int) (dss_one (ds_ret (de_callTy (K := K) (ck_list (K := K)) snc_list (by decide +kernel) T.z_list (da_cons (de_nm 0) da_nil)))) dss_nil) (dss_one (ds_frz [0] (ds_ret (de_lc (own := [("many", 2)]) (ws := [2]) rfl sc_law_ring_pattern.nd (di_seq (de_nm 0)) (blkOk_by (N := ["pattern", "steps", "many"]) (sc := defScope s_law_ring_pattern) (by decide +kernel)) (fun _ _ _ _ _ => (dg_nm 2 sc_law_ring_pattern.nd)) (fun _ _ _ _ _ => dts_nil) (fun _ _ _ _ _ => (de_callB (K := K) (call_max2 rfl) snc_max2 (by decide +kernel) T.z_max (da_cons de_int (da_cons (de_nm 2) da_nil)))) (z1 := s) (z2 := H))))))⟩
/-! _law_ring_right: 0 pool, 1 pattern, 2 many, 3 people, 4 steps, 5 row, 6 most, 7 due, 8 handed -/
def b_law_ring_right : En → Out := (seqO (setO 3 (binE (addP) (nmE 2) (callE intC (consA (binE (intP ltI) (nmE 2) (cE (.int 3))) nilA)))) (seqO (setO 4 (binE (addP) (cE (.int 1)) (binE (intP modI) (callE intC (consA (binE ixP (nmE 0) (cE (.int 27))) nilA)) (callE min2C (consA (cE (.int 4)) (consA (binE (intP subI) (nmE 3) (cE (.int 1))) nilA)))))) (seqO (ifO (valT (binE (eqP false) (binE (intP modI) (callE intC (consA (binE ixP (nmE 0) (cE (.int 28))) nilA)) (cE (.int 4))) (cE (.int 1)))) (frzO [0] (setO 4 (binE (addP) (cE (.int 1)) (binE (intP modI) (callE intC (consA (callF F_law_number [] (consA (nmE 0) (consA (cE (.int 30)) nilA))) nilA)) (binE (intP subI) (nmE 3) (cE (.int 1))))))) nextO) (seqO (frzO [1, 4] (setO 5 (callF F_law_ring_pattern [] (consA (nmE 1) (consA (nmE 4) nilA))))) (seqO (setO 6 (binE ixP (lstE (consA (cE (.int 0)) (consA (cE (.int 1)) (consA (cE (.int 2)) (consA (cE (.int 3)) (consA (cE (.int 2)) (consA (cE (.int 3)) (consA (cE (.int 4)) (consA (cE (.int 24)) nilA))))))))) (binE (intP modI) (callE intC (consA (binE ixP (nmE 0) (cE (.int 29))) nilA)) (cE (.int 8))))) (seqO (frzO [5, 3, 4, 6] (setO 7 (callF F_law_ring_due [] (consA (nmE 5) (consA (nmE 3) (consA (nmE 4) (consA (nmE 6) nilA))))))) (seqO (setO 8 (callE listC (consA (nmE 5) nilA))) (seqO (frzO [7, 3, 4, 6] (ifO (orT (notT (truT (callF (F_law_same 12) [] (consA (callF F_ring_least [] (consA (nmE 8) (consA (nmE 3) (consA (nmE 4) (consA (nmE 6) nilA))))) (consA (nmE 7) nilA))))) (valT (binE (eqP true) (nmE 8) (nmE 5)))) (retO (cE (.bl false))) nextO)) (seqO (frzO [3, 4, 5] (ifO (notT (truT (callF (F_law_same 12) [] (consA (callF F_ring_least [] (consA (callE tupleC (consA (nmE 5) nilA)) (consA (nmE 3) (consA (nmE 4) (consA (callE min2C (consA (cE (.int 24)) (consA (binE (addP) (nmE 6) (cE (.int 1))) nilA))) nilA))))) (consA (callF F_law_ring_due [] (consA (nmE 5) (consA (nmE 3) (consA (nmE 4) (consA (callE min2C (consA (cE (.int 24)) (consA (binE (addP) (nmE 6) (cE (.int 1))) nilA))) nilA))))) nilA))))) (retO (cE (.bl false))) nextO)) (seqO (frzO [5, 3, 4] (ifO (andT (valT (binE (isP true) (nmE 7) (cE .non))) (valT (binE (isP false) (callF F_ring_least [] (consA (nmE 5) (consA (nmE 3) (consA (nmE 4) (consA (callE min2C (consA (cE (.int 24)) (consA (binE (addP) (nmE 6) (cE (.int 1))) nilA))) nilA))))) (cE .non)))) (retO (cE (.bl false))) nextO)) (seqO (frzO [5, 4, 6] (ifO (andT (valT (binE (intP ltI) (nmE 3) (binE (intP powI) (cE (.int 10)) (cE (.int 30))))) (notT (truT (callF (F_law_same 12) [] (consA (callF F_ring_least [] (consA (nmE 5) (consA (binE (addP) (nmE 3) (cE (.int 1))) (consA (nmE 4) (consA (nmE 6) nilA))))) (consA (callF F_law_ring_due [] (consA (nmE 5) (consA (binE (addP) (nmE 3) (cE (.int 1))) (consA (nmE 4) (consA (nmE 6) nilA))))) nilA)))))) (retO (cE (.bl false))) nextO)) (seqO (frzO [7, 3, 4, 6] (ifO (andT (valT (binE (intP ltI) (callE lenC (consA (nmE 5) nilA)) (cE (.int 4)))) (notT (truT (callF (F_law_same 12) [] (consA (callF F_ring_least [] (consA (binE (addP) (nmE 5) (nmE 5)) (consA (nmE 3) (consA (nmE 4) (consA (nmE 6) nilA))))) (consA (nmE 7) nilA)))))) (retO (cE (.bl false))) nextO)) (seqO (putO 8 (binE (intP subI) (binE (addP) (cE (.int 4)) (cE (.int 2))) (callE max2C (consA (cE (.int 2)) (consA (binE ixP (nmE 8) (cE (.int 0))) nilA)))) (cE (.int 0))) (seqO (frzO [8, 3, 4, 6] (ifO (notT (truT (callF (F_law_same 12) [] (consA (callF F_ring_least [] (consA (nmE 8) (consA (nmE 3) (consA (nmE 4) (consA (nmE 6) nilA))))) (consA (callF F_law_ring_due [] (consA (nmE 8) (consA (nmE 3) (consA (nmE 4) (consA (nmE 6) nilA))))) nilA))))) (retO (cE (.bl false))) nextO)) (frzO [7, 5, 3, 4, 6] (retO (callF (F_law_same 12) [] (consA (callF F_ring_least [] (consA (nmE 5) (consA (nmE 3) (consA (nmE 4) (consA (nmE 6) nilA))))) (consA (nmE 7) nilA)))))))))))))))))))
def F_law_ring_right : Fn := runF 3 9 b_law_ring_right
theorem sc_law_ring_right : FnScope ["pool", "pattern", "many", "people", "steps", "row", "most", "due", "handed"] ["pool", "pattern", "many"] (defScope s_law_ring_right) := ⟨rfl, rfl, rfl, by decide +kernel, rfl, by decide +kernel, by decide +kernel⟩
theorem c_law_ring_right (T : Tx K mg) : Cl P w K mg base 14 "_law_ring_right" 3 F_law_ring_right [] :=
  cl_mk T.d_law_ring_right sc_law_ring_right rfl rfl fun fa cdv A outer s H E hr => ⟨_, (dss_cons (ds_set 3 sc_law_ring_right.nd (de_add (de_nm 2) (de_callTy (K := K) call_int1 snc_int (by decide +kernel) T.z_int (da_cons (de_cm cm_lt (de_nm 2) de_int) da_nil)))) (dss_cons (ds_set 4 sc_law_ring_right.nd (de_add de_int (de_mod (de_callTy (K := K) call_int1 snc_int (by decide +kernel) T.z_int (da_cons (de_ix (K := K) (de_nm 0) de_int) da_nil)) (de_callB (K := K) (call_min2 rfl) snc_min2 (by decide +kernel) T.z_min (da_cons de_int (da_cons (de_sub (de_nm 3) de_int) da_nil)))))) (dss_cons (ds_if (dt_cm (cm_eq (K := K) hr.units) (de_mod (de_callTy (K := K) call_int1 snc_int (by decide +kernel) T.z_int (da_cons (de_ix (K := K) (de_nm 0) de_int) da_nil)) de_int) de_int) (dss_one (ds_frz [0] (ds_set 4 sc_law_ring_right.nd (de_add de_int (de_mod (de_callTy (K := K) call_int1 snc_int (by decide +kernel) T.z_int (da_cons (de_c (K := K) (c_law_number T) hr (da_cons (de_nm 0) (da_cons de_int da_nil))) da_nil)) (de_sub (de_nm 3) de_int)))))) dss_nil) (dss_cons (ds_frz [1, 4] (ds_set 5 sc_law_ring_right.nd (de_c (K := K) (c_law_ring_pattern T) hr (da_cons (de_nm 1) (da_cons (de_nm 4) da_nil))))) (dss_cons (ds_set 6 sc_law_ring_right.nd (de_ix (K := K) (de_lst (da_cons de_int (da_cons de_int (da_cons de_int (da_cons de_int (da_cons de_int (da_cons de_int (da_cons de_int (da_cons de_int da_nil))))))))) (de_mod (de_callTy (K := K) call_int1 snc_int (by decide +kernel) T.z_int (da_cons (de_ix (K := K) (de_nm 0) de_int) da_nil)) de_int))) (dss_cons (ds_frz [5, 3, 4, 6] (ds_set 7 sc_law_ring_right.nd (de_c (K := K) (c_law_ring_due T) hr (da_cons (de_nm 5) (da_cons (de_nm 3) (da_cons (de_nm 4) (da_cons (de_nm 6) da_nil))))))) (dss_cons (ds_set 8 sc_law_ring_right.nd (de_callTy (K := K) (ck_list (K := K)) snc_list (by decide +kernel) T.z_list (da_cons (de_nm 5) da_nil))) (dss_cons (ds_frz [7, 3, 4, 6] (ds_if (dt_w (dw_or (dt_not (dt_tru (K := K) (de_c (K := K) (c_law_same T 12) hr (da_cons (de_c (K := K) (c_ring_least T) hr (da_cons (de_nm 8) (da_cons (de_nm 3) (da_cons (de_nm 4) (da_cons (de_nm 6) da_nil))))) (da_cons (de_nm 7) da_nil))))) (dw_or1 (dt_cm (cm_ne (K := K) hr.units) (de_nm 8) (de_nm 5))))) (dss_one (ds_ret de_bl)) dss_nil)) (dss_cons (ds_frz [3, 4, 5] (ds_if (dt_not (dt_tru (K := K) (de_c (K := K) (c_law_same T 12) hr (da_cons (de_c (K := K) (c_ring_least T) hr (da_cons (de_callTy (K := K) (ck_tuple (K := K)) snc_tuple (by decide +kernel) T.z_tuple (da_cons (de_nm 5) da_nil)) (da_cons (de_nm 3) (da_cons (de_nm 4) (da_cons (de_callB (K := K) (call_min2 rfl) snc_min2 (by decide +kernel) T.z_min (da_cons de_int (da_cons (de_add (de_nm 6) de_int) da_nil))) da_nil))))) (da_cons (de_c (K := K) (c_law_ring_due T) hr (da_cons (de_nm 5) (da_cons (de_nm 3) (da_cons (de_nm 4) (da_cons (de_callB (K := K) (call_min2 rfl) snc_min2 (by decide +kernel) T.z_min (da_cons de_int (da_cons (de_add (de_nm 6) de_int) da_nil))) da_nil))))) da_nil))))) (dss_one (ds_ret de_bl)) dss_nil)) (dss_cons (ds_frz [5, 3, 4] (ds_if (dt_w (dw_and (dt_cm cm_isNot (de_nm 7) de_non) (dw_and1 (dt_cm cm_is (de_c (K := K) (c_ring_least T) hr (da_cons (de_nm 5) (da_cons (de_nm 3) (da_cons (de_nm 4) (da_cons (de_callB (K := K) (call_min2 rfl) snc_min2 (by decide +kernel) T.z_min (da_cons de_int (da_cons (de_add (de_nm 6) de_int) da_nil))) da_nil))))) de_non)))) (dss_one (ds_ret de_bl)) dss_nil)) (dss_cons (ds_frz [5, 4, 6] (ds_if (dt_w (dw_and (dt_cm cm_lt (de_nm 3) (de_pow de_int de_int)) (dw_and1 (dt_not (dt_tru (K := K) (de_c (K := K) (c_law_same T 12) hr (da_cons (de_c (K := K) (c_ring_least T) hr (da_cons (de_nm 5) (da_cons (de_add (de_nm 3) de_int) (da_cons (de_nm 4) (da_cons (de_nm 6) da_nil))))) (da_cons (de_c (K := K) (c_law_ring_due T) hr (da_cons (de_nm 5) (da_cons (de_add (de_nm 3) de_int) (da_cons (de_nm 4) (da_cons (de_nm 6) da_nil))))) da_nil)))))))) (dss_one (ds_ret de_bl)) dss_nil)) (dss_cons (ds_frz [7, 3, 4, 6] (ds_if (dt_w (dw_and (dt_cm cm_lt (de_callB (K := K) (ck_len (K := K)) snc_len (by decide +kernel) T.z_len (da_cons (de_nm 5) da_nil)) de_int) (dw_and1 (dt_not (dt_tru (K := K) (de_c (K := K) (c_law_same T 12) hr (da_cons (de_c (K := K) (c_ring_least T) hr (da_cons (de_add (de_nm 5) (de_nm 5)) (da_cons (de_nm 3) (da_cons (de_nm 4) (da_cons (de_nm 6) da_nil))))) (da_cons (de_nm 7) da_nil)))))))) (dss_one (ds_ret de_bl)) dss_nil)) (dss_cons (ds_put 8 (de_sub (de_add de_int de_int) (de_callB (K := K) (call_max2 rfl) snc_max2 (by decide +kernel) T.z_max (da_cons de_int (da_cons (de_ix (K := K) (de_nm 8) de_int) da_nil)))) de_int) (dss_cons (ds_frz [8, 3, 4, 6] (ds_if (dt_not (dt_tru (K := K) (de_c (K := K) (c_law_same T 12) hr (da_cons (de_c (K := K) (c_ring_least T) hr (da_cons (de_nm 8) (da_cons (de_nm 3) (da_cons (de_nm 4) (da_cons (de_nm 6) da_nil))))) (da_cons (de_c (K := K) (c_law_ring_due T) hr (da_cons (de_nm 8) (da_cons (de_nm 3) (da_cons (de_nm 4) (da_cons (de_nm 6) da_nil))))) da_nil))))) (dss_one (ds_ret de_bl)) dss_nil)) (dss_one (ds_frz [7, 5, 3, 4, 6] (ds_ret (de_c (K := K) (c_law_same T 12) hr (da_cons (de_c (K := K) (c_ring_least T) hr (da_cons (de_nm 5) (da_cons (de_nm 3) (da_cons (de_nm 4) (da_cons (de_nm 6) da_nil))))) (da_cons (de_nm 7) da_nil))))))))))))))))))))⟩
/-! law: 0 script, 1 pool, 2 size, 3 k, 4 pattern, 5 many, 6 cap, 7 low, 8 forward, 9 backward, 10 joint, 11 other, 12 least, 13 nearest, 14 handed, 15 later -/
def b_law : En → Out := (seqO (frzO [0] (setO 1 (callF F_law_pool [] (consA (nmE 0) (consA (cE (.int 42)) nilA))))) (seqO (setO 2 (binE (addP) (cE (.int 1)) (binE (intP modI) (callE intC (consA (binE ixP (nmE 1) (cE (.int 0))) nilA)) (cE (.int 6))))) (seqO (setO 4 (lcE (rng1 (nmE 2)) (nmT 3) yesT (binE (addP) (cE (.int 1)) (binE (intP modI) (callE intC (consA (binE ixP (nmE 1) (binE (addP) (cE (.int 1)) (nmE 3))) nilA)) (cE (.int 4)))) [3])) (seqO (setO 5 (binE (addP) (cE (.int 2)) (binE (intP modI) (callE intC (consA (binE ixP (nmE 1) (cE (.int 8))) nilA)) (cE (.int 12))))) (seqO (ifO (valT (binE (eqP false) (binE (intP modI) (callE intC (consA (binE ixP (nmE 1) (cE (.int 7))) nilA)) (cE (.int 2))) (cE (.int 1)))) (frzO [1] (setO 5 (binE (addP) (cE (.int 2)) (binE (intP modI) (callE intC (consA (callF F_law_number [] (consA (nmE 1) (consA (cE (.int 9)) nilA))) nilA)) (binE (intP subI) (binE (intP powI) (cE (.int 10)) (cE (.int 30))) (cE (.int 1))))))) nextO) (seqO (setO 6 (binE ixP (lstE (consA (cE (.int 3)) (consA (cE (.int 4)) (consA (cE (.int 8)) (consA (cE (.int 24)) nilA))))) (binE (intP modI) (callE intC (consA (binE ixP (nmE 1) (cE (.int 19))) nilA)) (cE (.int 4))))) (seqO (setO 7 (binE (intP subI) (cE (.int 1)) (binE (intP divI) (binE (intP modI) (callE intC (consA (binE ixP (nmE 1) (cE (.int 19))) nilA)) (cE (.int 8))) (cE (.int 4))))) (seqO (setO 8 (binE (addP) (nmE 7) (binE (intP modI) (callE intC (consA (binE ixP (nmE 1) (cE (.int 20))) nilA)) (binE (intP subI) (binE (addP) (nmE 6) (cE (.int 1))) (nmE 7))))) (seqO (setO 9 (binE (addP) (nmE 7) (binE (intP modI) (callE intC (consA (binE ixP (nmE 1) (cE (.int 21))) nilA)) (binE (intP subI) (binE (addP) (nmE 6) (cE (.int 1))) (nmE 7))))) (seqO (ifO (valT (binE (eqP false) (binE (intP modI) (callE intC (consA (binE ixP (nmE 1) (cE (.int 26))) nilA)) (cE (.int 4))) (cE (.int 0)))) (seqO (setO 4 (lcE (rng1 (nmE 2)) (nmT 3) yesT (binE (addP) (cE (.int 1)) (binE (intP mulI) (cE (.int 3)) (binE (intP modI) (callE intC (consA (binE ixP (nmE 1) (binE (addP) (cE (.int 1)) (nmE 3))) nilA)) (cE (.int 2))))) [3])) (seqO (setO 8 (cE (.int 3))) (setO 9 (cE (.int 3))))) nextO) (seqO (setO 10 (cE .non)) (seqO (ifO (valT (binE (eqP false) (binE (intP modI) (callE intC (consA (binE ixP (nmE 1) (cE (.int 22))) nilA)) (cE (.int 3))) (cE (.int 1)))) (setO 10 (binE (intP modI) (callE intC (consA (binE ixP (nmE 1) (cE (.int 23))) nilA)) (cE (.int 25)))) nextO) (seqO (ifO (valT (binE (eqP false) (binE (intP modI) (callE intC (consA (binE ixP (nmE 1) (cE (.int 22))) nilA)) (cE (.int 3))) (cE (.int 2)))) (setO 10 (callE min2C (consA (cE (.int 24)) (consA (binE (intP modI) (callE intC (consA (binE ixP (nmE 1) (cE (.int 23))) nilA)) (binE (addP) (binE (addP) (nmE 8) (nmE 9)) (cE (.int 2)))) nilA)))) nextO) (seqO (setO 11 (callE listC (consA (nmE 4) nilA))) (seqO (putO 11 (binE (addP) (cE (.int 1)) (binE (intP modI) (callE intC (consA (binE ixP (nmE 1) (cE (.int 25))) nilA)) (cE (.int 4)))) (binE (intP modI) (callE intC (consA (binE ixP (nmE 1) (cE (.int 24))) nilA)) (nmE 2))) (seqO (frzO [4, 5, 8, 9, 10] (setO 12 (binE ixP (callF F_law_stretches [] (consA (nmE 4) (consA (nmE 5) (consA (nmE 8) (consA (nmE 9) (consA (nmE 10) nilA)))))) (cE (.int 0))))) (seqO (frzO [4, 8, 9, 10] (setO 13 (binE ixP (callF F_law_stretches [] (consA (nmE 4) (consA (cE (.int 54)) (consA (nmE 8) (consA (nmE 9) (consA (nmE 10) nilA)))))) (cE (.int 1))))) (seqO (setO 14 (callE listC (consA (nmE 4) nilA))) (seqO (frzO [12, 5, 8, 9, 10] (ifO (notT (truT (callF (F_law_same 12) [] (consA (callF F_law_least_told [] (consA (nmE 14) (consA (nmE 5) (consA (nmE 8) (consA (nmE 9) (consA (nmE 10) nilA)))))) (consA (nmE 12) nilA))))) (retO (cE (.bl false))) nextO)) (seqO (frzO [13, 8, 9, 10] (ifO (orT (notT (truT (callF (F_law_same 12) [] (consA (callF F_law_first_told [] (consA (nmE 14) (consA (nmE 8) (consA (nmE 9) (consA (nmE 10) nilA))))) (consA (nmE 13) nilA))))) (valT (binE (eqP true) (nmE 14) (nmE 4)))) (retO (cE (.bl false))) nextO)) (seqO (frzO [12, 5, 8, 9, 10] (ifO (notT (truT (callF (F_law_same 12) [] (consA (callF F_row_least [] (consA (callE tupleC (consA (nmE 4) nilA)) (consA (nmE 5) (consA (nmE 8) (consA (nmE 9) (consA (nmE 10) nilA)))))) (consA (nmE 12) nilA))))) (retO (cE (.bl false))) nextO)) (seqO (frzO [13, 8, 9, 10] (ifO (notT (truT (callF (F_law_same 12) [] (consA (callF F_row_first_stuck [] (consA (callE tupleC (consA (nmE 4) nilA)) (consA (nmE 8) (consA (nmE 9) (consA (nmE 10) nilA))))) (consA (nmE 13) nilA))))) (retO (cE (.bl false))) nextO)) (seqO (frzO [4, 8, 9, 10, 13, 1, 5] (ifO (orT (notT (truT (callF F_law_turns [] (consA (nmE 4) (consA (nmE 8) (consA (nmE 9) (consA (nmE 10) (consA (nmE 13) nilA)))))))) (notT (truT (callF F_law_ring_right [] (consA (nmE 1) (consA (nmE 4) (consA (nmE 5) nilA))))))) (retO (cE (.bl false))) nextO)) (seqO (forS (rng1 (nmE 2)) (nmT 3) (putO 14 (binE ixP (nmE 11) (nmE 3)) (nmE 3))) (seqO (frzO [11, 5, 8, 9, 10] (setO 15 (binE ixP (callF F_law_stretches [] (consA (nmE 11) (consA (nmE 5) (consA (nmE 8) (consA (nmE 9) (consA (nmE 10) nilA)))))) (cE (.int 0))))) (seqO (frzO [15, 14, 5, 8, 9, 10] (ifO (orT (notT (truT (callF (F_law_same 12) [] (consA (callF F_law_least_told [] (consA (nmE 14) (consA (nmE 5) (consA (nmE 8) (consA (nmE 9) (consA (nmE 10) nilA)))))) (consA (nmE 15) nilA))))) (valT (binE (eqP true) (nmE 14) (nmE 11)))) (retO (cE (.bl false))) nextO)) (seqO (frzO [11, 8, 9, 10] (setO 15 (binE ixP (callF F_law_stretches [] (consA (nmE 11) (consA (cE (.int 54)) (consA (nmE 8) (consA (nmE 9) (consA (nmE 10) nilA)))))) (cE (.int 1))))) (seqO (frzO [15, 14, 8, 9, 10] (ifO (notT (truT (callF (F_law_same 12) [] (consA (callF F_law_first_told [] (consA (nmE 14) (consA (nmE 8) (consA (nmE 9) (consA (nmE 10) nilA))))) (consA (nmE 15) nilA))))) (retO (cE (.bl false))) nextO)) (frzO [1, 11, 5, 12, 8, 9, 10] (retO (andE (callF F_law_ring_right [] (consA (nmE 1) (consA (nmE 11) (consA (nmE 5) nilA)))) (callF (F_law_same 12) [] (consA (callF F_law_least_told [] (consA (callE listC (consA (nmE 4) nilA)) (consA (nmE 5) (consA (nmE 8) (consA (nmE 9) (consA (nmE 10) nilA)))))) (consA (nmE 12) nilA))))))))))))))))))))))))))))))))))
def F_law : Fn := runF 1 16 b_law
theorem sc_law : FnScope ["script", "pool", "size", "k", "pattern", "many", "cap", "low", "forward", "backward", "joint", "other", "least", "nearest", "handed", "later"] ["script"] (defScope s_law) := ⟨rfl, rfl, rfl, by decide +kernel, rfl, by decide +kernel, by decide +kernel⟩
theorem p_law (T : Tx K mg) : LawOk P w K mg 15 "law" "script" F_law :=
  law_mk T.d_law sc_law rfl fun base fa cdv A outer s H E hr => ⟨_, (dss_cons (ds_frz [0] (ds_set 1 sc_law.nd (de_c (K := K) (c_law_pool T) hr (da_cons (de_nm 0) (da_cons de_int da_nil))))) (dss_cons (ds_set 2 sc_law.nd (de_add de_int (de_mod (de_callTy (K := K) call_int1 snc_int (by decide +kernel) T.z_int (da_cons (de_ix (K := K) (de_nm 1) de_int) da_nil)) de_int))) (dss_cons (ds_setLc (own := [("k", 3)]) (ws := [3]) 4 rfl sc_law.nd (di_rng1 T.z_range (de_nm 2)) (blkOk_by (N := ["script", "pool", "size", "k", "pattern", "many", "cap", "low", "forward", "backward", "joint", "other", "least", "nearest", "handed", "later"]) (sc := defScope s_law) (by decide +kernel)) (fun _ _ _ _ _ => (dg_nm 3 sc_law.nd)) (fun _ _ _ _ _ => dts_nil) (fun _ _ _ _ _ => (de_add de_int (de_mod (de_callTy (K := K) call_int1 snc_int (by decide +kernel) T.z_int (da_cons (de_ix (K := K) (de_nm 1) (de_add de_int (de_nm 3))) da_nil)) de_int))) s H (sw_true rfl rfl rfl (by decide +kernel))) (dss_cons (ds_set 5 sc_law.nd (de_add de_int (de_mod (de_callTy (K := K) call_int1 snc_int (by decide +kernel) T.z_int (da_cons (de_ix (K := K) (de_nm 1) de_int) da_nil)) de_int))) (dss_cons (ds_if (dt_cm (cm_eq (K := K) hr.units) (de_mod (de_callTy (K := K) call_int1 snc_int (by decide +kernel) T.z_int (da_cons (de_ix (K := K) (de_nm 1) de_int) da_nil)) de_int) de_int) (dss_one (ds_frz [1] (ds_set 5 sc_law.nd (de_add de_int (de_mod (de_callTy (K := K) call_int1 snc_int (by decide +kernel) T.z_int (da_cons (de_c (K := K) (c_law_number T) hr (da_cons (de_nm 1) (da_cons de_int da_nil))) da_nil)) (de_sub (de_pow de_int de_int) de_int)))))) dss_nil) (dss_cons (ds_set 6 sc_law.nd (de_ix (K := K) (de_lst (da_cons de_int (da_cons de_int (da_cons de_int (da_cons de_int da_nil))))) (de_mod (de_callTy (K := K) call_int1 snc_int (by decide +kernel) T.z_int (da_cons (de_ix (K := K) (de_nm 1) de_int) da_nil)) de_int))) (dss_cons (ds_set 7 sc_law.nd (de_sub de_int (de_div (de_mod (de_callTy (K := K) call_int1 snc_int (by decide +kernel) T.z_int (da_cons (de_ix (K := K) (de_nm 1) de_int) da_nil)) de_int) de_int))) (dss_cons (ds_set 8 sc_law.nd (de_add (de_nm 7) (de_mod (de_callTy (K := K) call_int1 snc_int (by decide +kernel) T.z_int (da_cons (de_ix (K := K) (de_nm 1) de_int) da_nil)) (de_sub (de_add (de_nm 6) de_int) (de_nm 7))))) (dss_cons (ds_set 9 sc_law.nd (de_add (de_nm 7) (de_mod (de_callTy (K := K) call_int1 snc_int (by decide +kernel) T.z_int (da_cons (de_ix (K := K) (de_nm 1) de_int) da_nil)) (de_sub (de_add (de_nm 6) de_int) (de_nm 7))))) (dss_cons (ds_if (dt_cm (cm_eq (K := K) hr.units) (de_mod (de_callTy (K := K) call_int1 snc_int (by decide +kernel) T.z_int (da_cons (de_ix (K := K) (de_nm 1) de_int) da_nil)) de_int) de_int) (dss_cons (ds_setLc (own := [("k", 3)]) (ws := [3]) 4 rfl sc_law.nd (di_rng1 T.z_range (de_nm 2)) (blkOk_by (N := ["script", "pool", "size", "k", "pattern", "many", "cap", "low", "forward", "backward", "joint", "other", "least", "nearest", "handed", "later"]) (sc := defScope s_law) (by decide +kernel)) (fun _ _ _ _ _ => (dg_nm 3 sc_law.nd)) (fun _ _ _ _ _ => dts_nil) (fun _ _ _ _ _ => (de_add de_int (de_mul de_int (de_mod (de_callTy (K := K) call_int1 snc_int (by decide +kernel) T.z_int (da_cons (de_ix (K := K) (de_nm 1) (de_add de_int (de_nm 3))) da_nil)) de_int)))) s H (sw_true rfl rfl rfl (by decide +kernel))) (dss_cons (ds_set 8 sc_law.nd de_int) (dss_one (ds_set 9 sc_law.nd de_int)))) dss_nil) (dss_cons (ds_set 10 sc_law.nd de_non) (dss_cons (ds_if (dt_cm (cm_eq (K := K) hr.units) (de_mod (de_callTy (K := K) call_int1 snc_int (by decide +kernel) T.z_int (da_cons (de_ix (K := K) (de_nm 1) de_int) da_nil)) de_int) de_int) (dss_one (ds_set 10 sc_law.nd (de_mod (de_callTy (K := K) call_int1 snc_int (by decide +kernel) T.z_int (da_cons (de_ix (K := K) (de_nm 1) de_int) da_nil)) de_int))) dss_nil) (dss_cons (ds_if (dt_cm (cm_eq (K := K) hr.units) (de_mod (de_callTy (K := K) call_int1 snc_int (by decide +kernel) T.z_int (da_cons (de_ix (K := K) (de_nm 1) de_int) da_nil)) de_int) de_int) (dss_one (ds_set 10 sc_law.nd (de_callB (K := K) (call_min2 rfl) snc_min2 (by decide +kernel) T.z_min (da_cons de_int (da_cons (de_mod (de_callTy (K := K) call_int1 snc_int (by decide +kernel) T.z_int (da_cons (de_ix (K := K) (de_nm 1) de_int) da_nil)) (de_add (de_add (de_nm 8) (de_nm 9)) de_int)) da_nil))))) dss_nil) (dss_cons (ds_set 11 sc_law.nd (de_callTy (K := K) (ck_list (K := K)) snc_list (by decide +kernel) T.z_list (da_cons (de_nm 4) da_nil))) (dss_cons (ds_put 11 (de_add de_int (de_mod (de_callTy (K := K) call_int1 snc_int (by decide +kernel) T.z_int (da_cons (de_ix (K := K) (de_nm 1) de_int) da_nil)) de_int)) (de_mod (de_callTy (K := K) call_int1 snc_int (by decide +kernel) T.z_int (da_cons (de_ix (K := K) (de_nm 1) de_int) da_nil)) (de_nm 2))) (dss_cons (ds_frz [4, 5, 8, 9, 10] (ds_set 12 sc_law.nd (de_ix (K := K) (de_c (K := K) (c_law_stretches T) hr (da_cons (de_nm 4) (da_cons (de_nm 5) (da_cons (de_nm 8) (da_cons (de_nm 9) (da_cons (de_nm 10) da_nil)))))) de_int))) (dss_cons (ds_frz [4, 8, 9, 10] (ds_set 13 sc_law.nd (de_ix (K := K) (de_c (K := K) (c_law_stretches T) hr (da_cons (de_nm 4) (da_cons de_int (da_cons (de_nm 8) (da_cons (de_nm 9) (da_cons (de_nm 10) da_nil)))))) de_int))) (dss_cons (ds_set 14 sc_law.nd (de_callTy (K := K) (ck_list (K := K)) snc_list (by decide +kernel) T.z_list (da_cons (de_nm 4) da_nil))) (dss_cons (ds_frz [12, 5, 8, 9, 10] (ds_if (dt_not (dt_tru (K := K) (de_c (K := K) (c_law_same T 12) hr (da_cons (de_c (K := K) (c_law_least_told T) hr (da_cons (de_nm 14) (da_cons (de_nm 5) (da_cons (de_nm 8) (da_cons (de_nm 9) (da_cons (de_nm 10) da_nil)))))) (da_cons (de_nm 12) da_nil))))) (dss_one (ds_ret de_bl)) dss_nil)) (dss_cons (ds_frz [13, 8, 9, 10] (ds_if (dt_w (dw_or (dt_not (dt_tru (K := K) (de_c (K := K) (c_law_same T 12) hr (da_cons (de_c (K := K) (c_law_first_told T) hr (da_cons (de_nm 14) (da_cons (de_nm 8) (da_cons (de_nm 9) (da_cons (de_nm 10) da_nil))))) (da_cons (de_nm 13) da_nil))))) (dw_or1 (dt_cm (cm_ne (K := K) hr.units) (de_nm 14) (de_nm 4))))) (dss_one (ds_ret de_bl)) dss_nil)) (dss_cons (ds_frz [12, 5, 8, 9, 10] (ds_if (dt_not (dt_tru (K := K) (de_c (K := K) (c_law_same T 12) hr (da_cons (de_c (K := K) (c_row_least_5 T) hr (da_cons (de_callTy (K := K) (ck_tuple (K := K)) snc_tuple (by decide +kernel) T.z_tuple (da_cons (de_nm 4) da_nil)) (da_cons (de_nm 5) (da_cons (de_nm 8) (da_cons (de_nm 9) (da_cons (de_nm 10) da_nil)))))) (da_cons (de_nm 12) da_nil))))) (dss_one (ds_ret de_bl)) dss_nil)) (dss_cons (ds_frz [13, 8, 9, 10] (ds_if (dt_not (dt_tru (K := K) (de_c (K := K) (c_law_same T 12) hr (da_cons (de_c (K := K) (c_row_first_stuck_4 T) hr (da_cons (de_callTy (K := K) (ck_tuple (K := K)) snc_tuple (by decide +kernel) T.z_tuple (da_cons (de_nm 4) da_nil)) (da_cons (de_nm 8) (da_cons (de_nm 9) (da_cons (de_nm 10) da_nil))))) (da_cons (de_nm 13) da_nil))))) (dss_one (ds_ret de_bl)) dss_nil)) (dss_cons (ds_frz [4, 8, 9, 10, 13, 1, 5] (ds_if (dt_w (dw_or (dt_not (dt_tru (K := K) (de_c (K := K) (c_law_turns T) hr (da_cons (de_nm 4) (da_cons (de_nm 8) (da_cons (de_nm 9) (da_cons (de_nm 10) (da_cons (de_nm 13) da_nil)))))))) (dw_or1 (dt_not (dt_tru (K := K) (de_c (K := K) (c_law_ring_right T) hr (da_cons (de_nm 1) (da_cons (de_nm 4) (da_cons (de_nm 5) da_nil))))))))) (dss_one (ds_ret de_bl)) dss_nil)) (dss_cons (ds_for PassesOwn.never rfl (di_rng1 T.z_range (de_nm 2)) (dg_nm 3 sc_law.nd) (dss_one (ds_put 14 (de_ix (K := K) (de_nm 11) (de_nm 3)) (de_nm 3)))) (dss_cons (ds_frz [11, 5, 8, 9, 10] (ds_set 15 sc_law.nd (de_ix (K := K) (de_c (K := K) (c_law_stretches T) hr (da_cons (de_nm 11) (da_cons (de_nm 5) (da_cons (de_nm 8) (da_cons (de_nm 9) (da_cons (de_nm 10) da_nil)))))) de_int))) (dss_cons (ds_frz [15, 14, 5, 8, 9, 10] (ds_if (dt_w (dw_or (dt_not (dt_tru (K := K) (de_c (K := K) (c_law_same T 12) hr (da_cons (de_c (K := K) (c_law_least_told T) hr (da_cons (de_nm 14) (da_cons (de_nm 5) (da_cons (de_nm 8) (da_cons (de_nm 9) (da_cons (de_nm 10) da_nil)))))) (da_cons (de_nm 15) da_nil))))) (dw_or1 (dt_cm (cm_ne (K := K) hr.units) (de_nm 14) (de_nm 11))))) (dss_one (ds_ret de_bl)) dss_nil)) (dss_cons (ds_frz [11, 8, 9, 10] (ds_set 15 sc_law.nd (de_ix (K := K) (de_c (K := K) (c_law_stretches T) hr (da_cons (de_nm 11) (da_cons de_int (da_cons (de_nm 8) (da_cons (de_nm 9) (da_cons (de_nm 10) da_nil)))))) de_int))) (dss_cons (ds_frz [15, 14, 8, 9, 10] (ds_if (dt_not (dt_tru (K := K) (de_c (K := K) (c_law_same T 12) hr (da_cons (de_c (K := K) (c_law_first_told T) hr (da_cons (de_nm 14) (da_cons (de_nm 8) (da_cons (de_nm 9) (da_cons (de_nm 10) da_nil))))) (da_cons (de_nm 15) da_nil))))) (dss_one (ds_ret de_bl)) dss_nil)) (dss_one (ds_frz [1, 11, 5, 12, 8, 9, 10] (ds_ret (de_and (de_c (K := K) (c_law_ring_right T) hr (da_cons (de_nm 1) (da_cons (de_nm 11) (da_cons (de_nm 5) da_nil)))) (de_one (de_c (K := K) (c_law_same T 12) hr (da_cons (de_c (K := K) (c_law_least_told T) hr (da_cons (de_callTy (K := K) (ck_list (K := K)) snc_list (by decide +kernel) T.z_list (da_cons (de_nm 4) da_nil)) (da_cons (de_nm 5) (da_cons (de_nm 8) (da_cons (de_nm 9) (da_cons (de_nm 10) da_nil)))))) (da_cons (de_nm 12) da_nil))))))))))))))))))))))))))))))))))))⟩
end
end Lw

namespace Lw
open PySem L2 DL
def mixed (n t : Int) : Int := ((n * 48271 + t * 69621 + 11) % 2147483647 * ((n * 48271 + t * 69621 + 11) % 2147483647) + t * 40692 + 7) % 2147483399 / 7 % 1000
theorem F_mixed (k1 k2 : Bool) (n t : Int) (hn : n.natAbs < 2 ^ 64) (ht : t.natAbs < 2 ^ 64) : F_law_mixed [(k1, .int n), (k2, .int t)] = .ok ⟨.g, .int (mixed n t)⟩ := by
  unfold F_law_mixed
  rw [runF_eq]
  unfold b_law_mixed
  have e1 : mulI n 48271 = _ := mulI_200 (by omega) (by decide)
  have e2 : mulI t 69621 = _ := mulI_200 (by omega) (by decide)
  have e3 : mulI t 40692 = _ := mulI_200 (by omega) (by decide)
  have e4 : mulI ((n * 48271 + t * 69621 + 11) % 2147483647) ((n * 48271 + t * 69621 + 11) % 2147483647) = _ := mulI_200 (by omega) (by omega)
  have e5 (a : Int) : divI a 7 = _ := divI_64 (by decide) (by decide)
  clear hn ht
  walk_at "dlh"
  rfl
end Lw

namespace Lw
open PySem L2 DL
def PoolOk (m : Nat) (p : List Int) : Prop := p.length = m ∧ ∀ x ∈ p, 0 ≤ x ∧ x < 1000
def ints3 (r : List (List Int)) : List D := r.map fun x => .lst (x.map D.int)
theorem ints3_snoc {ds : List (List Int)} {row : List Int} : ints3 ds ++ [.lst (row.map D.int)] = ints3 (ds ++ [row]) := by unfold ints3; rw [List.map_append]; rfl
theorem pool_hs (k k' : Bool) (ns : List Int) (m : Nat) (hm : m ≤ 1000) : ∃ u, F_law_pool [(true, .fz (ns.map .int)), (k', .int m)] = .ok u ∧ ∃ p : List Int, u = ⟨.o, .lst (p.map .int)⟩ ∧ PoolOk m p := by
  unfold F_law_pool
  apply run_hs rfl
  unfold b_law_pool
  have c1 : cutD (ns.map D.int) none (some 63) = (ns.take 63).map D.int := by rw [cutD_take (by decide), List.map_take]; rfl
  have c2 : ((ns.take 63).map D.int).length < sizeLine := by rw [List.length_map, List.length_take]; exact Nat.lt_of_le_of_lt (Nat.min_le_left _ _) (by decide)
  have c3 : powI 10 18 = .ok (.int 1000000000000000000) := by unfold powI; rw [if_pos (by decide)]; rfl
  walk_at "dl"
  rw [c1, if_pos c2]
  rw [lcO_map (g := D.int) (h := D.int ∘ fun x => (if x < 0 then -x else x))]
  rotate_left
  · intro x hx
    walk_at "dl"
    rfl
  rw [← List.map_map]
  walk_at "dl"
  refine hs_bind (fun e => ∃ cs : List Int, 0 < cs.length ∧ cs.length ≤ 63 ∧ (∀ x ∈ cs, 0 ≤ x) ∧ e = [Sl.vl true (D.fz (List.map D.int ns)), Sl.vl k' (D.int m), Sl.no, Sl.ow (cs.map D.int), Sl.no, Sl.no, Sl.no, Sl.no, Sl.no, Sl.no, Sl.no]) ?_ ?_
  · split
    · exact hs_nx ⟨[0], by decide, by decide, by decide, rfl⟩
    · rename_i h
      refine hs_nx ⟨_, ?_, ?_, ?_, rfl⟩
      · exact List.length_pos_iff.2 h
      · rw [List.length_map, List.length_take]; exact Nat.min_le_left _ _
      · intro x hx
        obtain ⟨y, _, rfl⟩ := List.mem_map.1 hx
        split <;> omega
  rintro _ ⟨cs, n1, n2, n3, rfl⟩
  walk_at "dl"
  refine hs_bind (fun e => ∃ ds : List (List Int), ∃ s2 s5 s6 s7, ds.length = cs.length ∧ (∀ r ∈ ds, ∀ x ∈ r, 0 ≤ x ∧ x < 1000) ∧ e = [Sl.vl true (D.fz (List.map D.int ns)), Sl.vl k' (D.int m), s2, Sl.vl true (D.lst (cs.map D.int)), Sl.ow (ints3 ds), s5, s6, s7, Sl.no, Sl.no, Sl.no]) ?_ ?_
  · refine hs_forL D.int cs (fun k e => ∃ ds : List (List Int), ∃ s2 s5 s6 s7, ds.length = k ∧ (∀ r ∈ ds, ∀ x ∈ r, 0 ≤ x ∧ x < 1000) ∧ e = [Sl.vl true (D.fz (List.map D.int ns)), Sl.vl k' (D.int m), s2, Sl.vl true (D.lst (cs.map D.int)), Sl.ow (ints3 ds), s5, s6, s7, Sl.no, Sl.no, Sl.no]) ?_ ?_ ?_
    · exact ⟨[], _, _, _, _, rfl, (fun r h => absurd h List.not_mem_nil), rfl⟩
    · rintro j _ hj ⟨ds, s2, s5, s6, s7, hd, hr, rfl⟩
      generalize hx : cs[j] = x
      walk_at "dl"
      refine hs_bind (fun e => ∃ row : List Int, ∃ s6 s7, (∀ x ∈ row, 0 ≤ x ∧ x < 1000) ∧ e = [Sl.vl true (D.fz (List.map D.int ns)), Sl.vl k' (D.int m), Sl.vl true (D.int x), Sl.vl true (D.lst (cs.map D.int)), Sl.ow (ints3 ds), Sl.ow (row.map D.int), s6, s7, Sl.no, Sl.no, Sl.no]) ?_ ?_
      · split
        · refine hs_forR (fun k e => ∃ row : List Int, ∃ r s7, row.length ≤ k ∧ (∀ x ∈ row, 0 ≤ x ∧ x < 1000) ∧ e = [Sl.vl true (D.fz (List.map D.int ns)), Sl.vl k' (D.int m), Sl.vl true (D.int x), Sl.vl true (D.lst (cs.map D.int)), Sl.ow (ints3 ds), Sl.ow (row.map D.int), Sl.vl true (D.int r), s7, Sl.no, Sl.no, Sl.no]) ?_ ?_ ?_
          · exact ⟨[], x, s7, Nat.le_refl _, (fun _ h => absurd h List.not_mem_nil), rfl⟩
          · rintro i _ hi ⟨row, r, t7, hl, hw, rfl⟩
            walk_at "dl"
            split
            · have e5 : divI r 1000 = _ := divI_64 (by decide) (by decide)
              have e6 : row.length < sizeLine := Nat.lt_trans (show row.length < 4000000 by omega) (by decide)
              walk_at "dlh"
              refine hs_nx ⟨row ++ [r % 1000], r / 1000, _, ?_, ?_, rfl⟩
              · rw [List.length_append]; exact Nat.succ_le_succ hl
              · intro y hy
                rcases List.mem_append.1 hy with hy | hy
                · exact hw y hy
                · rw [List.mem_singleton.1 hy]; omega
            · exact hs_nx ⟨row, r, _, by omega, hw, rfl⟩
          · rintro _ ⟨row, r, t7, hl, hw, rfl⟩
            exact ⟨row, _, _, hw, rfl⟩
        · exact hs_nx ⟨[], _, _, (fun _ h => absurd h List.not_mem_nil), rfl⟩
      rintro _ ⟨row, t6, t7, hw, rfl⟩
      walk_at "dl"
      rw [if_pos (show (ints3 ds).length < sizeLine by unfold ints3; rw [List.length_map]; exact Nat.lt_trans (show ds.length < 4000000 by omega) (by decide))]
      rw [ints3_snoc]
      refine hs_nx ⟨ds ++ [row], _, _, _, _, ?_, ?_, rfl⟩
      · rw [List.length_append, hd]; rfl
      · intro y hy
        rcases List.mem_append.1 hy with hy | hy
        · exact hr y hy
        · rw [List.mem_singleton.1 hy]; exact hw
    · rintro e ⟨ds, s2, s5, s6, s7, h⟩
      exact ⟨ds, s2, s5, s6, s7, h⟩
  rintro e ⟨ds, s2, s5, s6, s7, hd, hr, he⟩
  rw [he]
  clear he
  walk_at "dl"
  rw [if_pos (rg_in (by omega) (by omega))]
  refine hs_bind (fun e => ∃ p : List Int, ∃ s2 s5 s6 s7 s9 s10, PoolOk m p ∧ e = [Sl.vl true (D.fz (List.map D.int ns)), Sl.vl k' (D.int m), s2, Sl.vl true (D.lst (cs.map D.int)), Sl.ow (ints3 ds), s5, s6, s7, Sl.ow (p.map D.int), s9, s10]) ?_ ?_
  · refine hs_forR (fun k e => ∃ p : List Int, ∃ s2 s5 s6 s7 s9 s10, PoolOk k p ∧ e = [Sl.vl true (D.fz (List.map D.int ns)), Sl.vl k' (D.int m), s2, Sl.vl true (D.lst (cs.map D.int)), Sl.ow (ints3 ds), s5, s6, s7, Sl.ow (p.map D.int), s9, s10]) ?_ ?_ ?_
    · exact ⟨[], _, _, _, _, _, _, ⟨rfl, fun _ h => absurd h List.not_mem_nil⟩, rfl⟩
    · rintro j _ hj ⟨p, s2, s5, s6, s7, s9, s10, ⟨hp, hq⟩, rfl⟩
      have n0 : (0 : Int) < cs.length := by omega
      have e1 (a : Int) : divI a cs.length = _ := divI_64 n0 (by omega)
      have e2 : mulI 7919 ((j : Int) % cs.length) = _ := mulI_200 (by decide) (by have := Int.emod_lt_of_pos (j : Int) n0; have := Int.emod_nonneg (j : Int) (show (cs.length : Int) ≠ 0 by omega); omega)
      have e3 : atD (ints3 ds) ((j : Int) % cs.length) = .ok (.lst ((ds.getD ((j : Int) % cs.length).toNat []).map D.int)) := by
        have m0 : 0 ≤ (j : Int) % cs.length := Int.emod_nonneg _ (by omega)
        have m1 : (j : Int) % cs.length < cs.length := Int.emod_lt_of_pos _ n0
        unfold ints3
        rw [atD_in m0 (by rw [List.length_map]; omega), DL.getD_at (by rw [List.length_map]; omega), List.getElem_map, DL.getD_at (by omega)]
      walk_at "dl"
      rw [if_pos n0]
      walk_at "dl"
      have hw : ∀ i : Nat, i < cs.length → i < ds.length := fun i h => by omega
      have m0 : 0 ≤ (j : Int) % cs.length := Int.emod_nonneg _ (by omega)
      have m1 : (j : Int) % cs.length < cs.length := Int.emod_lt_of_pos _ n0
      have e4 : atD (cs.map D.int) ((j : Int) % cs.length) = _ := atD_map m0 m1
      have e6 : p.length < sizeLine := Nat.lt_trans (show p.length < 4000000 by omega) (by decide)
      obtain ⟨row, hrw⟩ : ∃ r, r = ds.getD ((j : Int) % cs.length).toNat [] := ⟨_, rfl⟩
      obtain ⟨x, hx⟩ : ∃ r, r = cs.getD ((j : Int) % cs.length).toNat 0 := ⟨_, rfl⟩
      rw [← hrw] at e3
      rw [← hx] at e4
      clear hx
      have hrm : ∀ x ∈ row, 0 ≤ x ∧ x < 1000 := by
        rw [DL.getD_at (by omega)] at hrw
        exact hr row (hrw ▸ List.getElem_mem _)
      rw [e1]
      walk_at "dl"
      rw [e3]
      simp only [e1, e2, e3, e4]
      walk_at "dl"
      have h4 : 0 ≤ (j : Int) / cs.length := Int.ediv_nonneg (by omega) (by omega)
      split
      · rename_i hlt
        rw [atD_map (Int.ediv_nonneg (by omega) (by omega)) hlt]
        walk_at "dl"
        refine hs_nx ⟨_, _, _, _, _, _, _, ⟨?_, ?_⟩, rfl⟩
        · rw [List.length_append, hp]; rfl
        · intro y hy
          rcases List.mem_append.1 hy with hy | hy
          · exact hq y hy
          · rw [List.mem_singleton.1 hy, DL.getD_at (by omega)]
            exact hrm _ (List.getElem_mem _)
      · have h3 : (j : Int) / cs.length ≤ j := Int.ediv_le_self _ (by omega)
        have h4 : 0 ≤ (j : Int) / cs.length := Int.ediv_nonneg (by omega) (by omega)
        rw [F_mixed _ _ _ _ (by omega) (by omega)]
        walk_at "dl"
        refine hs_nx ⟨_, _, _, _, _, _, _, ⟨?_, ?_⟩, rfl⟩
        · rw [List.length_append, hp]; rfl
        · intro y hy
          rcases List.mem_append.1 hy with hy | hy
          · exact hq y hy
          · rw [List.mem_singleton.1 hy]
            unfold mixed
            omega
    · rintro e h
      exact h
  rintro _ ⟨p, s2, s5, s6, s7, s9, s10, hp, rfl⟩
  walk_at "dl"
  exact hs_rt ⟨p, rfl, hp⟩
end Lw

namespace Lw
open PySem L2 DL M60
def oD : Option Int → D
  | none => .non
  | some i => .int i
theorem same_opt (k1 k2 : Bool) (j : Nat) (a b : Option Int) : F_law_same (j + 1) [(k1, oD a), (k2, oD b)] = .ok ⟨.g, .bl (decide (a = b))⟩ := by
  show runF 2 3 (b_law_same (F_law_same j)) _ = _
  rw [runF_eq]
  unfold b_law_same
  cases b with
  | none =>
    cases a with
    | none => simp only [oD]; walk_at "dl"
    | some a => simp only [oD]; walk_at "dl"
  | some b =>
    cases a with
    | none =>
      simp only [oD]
      walk_at "dl"
    | some a =>
      simp only [oD]
      walk_at "dl"
      simp
theorem F_dishes (k1 k2 k3 : Bool) (f b : Int) (o : Option Int) : F_dishes_together [(k1, .int f), (k2, .int b), (k3, oD o)] = .ok ⟨.g, .int (match o with | none => f + b | some j => if f + b < j then f + b else j)⟩ := by
  unfold F_dishes_together
  rw [runF_eq]
  unfold b_dishes_together
  cases o with
  | none => simp only [oD]; walk_at "dl"
  | some o => simp only [oD]; walk_at "dl"
def room (f b : Int) (o : Option Int) : Int := match o with
  | none => f + b
  | some j => if f + b < j then f + b else j
theorem number_hs (k k2 : Bool) (p : List Int) (h : PoolOk 42 p) (s : Nat) (hs : s + 10 ≤ 42) : ∃ u, F_law_number [(k, .lst (p.map .int)), (k2, .int s)] = .ok u ∧ ∃ n : Int, u = ⟨.g, .int n⟩ := by
  unfold F_law_number
  apply run_hs rfl
  unfold b_law_number
  walk_at "dl"
  refine hs_bind (fun e => ∃ (t : Int) (s3 : Sl), e = [Sl.vl k (.lst (p.map .int)), Sl.vl k2 (.int s), Sl.vl true (.int t), s3]) ?_ ?_
  · refine hs_forR (fun i e => ∃ (t : Int) (s3 : Sl), 0 ≤ t ∧ t < 10 ^ (3 * i) ∧ e = [Sl.vl k (.lst (p.map .int)), Sl.vl k2 (.int s), Sl.vl true (.int t), s3]) ?_ ?_ ?_
    · exact ⟨0, _, by decide, by decide, rfl⟩
    · rintro i _ hi ⟨t, s3, h0, h1, rfl⟩
      have hi : i < 10 := hi
      have hp : (10 : Int) ^ (3 * i) ≤ 10 ^ 30 := by
        rw [show (10 : Int) ^ (3 * i) = ((10 ^ (3 * i) : Nat) : Int) by rw [Int.natCast_pow]; rfl]
        have := Nat.pow_le_pow_right (n := 10) (by decide) (show 3 * i ≤ 30 by omega)
        have e : ((10 ^ 30 : Nat) : Int) = 10 ^ 30 := by rw [Int.natCast_pow]; rfl
        rw [← e]
        exact Int.ofNat_le.2 this
      have e1 : mulI t 1000 = _ := mulI_200 (by omega) (by decide)
      have e2 : atD (p.map D.int) (s + i) = _ := atD_map (by omega) (by rw [h.1]; omega)
      walk_at "dl"
      simp only [e1, e2]
      walk_at "dl"
      have hx := h.2 _ (show p.getD ((s : Int) + i).toNat 0 ∈ p by rw [DL.getD_at (by rw [h.1]; omega)]; exact List.getElem_mem _)
      refine hs_nx ⟨_, _, ?_, ?_, rfl⟩
      · omega
      · rw [show 3 * (i + 1) = 3 * i + 3 by omega, Int.pow_add]
        omega
    · rintro e ⟨t, s3, _, _, h⟩
      exact ⟨t, s3, h⟩
  rintro _ ⟨t, s3, rfl⟩
  walk_at "dl"
  exact hs_rt ⟨_, rfl⟩
end Lw

namespace Lw
open PySem L2 DL M60
structure Pat (d : D) (p : List Int) : Prop where
  n0 : 0 < p.length
  n6 : p.length ≤ 6
  hp : ∀ x ∈ p, 1 ≤ x ∧ x ≤ 4
  sq : d = .lst (p.map D.int) ∨ d = .tup (p.map D.int)
theorem Pat.len {d : D} {p : List Int} (h : Pat d p) (q : Kd) : lenC [⟨q, d⟩] = .ok ⟨.g, .int p.length⟩ := by
  rcases h.sq with rfl | rfl
  · rw [lenC_lst, List.length_map]
  · rw [lenC_tup, List.length_map]
theorem Pat.hd1 {d : D} {p : List Int} (h : Pat d p) (i : Nat) : 1 ≤ hd p i := (hd_in h.n0 h.hp i).1
theorem Pat.hd4 {d : D} {p : List Int} (h : Pat d p) (i : Nat) : hd p i ≤ 4 := (hd_in h.n0 h.hp i).2
theorem Pat.at {d : D} {p : List Int} (h : Pat d p) (q q' : Kd) (i : Int) (h0 : 0 ≤ i) (h1 : i < p.length) : ixP ⟨q, d⟩ ⟨q', .int i⟩ = .ok ⟨q.sub, .int (hd p i.toNat)⟩ := by
  have e : p.getD i.toNat 0 = hd p i.toNat := by
    unfold hd
    rw [Nat.mod_eq_of_lt (by omega)]
  rcases h.sq with rfl | rfl
  · rw [ixP_lst, atD_map h0 h1, e]; rfl
  · rw [ixP_tup, atD_map h0 h1, e]; rfl
theorem Pat.mod {d : D} {p : List Int} (h : Pat d p) (q q' : Kd) (i : Nat) (x : Int) (hx : x = i) : ixP ⟨q, d⟩ ⟨q', .int (x % p.length)⟩ = .ok ⟨q.sub, .int (hd p i)⟩ := by
  subst hx
  have n0 := h.n0
  rw [h.at q q' _ (Int.emod_nonneg _ (by omega)) (Int.emod_lt_of_pos _ (by omega))]
  have : ((i : Int) % p.length).toNat = i % p.length := by
    rw [← Int.natCast_emod, Int.toNat_natCast]
  rw [this]
  unfold hd
  rw [Nat.mod_mod]
def prD (x : Int × Int) : D := .tup [.int x.1, .int x.2]
def Cand (p : List Int) (many f b most : Int) (i g : Nat) : Prop := (((i + 1 + g : Nat) : Int) < many ∧ ((i + 1 + g : Nat) : Int) < i + most) ∧ St p f b most i g
theorem full_hs {d : D} {p : List Int} (hP : Pat d p) (k1 k2 k3 k4 k5 : Bool) (many f b : Int) (o : Option Int) (hm : 0 ≤ many) (h0 : 0 ≤ room f b o) (h48 : room f b o ≤ 48) :
    ∃ u, F_full_stretches [(k1, d), (k2, .int many), (k3, .int f), (k4, .int b), (k5, oD o)] = .ok u ∧ ∃ found : List (Int × Int), u = ⟨.o, .lst (found.map prD)⟩ ∧ found.length < 1000 ∧
      ∀ l s, (l, s) ∈ found ↔ ∃ i g : Nat, (i < p.length ∧ (i : Int) < many - 1) ∧ Cand p many f b (room f b o) i g ∧ ((i + 1 + g : Nat) : Int) = l ∧ arc (hd p) i (g + 2) = s := by
  unfold F_full_stretches
  apply run_hs rfl
  unfold b_full_stretches
  have r1 : F_dishes_together [(k3 || true, .int f), (k4 || true, .int b), (k5 || flat (oD o), oD o)] = .ok ⟨.g, .int (room f b o)⟩ := F_dishes _ _ _ _ _ _
  have r0 : flat (oD o) = true := by cases o <;> rfl
  rw [r0] at r1
  generalize room f b o = most at *
  have n0 := hP.n0
  have n6 := hP.n6
  have fz (k : Bool) (i : Nat) (env : En) : frzV env i (some (.vl k (oD o))) = env := by cases o <;> rfl
  walk_at "dl"
  simp only [fz, r0, Bool.or_true, Bool.or_false] at r1 ⊢
  rw [r1]
  walk_at "dl"
  rw [hP.len]
  walk_at "dl"
  generalize hn : (if many - 1 < (p.length : Int) then many - 1 else (p.length : Int)) = n
  have hn1 : -1 ≤ n ∧ n ≤ 6 := by rw [← hn]; split <;> omega
  have hn2 : ∀ i : Nat, (i < p.length ∧ (i : Int) < many - 1) ↔ (i : Int) < n := by
    intro i
    rw [← hn]
    split <;> omega
  rw [if_pos (rg_in (by omega) (by omega))]
  refine hs_bind (fun e => ∃ (found : List (Int × Int)) (s7 s8 s9 s10 : Sl), found.length < 1000 ∧ (∀ l s, (l, s) ∈ found ↔ ∃ i g : Nat, (i : Int) < n ∧ Cand p many f b most i g ∧ ((i + 1 + g : Nat) : Int) = l ∧ arc (hd p) i (g + 2) = s) ∧ e = [Sl.vl k1 d, Sl.vl k2 (.int many), Sl.vl k3 (.int f), Sl.vl k4 (.int b), Sl.vl k5 (oD o), Sl.vl true (.int most), Sl.ow (found.map prD), s7, s8, s9, s10]) ?_ ?_
  · refine hs_forR (fun i e => ∃ (found : List (Int × Int)) (s7 s8 s9 s10 : Sl), found.length ≤ 50 * i ∧ (∀ l s, (l, s) ∈ found ↔ ∃ i' g : Nat, i' < i ∧ Cand p many f b most i' g ∧ ((i' + 1 + g : Nat) : Int) = l ∧ arc (hd p) i' (g + 2) = s) ∧ e = [Sl.vl k1 d, Sl.vl k2 (.int many), Sl.vl k3 (.int f), Sl.vl k4 (.int b), Sl.vl k5 (oD o), Sl.vl true (.int most), Sl.ow (found.map prD), s7, s8, s9, s10]) ?_ ?_ ?_
    · refine ⟨[], _, _, _, _, by decide, fun l s => ⟨fun h => absurd h List.not_mem_nil, ?_⟩, rfl⟩
      rintro ⟨i, g, h, _⟩
      exact absurd h (Nat.not_lt_zero i)
    · rintro i _ hi ⟨found, s7, s8, s9, s10, hl, hf, rfl⟩
      have hi2 : (i : Int) < p.length ∧ (i : Int) < 6 := by omega
      have e0 (q q' : Kd) : ixP ⟨q, d⟩ ⟨q', .int (i : Int)⟩ = _ := hP.at q q' i (by omega) (by omega)
      rw [Int.toNat_natCast] at e0
      walk_at "dl"
      simp only [e0]
      walk_at "dl"
      generalize hmm : (if (i : Int) + most < many then (i : Int) + most else many) = top
      have ht1 : top ≤ 54 ∧ 0 ≤ top := by rw [← hmm]; split <;> omega
      have ht2 : ∀ g : Nat, (((i + 1 + g : Nat) : Int) < many ∧ ((i + 1 + g : Nat) : Int) < i + most) ↔ (i : Int) + 1 + g < top := by
        intro g
        rw [← hmm]
        split <;> omega
      rw [if_pos ⟨rg_in (by omega) (by omega), rg_in (by omega) (by omega)⟩]
      have hc : ∀ g : Nat, Cand p many f b most i g ↔ (i : Int) + 1 + g < top ∧ St p f b most i g := fun g => by unfold Cand; rw [ht2]
      generalize hnn : (top - ((i : Int) + 1)).toNat = m
      refine hs_forR (fun k e => ∃ (found' : List (Int × Int)) (k8 : Bool) (s9 s10 : Sl), found'.length ≤ 50 * i + k ∧ (∀ l s, (l, s) ∈ found' ↔ (l, s) ∈ found ∨ ∃ g : Nat, g < k ∧ St p f b most i g ∧ ((i + 1 + g : Nat) : Int) = l ∧ arc (hd p) i (g + 2) = s) ∧ e = [Sl.vl k1 d, Sl.vl k2 (.int many), Sl.vl k3 (.int f), Sl.vl k4 (.int b), Sl.vl k5 (oD o), Sl.vl true (.int most), Sl.ow (found'.map prD), Sl.vl true (.int i), Sl.vl k8 (.int (arc (hd p) i (k + 1))), s9, s10]) ?_ ?_ ?_
      · refine ⟨found, _, _, _, by omega, fun l s => ⟨.inl, ?_⟩, by rw [arc_one]⟩
        rintro (h | ⟨g, h, _⟩)
        · exact h
        · exact absurd h (Nat.not_lt_zero g)
      · rintro k _ hk ⟨found', k8, s9, s10, hl', hf', rfl⟩
        have e1 (q q' : Kd) : ixP ⟨q, d⟩ ⟨q', .int (((i : Int) + 1 + k) % p.length)⟩ = _ := hP.mod q q' (i + 1 + k) _ (by omega)
        have n0' : (0 : Int) < p.length := by omega
        walk_at "dlt"
        rw [hP.len]
        walk_at "dlt"
        rw [if_pos n0']
        walk_at "dlt"
        simp only [e1]
        walk_at "dlt"
        simp only [e0]
        walk_at "dlt"
        have ea : arc (hd p) i (k + 1) + hd p (i + 1 + k) = arc (hd p) i (k + 2) := by
          show _ = arc (hd p) i (k + 1) + hd p (i + (k + 1))
          rw [show i + (k + 1) = i + 1 + k by omega]
        rw [ea]
        have el : (i : Int) + 1 + k = ((i + 1 + k : Nat) : Int) := by omega
        have hno : ¬ St p f b most i k → ∀ l s, (l, s) ∈ found' ↔ (l, s) ∈ found ∨ ∃ g : Nat, g < k + 1 ∧ St p f b most i g ∧ ((i + 1 + g : Nat) : Int) = l ∧ arc (hd p) i (g + 2) = s := by
          intro hn l s
          rw [hf' l s]
          constructor
          · rintro (h | ⟨g, h1, h2⟩)
            · exact .inl h
            · exact .inr ⟨g, by omega, h2⟩
          · rintro (h | ⟨g, h1, h2⟩)
            · exact .inl h
            · by_cases hg : g = k
              · subst hg; exact absurd h2.1 hn
              · exact .inr ⟨g, by omega, h2⟩
        split
        · rename_i c1
          split
          · rename_i c2
            split
            · rename_i c3
              have hl2 : found'.length < 4000000 := by omega
              walk_at "dlt"
              rw [if_pos (Nat.lt_trans hl2 (by decide))]
              have es : found'.map prD ++ [D.tup [.int ((i : Int) + 1 + k), .int (arc (hd p) i (k + 2))]] = (found' ++ [(((i : Int) + 1 + k), arc (hd p) i (k + 2))]).map prD := by
                rw [List.map_append]; rfl
              rw [es]
              refine hs_nx ⟨_, _, _, _, ?_, ?_, rfl⟩
              · rw [List.length_append, List.length_singleton]; omega
              · intro l s
                rw [List.mem_append, hf' l s, List.mem_singleton]
                constructor
                · rintro ((h | ⟨g, h1, h2⟩) | h)
                  · exact .inl h
                  · exact .inr ⟨g, by omega, h2⟩
                  · cases h
                    exact .inr ⟨k, by omega, ⟨c1, c2, c3⟩, by omega, rfl⟩
                · rintro (h | ⟨g, h1, h2, h3, h4⟩)
                  · exact .inl (.inl h)
                  · by_cases hg : g = k
                    · subst hg
                      right
                      rw [← h3, ← h4, el]
                    · exact .inl (.inr ⟨g, by omega, h2, h3, h4⟩)
            · rename_i c3
              exact hs_nx ⟨_, _, _, _, by omega, hno fun h => c3 h.2.2, rfl⟩
          · rename_i c2
            exact hs_nx ⟨_, _, _, _, by omega, hno fun h => c2 h.2.1, rfl⟩
        · rename_i c1
          exact hs_nx ⟨_, _, _, _, by omega, hno fun h => c1 h.1, rfl⟩
      · rintro e ⟨found', k8, s9, s10, hl', hf', rfl⟩
        refine ⟨found', _, _, _, _, by omega, fun l s => ?_, rfl⟩
        rw [hf' l s, hf l s]
        constructor
        · rintro (⟨i', g, h1, h2⟩ | ⟨g, h1, h2, h3⟩)
          · exact ⟨i', g, by omega, h2⟩
          · exact ⟨i, g, by omega, (hc g).2 ⟨by omega, h2⟩, h3⟩
        · rintro ⟨i', g, h1, h2, h3⟩
          by_cases hi' : i' = i
          · subst hi'
            obtain ⟨h4, h5⟩ := (hc g).1 h2
            exact .inr ⟨g, by omega, h5, h3⟩
          · exact .inl ⟨i', g, by omega, h2, h3⟩
    · rintro e ⟨found, s7, s8, s9, s10, hl, hf, h⟩
      refine ⟨found, s7, s8, s9, s10, by omega, fun l s => (hf l s).trans ?_, h⟩
      constructor
      · rintro ⟨i, g, h1, h2⟩; exact ⟨i, g, by omega, h2⟩
      · rintro ⟨i, g, h1, h2⟩; exact ⟨i, g, by omega, h2⟩
  rintro _ ⟨found, s7, s8, s9, s10, hl, hf, rfl⟩
  walk_at "dlt"
  refine hs_rt ⟨found, rfl, hl, fun l s => (hf l s).trans ?_⟩
  constructor
  · rintro ⟨i, g, h1, h2⟩; exact ⟨i, g, (hn2 i).2 h1, h2⟩
  · rintro ⟨i, g, h1, h2⟩; exact ⟨i, g, (hn2 i).1 h1, h2⟩
end Lw

namespace Lw
open PySem L2 DL M60
theorem flat_oD (o : Option Int) : flat (oD o) = true := by cases o <;> rfl
theorem fin_oD (o : Option Int) : fin ⟨.g, oD o⟩ = .ok ⟨.g, oD o⟩ := rfl
theorem minC_map {α : Type} {q : Kd} (f : α → Int) (xs : List α) (h : xs ≠ []) : minC [⟨q, .lst (xs.map fun x => D.int (f x))⟩] = .ok ⟨.g, .int (minOf (xs.map f))⟩ := by
  unfold minC
  have e : xs.map (fun x => D.int (f x)) = (xs.map f).map D.int := by rw [List.map_map]; rfl
  rw [e]
  simp only [intsOf_map]
  rw [if_pos]
  intro h2
  exact h (List.map_eq_nil_iff.1 h2)
theorem least_hs {d : D} {p : List Int} (hP : Pat d p) (k1 k2 k3 k4 k5 : Bool) (many f b : Int) (o : Option Int) (hm : 0 ≤ many) (h0 : 0 ≤ room f b o) (h48 : room f b o ≤ 48) :
    ∃ u, F_row_least [(k1, d), (k2, .int many), (k3, .int f), (k4, .int b), (k5, oD o)] = .ok u ∧ ∃ r, u = ⟨.g, oD r⟩ ∧ Least (Row p many f b (room f b o)) r := by
  unfold F_row_least
  apply run_hs rfl
  unfold b_row_least
  obtain ⟨_, e1, found, rfl, hl, hf⟩ := full_hs hP (k1 || flat d) true true true true many f b o hm h0 h48
  walk_at "dl"
  simp only [flat_oD, Bool.or_true]
  rw [e1]
  walk_at "dl"
  by_cases hz : found = []
  · subst hz
    walk_at "dlt"
    simp only [List.length_nil, Int.natCast_zero, if_true]
    walk_at "dlt"
    refine hs_rt ⟨none, rfl, ?_⟩
    intro m hm
    obtain ⟨i, g, h1, ⟨h2, h2'⟩, h3, h4⟩ := (row_prog hP.n0 hP.hd1 m).2 hm
    exact absurd ((hf _ _).2 ⟨i, g, h1, ⟨⟨h2, h2'⟩, h3⟩, rfl, rfl⟩) List.not_mem_nil
  · have hz2 : ¬ (found.length : Int) = 0 := by
      intro h
      exact hz (List.eq_nil_of_length_eq_zero (by omega))
    rw [if_neg hz2]
    walk_at "dl"
    rw [if_pos (Nat.lt_trans hl (by decide))]
    rw [lcO_map (g := prD) (h := fun x => D.int x.2)]
    rotate_left
    · intro x hx
      simp only [prD]
      walk_at "dl"
    walk_at "dl"
    rw [minC_map _ _ hz]
    walk_at "dl"
    obtain ⟨m1, m2⟩ := minOf_spec (ns := found.map Prod.snd) (fun h => hz (List.map_eq_nil_iff.1 h))
    refine hs_rt ⟨some _, rfl, ?_, ?_⟩
    · obtain ⟨⟨l, s⟩, h1, h2⟩ := List.mem_map.1 m1
      obtain ⟨i, g, g1, ⟨g2, g3⟩, g4, g5⟩ := (hf l s).1 h1
      exact (row_prog hP.n0 hP.hd1 _).1 ⟨i, g, g1, g2, g3, g5.trans h2⟩
    · intro m hm
      obtain ⟨i, g, h1, h2, h3, h4⟩ := (row_prog hP.n0 hP.hd1 m).2 hm
      exact m2 m (List.mem_map.2 ⟨(_, m), (hf _ _).2 ⟨i, g, h1, ⟨h2, h3⟩, rfl, h4⟩, rfl⟩)
theorem first_hs {d : D} {p : List Int} (hP : Pat d p) (k1 k3 k4 k5 : Bool) (f b : Int) (o : Option Int) (h0 : 0 ≤ room f b o) (h48 : room f b o ≤ 48) :
    ∃ u, F_row_first_stuck [(k1, d), (k3, .int f), (k4, .int b), (k5, oD o)] = .ok u ∧ ∃ r, u = ⟨.g, oD r⟩ ∧ Least (Near p f b (room f b o)) r := by
  unfold F_row_first_stuck
  apply run_hs rfl
  unfold b_row_first_stuck
  have n0 := hP.n0
  obtain ⟨_, e1, found, rfl, hl, hf⟩ := full_hs hP (k1 || flat d) true true true true (p.length + room f b o) f b o (by omega) h0 h48
  walk_at "dl"
  simp only [flat_oD, Bool.or_true]
  rw [hP.len]
  have e0 : F_dishes_together [(true, .int f), (true, .int b), (true, oD o)] = .ok ⟨.g, .int (room f b o)⟩ := F_dishes _ _ _ _ _ _
  rw [e0]
  walk_at "dl"
  simp only [flat_oD, Bool.or_true]
  rw [e1]
  walk_at "dl"
  by_cases hz : found = []
  · subst hz
    walk_at "dlt"
    simp only [List.length_nil, Int.natCast_zero, if_true]
    walk_at "dlt"
    refine hs_rt ⟨none, rfl, near_prog hP.n0 hP.hd1 none ?_⟩
    rintro m ⟨i, g, h1, h2, h3, h4⟩
    exact absurd ((hf _ _).2 ⟨i, g, ⟨h1.1, by omega⟩, ⟨h2, h3⟩, rfl, rfl⟩) List.not_mem_nil
  · have hz2 : ¬ (found.length : Int) = 0 := by
      intro h
      exact hz (List.eq_nil_of_length_eq_zero (by omega))
    rw [if_neg hz2]
    walk_at "dl"
    rw [if_pos (Nat.lt_trans hl (by decide))]
    rw [lcO_map (g := prD) (h := fun x => D.int x.1)]
    rotate_left
    · intro x hx
      simp only [prD]
      walk_at "dl"
    walk_at "dl"
    rw [minC_map _ _ hz]
    walk_at "dl"
    obtain ⟨m1, m2⟩ := minOf_spec (ns := found.map Prod.fst) (fun h => hz (List.map_eq_nil_iff.1 h))
    refine hs_rt ⟨some _, rfl, near_prog hP.n0 hP.hd1 (some _) ⟨?_, ?_⟩⟩
    · obtain ⟨⟨l, s⟩, h1, h2⟩ := List.mem_map.1 m1
      obtain ⟨i, g, g1, ⟨g2, g3⟩, g4, g5⟩ := (hf l s).1 h1
      exact ⟨i, g, ⟨g1.1, by omega⟩, g2, g3, by rw [g4]; show l + 1 = _; rw [← h2]⟩
    · rintro m ⟨i, g, h1, h2, h3, h4⟩
      have := m2 _ (List.mem_map.2 ⟨(_, _), (hf _ _).2 ⟨i, g, ⟨h1.1, by omega⟩, ⟨h2, h3⟩, rfl, rfl⟩, rfl⟩)
      dsimp only at this
      omega
end Lw

namespace Lw
open PySem L2 DL M60
theorem sum_take_arc (p : List Int) (r : Nat) (h : r ≤ p.length) : (p.take r).sum = arc (hd p) 0 r := by
  induction r with
  | zero => rfl
  | succ r ih =>
    have h1 : r < p.length := by omega
    rw [List.take_succ_eq_append_getElem h1, List.sum_append, ih (by omega)]
    show _ + (p[r] + 0) = arc (hd p) 0 r + hd p (0 + r)
    have : hd p (0 + r) = p[r] := by
      unfold hd
      rw [Nat.zero_add, Nat.mod_eq_of_lt h1]
      exact DL.getD_at h1
    rw [this]
    omega
theorem sum_arc (p : List Int) : p.sum = arc (hd p) 0 p.length := by
  rw [← sum_take_arc p p.length (Nat.le_refl _), List.take_length]
theorem tog_eq (p : List Int) (M : Nat) (h0 : 0 < p.length) : ((M / p.length : Nat) : Int) * p.sum + (p.take (M % p.length)).sum = tog p M := by
  rw [sum_arc, sum_take_arc _ _ (Nat.le_of_lt (Nat.mod_lt _ h0)), ← arc_turns]
  unfold tog
  congr 1
  rw [Nat.mul_comm]
  exact Nat.div_add_mod M p.length
theorem sum_ge {p : List Int} (hp : ∀ x ∈ p, 1 ≤ x ∧ x ≤ 4) : 0 ≤ p.sum ∧ p.sum ≤ 4 * p.length := by
  induction p with
  | nil => decide
  | cons x p ih =>
    obtain ⟨h1, h2⟩ := ih fun y hy => hp y (List.mem_cons_of_mem _ hy)
    have := hp x List.mem_cons_self
    rw [List.sum_cons, List.length_cons]
    omega
theorem together_eq {d : D} {p : List Int} (hP : Pat d p) (k1 k2 : Bool) (M : Nat) (hM : (M : Int) ≤ 10 ^ 31) : F_hands_together [(k1, d), (k2, .int M)] = .ok ⟨.g, .int (tog p M)⟩ := by
  unfold F_hands_together
  rw [runF_eq]
  unfold b_hands_together
  have n0 := hP.n0
  have n6 := hP.n6
  walk_at "dl"
  rw [hP.len]
  walk_at "dl"
  rw [if_pos (show CDiv (M : Int) p.length from ⟨by omega, by omega⟩)]
  walk_at "dl"
  have e1 : mulI ((M : Int) / p.length) p.sum = _ := mulI_200 (by
    have : (M : Int) / p.length ≤ M := Int.ediv_le_self _ (by omega)
    have : 0 ≤ (M : Int) / p.length := Int.ediv_nonneg (by omega) (by omega)
    omega) (by have := sum_ge hP.hp; omega)
  have h1 : ((M : Int) / p.length) = ((M / p.length : Nat) : Int) := (Int.natCast_ediv _ _).symm
  have h2 : ((M : Int) % p.length) = ((M % p.length : Nat) : Int) := (Int.natCast_emod _ _).symm
  have hlt : M % p.length < p.length := Nat.mod_lt _ n0
  rcases hP.sq with rfl | rfl
  · walk_at "dl"
    rw [e1, cutD_take (by rw [h2]; omega), h2, Int.toNat_natCast, ← List.map_take]
    walk_at "dl"
    rw [← tog_eq p M n0, h1]
  · walk_at "dl"
    rw [e1, h2]
    walk_at "dl"
    rw [if_pos (by rw [show HT.sIx p.length p.length (some ((M % p.length : Nat) : Int)) = min (M % p.length) p.length from HT.sIx_nat _ _ _]; omega)]
    walk_at "dlt"
    rw [cutD_take (by omega), Int.toNat_natCast, ← List.map_take]
    walk_at "dlt"
    rw [← tog_eq p M n0, h1]
theorem ring_at {d : D} {p : List Int} (hP : Pat d p) (q q' : Kd) (M j : Nat) (x : Int) (hM : 0 < M) (hx : x = j) : ixP ⟨q, d⟩ ⟨q', .int (x % (M : Int) % p.length)⟩ = .ok ⟨q.sub, .int (rh p M j)⟩ := by
  subst hx
  exact hP.mod q q' (j % M) _ (Int.natCast_emod _ _).symm
theorem starts_hs {d : D} {p : List Int} (hP : Pat d p) (k1 k2 : Bool) (M : Nat) :
    ∃ u, F_arc_starts [(k1, d), (k2, .int M)] = .ok u ∧ ∃ st : List Nat, u = ⟨.o, .lst (st.map fun (x : Nat) => .int (x : Int))⟩ ∧ (∀ x ∈ st, x < M) ∧
      if M ≤ 80 then ∀ x, x < M → x ∈ st else ∀ x, (x ∈ st ↔ x < p.length ∨ (M - p.length ≤ x ∧ x < M)) := by
  unfold F_arc_starts
  apply run_hs rfl
  unfold b_arc_starts
  have n0 := hP.n0
  have n6 := hP.n6
  have hr0 (n : Nat) : rngD 0 n = (List.range n).map fun (x : Nat) => D.int (x : Int) := by
    unfold rngD
    apply List.map_congr_left
    intro i _
    rw [Int.zero_add]
  walk_at "dlt"
  by_cases h80 : M ≤ 80
  · rw [if_pos (show (M : Int) ≤ 80 by omega)]
    walk_at "dlt"
    rw [if_pos (by omega)]
    rw [hr0]
    walk_at "dlt"
    refine hs_rt ⟨List.range M, rfl, fun x hx => List.mem_range.1 hx, ?_⟩
    rw [if_pos h80]
    exact fun x hx => List.mem_range.2 hx
  · rw [if_neg (show ¬ (M : Int) ≤ 80 by omega)]
    walk_at "dlt"
    rw [hP.len]
    walk_at "dlt"
    have ha : (2 : Nat) ^ 24 = 16777216 := by decide
    rw [if_pos (show (p.length : Nat) ≤ 16777216 by omega), if_pos (show ((M : Int) - (M - p.length)).toNat ≤ 16777216 by omega)]
    walk_at "dlt"
    rw [rngD_len, rngD_len, if_pos (Nat.le_trans (show p.length + ((M : Int) - (M - p.length)).toNat ≤ 4000000 by omega) (by decide))]
    walk_at "dlt"
    have hr1 : rngD ((M : Int) - p.length) ((M : Int) - (M - p.length)).toNat = ((List.range p.length).map fun x => M - p.length + x).map fun (x : Nat) => D.int (x : Int) := by
      unfold rngD
      rw [List.map_map, show ((M : Int) - (M - p.length)).toNat = p.length by omega]
      apply List.map_congr_left
      intro i _
      show D.int _ = D.int _
      congr 1
      show (M : Int) - p.length + (i : Int) = ((M - p.length + i : Nat) : Int)
      omega
    rw [hr0, hr1, ← List.map_append]
    refine hs_rt ⟨_, rfl, ?_, ?_⟩
    · intro x hx
      rcases List.mem_append.1 hx with hx | hx
      · have := List.mem_range.1 hx; omega
      · obtain ⟨y, hy, rfl⟩ := List.mem_map.1 hx
        have := List.mem_range.1 hy
        omega
    · rw [if_neg h80]
      intro x
      rw [List.mem_append, List.mem_range, List.mem_map]
      constructor
      · rintro (h | ⟨y, hy, rfl⟩)
        · exact .inl h
        · have := List.mem_range.1 hy
          exact .inr ⟨by omega, by omega⟩
      · rintro (h | h)
        · exact .inl h
        · exact .inr ⟨x - (M - p.length), List.mem_range.2 (by omega), by omega⟩
end Lw

namespace Lw
open PySem L2 DL M60
theorem short_hs {d : D} {p : List Int} (hP : Pat d p) (k1 k2 k3 k4 : Bool) (M steps : Nat) (L : Int) (hM : (M : Int) ≤ 10 ^ 31) (hs1 : 1 ≤ steps) (hs2 : steps < M) (hL0 : 0 ≤ L) (hL : L ≤ 24) :
    ∃ u, F_has_short_arc [(k1, d), (k2, .int M), (k3, .int steps), (k4, .int L)] = .ok u ∧ ∃ c : Bool, u = ⟨.g, .bl c⟩ ∧ (c = true → Bad p M steps L) ∧ ((M ≤ 80 ∨ arc (hd p) 0 p.length ≤ L * p.length) → Bad p M steps L → c = true) := by
  unfold F_has_short_arc
  apply run_hs rfl
  unfold b_has_short_arc
  have n0 := hP.n0
  have n6 := hP.n6
  obtain ⟨lg, hlg⟩ : ∃ lg : Nat, lg = if 80 < M then min (M - steps) (2 * p.length) else M - steps := ⟨_, rfl⟩
  have hlg1 : 1 ≤ lg ∧ lg ≤ 80 ∧ lg + steps ≤ M := by rw [hlg]; split <;> omega
  have e1 : mulI 2 p.length = _ := mulI_200 (by decide) (by omega)
  walk_at "dl"
  refine hs_bind (fun e => e = [Sl.vl k1 d, Sl.vl k2 (.int M), Sl.vl k3 (.int steps), Sl.vl k4 (.int L), Sl.vl true (.int lg), Sl.no, Sl.no, Sl.no, Sl.no]) ?_ ?_
  · split
    · rename_i hc
      rw [hP.len]
      walk_at "dl"
      rw [e1]
      walk_at "dl"
      have hx : (if 2 * (p.length : Int) < (M : Int) - steps then 2 * (p.length : Int) else (M : Int) - steps) = lg := by
        have h80 : 80 < M := by omega
        rw [if_pos h80] at hlg
        split <;> omega
      rw [hx]
      exact hs_nx rfl
    · rename_i hc
      have hx : (M : Int) - steps = lg := by
        have h80 : ¬ 80 < M := by omega
        rw [if_neg h80] at hlg
        omega
      rw [hx]
      exact hs_nx rfl
  rintro _ rfl
  · obtain ⟨_, e2, st, rfl, st1, st2⟩ := starts_hs hP (k1 || flat d) true M
    walk_at "dl"
    rw [e2]
    walk_at "dl"
    refine hs_bind (fun e => (∀ x ∈ st, ∀ k, k < lg → ¬ Sh p M steps L x (k + 1))) ?_ ?_
    · refine hs_forL (fun (x : Nat) => .int (x : Int)) st (fun j e => (∀ i (h : i < st.length), i < j → ∀ k, k < lg → ¬ Sh p M steps L st[i] (k + 1)) ∧ ∃ s5 s6 s7 s8, e = [Sl.vl k1 d, Sl.vl k2 (.int M), Sl.vl k3 (.int steps), Sl.vl k4 (.int L), Sl.vl true (.int lg), s5, s6, s7, s8]) ?_ ?_ ?_
      · exact ⟨fun i h h' => absurd h' (Nat.not_lt_zero i), _, _, _, _, rfl⟩
      · rintro j _ hj ⟨hn, s5, s6, s7, s8, rfl⟩
        have hx : st[j] < M := st1 _ (List.getElem_mem _)
        generalize hxx : st[j] = x at hx
        walk_at "dl"
        rw [if_pos (rg_in (by omega) (by omega))]
        refine hs_forR (fun k e => (∀ k', k' < k → ¬ Sh p M steps L x (k' + 1)) ∧ ∃ s7 s8, e = [Sl.vl k1 d, Sl.vl k2 (.int M), Sl.vl k3 (.int steps), Sl.vl k4 (.int L), Sl.vl true (.int lg), Sl.vl true (.int x), Sl.vl true (.int (arc (rh p M) x k)), s7, s8]) ?_ ?_ ?_
        · exact ⟨fun k' h => absurd h (Nat.not_lt_zero k'), _, _, rfl⟩
        · rintro k _ hk ⟨hn2, s7, s8, rfl⟩
          have hk : k < lg := by omega
          have e3 (q q' : Kd) : ixP ⟨q, d⟩ ⟨q', .int (((x : Int) + (1 + k) - 1) % M % p.length)⟩ = _ := ring_at hP q q' M (x + k) _ (by omega) (by omega)
          have e4 : mulI L (1 + (k : Int) + steps - 1) = _ := mulI_200 (by omega) (by omega)
          have hM0 : (0 : Int) < M := by omega
          have hp0 : (0 : Int) < p.length := by omega
          walk_at "dl"
          rw [if_pos hM0]
          walk_at "dlt"
          rw [hP.len]
          walk_at "dlt"
          rw [if_pos hp0]
          walk_at "dlt"
          rw [e3]
          walk_at "dlt"
          rw [e4]
          walk_at "dlt"
          have e5 : arc (rh p M) x k + rh p M (x + k) = arc (rh p M) x (k + 1) := rfl
          rw [e5]
          have e6 : (1 + (k : Int) + steps - 1) = ((k + 1 : Nat) : Int) + steps - 1 := by omega
          rw [e6]
          split
          · rename_i hc
            refine hs_rt ⟨true, rfl, fun _ => ⟨x, k + 1, hx, by omega, by omega, hc⟩, fun _ _ => rfl⟩
          · rename_i hc
            refine hs_nx ⟨fun k' hk' => ?_, _, _, rfl⟩
            by_cases h : k' = k
            · subst h; exact hc
            · exact hn2 k' (by omega)
        · rintro e ⟨hn2, s7, s8, rfl⟩
          refine ⟨fun i h hi k hk => ?_, _, _, _, _, rfl⟩
          by_cases h2 : i = j
          · subst h2
            rw [hxx]
            exact hn2 k (by omega)
          · exact hn i h (by omega) k hk
      · rintro e ⟨hn, _⟩ x hx k hk
        obtain ⟨i, hi, rfl⟩ := List.getElem_of_mem hx
        exact hn i hi hi k hk
    intro e hn
    walk_at "dlt"
    refine hs_rt ⟨false, rfl, (fun h => absurd h (by decide)), fun hS hb => ?_⟩
    exfalso
    by_cases h80 : M ≤ 80
    · rw [if_pos h80] at st2
      rw [if_neg (by omega)] at hlg
      obtain ⟨a, n, h1, h2, h3, h4⟩ := hb
      exact hn a (st2 a h1) (n - 1) (by omega) (by rw [Nat.sub_add_cancel h2]; exact h4)
    · rw [if_neg h80] at st2
      rw [if_pos (by omega)] at hlg
      obtain ⟨a, n, h1, h2, h3, h4, h5⟩ := (bad_prog (hS.resolve_left h80) n0 (by omega) hs1).1 hb
      exact hn a ((st2 a).2 h1) (n - 1) (by omega) (by rw [Nat.sub_add_cancel h2]; exact h5)
end Lw

namespace Lw
open PySem L2 DL M60
theorem ring_hs {d : D} {p : List Int} (hP : Pat d p) (k1 k2 k3 k4 : Bool) (M steps : Nat) (L : Int) (hM : (M : Int) ≤ 10 ^ 31) (hs1 : 1 ≤ steps) (hs2 : steps < M) (hL0 : 0 ≤ L) (hL : L ≤ 24) :
    ∃ u, F_ring_least [(k1, d), (k2, .int M), (k3, .int steps), (k4, .int L)] = .ok u ∧ ∃ r, u = ⟨.g, oD r⟩ ∧ Ring p M steps L r := by
  unfold F_ring_least
  apply run_hs rfl
  unfold b_ring_least
  obtain ⟨_, e2, c, rfl, c1, c2⟩ := short_hs hP (k1 || flat d) true true true M steps L hM hs1 hs2 hL0 hL
  have e1 := together_eq hP (k1 || flat d) true M hM
  have e3 : mulI L M = _ := mulI_200 (by omega) (by omega)
  walk_at "dl"
  rw [e1]
  walk_at "dl"
  rw [e3]
  walk_at "dl"
  by_cases h : L * M < tog p M
  · rw [if_pos h]
    exact hs_rt ⟨none, rfl, .inl ⟨rfl, .inl h⟩⟩
  · rw [if_neg h]
    rw [e2]
    walk_at "dl"
    cases c with
    | true =>
      walk_at "dlt"
      exact hs_rt ⟨none, rfl, .inl ⟨rfl, .inr (c1 rfl)⟩⟩
    | false =>
      walk_at "dlt"
      refine hs_rt ⟨some _, rfl, .inr ⟨rfl, by omega, fun hb => ?_⟩⟩
      have := c2 (by
        by_cases h80 : M ≤ 80
        · exact .inl h80
        · exact .inr (turn_le (M := M) hP.n0 hP.n6 (fun i => ⟨hP.hd1 i, hP.hd4 i⟩) (by omega) hL0 (by omega))) hb
      cases this
theorem modA {p : List Int} (h0 : 0 < p.length) (i : Nat) (x : Int) (hx : x = i) : atD (p.map D.int) (x % p.length) = .ok (.int (hd p i)) := by
  subst hx
  rw [atD_map (Int.emod_nonneg _ (by omega)) (Int.emod_lt_of_pos _ (by omega))]
  have : ((i : Int) % p.length).toNat = i % p.length := by
    rw [← Int.natCast_emod, Int.toNat_natCast]
  rw [this]
  rfl
theorem ring_atA {p : List Int} (h0 : 0 < p.length) (M j : Nat) (x : Int) (hx : x = j) : atD (p.map D.int) (x % (M : Int) % p.length) = .ok (.int (rh p M j)) := by
  subst hx
  exact modA h0 (j % M) _ (Int.natCast_emod _ _).symm
theorem due_hs {p : List Int} (hP : Pat (.lst (p.map D.int)) p) (k1 k2 k3 k4 : Bool) (M steps : Nat) (L : Int) (hM : (M : Int) ≤ 10 ^ 31) (hs1 : 1 ≤ steps) (hs2 : steps < M) (hL0 : 0 ≤ L) (hL : L ≤ 24) :
    ∃ u, F_law_ring_due [(k1, .lst (p.map D.int)), (k2, .int M), (k3, .int steps), (k4, .int L)] = .ok u ∧ ∃ r, u = ⟨.g, oD r⟩ ∧ Ring p M steps L r := by
  unfold F_law_ring_due
  apply run_hs rfl
  unfold b_law_ring_due
  have n0 := hP.n0
  have n6 := hP.n6
  have g0 : (0 : Int) < p.length := by omega
  have e0 : divI M p.length = _ := divI_64 g0 (by omega)
  have h1 : ((M : Int) / p.length) = ((M / p.length : Nat) : Int) := (Int.natCast_ediv _ _).symm
  have hd1 : M / p.length ≤ M := Nat.div_le_self _ _
  have hdm : p.length * (M / p.length) + M % p.length = M := Nat.div_add_mod M p.length
  have htog := tog_eq p M n0
  have hmod : M % p.length < p.length := Nat.mod_lt _ n0
  have hdl : ((M / p.length : Nat) : Int) * p.length + ((M % p.length : Nat) : Int) = M := by
    rw [Int.mul_comm, ← Int.natCast_mul]
    omega
  generalize M / p.length = w at *
  generalize M % p.length = rr at *
  have e1 : mulI (w : Int) p.sum = _ := mulI_200 (by omega) (by have := sum_ge hP.hp; omega)
  have e2 : mulI (w : Int) p.length = _ := mulI_200 (by omega) (by omega)
  have e3 : mulI L M = _ := mulI_200 (by omega) (by omega)
  have e4 : mulI L ((steps : Int) - 1) = _ := mulI_200 (by omega) (by omega)
  have h2 : (M : Int) - (w : Int) * p.length = (rr : Int) := by omega
  walk_at "dlt"
  rw [e0, h1]
  walk_at "dlt"
  rw [e1, e2]
  walk_at "dlt"
  rw [h2, cutD_take (by omega), Int.toNat_natCast, ← List.map_take]
  walk_at "dlt"
  rw [htog]
  rw [e3]
  walk_at "dlt"
  by_cases h : L * M < tog p M
  · rw [if_pos h]
    walk_at "dlt"
    exact hs_rt ⟨none, rfl, .inl ⟨rfl, .inl h⟩⟩
  rw [if_neg h]
  walk_at "dlt"
  have hd14 : ∀ i, 1 ≤ hd p i ∧ hd p i ≤ 4 := fun i => ⟨hP.hd1 i, hP.hd4 i⟩
  have hLt : L = 0 ∨ 1 ≤ L := by omega
  have ht1 : 1 ≤ tog p M := by
    have := arc_ge hP.hd1 0 M
    unfold tog
    omega
  have hL1 : 1 ≤ L := by
    rcases hLt with h0 | h0
    · rw [h0, Int.zero_mul] at h; omega
    · exact h0
  refine hs_bind (fun e => ∃ (lg P : Nat) (k8 : Bool), 1 ≤ P ∧ P ≤ 66 ∧ lg ≤ 66 ∧ (Bad p M steps L ↔ ∃ first len, first < P ∧ 1 ≤ len ∧ len ≤ lg ∧ len ≤ P ∧ Sh p P steps L first len) ∧
    e = [Sl.vl k1 (D.lst (List.map D.int p)), Sl.vl k2 (D.int M), Sl.vl k3 (D.int steps), Sl.vl k4 (D.int L), Sl.vl true (D.int p.length), Sl.vl true (D.int w), Sl.vl true (D.int (tog p M)), Sl.vl true (D.int lg), Sl.vl k8 (D.int P), Sl.no, Sl.no, Sl.no]) ?_ ?_
  · by_cases h66 : 66 < M
    · rw [if_pos (show 66 < (M : Int) by omega)]
      have hS := turn_le (M := M) n0 n6 hd14 h66 hL0 (by omega)
      rw [e4]
      walk_at "dlt"
      by_cases h36 : 36 ≤ L * ((steps : Int) - 1)
      · rw [if_pos h36]
        walk_at "dlt"
        exact hs_rt ⟨some _, rfl, .inr ⟨rfl, by omega, bad_far hS n0 n6 hd14 h66 hL1 h36 hs1⟩⟩
      · rw [if_neg h36]
        walk_at "dlt"
        rw [if_pos g0]
        walk_at "dlt"
        have hst : steps ≤ 36 := by
          have : 1 * ((steps : Int) - 1) ≤ L * ((steps : Int) - 1) := Int.mul_le_mul_of_nonneg_right hL1 (by omega)
          omega
        have hPe : 60 + ((M : Int) - 60) % p.length = ((60 + (M - 60) % p.length : Nat) : Int) := by
          rw [Int.natCast_add, Int.natCast_emod, show ((M - 60 : Nat) : Int) = (M : Int) - 60 by omega]
          rfl
        have hm6 : (M - 60) % p.length < p.length := Nat.mod_lt _ n0
        rw [hPe]
        refine hs_nx ⟨24, 60 + (M - 60) % p.length, _, by omega, by omega, by omega, ?_, rfl⟩
        rw [bad_law hS n0 n6 h66 hs1 (by omega) rfl]
        constructor
        · rintro ⟨a, n, x1, x2, x3, x4⟩; exact ⟨a, n, x1, x2, x3, by omega, x4⟩
        · rintro ⟨a, n, x1, x2, x3, _, x4⟩; exact ⟨a, n, x1, x2, x3, x4⟩
    · rw [if_neg (show ¬ 66 < (M : Int) by omega)]
      rw [show (M : Int) - steps = ((M - steps : Nat) : Int) by omega]
      refine hs_nx ⟨M - steps, M, _, by omega, by omega, by omega, ?_, rfl⟩
      constructor
      · rintro ⟨a, n, x1, x2, x3, x4⟩; exact ⟨a, n, x1, x2, by omega, by omega, x4⟩
      · rintro ⟨a, n, x1, x2, x3, _, x4⟩; exact ⟨a, n, x1, x2, by omega, x4⟩
  rintro _ ⟨lg, P, k8, p1, p66, l66, hb, rfl⟩
  walk_at "dlt"
  rw [if_pos (rg_in (by omega) (by omega))]
  refine hs_bind (fun e => (∃ s9 s10 s11, e = [Sl.vl k1 (D.lst (List.map D.int p)), Sl.vl k2 (D.int M), Sl.vl k3 (D.int steps), Sl.vl k4 (D.int L), Sl.vl true (D.int p.length), Sl.vl true (D.int w), Sl.vl true (D.int (tog p M)), Sl.vl true (D.int lg), Sl.vl k8 (D.int P), s9, s10, s11]) ∧ ∀ x, x < P → ∀ k, k < lg → k < P → ¬ Sh p P steps L x (k + 1)) ?_ ?_
  · refine hs_forR (fun j e => (∀ x, x < j → ∀ k, k < lg → k < P → ¬ Sh p P steps L x (k + 1)) ∧ ∃ s9 s10 s11, e = [Sl.vl k1 (D.lst (List.map D.int p)), Sl.vl k2 (D.int M), Sl.vl k3 (D.int steps), Sl.vl k4 (D.int L), Sl.vl true (D.int p.length), Sl.vl true (D.int w), Sl.vl true (D.int (tog p M)), Sl.vl true (D.int lg), Sl.vl k8 (D.int P), s9, s10, s11]) ?_ ?_ ?_
    · exact ⟨fun i h' => absurd h' (Nat.not_lt_zero i), _, _, _, rfl⟩
    · rintro x _ hx ⟨hn, s9, s10, s11, rfl⟩
      have hx : x < P := hx
      walk_at "dlt"
      generalize hmn : (if (P : Int) < lg then (P : Int) else lg) = mn
      have hmn2 : 0 ≤ mn ∧ mn ≤ 66 ∧ ∀ k : Nat, (k : Int) < mn ↔ k < lg ∧ k < P := by
        rw [← hmn]
        refine ⟨?_, ?_, fun k => ?_⟩ <;> split <;> omega
      rw [if_pos (rg_in (by omega) (by omega))]
      refine hs_forR (fun k e => (∀ k', k' < k → ¬ Sh p P steps L x (k' + 1)) ∧ ∃ s11, e = [Sl.vl k1 (D.lst (List.map D.int p)), Sl.vl k2 (D.int M), Sl.vl k3 (D.int steps), Sl.vl k4 (D.int L), Sl.vl true (D.int p.length), Sl.vl true (D.int w), Sl.vl true (D.int (tog p M)), Sl.vl true (D.int lg), Sl.vl k8 (D.int P), Sl.vl true (.int x), Sl.vl true (.int (arc (rh p P) x k)), s11]) ?_ ?_ ?_
      · exact ⟨fun k' h => absurd h (Nat.not_lt_zero k'), _, rfl⟩
      · rintro k _ hk ⟨hn2, s11, rfl⟩
        have hk : (k : Int) < mn := by omega
        have e5 : atD (p.map D.int) (((x : Int) + (1 + k) - 1) % P % p.length) = _ := ring_atA n0 P (x + k) _ (by omega)
        have e6 : mulI L (1 + (k : Int) + steps - 1) = _ := mulI_200 (by omega) (by omega)
        have hP0 : (0 : Int) < P := by omega
        walk_at "dlt"
        rw [if_pos hP0]
        walk_at "dlt"
        rw [if_pos g0]
        walk_at "dlt"
        rw [e5]
        walk_at "dlt"
        rw [e6]
        walk_at "dlt"
        have e7 : arc (rh p P) x k + rh p P (x + k) = arc (rh p P) x (k + 1) := rfl
        rw [e7]
        have e8 : (1 + (k : Int) + steps - 1) = ((k + 1 : Nat) : Int) + steps - 1 := by omega
        rw [e8]
        split
        · rename_i hc
          have hkk := (hmn2.2.2 k).1 hk
          walk_at "dlt"
          refine hs_rt ⟨none, rfl, .inl ⟨rfl, .inr (hb.2 ⟨x, k + 1, hx, by omega, by omega, by omega, hc⟩)⟩⟩
        · rename_i hc
          refine hs_nx ⟨fun k' hk' => ?_, _, rfl⟩
          by_cases h : k' = k
          · subst h; exact hc
          · exact hn2 k' (by omega)
      · rintro e ⟨hn2, s11, rfl⟩
        refine ⟨fun x' h k hk hk2 => ?_, _, _, _, rfl⟩
        by_cases h2 : x' = x
        · subst h2
          exact hn2 k (by have := (hmn2.2.2 k).2 ⟨hk, hk2⟩; omega)
        · exact hn x' (by omega) k hk hk2
    · rintro e ⟨hn, h⟩
      exact ⟨h, hn⟩
  rintro _ ⟨⟨s9, s10, s11, rfl⟩, hn⟩
  walk_at "dlt"
  refine hs_rt ⟨some _, rfl, .inr ⟨rfl, by omega, fun hB => ?_⟩⟩
  obtain ⟨a, n, x1, x2, x3, x4, x5⟩ := hb.1 hB
  exact hn a x1 (n - 1) (by omega) (by omega) (by rw [Nat.sub_add_cancel x2]; exact x5)
end Lw

namespace Lw
open PySem L2 DL M60
theorem oD_none : oD none = .non := rfl
theorem oD_some {x : Int} : oD (some x) = .int x := rfl
def Dn (last k i g : Nat) : Prop := i + 1 + g < last ∨ (i + 1 + g = last ∧ g < k)
def LsP (p : List Int) (f b most : Int) (D : Nat → Nat → Prop) (m : Int) : Prop := ∃ i g, D i g ∧ M60.St p f b most i g ∧ arc (hd p) i (g + 2) = m
def LsN (p : List Int) (f b most : Int) (D : Nat → Nat → Prop) (m : Int) : Prop := ∃ i g, D i g ∧ M60.St p f b most i g ∧ ((i + 1 + g : Nat) : Int) + 1 = m
theorem lsP_congr {p : List Int} {f b most : Int} {D D' : Nat → Nat → Prop} (h : ∀ i g, M60.St p f b most i g → (D i g ↔ D' i g)) (m : Int) : LsP p f b most D m ↔ LsP p f b most D' m := by
  constructor
  · rintro ⟨i, g, h1, h2, h3⟩; exact ⟨i, g, (h i g h2).1 h1, h2, h3⟩
  · rintro ⟨i, g, h1, h2, h3⟩; exact ⟨i, g, (h i g h2).2 h1, h2, h3⟩
theorem lsN_congr {p : List Int} {f b most : Int} {D D' : Nat → Nat → Prop} (h : ∀ i g, M60.St p f b most i g → (D i g ↔ D' i g)) (m : Int) : LsN p f b most D m ↔ LsN p f b most D' m := by
  constructor
  · rintro ⟨i, g, h1, h2, h3⟩; exact ⟨i, g, (h i g h2).1 h1, h2, h3⟩
  · rintro ⟨i, g, h1, h2, h3⟩; exact ⟨i, g, (h i g h2).2 h1, h2, h3⟩
theorem dn_succ {last k i g : Nat} : Dn last (k + 1) i g ↔ Dn last k i g ∨ (i + 1 + g = last ∧ g = k) := by
  unfold Dn
  omega
theorem stretches_hs {p : List Int} (hP : Pat (.lst (p.map D.int)) p) (k1 k2 k3 k4 k5 : Bool) (many f b : Int) (o : Option Int) (hm : 2 ≤ many) (h48 : room f b o ≤ 48) :
    ∃ u, F_law_stretches [(k1, .lst (p.map D.int)), (k2, .int many), (k3, .int f), (k4, .int b), (k5, oD o)] = .ok u ∧ ∃ l n, u = ⟨.g, .tup [oD l, oD n]⟩ ∧ Least (Row p many f b (room f b o)) l ∧ (54 ≤ many → Least (Near p f b (room f b o)) n) := by
  unfold F_law_stretches
  apply run_hs rfl
  unfold b_law_stretches
  have n0 := hP.n0
  have n6 := hP.n6
  have g0 : (0 : Int) < p.length := by omega
  obtain ⟨n, hn⟩ : ∃ n : Nat, (n : Int) = if 54 < many then 54 else many := ⟨(if 54 < many then 54 else many).toNat, by split <;> omega⟩
  have hn2 : 2 ≤ n ∧ n ≤ 54 := by split at hn <;> omega
  walk_at "dl"
  refine hs_bind (fun e => ∃ k6, e = [Sl.vl k1 (.lst (p.map D.int)), Sl.vl k2 (.int many), Sl.vl k3 (.int f), Sl.vl k4 (.int b), Sl.vl k5 (oD o), Sl.vl k6 (.int (room f b o)), Sl.no, Sl.no, Sl.no, Sl.no, Sl.no, Sl.no, Sl.no]) ?_ ?_
  · cases o with
    | none =>
      simp only [oD_none, oD_some]
      walk_at "dl"
      exact hs_nx ⟨_, rfl⟩
    | some j =>
      simp only [oD_none, oD_some]
      walk_at "dl"
      split
      · rename_i hc
        have : room f b (some j) = j := by unfold room; dsimp only; split <;> omega
        rw [this]
        exact hs_nx ⟨_, rfl⟩
      · rename_i hc
        have : room f b (some j) = f + b := by unfold room; dsimp only; split <;> omega
        rw [this]
        exact hs_nx ⟨_, rfl⟩
  rintro _ ⟨k6, rfl⟩
  generalize room f b o = most at *
  walk_at "dl"
  have hn3 : (if (54 : Int) < many then 54 else many) = n := hn.symm
  rw [hn3]
  rw [if_pos (rg_in (by omega) (by omega))]
  walk_at "dlt"
  rw [rngD_len, if_pos (Nat.lt_trans (show n < 4000000 by omega) (by decide))]
  rw [lcO_rng (h := fun k => D.int (hd p k))]
  rotate_left
  · intro k hk
    walk_at "dl"
    rw [if_pos g0]
    walk_at "dlt"
    rw [modA n0 k _ rfl]
    walk_at "dlt"
  have eh : (List.range n).map (fun k => D.int (hd p k)) = ((List.range n).map (hd p)).map D.int := by rw [List.map_map]; rfl
  rw [eh]
  have hh (x : Int) (i : Nat) (h : x = i) (h2 : i < n) : atD (((List.range n).map (hd p)).map D.int) x = .ok (.int (hd p i)) := by
    subst h
    rw [atD_map (by omega) (by rw [List.length_map, List.length_range]; omega), Int.toNat_natCast, DL.getD_at (by rw [List.length_map, List.length_range]; omega), List.getElem_map, List.getElem_range]
  have hlen : ((List.range n).map (hd p)).length = n := by rw [List.length_map, List.length_range]
  generalize (List.range n).map (hd p) = hs at *
  walk_at "dl"
  rw [hlen]
  rw [if_pos (rg_in (by omega) (by omega))]
  refine hs_bind (fun e => ∃ l nn s6 s10 s11 s12, Least (LsP p f b most (Dn n 0)) l ∧ Least (LsN p f b most (Dn n 0)) nn ∧ e = [Sl.vl k1 (.lst (p.map D.int)), Sl.vl k2 (.int many), Sl.vl k3 (.int f), Sl.vl k4 (.int b), Sl.vl k5 (oD o), Sl.vl k6 (.int most), s6, Sl.ow (hs.map D.int), Sl.vl true (oD l), Sl.vl true (oD nn), s10, s11, s12]) ?_ ?_
  · refine hs_forR (fun j e => ∃ l nn s6 s10 s11 s12, Least (LsP p f b most (Dn (1 + j) 0)) l ∧ Least (LsN p f b most (Dn (1 + j) 0)) nn ∧ e = [Sl.vl k1 (.lst (p.map D.int)), Sl.vl k2 (.int many), Sl.vl k3 (.int f), Sl.vl k4 (.int b), Sl.vl k5 (oD o), Sl.vl k6 (.int most), s6, Sl.ow (hs.map D.int), Sl.vl true (oD l), Sl.vl true (oD nn), s10, s11, s12]) ?_ ?_ ?_
    · refine ⟨none, none, _, _, _, _, ?_, ?_, rfl⟩
      · rintro m ⟨i, g, h, _⟩
        unfold Dn at h
        omega
      · rintro m ⟨i, g, h, _⟩
        unfold Dn at h
        omega
    · rintro j _ hj ⟨l, nn, s6, s10, s11, s12, hl, hnn, rfl⟩
      have hj : 1 + j < n := by omega
      have e1 : atD (hs.map D.int) (1 + (j : Int)) = _ := hh _ (1 + j) (by omega) hj
      walk_at "dl"
      rw [e1]
      walk_at "dl"
      rw [if_pos (rg_in (by omega) (by omega))]
      refine hs_forR (fun k e => ∃ l nn s6 s12 k11, Least (LsP p f b most (Dn (1 + j) k)) l ∧ Least (LsN p f b most (Dn (1 + j) k)) nn ∧ e = [Sl.vl k1 (.lst (p.map D.int)), Sl.vl k2 (.int many), Sl.vl k3 (.int f), Sl.vl k4 (.int b), Sl.vl k5 (oD o), Sl.vl k6 (.int most), s6, Sl.ow (hs.map D.int), Sl.vl true (oD l), Sl.vl true (oD nn), Sl.vl true (.int (1 + j)), Sl.vl k11 (.int (arc (hd p) (1 + j - k) (k + 1))), s12]) ?_ ?_ ?_
      · exact ⟨l, nn, _, _, _, hl, hnn, by rw [arc_one]; rfl⟩
      · rintro k _ hk ⟨l, nn, s6, s12, k11, hl, hnn, rfl⟩
        have hk : k < 1 + j := by omega
        obtain ⟨i, hi⟩ : ∃ i, i + 1 + k = 1 + j := ⟨j - k, by omega⟩
        have e2 : atD (hs.map D.int) (1 + (j : Int) - (1 + k)) = _ := hh _ i (by omega) (by omega)
        have ea : arc (hd p) (1 + j - k) (k + 1) + hd p i = arc (hd p) i (k + 2) := by
          rw [show 1 + j - k = i + 1 by omega]
          have := arc_left (hd p) i (k + 1)
          show _ = arc (hd p) i (k + 1 + 1)
          omega
        walk_at "dl"
        rw [e2]
        walk_at "dl"
        rw [ea]
        have ei : arc (hd p) (1 + j - (k + 1)) (k + 1 + 1) = arc (hd p) i (k + 2) := by rw [show 1 + j - (k + 1) = i by omega]
        rw [ei]
        by_cases hc : most < arc (hd p) i (k + 2)
        · rw [if_pos hc]
          walk_at "dlt"
          have hD : ∀ i' g', M60.St p f b most i' g' → (Dn (1 + j) k i' g' ↔ Dn (1 + (j + 1)) 0 i' g') := by
            intro i' g' hS
            unfold Dn
            constructor
            · intro h; omega
            · intro h
              by_cases h2 : i' + 1 + g' = 1 + j ∧ k ≤ g'
              · exfalso
                have h3 : arc (hd p) i' (g' + 2) = arc (hd p) i' (i - i') + arc (hd p) i (k + 2) := by
                  rw [show g' + 2 = (i - i') + (k + 2) by omega, arc_add, show i' + (i - i') = i by omega]
                have h4 := arc_ge hP.hd1 i' (i - i')
                have h5 := hS.2.2
                omega
              · omega
          exact hs_bk ⟨l, nn, _, _, _, _, hl.congr (lsP_congr hD), hnn.congr (lsN_congr hD), rfl⟩
        · rw [if_neg hc]
          walk_at "dlt"
          rw [e2]
          walk_at "dlt"
          rw [e1]
          walk_at "dlt"
          have hno : ¬ M60.St p f b most i k → ∀ i' g', M60.St p f b most i' g' → (Dn (1 + j) k i' g' ↔ Dn (1 + j) (k + 1) i' g') := by
            intro hn' i' g' hS
            rw [dn_succ]
            constructor
            · exact .inl
            · rintro (h | ⟨h1, h2⟩)
              · exact h
              · exfalso
                have h3 : i' = i := by omega
                rw [h3, h2] at hS
                exact hn' hS
          split
          · rename_i c1
            split
            · rename_i c2
              have hS : M60.St p f b most i k := ⟨c1, by rw [hi]; exact c2, by omega⟩
              have eP : ∀ m, LsP p f b most (Dn (1 + j) (k + 1)) m ↔ LsP p f b most (Dn (1 + j) k) m ∨ m = arc (hd p) i (k + 2) := by
                intro m
                constructor
                · rintro ⟨i', g', h1, h2, h3⟩
                  rcases dn_succ.1 h1 with h | ⟨h4, h5⟩
                  · exact .inl ⟨i', g', h, h2, h3⟩
                  · have h6 : i' = i := by omega
                    rw [h6, h5] at h3
                    exact .inr h3.symm
                · rintro (⟨i', g', h1, h2, h3⟩ | h)
                  · exact ⟨i', g', dn_succ.2 (.inl h1), h2, h3⟩
                  · exact ⟨i, k, dn_succ.2 (.inr ⟨hi, rfl⟩), hS, h.symm⟩
              have eN : ∀ m, LsN p f b most (Dn (1 + j) (k + 1)) m ↔ LsN p f b most (Dn (1 + j) k) m ∨ m = 1 + (j : Int) + 1 := by
                intro m
                constructor
                · rintro ⟨i', g', h1, h2, h3⟩
                  rcases dn_succ.1 h1 with h | ⟨h4, h5⟩
                  · exact .inl ⟨i', g', h, h2, h3⟩
                  · right; omega
                · rintro (⟨i', g', h1, h2, h3⟩ | h)
                  · exact ⟨i', g', dn_succ.2 (.inl h1), h2, h3⟩
                  · exact ⟨i, k, dn_succ.2 (.inr ⟨hi, rfl⟩), hS, by omega⟩
              have qP := hl.add_new eP
              have qN := hnn.add_new eN
              have qN2 : ∀ y, nn = some y → Least (LsN p f b most (Dn (1 + j) (k + 1))) (some y) := by
                intro y hy
                refine (qN.2 y hy).2 ?_
                rw [hy] at hnn
                obtain ⟨i', g', h1, h2, h3⟩ := hnn.1
                unfold Dn at h1
                omega
              refine hs_bind (fun e => ∃ l', Least (LsP p f b most (Dn (1 + j) (k + 1))) l' ∧ e = [Sl.vl k1 (D.lst (List.map D.int p)), Sl.vl k2 (D.int many), Sl.vl k3 (D.int f), Sl.vl k4 (D.int b), Sl.vl k5 (oD o), Sl.vl k6 (D.int most), s6, Sl.ow (List.map D.int hs), Sl.vl true (oD l'), Sl.vl true (oD nn), Sl.vl true (D.int (1 + j)), Sl.vl true (D.int (arc (hd p) i (k + 2))), Sl.vl true (D.int (1 + k))]) ?_ ?_
              · cases l with
                | none =>
                  simp only [oD_none, oD_some]
                  walk_at "dlt"
                  exact hs_nx ⟨some _, qP.1 rfl, rfl⟩
                | some y =>
                  simp only [oD_none, oD_some]
                  walk_at "dlt"
                  split
                  · rename_i c3
                    exact hs_nx ⟨some _, (qP.2 y rfl).1 c3, rfl⟩
                  · rename_i c3
                    exact hs_nx ⟨some y, (qP.2 y rfl).2 c3, rfl⟩
              rintro _ ⟨l', hl', rfl⟩
              walk_at "dlt"
              cases nn with
              | none =>
                simp only [oD_none, oD_some]
                walk_at "dlt"
                exact hs_nx ⟨l', some _, _, _, _, hl', qN.1 rfl, rfl⟩
              | some y =>
                simp only [oD_none, oD_some]
                walk_at "dlt"
                exact hs_nx ⟨l', some y, _, _, _, hl', qN2 y rfl, rfl⟩
            · rename_i c2
              have hD := hno fun h => c2 (by have := h.2.1; rwa [hi] at this)
              exact hs_nx ⟨l, nn, _, _, _, hl.congr (lsP_congr hD), hnn.congr (lsN_congr hD), rfl⟩
          · rename_i c1
            have hD := hno fun h => c1 h.1
            exact hs_nx ⟨l, nn, _, _, _, hl.congr (lsP_congr hD), hnn.congr (lsN_congr hD), rfl⟩
      · rintro e ⟨l, nn, s6, s12, k11, hl, hnn, rfl⟩
        have hD : ∀ i' g', M60.St p f b most i' g' → (Dn (1 + j) (1 + (j : Int) + 1 - 1).toNat i' g' ↔ Dn (1 + (j + 1)) 0 i' g') := by
          intro i' g' _
          unfold Dn
          omega
        exact ⟨l, nn, _, _, _, _, hl.congr (lsP_congr hD), hnn.congr (lsN_congr hD), rfl⟩
    · rintro e ⟨l, nn, s6, s10, s11, s12, hl, hnn, h⟩
      have hn5 : 1 + ((n : Int) - 1).toNat = n := by omega
      rw [hn5] at hl hnn
      exact ⟨l, nn, s6, s10, s11, s12, hl, hnn, h⟩
  rintro _ ⟨l, nn, s6, s10, s11, s12, hl, hnn, rfl⟩
  walk_at "dlt"
  refine hs_rt ⟨l, nn, rfl, ?_, ?_⟩
  · refine hl.congr fun m => Iff.trans ?_ (row_law n0 n6 h48 hP.hd1 m)
    constructor
    · rintro ⟨i, g, h1, h2, h3⟩
      refine ⟨i, g, ?_, h2, h3⟩
      unfold Dn at h1
      split at hn <;> omega
    · rintro ⟨i, g, h1, h2, h3⟩
      refine ⟨i, g, ?_, h2, h3⟩
      unfold Dn
      split at hn <;> omega
  · intro h54
    have hn54 : n = 54 := by split at hn <;> omega
    refine near_law n0 n6 h48 hP.hd1 nn (hnn.congr fun m => ?_)
    constructor
    · rintro ⟨i, g, h1, h2, h3⟩
      refine ⟨i, g, ?_, h2, h3⟩
      unfold Dn at h1
      omega
    · rintro ⟨i, g, h1, h2, h3⟩
      refine ⟨i, g, ?_, h2, h3⟩
      unfold Dn
      omega
end Lw

namespace Lw
open PySem L2 DL M60
theorem at2_0 {a b : D} : atD [a, b] 0 = .ok a := rfl
theorem at2_1 {a b : D} : atD [a, b] 1 = .ok b := rfl
theorem keep_oD {k : Bool} {o : Option Int} : (k || flat (oD o)) = true := by rw [flat_oD, Bool.or_true]
theorem leastTold_hs {d : D} {p : List Int} (hP : Pat d p) (k1 k2 k3 k4 k5 : Bool) (many f b : Int) (o : Option Int) (hm : 0 ≤ many) (h0 : 0 ≤ room f b o) (h48 : room f b o ≤ 48) :
    ∃ u, F_law_least_told [(k1, d), (k2, .int many), (k3, .int f), (k4, .int b), (k5, oD o)] = .ok u ∧ ∃ r, u = ⟨.g, oD r⟩ ∧ Least (Row p many f b (room f b o)) r := by
  unfold F_law_least_told
  apply run_hs rfl
  unfold b_law_least_told
  obtain ⟨_, e1, r, rfl, hr⟩ := least_hs hP (k1 || flat d) true true true true many f b o hm h0 h48
  cases o with
  | none =>
    simp only [oD_none] at e1 ⊢
    walk_at "dl"
    rw [e1]
    walk_at "dl"
    exact hs_rt ⟨r, rfl, hr⟩
  | some j =>
    simp only [oD_some] at e1 ⊢
    walk_at "dl"
    rw [e1]
    walk_at "dl"
    exact hs_rt ⟨r, rfl, hr⟩
theorem firstTold_hs {d : D} {p : List Int} (hP : Pat d p) (k1 k3 k4 k5 : Bool) (f b : Int) (o : Option Int) (h0 : 0 ≤ room f b o) (h48 : room f b o ≤ 48) :
    ∃ u, F_law_first_told [(k1, d), (k3, .int f), (k4, .int b), (k5, oD o)] = .ok u ∧ ∃ r, u = ⟨.g, oD r⟩ ∧ Least (Near p f b (room f b o)) r := by
  unfold F_law_first_told
  apply run_hs rfl
  unfold b_law_first_told
  obtain ⟨_, e1, r, rfl, hr⟩ := first_hs hP (k1 || flat d) true true true f b o h0 h48
  cases o with
  | none =>
    simp only [oD_none] at e1 ⊢
    walk_at "dl"
    rw [e1]
    walk_at "dl"
    exact hs_rt ⟨r, rfl, hr⟩
  | some j =>
    simp only [oD_some] at e1 ⊢
    walk_at "dl"
    rw [e1]
    walk_at "dl"
    exact hs_rt ⟨r, rfl, hr⟩
theorem same12 (k1 k2 : Bool) (a b : Option Int) : F_law_same 12 [(k1, oD a), (k2, oD b)] = .ok ⟨.g, .bl (decide (a = b))⟩ := same_opt k1 k2 11 a b
theorem least_none {P : Int → Prop} {o : Option Int} (h : Least P o) (hn : ∀ x, ¬ P x) : o = none := by
  cases o with
  | none => rfl
  | some m => exact absurd h.1 (hn m)
theorem turns_hs {p : List Int} (hP : Pat (.lst (p.map D.int)) p) (k1 k3 k4 k5 k6 : Bool) (f b : Int) (o nn : Option Int) (h0 : 0 ≤ room f b o) (h48 : room f b o ≤ 48) (hn : Least (Near p f b (room f b o)) nn) :
    ∃ u, F_law_turns [(k1, .lst (p.map D.int)), (k3, .int f), (k4, .int b), (k5, oD o), (k6, oD nn)] = .ok u ∧ u = ⟨.g, .bl true⟩ := by
  unfold F_law_turns
  apply run_hs rfl
  unfold b_law_turns
  cases nn with
  | none =>
    simp only [oD_none] at ⊢
    obtain ⟨_, e1, r, rfl, hr⟩ := least_hs hP true true true true true (10 ^ 30) f b o (by decide) h0 h48
    have := least_none hr (near_none hn)
    subst this
    have hx : (10 : Int) ^ 30 = 1000000000000000000000000000000 := by decide
    rw [hx] at e1
    walk_at "dl"
    simp only [keep_oD]
    rw [e1]
    simp only [oD_none]
    walk_at "dlt"
    exact hs_rt rfl
  | some y =>
    simp only [oD_some] at ⊢
    have hy : 2 ≤ y := by
      obtain ⟨i, g, _, h⟩ := hn.1
      omega
    obtain ⟨⟨x0, hx0⟩, hx1⟩ := near_some hn
    obtain ⟨_, e1, l, n2, rfl, hl, _⟩ := stretches_hs hP k1 true true true true y f b o hy h48
    obtain ⟨_, e2, r, rfl, hr⟩ := least_hs hP true true true true true y f b o (by omega) h0 h48
    obtain ⟨_, e3, r3, rfl, hr3⟩ := least_hs hP true true true true true (y - 1) f b o (by omega) h0 h48
    have h3 := least_none hr3 hx1
    subst h3
    have hrl := hr.unique hl
    subst hrl
    cases r with
    | none => exact absurd hx0 (hr x0)
    | some z =>
      walk_at "dl"
      simp only [flat_oD, Bool.or_true]
      rw [e1]
      walk_at "dlt"
      rw [at2_0]
      walk_at "dlt"
      simp only [oD_some]
      walk_at "dlt"
      simp only [keep_oD]
      rw [e2]
      walk_at "dlt"
      have e4 := same12 true true (some z) (some z)
      simp only [oD_some] at e4 ⊢
      rw [e4]
      walk_at "dlt"
      split
      · walk_at "dlt"
        simp only [keep_oD]
        rw [e3]
        simp only [oD_none]
        walk_at "dlt"
        exact hs_rt rfl
      · walk_at "dlt"
        exact hs_rt rfl
theorem pattern_eq {p : List Int} (k1 k2 : Bool) (s : Int) (h6 : p.length ≤ 6) : F_law_ring_pattern [(k1, .lst (p.map D.int)), (k2, .int s)] = .ok ⟨.o, .lst ((if s = 1 then p else p.map fun x => if x > 2 then x else 2).map D.int)⟩ := by
  unfold F_law_ring_pattern
  rw [runF_eq]
  unfold b_law_ring_pattern
  by_cases h : s = 1
  · subst h
    walk_at "dl"
  · walk_at "dl"
    rw [if_neg h, if_neg h]
    walk_at "dlt"
    rw [if_pos (Nat.lt_trans (show p.length < 4000000 by omega) (by decide))]
    rw [lcO_map (g := D.int) (h := fun x => D.int (if x > 2 then x else 2))]
    rotate_left
    · intro x hx
      walk_at "dlt"
    rw [List.map_map]
    rfl
end Lw

namespace Lw
open PySem L2 DL M60
theorem pool_at {p : List Int} (h : PoolOk 42 p) (i : Nat) (hi : i < 42) : atD (p.map D.int) (i : Int) = .ok (.int (p.getD i 0)) ∧ 0 ≤ p.getD i 0 ∧ p.getD i 0 < 1000 := by
  have := atD_map (p := p) (i := i) (by omega) (by rw [h.1]; omega)
  rw [Int.toNat_natCast] at this
  refine ⟨this, h.2 _ ?_⟩
  rw [DL.getD_at (by rw [h.1]; exact hi)]
  exact List.getElem_mem _
theorem dish_at (x : Int) : ∃ L : Int, atD [D.int 0, D.int 1, D.int 2, D.int 3, D.int 2, D.int 3, D.int 4, D.int 24] (x % 8) = .ok (.int L) ∧ 0 ≤ L ∧ L ≤ 24 := by
  have h := atD_map (p := [0, 1, 2, 3, 2, 3, 4, 24]) (i := x % 8) (by omega) (by show x % 8 < 8; omega)
  have hm : ∀ y ∈ ([0, 1, 2, 3, 2, 3, 4, 24] : List Int), 0 ≤ y ∧ y ≤ 24 := by decide
  have hl : (x % 8).toNat < ([0, 1, 2, 3, 2, 3, 4, 24] : List Int).length := by show (x % 8).toNat < 8; omega
  refine ⟨_, h, hm _ ?_⟩
  rw [DL.getD_at hl]
  exact List.getElem_mem _
theorem isP_oDf {q q' : Kd} {o : Option Int} : isP false ⟨q, oD o⟩ ⟨q', .non⟩ = .ok ⟨.g, .bl o.isNone⟩ := by cases o <;> rfl
theorem isP_oDt {q q' : Kd} {o : Option Int} : isP true ⟨q, oD o⟩ ⟨q', .non⟩ = .ok ⟨.g, .bl o.isSome⟩ := by cases o <;> rfl
theorem Pat.mk2 {p : List Int} (n0 : 0 < p.length) (n6 : p.length ≤ 6) (hp : ∀ x ∈ p, 1 ≤ x ∧ x ≤ 4) : Pat (.lst (p.map D.int)) p ∧ Pat (.tup (p.map D.int)) p := ⟨⟨n0, n6, hp, .inl rfl⟩, ⟨n0, n6, hp, .inr rfl⟩⟩
theorem right_hs {p : List Int} (hP : Pat (.lst (p.map D.int)) p) (pool : List Int) (hp : PoolOk 42 pool) (k1 k2 k3 : Bool) (M : Nat) (hM2 : 2 ≤ M) (hM : (M : Int) ≤ 10 ^ 30) :
    ∃ u, F_law_ring_right [(k1, .lst (pool.map D.int)), (k2, .lst (p.map D.int)), (k3, .int M)] = .ok u ∧ u = ⟨.g, .bl true⟩ := by
  unfold F_law_ring_right
  apply run_hs rfl
  unfold b_law_ring_right
  have a27 : atD (pool.map D.int) 27 = _ := (pool_at hp 27 (by decide)).1
  have a28 : atD (pool.map D.int) 28 = _ := (pool_at hp 28 (by decide)).1
  have a29 : atD (pool.map D.int) 29 = _ := (pool_at hp 29 (by decide)).1
  obtain ⟨_, e1, num, rfl⟩ := number_hs k1 true pool hp 30 (by decide)
  have e1 : F_law_number [(k1, .lst (pool.map D.int)), (true, .int 30)] = .ok ⟨.g, .int num⟩ := e1
  generalize pool.getD 27 0 = x27 at *
  generalize pool.getD 28 0 = x28 at *
  generalize pool.getD 29 0 = x29 at *
  obtain ⟨PP, hPP⟩ : ∃ PP : Nat, PP = if M < 3 then M + 1 else M := ⟨_, rfl⟩
  have hPP2 : 3 ≤ PP ∧ (PP : Int) ≤ 10 ^ 30 := by split at hPP <;> omega
  have hpe : (M : Int) + (if (M : Int) < 3 then 1 else 0) = PP := by
    split at hPP <;> split <;> omega
  walk_at "dl"
  rw [a27, hpe]
  walk_at "dlt"
  generalize hq : (if (PP : Int) - 1 < 4 then (PP : Int) - 1 else 4) = q4
  have hq2 : 0 < q4 ∧ q4 ≤ (PP : Int) - 1 := by split at hq <;> omega
  rw [if_pos hq2.1]
  walk_at "dlt"
  refine hs_bind (fun e => ∃ s : Nat, 1 ≤ s ∧ s < PP ∧ e = [Sl.vl k1 (.lst (pool.map D.int)), Sl.vl k2 (.lst (p.map D.int)), Sl.vl k3 (.int M), Sl.vl true (.int PP), Sl.vl true (.int s), Sl.no, Sl.no, Sl.no, Sl.no]) ?_ ?_
  · rw [a28]
    walk_at "dlt"
    split
    · walk_at "dlt"
      rw [e1]
      walk_at "dlt"
      rw [if_pos (show 0 < (PP : Int) - 1 by omega)]
      walk_at "dlt"
      have h1 := Int.emod_nonneg num (show (PP : Int) - 1 ≠ 0 by omega)
      have h2 := Int.emod_lt_of_pos num (show 0 < (PP : Int) - 1 by omega)
      refine hs_nx ⟨(1 + num % ((PP : Int) - 1)).toNat, by omega, by omega, ?_⟩
      rw [Int.toNat_of_nonneg (by omega)]
    · have h1 := Int.emod_nonneg x27 (show q4 ≠ 0 by omega)
      have h2 := Int.emod_lt_of_pos x27 hq2.1
      refine hs_nx ⟨(1 + x27 % q4).toNat, by omega, by omega, ?_⟩
      rw [Int.toNat_of_nonneg (by omega)]
  rintro _ ⟨s, s1, s2, rfl⟩
  obtain ⟨row, hrow⟩ : ∃ row, row = (if (s : Int) = 1 then p else p.map fun x => if x > 2 then x else 2) := ⟨_, rfl⟩
  have e2 := pattern_eq k2 true (s : Int) hP.n6
  rw [← hrow] at e2
  have hR : 0 < row.length ∧ row.length ≤ 6 ∧ ∀ x ∈ row, 1 ≤ x ∧ x ≤ 4 := by
    have n0 := hP.n0
    have n6 := hP.n6
    rw [hrow]
    split
    · exact ⟨n0, n6, hP.hp⟩
    · refine ⟨by rw [List.length_map]; exact n0, by rw [List.length_map]; exact n6, fun x hx => ?_⟩
      obtain ⟨y, hy, rfl⟩ := List.mem_map.1 hx
      have := hP.hp y hy
      split <;> omega
  clear hrow
  obtain ⟨L, a8, L0, L24⟩ := dish_at x29
  obtain ⟨hRl, hRt⟩ := Pat.mk2 hR.1 hR.2.1 hR.2.2
  have hb31 : (PP : Int) ≤ 10 ^ 31 := by omega
  have hb32 : ((PP + 1 : Nat) : Int) ≤ 10 ^ 31 := by omega
  obtain ⟨L', hL'⟩ : ∃ L' : Int, L' = if L + 1 < 24 then L + 1 else 24 := ⟨_, rfl⟩
  have hL'2 : 0 ≤ L' ∧ L' ≤ 24 ∧ L ≤ L' := by split at hL' <;> omega
  obtain ⟨_, u1, r1, rfl, g1⟩ := due_hs hRl true true true true PP s L hb31 s1 s2 L0 L24
  obtain ⟨_, u2, r2, rfl, g2⟩ := ring_hs hRl false true true true PP s L hb31 s1 s2 L0 L24
  have q2 := g2.unique g1
  subst q2
  obtain ⟨_, u3, r3, rfl, g3⟩ := ring_hs hRt true true true true PP s L' hb31 s1 s2 hL'2.1 hL'2.2.1
  obtain ⟨_, u4, r4, rfl, g4⟩ := due_hs hRl true true true true PP s L' hb31 s1 s2 hL'2.1 hL'2.2.1
  have q4' := g4.unique g3
  subst q4'
  obtain ⟨_, u5, r5, rfl, g5⟩ := ring_hs hRl true true true true PP s L' hb31 s1 s2 hL'2.1 hL'2.2.1
  obtain ⟨_, u6, r6, rfl, g6⟩ := ring_hs hRl true true true true (PP + 1) s L hb32 s1 (by omega) L0 L24
  obtain ⟨_, u7, r7, rfl, g7⟩ := due_hs hRl true true true true (PP + 1) s L hb32 s1 (by omega) L0 L24
  have q7 := g7.unique g6
  subst q7
  obtain ⟨_, u8, r8, rfl, g8⟩ := ring_hs hRl true true true true PP s L hb31 s1 s2 L0 L24
  have q8 := g8.unique g1
  subst q8
  have at0 : atD (row.map D.int) 0 = .ok (.int (row.getD 0 0)) := atD_map (by decide) (by have := hR.1; omega)
  obtain ⟨z, hz⟩ : ∃ z : Int, z = 6 - (if row.getD 0 0 > 2 then row.getD 0 0 else 2) := ⟨_, rfl⟩
  have hx0 : 1 ≤ row.getD 0 0 ∧ row.getD 0 0 ≤ 4 := by
    rw [DL.getD_at hR.1]
    exact hR.2.2 _ (List.getElem_mem _)
  have hz2 : 1 ≤ z ∧ z ≤ 4 := by split at hz <;> omega
  obtain ⟨hSl, _⟩ := Pat.mk2 (p := row.set 0 z) (by rw [List.length_set]; exact hR.1) (by rw [List.length_set]; exact hR.2.1) (fun x hx => by
    rcases List.mem_or_eq_of_mem_set hx with h | rfl
    · exact hR.2.2 x h
    · exact hz2)
  obtain ⟨_, u9, r9, rfl, g9⟩ := ring_hs hSl true true true true PP s L hb31 s1 s2 L0 L24
  obtain ⟨_, v1, r10, rfl, g10⟩ := due_hs hSl true true true true PP s L hb31 s1 s2 L0 L24
  have q10 := g10.unique g9
  subst q10
  have hix : ixN row.length 0 = some 0 := ixN_in (by decide) (by have := hR.1; omega)
  walk_at "dlt"
  rw [e2]
  walk_at "dlt"
  rw [a29]
  walk_at "dlt"
  rw [a8]
  walk_at "dlt"
  rw [u1]
  walk_at "dlt"
  rw [u2]
  walk_at "dlt"
  rw [same12, decide_eq_true rfl]
  walk_at "dlt"
  rw [← hL', u3]
  walk_at "dlt"
  rw [u4]
  walk_at "dlt"
  rw [same12, decide_eq_true rfl]
  walk_at "dlt"
  rw [← hL', u5, isP_oDt]
  walk_at "dlt"
  rw [isP_oDf]
  walk_at "dlt"
  have h85 : r8.isSome = true → r5.isNone = false := by
    intro h
    cases r8 with
    | none => cases h
    | some t =>
      have := Ring.up s1 g1 hL'2.2.2 g5
      cases r5 with
      | none => exact absurd rfl this
      | some _ => rfl
  refine hs_bind (fun e => e = [Sl.vl k1 (D.lst (List.map D.int pool)), Sl.vl k2 (D.lst (List.map D.int p)), Sl.vl k3 (D.int M),
                Sl.vl true (D.int PP), Sl.vl true (D.int s), Sl.vl true (D.lst (List.map D.int row)),
                Sl.vl true (D.int L), Sl.vl true (oD r8), Sl.ow (List.map D.int row)]) ?_ ?_
  · cases h8 : r8.isSome with
    | true =>
      rw [h85 h8]
      walk_at "dlt"
      exact hs_nx rfl
    | false =>
      walk_at "dlt"
      exact hs_nx rfl
  rintro _ rfl
  have ec : ((PP + 1 : Nat) : Int) = PP + 1 := by omega
  rw [ec] at u6 u7
  walk_at "dlt"
  refine hs_bind (fun e => e = [Sl.vl k1 (D.lst (List.map D.int pool)), Sl.vl k2 (D.lst (List.map D.int p)), Sl.vl k3 (D.int M),
                Sl.vl true (D.int PP), Sl.vl true (D.int s), Sl.vl true (D.lst (List.map D.int row)),
                Sl.vl true (D.int L), Sl.vl true (oD r8), Sl.ow (List.map D.int row)]) ?_ ?_
  · split
    · rw [u6]
      walk_at "dlt"
      rw [u7]
      walk_at "dlt"
      rw [same12, decide_eq_true rfl]
      walk_at "dlt"
      exact hs_nx rfl
    · exact hs_nx rfl
  rintro _ rfl
  walk_at "dlt"
  refine hs_bind (fun e => e = [Sl.vl k1 (D.lst (List.map D.int pool)), Sl.vl k2 (D.lst (List.map D.int p)), Sl.vl k3 (D.int M),
                Sl.vl true (D.int PP), Sl.vl true (D.int s), Sl.vl true (D.lst (List.map D.int row)),
                Sl.vl true (D.int L), Sl.vl true (oD r8), Sl.ow (List.map D.int row)]) ?_ ?_
  · split
    · rename_i h4
      obtain ⟨hDl, _⟩ := Pat.mk2 (p := row ++ row) (by rw [List.length_append]; omega) (by rw [List.length_append]; omega) (fun x hx => by
        rcases List.mem_append.1 hx with h | h <;> exact hR.2.2 x h)
      obtain ⟨_, w1, r11, rfl, g11⟩ := ring_hs hDl true true true true PP s L hb31 s1 s2 L0 L24
      have q11 := g11.unique (Ring.twice (hd_twice row) g1)
      subst q11
      rw [if_pos (Nat.le_trans (show row.length + row.length ≤ 4000000 by omega) (by decide))]
      walk_at "dlt"
      rw [w1]
      walk_at "dlt"
      rw [same12, decide_eq_true rfl]
      walk_at "dlt"
      exact hs_nx rfl
    · exact hs_nx rfl
  rintro _ rfl
  walk_at "dlt"
  rw [at0]
  walk_at "dlt"
  rw [hix]
  walk_at "dlt"
  rw [← hz]
  rw [u9]
  walk_at "dlt"
  rw [v1]
  walk_at "dlt"
  rw [same12, decide_eq_true rfl]
  walk_at "dlt"
  rw [u8]
  walk_at "dlt"
  rw [same12, decide_eq_true rfl]
  walk_at "dlt"
  exact hs_rt rfl
end Lw

namespace Lw
open PySem L2 DL M60
theorem pick4 (x : Int) : ∃ c : Int, atD [D.int 3, D.int 4, D.int 8, D.int 24] (x % 4) = .ok (.int c) ∧ 3 ≤ c ∧ c ≤ 24 := by
  have h := atD_map (p := [3, 4, 8, 24]) (i := x % 4) (by omega) (by show x % 4 < 4; omega)
  have hm : ∀ y ∈ ([3, 4, 8, 24] : List Int), 3 ≤ y ∧ y ≤ 24 := by decide
  have hl : (x % 4).toNat < ([3, 4, 8, 24] : List Int).length := by show (x % 4).toNat < 4; omega
  refine ⟨_, h, hm _ ?_⟩
  rw [DL.getD_at hl]
  exact List.getElem_mem _
theorem law_hs (ns : List Int) : ∃ u, F_law [(true, .fz (ns.map D.int))] = .ok u ∧ u = ⟨.g, .bl true⟩ := by
  unfold F_law
  apply run_hs rfl
  unfold b_law
  obtain ⟨_, ep, pool, rfl, hp⟩ := pool_hs true true ns 42 (by decide)
  have ep : F_law_pool [(true, .fz (ns.map D.int)), (true, .int 42)] = .ok ⟨.o, .lst (pool.map .int)⟩ := ep
  have at_ (i : Int) (h0 : 0 ≤ i) (h1 : i < 42) : ∃ x : Int, atD (pool.map D.int) i = .ok (.int x) ∧ 0 ≤ x ∧ x < 1000 := by
    obtain ⟨n, rfl⟩ : ∃ n : Nat, i = n := ⟨i.toNat, by omega⟩
    exact ⟨_, pool_at hp n (by omega)⟩
  obtain ⟨x0, a0, b0⟩ := at_ 0 (by decide) (by decide)
  obtain ⟨x7, a7, b7⟩ := at_ 7 (by decide) (by decide)
  obtain ⟨x8, a8, b8⟩ := at_ 8 (by decide) (by decide)
  obtain ⟨x19, a19, b19⟩ := at_ 19 (by decide) (by decide)
  obtain ⟨x20, a20, b20⟩ := at_ 20 (by decide) (by decide)
  obtain ⟨x21, a21, b21⟩ := at_ 21 (by decide) (by decide)
  obtain ⟨x22, a22, b22⟩ := at_ 22 (by decide) (by decide)
  obtain ⟨x23, a23, b23⟩ := at_ 23 (by decide) (by decide)
  obtain ⟨x24, a24, b24⟩ := at_ 24 (by decide) (by decide)
  obtain ⟨x25, a25, b25⟩ := at_ 25 (by decide) (by decide)
  obtain ⟨x26, a26, b26⟩ := at_ 26 (by decide) (by decide)
  obtain ⟨_, en, num, rfl⟩ := number_hs true true pool hp 9 (by decide)
  have en : F_law_number [(true, .lst (pool.map D.int)), (true, .int 9)] = .ok ⟨.g, .int num⟩ := en
  obtain ⟨cap, ac, bc⟩ := pick4 x19
  obtain ⟨sz, hsz, hsz1, hsz6⟩ : ∃ sz : Nat, (1 + x0 % 6 : Int) = sz ∧ 1 ≤ sz ∧ sz ≤ 6 := ⟨(1 + x0 % 6).toNat, by omega, by omega, by omega⟩
  walk_at "dl"
  rw [ep]
  walk_at "dlt"
  rw [a0]
  walk_at "dlt"
  rw [hsz]
  rw [if_pos (rg_in (by omega) (by omega))]
  walk_at "dlt"
  rw [rngD_len, if_pos (Nat.lt_trans (show (sz : Nat) < 4000000 by omega) (by decide))]
  obtain ⟨φ, hφ⟩ : ∃ φ : Nat → Int, ∀ k : Nat, k < 6 → atD (pool.map D.int) (1 + k) = .ok (.int (φ k)) ∧ 0 ≤ φ k ∧ φ k < 1000 := by
    refine ⟨fun k => pool.getD (1 + k) 0, fun k hk => ?_⟩
    have := pool_at hp (1 + k) (by omega)
    rw [Int.natCast_add] at this
    exact this
  rw [lcO_rng (h := fun k => D.int (1 + φ k % 4))]
  rotate_left
  · intro k hk
    walk_at "dlt"
    rw [(hφ k (by omega)).1]
    walk_at "dlt"
  have eh : (List.range sz).map (fun k => D.int (1 + φ k % 4)) = ((List.range sz).map fun k => 1 + φ k % 4).map D.int := by rw [List.map_map]; rfl
  rw [eh]
  have hp1 : ∃ p, p = (List.range sz).map fun k => 1 + φ k % 4 := ⟨_, rfl⟩
  obtain ⟨p1, hp1⟩ := hp1
  rw [← hp1]
  have hP1 : p1.length = sz ∧ ∀ x ∈ p1, 1 ≤ x ∧ x ≤ 4 := by
    rw [hp1]
    refine ⟨by rw [List.length_map, List.length_range], fun x hx => ?_⟩
    obtain ⟨k, _, rfl⟩ := List.mem_map.1 hx
    omega
  clear hp1
  walk_at "dlt"
  rw [a8]
  walk_at "dlt"
  rw [a7]
  walk_at "dlt"
  refine hs_bind (fun e => ∃ (M : Nat) (s1 : Sl), 2 ≤ M ∧ (M : Int) ≤ 10 ^ 30 ∧ (s1 = Sl.ow (pool.map D.int) ∨ s1 = Sl.vl true (.lst (pool.map D.int))) ∧ e = [Sl.vl true (D.fz (List.map D.int ns)), s1, Sl.vl true (D.int sz), Sl.no, Sl.ow (List.map D.int p1), Sl.vl true (.int M), Sl.no, Sl.no, Sl.no, Sl.no, Sl.no, Sl.no, Sl.no, Sl.no, Sl.no, Sl.no]) ?_ ?_
  · split
    · rw [en]
      walk_at "dlt"
      have h1 := Int.emod_nonneg num (show (999999999999999999999999999999 : Int) ≠ 0 by decide)
      have h2 := Int.emod_lt_of_pos num (show (0 : Int) < 999999999999999999999999999999 by decide)
      refine hs_nx ⟨(2 + num % 999999999999999999999999999999).toNat, _, by omega, by omega, .inr rfl, ?_⟩
      rw [Int.toNat_of_nonneg (by omega)]
    · refine hs_nx ⟨(2 + x8 % 12).toNat, _, by omega, by omega, .inl rfl, ?_⟩
      rw [Int.toNat_of_nonneg (by omega)]
  rintro _ ⟨M, s1, hM2, hM, hs1, rfl⟩
  have eq4 : divI (x19 % 8) 4 = _ := divI_64 (by decide) (by decide)
  obtain ⟨lw, hlw, hlw2⟩ : ∃ lw : Int, (1 - x19 % 8 / 4 : Int) = lw ∧ 0 ≤ lw ∧ lw ≤ 1 := ⟨_, rfl, by omega, by omega⟩
  have hcl : 0 < cap + 1 - lw := by omega
  obtain ⟨kk, hr1, hr2⟩ : ∃ kk : Kd, nmV (some s1) = .ok ⟨kk, .lst (pool.map D.int)⟩ ∧ kk.sub = .g := by
    rcases hs1 with rfl | rfl
    · exact ⟨.h, rfl, rfl⟩
    · exact ⟨.g, rfl, rfl⟩
  have hr3 : ∀ env : En, env[1]? = some s1 → frzV env 1 (some s1) = env.set 1 (.vl true (.lst (pool.map D.int))) := by
    intro env he
    rcases hs1 with rfl | rfl
    · rfl
    · cases env with
      | nil => cases he
      | cons a r =>
        cases r with
        | nil => cases he
        | cons b r =>
          have : b = Sl.vl true (.lst (pool.map D.int)) := Option.some.inj he
          subst this
          rfl
  clear hs1 ep en
  have rgs : rg (sz : Int) = true := rg_in (by omega) (by omega)
  have szl : (rngD 0 sz).length < sizeLine := by rw [rngD_len]; exact Nat.lt_trans (show (sz : Nat) < 4000000 by omega) (by decide)
  walk_at "dlh"
  refine hs_bind (fun e => ∃ (p : List Int) (f b : Int) (s3 : Sl), (p.length = sz ∧ ∀ x ∈ p, 1 ≤ x ∧ x ≤ 4) ∧ 0 ≤ f ∧ f ≤ 24 ∧ 0 ≤ b ∧ b ≤ 24 ∧ e = [Sl.vl true (D.fz (List.map D.int ns)), s1, Sl.vl true (D.int sz), s3, Sl.ow (List.map D.int p), Sl.vl true (.int M), Sl.vl true (.int cap), Sl.vl true (.int lw), Sl.vl true (.int f), Sl.vl true (.int b), Sl.no, Sl.no, Sl.no, Sl.no, Sl.no, Sl.no]) ?_ ?_
  · have m1 := Int.emod_nonneg x20 (show cap + 1 - lw ≠ 0 by omega)
    have m2 := Int.emod_lt_of_pos x20 hcl
    have m3 := Int.emod_nonneg x21 (show cap + 1 - lw ≠ 0 by omega)
    have m4 := Int.emod_lt_of_pos x21 hcl
    split
    · rw [lcO_rng (h := fun k => D.int (1 + 3 * (φ k % 2)))]
      rotate_left
      · intro k hk
        have hk' := (hφ k (by omega)).1
        have hm3 : mulI 3 (φ k % 2) = _ := mulI_200 (by decide) (by omega)
        walk_at "dlh"
      have eh : (List.range sz).map (fun k => D.int (1 + 3 * (φ k % 2))) = ((List.range sz).map fun k => 1 + 3 * (φ k % 2)).map D.int := by rw [List.map_map]; rfl
      rw [eh]
      walk_at "dlt"
      refine hs_nx ⟨_, 3, 3, _, ⟨?_, ?_⟩, by decide, by decide, by decide, by decide, rfl⟩
      · rw [List.length_map, List.length_range]
      · intro x hx
        obtain ⟨k, _, rfl⟩ := List.mem_map.1 hx
        omega
    · exact hs_nx ⟨_, _, _, _, hP1, by omega, by omega, by omega, by omega, rfl⟩
  rintro _ ⟨p, f, b, s3, hp2, f0, f24, b0', b24', rfl⟩
  walk_at "dlh"
  refine hs_bind (fun e => ∃ o : Option Int, (∀ j, o = some j → 0 ≤ j) ∧ e = [Sl.vl true (D.fz (List.map D.int ns)), s1, Sl.vl true (D.int sz), s3, Sl.ow (List.map D.int p), Sl.vl true (.int M), Sl.vl true (.int cap), Sl.vl true (.int lw), Sl.vl true (.int f), Sl.vl true (.int b), Sl.vl true (oD o), Sl.no, Sl.no, Sl.no, Sl.no, Sl.no]) ?_ ?_
  · split
    · exact hs_nx ⟨some _, (fun j hj => by cases hj; omega), rfl⟩
    · exact hs_nx ⟨none, (fun j hj => by cases hj), rfl⟩
  rintro _ ⟨o1, ho1, rfl⟩
  have hfb : 0 < f + b + 2 := by omega
  walk_at "dlh"
  refine hs_bind (fun e => ∃ o : Option Int, (∀ j, o = some j → 0 ≤ j) ∧ e = [Sl.vl true (D.fz (List.map D.int ns)), s1, Sl.vl true (D.int sz), s3, Sl.ow (List.map D.int p), Sl.vl true (.int M), Sl.vl true (.int cap), Sl.vl true (.int lw), Sl.vl true (.int f), Sl.vl true (.int b), Sl.vl true (oD o), Sl.no, Sl.no, Sl.no, Sl.no, Sl.no]) ?_ ?_
  · have m1 := Int.emod_nonneg x23 (show f + b + 2 ≠ 0 by omega)
    split
    · refine hs_nx ⟨some _, (fun j hj => ?_), rfl⟩
      cases hj
      split <;> omega
    · exact hs_nx ⟨o1, ho1, rfl⟩
  rintro _ ⟨o, ho, rfl⟩
  clear ho1 hfb
  have h0 : 0 ≤ room f b o := by
    unfold room
    cases o with
    | none => dsimp only; omega
    | some j => have := ho j rfl; dsimp only; split <;> omega
  have h48 : room f b o ≤ 48 := by
    unfold room
    cases o with
    | none => dsimp only; omega
    | some j => have := ho j rfl; dsimp only; split <;> omega
  clear ho
  have hix : ixN sz (x24 % sz) = some (x24 % sz).toNat := ixN_in (Int.emod_nonneg _ (by omega)) (Int.emod_lt_of_pos _ (by omega))
  obtain ⟨q, hq⟩ : ∃ q, q = p.set (x24 % sz).toNat (1 + x25 % 4) := ⟨_, rfl⟩
  have hq2 : q.length = sz ∧ ∀ x ∈ q, 1 ≤ x ∧ x ≤ 4 := by
    rw [hq]
    refine ⟨by rw [List.length_set]; exact hp2.1, fun x hx => ?_⟩
    rcases List.mem_or_eq_of_mem_set hx with h | rfl
    · exact hp2.2 x h
    · omega
  have sz0 : (0 : Int) < sz := by omega
  walk_at "dlh"
  rw [← hq]
  clear hq hix
  obtain ⟨hPl, hPt⟩ := Pat.mk2 (p := p) (by omega) (by omega) hp2.2
  obtain ⟨hQl, hQt⟩ := Pat.mk2 (p := q) (by omega) (by omega) hq2.2
  have hM0 : (0 : Int) ≤ M := by omega
  have hM2' : (2 : Int) ≤ M := by omega
  obtain ⟨_, eA, l1, n0, rfl, hl1, _⟩ := stretches_hs hPl true true true true true M f b o hM2' h48
  obtain ⟨_, eB, l0, n1, rfl, _, hn1⟩ := stretches_hs hPl true true true true true 54 f b o (by decide) h48
  have hn1 := hn1 (by decide)
  obtain ⟨_, eC, r, rfl, g⟩ := leastTold_hs hPl false true true true true M f b o hM0 h0 h48
  rw [g.unique hl1] at eC
  clear g
  obtain ⟨_, eD, r, rfl, g⟩ := firstTold_hs hPl false true true true f b o h0 h48
  rw [g.unique hn1] at eD
  clear g
  obtain ⟨_, eE, r, rfl, g⟩ := least_hs hPt true true true true true M f b o hM0 h0 h48
  rw [g.unique hl1] at eE
  clear g
  obtain ⟨_, eF, r, rfl, g⟩ := first_hs hPt true true true true f b o h0 h48
  rw [g.unique hn1] at eF
  clear g
  obtain ⟨_, eG, rfl⟩ := turns_hs hPl true true true true true f b o n1 h0 h48 hn1
  obtain ⟨_, eH, rfl⟩ := right_hs hPl pool hp true true true M hM2 hM
  obtain ⟨_, eI, l2, n3, rfl, hl2, _⟩ := stretches_hs hQl true true true true true M f b o hM2' h48
  obtain ⟨_, eJ, r, rfl, g⟩ := leastTold_hs hQl true true true true true M f b o hM0 h0 h48
  rw [g.unique hl2] at eJ
  clear g
  obtain ⟨_, eK, l3, n2, rfl, _, hn2⟩ := stretches_hs hQl true true true true true 54 f b o (by decide) h48
  have hn2 := hn2 (by decide)
  obtain ⟨_, eL, r, rfl, g⟩ := firstTold_hs hQl true true true true f b o h0 h48
  rw [g.unique hn2] at eL
  clear g
  obtain ⟨_, eM, rfl⟩ := right_hs hQl pool hp true true true M hM2 hM
  obtain ⟨_, eN, r, rfl, g⟩ := leastTold_hs hPl true true true true true M f b o hM0 h0 h48
  rw [g.unique hl1] at eN
  clear g
  have h20 : ∀ a b : D, atD [a, b] 0 = .ok a := fun _ _ => rfl
  have h21 : ∀ a b : D, atD [a, b] 1 = .ok b := fun _ _ => rfl
  have hsame : ∀ a, F_law_same 12 [(true, oD a), (true, oD a)] = .ok ⟨.g, .bl true⟩ := fun a => by rw [same12, decide_eq_true rfl]
  have hpl := hp2.1
  have hql := hq2.1
  clear a0 a7 a8 a19 a20 a21 a22 a23 a24 a25 a26 b0 b7 b8 b19 b20 b21 b22 b23 b24 b25 b26 ac bc hsz hφ hP1 eq4 hlw hlw2 hcl hn1 hn2 hl1 hl2 hp2 hq2 hPt hQt hQl hPl h0 h48 f0 f24 b0' b24' hM2 hM hM2' hM0 hp
  walk_at "dlh"
  refine hs_bind (fun e => ∃ s3, e = [Sl.vl true (D.fz (List.map D.int ns)), Sl.vl true (D.lst (List.map D.int pool)), Sl.vl true (D.int sz), s3,
            Sl.vl true (D.lst (List.map D.int p)), Sl.vl true (D.int M), Sl.vl true (D.int cap), Sl.vl true (D.int lw),
            Sl.vl true (D.int f), Sl.vl true (D.int b), Sl.vl true (oD o), Sl.ow (List.map D.int q), Sl.vl true (oD l1),
            Sl.vl true (oD n1), Sl.ow (List.map D.int q), Sl.no]) ?_ ?_
  · refine hs_forR (fun k e => ∃ (h : List Int) (s3 : Sl), h.length = sz ∧ (∀ i, i < k → h[i]? = q[i]?) ∧ e = [Sl.vl true (D.fz (List.map D.int ns)), Sl.vl true (D.lst (List.map D.int pool)), Sl.vl true (D.int sz), s3,
            Sl.vl true (D.lst (List.map D.int p)), Sl.vl true (D.int M), Sl.vl true (D.int cap), Sl.vl true (D.int lw),
            Sl.vl true (D.int f), Sl.vl true (D.int b), Sl.vl true (oD o), Sl.ow (List.map D.int q), Sl.vl true (oD l1),
            Sl.vl true (oD n1), Sl.ow (List.map D.int h), Sl.no]) ?_ ?_ ?_
    · exact ⟨p, _, hpl, fun i h => absurd h (Nat.not_lt_zero i), rfl⟩
    · rintro k _ hk ⟨h, s3, hh, hi0, rfl⟩
      have hi := hi0
      have e1 : atD (q.map D.int) (k : Int) = _ := atD_map (by omega) (by omega)
      have e2 : ixN h.length (k : Int) = _ := ixN_in (by omega) (by omega)
      rw [hh] at e2
      clear hi0
      generalize hI : (∀ i, i < k → h[i]? = q[i]?) = I at hi
      walk_at "dlh"
      rw [← hI] at hi
      refine hs_nx ⟨_, _, ?_, ?_, rfl⟩
      · rw [List.length_set]; exact hh
      · intro i hik
        rw [List.getElem?_set]
        by_cases h2 : k = i
        · subst h2
          rw [if_pos rfl, if_pos (by omega), DL.getD_at (by omega), List.getElem?_eq_getElem (by omega)]
        · rw [if_neg h2]
          exact hi i (by omega)
    · rintro e ⟨h, s3, hh, hi, rfl⟩
      have : h = q := by
        apply List.ext_getElem?
        intro i
        by_cases hc : i < sz
        · exact hi i hc
        · rw [List.getElem?_eq_none (by omega), List.getElem?_eq_none (by omega)]
      subst this
      exact ⟨s3, rfl⟩
  rintro _ ⟨s3', rfl⟩
  walk_at "dlh"
  exact hs_rt rfl
theorem law_true (ns : List Int) : F_law [(true, .fz (ns.map D.int))] = .ok ⟨.g, .bl true⟩ := by
  obtain ⟨_, e, rfl⟩ := law_hs ns
  exact e
end Lw
open PySem PySem.W PyProof.Rows
set_option maxRecDepth 100000 in
set_option maxHeartbeats 0 in
theorem PySem.Challenge.cw_handsatwork_k60_whole_long_rows_and_ring_holds : PySem.Challenge.rw_handsatwork_k60_whole_long_rows_and_ring.Holds := by
  w_on; o_law; k_head; (case hw => w_witness2)
  k_fill
  refine DL.law_walk (k := 15) (x := "law") (p := "script") (Fl := Lw.F_law) (l := PySem.Challenge.rw_handsatwork_k60_whole_long_rows_and_ring) Lw.law_true rfl rfl ⟨rfl, by decide, by decide⟩ rfl (fun w h Y => PySem.W.kIn_of Y) ?F
  case F =>
    intro w mg h KX G
    refine Lw.p_law ?T
    refine' Lw.Tx.mk ?z_abs ?z_bool ?z_divmod ?z_int ?z_isinstance ?z_len ?z_list ?z_max ?z_min ?z_range ?z_str ?z_sum ?z_tuple ?g_FEW_PEOPLE ?d_hands_together ?d_arc_starts ?d_has_short_arc ?d_ring_least ?d_dishes_together ?d_full_stretches ?d_row_least ?d_row_first_stuck ?d_law_mixed ?d_law_pool ?d_law_same ?d_law_number ?d_law_stretches ?d_law_least_told ?d_law_first_told ?d_law_turns ?d_law_ring_due ?d_law_ring_pattern ?d_law_ring_right ?d_law
    case z_abs => refine' PySem.W.mg_none_of KX G ?_; k_is
    case z_bool => refine' PySem.W.mg_none_of KX G ?_; k_is
    case z_divmod => refine' PySem.W.mg_none_of KX G ?_; k_is
    case z_int => refine' PySem.W.mg_none_of KX G ?_; k_is
    case z_isinstance => refine' PySem.W.mg_none_of KX G ?_; k_is
    case z_len => refine' PySem.W.mg_none_of KX G ?_; k_is
    case z_list => refine' PySem.W.mg_none_of KX G ?_; k_is
    case z_max => refine' PySem.W.mg_none_of KX G ?_; k_is
    case z_min => refine' PySem.W.mg_none_of KX G ?_; k_is
    case z_range => refine' PySem.W.mg_none_of KX G ?_; k_is
    case z_str => refine' PySem.W.mg_none_of KX G ?_; k_is
    case z_sum => refine' PySem.W.mg_none_of KX G ?_; k_is
    case z_tuple => refine' PySem.W.mg_none_of KX G ?_; k_is
    case g_FEW_PEOPLE =>
      refine' ⟨_, PySem.W.mg_of KX G ?a, ?b⟩
      (case a => k_is)
      (case b => first | exact ⟨_, rfl⟩ | exact rfl)
    case d_hands_together =>
      refine' DL.dn_mk KX G ?a ?l ?c ?k ?b
      (case a => k_is); (case l => k_is); (case c => k_is); (case k => k_is)
      (case b => exact fun _ _ _ _ _ _ us hl => match us, hl with | [_, _], _ => rfl)
    case d_arc_starts =>
      refine' DL.dn_mk KX G ?a ?l ?c ?k ?b
      (case a => k_is); (case l => k_is); (case c => k_is); (case k => k_is)
      (case b => exact fun _ _ _ _ _ _ us hl => match us, hl with | [_, _], _ => rfl)
    case d_has_short_arc =>
      refine' DL.dn_mk KX G ?a ?l ?c ?k ?b
      (case a => k_is); (case l => k_is); (case c => k_is); (case k => k_is)
      (case b => exact fun _ _ _ _ _ _ us hl => match us, hl with | [_, _, _, _], _ => rfl)
    case d_ring_least =>
      refine' DL.dn_mk KX G ?a ?l ?c ?k ?b
      (case a => k_is); (case l => k_is); (case c => k_is); (case k => k_is)
      (case b => exact fun _ _ _ _ _ _ us hl => match us, hl with | [_, _, _, _], _ => rfl)
    case d_dishes_together =>
      refine' DL.dn_mk KX G ?a ?l ?c ?k ?b
      (case a => k_is); (case l => k_is); (case c => k_is); (case k => k_is)
      (case b => exact fun _ _ _ _ _ _ us hl => match us, hl with | [_, _, _], _ => rfl)
    case d_full_stretches =>
      refine' DL.dn_mk KX G ?a ?l ?c ?k ?b
      (case a => k_is); (case l => k_is); (case c => k_is); (case k => k_is)
      (case b => exact fun _ _ _ _ _ _ us hl => match us, hl with | [_, _, _, _, _], _ => rfl)
    case d_row_least =>
      refine' DL.dnd_mk KX G ?a ?l ?c ?k ?t ?d ?r ?n
      (case a => k_is); (case l => k_is); (case c => k_is); (case k => k_is); (case t => k_is)
      (case d => exact rfl)
      (case r => exact .cons (by first | exact rfl | exact ⟨_, rfl⟩ | constructor) (.nil))
      (case n => decide)
    case d_row_first_stuck =>
      refine' DL.dnd_mk KX G ?a ?l ?c ?k ?t ?d ?r ?n
      (case a => k_is); (case l => k_is); (case c => k_is); (case k => k_is); (case t => k_is)
      (case d => exact rfl)
      (case r => exact .cons (by first | exact rfl | exact ⟨_, rfl⟩ | constructor) (.nil))
      (case n => decide)
    case d_law_mixed =>
      refine' DL.dn_mk KX G ?a ?l ?c ?k ?b
      (case a => k_is); (case l => k_is); (case c => k_is); (case k => k_is)
      (case b => exact fun _ _ _ _ _ _ us hl => match us, hl with | [_, _], _ => rfl)
    case d_law_pool =>
      refine' DL.dn_mk KX G ?a ?l ?c ?k ?b
      (case a => k_is); (case l => k_is); (case c => k_is); (case k => k_is)
      (case b => exact fun _ _ _ _ _ _ us hl => match us, hl with | [_, _], _ => rfl)
    case d_law_same =>
      refine' DL.dn_mk KX G ?a ?l ?c ?k ?b
      (case a => k_is); (case l => k_is); (case c => k_is); (case k => k_is)
      (case b => exact fun _ _ _ _ _ _ us hl => match us, hl with | [_, _], _ => rfl)
    case d_law_number =>
      refine' DL.dn_mk KX G ?a ?l ?c ?k ?b
      (case a => k_is); (case l => k_is); (case c => k_is); (case k => k_is)
      (case b => exact fun _ _ _ _ _ _ us hl => match us, hl with | [_, _], _ => rfl)
    case d_law_stretches =>
      refine' DL.dn_mk KX G ?a ?l ?c ?k ?b
      (case a => k_is); (case l => k_is); (case c => k_is); (case k => k_is)
      (case b => exact fun _ _ _ _ _ _ us hl => match us, hl with | [_, _, _, _, _], _ => rfl)
    case d_law_least_told =>
      refine' DL.dn_mk KX G ?a ?l ?c ?k ?b
      (case a => k_is); (case l => k_is); (case c => k_is); (case k => k_is)
      (case b => exact fun _ _ _ _ _ _ us hl => match us, hl with | [_, _, _, _, _], _ => rfl)
    case d_law_first_told =>
      refine' DL.dn_mk KX G ?a ?l ?c ?k ?b
      (case a => k_is); (case l => k_is); (case c => k_is); (case k => k_is)
      (case b => exact fun _ _ _ _ _ _ us hl => match us, hl with | [_, _, _, _], _ => rfl)
    case d_law_turns =>
      refine' DL.dn_mk KX G ?a ?l ?c ?k ?b
      (case a => k_is); (case l => k_is); (case c => k_is); (case k => k_is)
      (case b => exact fun _ _ _ _ _ _ us hl => match us, hl with | [_, _, _, _, _], _ => rfl)
    case d_law_ring_due =>
      refine' DL.dn_mk KX G ?a ?l ?c ?k ?b
      (case a => k_is); (case l => k_is); (case c => k_is); (case k => k_is)
      (case b => exact fun _ _ _ _ _ _ us hl => match us, hl with | [_, _, _, _], _ => rfl)
    case d_law_ring_pattern =>
      refine' DL.dn_mk KX G ?a ?l ?c ?k ?b
      (case a => k_is); (case l => k_is); (case c => k_is); (case k => k_is)
      (case b => exact fun _ _ _ _ _ _ us hl => match us, hl with | [_, _], _ => rfl)
    case d_law_ring_right =>
      refine' DL.dn_mk KX G ?a ?l ?c ?k ?b
      (case a => k_is); (case l => k_is); (case c => k_is); (case k => k_is)
      (case b => exact fun _ _ _ _ _ _ us hl => match us, hl with | [_, _, _], _ => rfl)
    case d_law =>
      refine' DL.dnl_mk KX G ?a ?l ?c ?k ?b
      (case a => k_is); (case l => k_is); (case c => k_is); (case k => k_is)
      (case b => exact fun _ _ _ _ _ _ _ => rfl)

