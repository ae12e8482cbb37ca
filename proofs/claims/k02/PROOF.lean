import PyProof.Rows.All
import HandS.ForMost
import HandS.Exc
import HandS.WordsExc
import HandS.IsInst
import HandS.Wide
import HandS.Flow
import HandS.Deep
import HandS.EndBits
import HandS.Defaults
import HandS.Style
import PyProof.ListStr
import PySem.Challenge.RW_guardlots_k02_words_and_class_names
set_option Elab.async false
set_option linter.all false
set_option maxRecDepth 100000
set_option maxHeartbeats 4000000
/-! VL1: a value layer over HandS: data D, its standing Rp in the abstract heap, the state Ev, judgements with readings over data alone. -/
namespace VL
open PySem PySem.Spec L2
open PyProof.Rows hiding St

/-! ### data -/
inductive D where
  | non | bl (b : Bool) | int (i : Int) | str (x : Str) | ty (n : String) | ref (a : Addr)
  | tup (ds : List D) | lst (ds : List D) | dic (ks : List Key) (ds : List D) | obj (C : Addr) (fs : List Str) (ds : List D) | fz (ns : List Int)

theorem seqT {K : PySem.W.Frag} {H H' : Hp} {a : Addr} {xs : List V} (e : Same H H') (h : SqT K H a xs) : SqT K H' a xs := by
  rcases h with (h | ⟨o, h⟩) | h
  · exact .inl (.inl (e _ _ h))
  · exact .inl (.inr ⟨o, e _ _ h⟩)
  · exact .inr h

mutual
inductive Rp (K : PySem.W.Frag) (H : Hp) : V → D → Prop
  | non : Rp K H .non .non
  | bl (b : Bool) : Rp K H (.bl b) (.bl b)
  | int (i : Int) : Rp K H (.int i) (.int i)
  | str (x : Str) : Rp K H (.str x) (.str x)
  | ty (n : String) : Rp K H (.ty n) (.ty n)
  | ref (a : Addr) : Rp K H (.ref a) (.ref a)
  | tup {a : Addr} {xs : List V} {ds : List D} : SqT K H a xs → RpAll K H xs ds → Rp K H (.ref a) (.tup ds)
  | lst {a : Addr} {xs : List V} {ds : List D} : H a = some (.lst xs) → RpAll K H xs ds → Rp K H (.ref a) (.lst ds)
  | fz {a : Addr} {ns : List Int} : SqL K H a (ns.map V.int) → Rp K H (.ref a) (.fz ns)
  | dic {a : Addr} {kvs : List (Key × V)} {ks : List Key} {ds : List D} : H a = some (.dK kvs) → ks = kvs.map (·.1) → RpAll K H (kvs.map (·.2)) ds → Rp K H (.ref a) (.dic ks ds)
  | obj {a C dx : Addr} {fs : List (Str × V)} {ns : List Str} {ds : List D} : H a = some (.ins C dx fs) → ns = fs.map (·.1) → RpAll K H (fs.map (·.2)) ds → Rp K H (.ref a) (.obj C ns ds)
inductive RpAll (K : PySem.W.Frag) (H : Hp) : List V → List D → Prop
  | nil : RpAll K H [] []
  | cons {v : V} {vs : List V} {d : D} {ds : List D} : Rp K H v d → RpAll K H vs ds → RpAll K H (v :: vs) (d :: ds)
end
section
variable {K : PySem.W.Frag} {H H' : Hp}
mutual
theorem Rp.mono (e : Same H H') : ∀ (d : D) (v : V), Rp K H v d → Rp K H' v d
  | .non, _, .non => .non
  | .bl _, _, .bl b => .bl b
  | .int _, _, .int b => .int b
  | .str _, _, .str b => .str b
  | .ty _, _, .ty b => .ty b
  | .ref _, _, .ref b => .ref b
  | .tup ds, _, .tup h hs => .tup (seqT e h) (RpAll.mono e ds _ hs)
  | .lst ds, _, .lst h hs => .lst (e _ _ h) (RpAll.mono e ds _ hs)
  | .fz ns, _, .fz h => .fz (e.seq h)
  | .dic ks ds, _, .dic h hk hs => .dic (e _ _ h) hk (RpAll.mono e ds _ hs)
  | .obj C ns ds, _, .obj h hk hs => .obj (e _ _ h) hk (RpAll.mono e ds _ hs)
theorem RpAll.mono (e : Same H H') : ∀ (ds : List D) (vs : List V), RpAll K H vs ds → RpAll K H' vs ds
  | [], _, .nil => .nil
  | d :: ds, _, .cons h hs => .cons (Rp.mono e d _ h) (RpAll.mono e ds _ hs)
end
theorem RpAll.length : ∀ {vs : List V} {ds : List D}, RpAll K H vs ds → vs.length = ds.length
  | _, _, .nil => rfl
  | _, _, .cons _ h => by rw [List.length_cons, List.length_cons, h.length]
theorem RpAll.append : ∀ {vs ws : List V} {ds es : List D}, RpAll K H vs ds → RpAll K H ws es → RpAll K H (vs ++ ws) (ds ++ es)
  | _, _, _, _, .nil, h => h
  | _, _, _, _, .cons a h, h2 => .cons a (h.append h2)
theorem RpAll.get : ∀ {vs : List V} {ds : List D} {i : Nat} {d : D}, RpAll K H vs ds → ds[i]? = some d → ∃ v, vs[i]? = some v ∧ Rp K H v d
  | _, _, 0, _, .cons a _, e => by simp at e; subst e; exact ⟨_, rfl, a⟩
  | _, _, i + 1, _, .cons _ h, e => by simpa using h.get (i := i) (by simpa using e)
  | _, _, _, _, .nil, e => by simp at e
theorem RpAll.getV : ∀ {vs : List V} {ds : List D} {i : Nat} {v : V}, RpAll K H vs ds → vs[i]? = some v → ∃ d, ds[i]? = some d ∧ Rp K H v d
  | _, _, 0, _, .cons a _, e => by simp at e; subst e; exact ⟨_, rfl, a⟩
  | _, _, i + 1, _, .cons _ h, e => by simpa using h.getV (i := i) (by simpa using e)
  | _, _, _, _, .nil, e => by simp at e
theorem RpAll.take : ∀ {vs : List V} {ds : List D} (n : Nat), RpAll K H vs ds → RpAll K H (vs.take n) (ds.take n)
  | _, _, 0, _ => .nil
  | _, _, _ + 1, .nil => .nil
  | _, _, n + 1, .cons a h => .cons a (h.take n)
theorem RpAll.drop : ∀ {vs : List V} {ds : List D} (n : Nat), RpAll K H vs ds → RpAll K H (vs.drop n) (ds.drop n)
  | _, _, 0, h => h
  | _, _, _ + 1, .nil => .nil
  | _, _, n + 1, .cons _ h => h.drop n
theorem RpAll.erase : ∀ {vs : List V} {ds : List D} (n : Nat), RpAll K H vs ds → RpAll K H (vs.eraseIdx n) (ds.eraseIdx n)
  | _, _, _, .nil => .nil
  | _, _, 0, .cons _ h => h
  | _, _, n + 1, .cons a h => .cons a (h.erase n)
theorem RpAll.reverse : ∀ {vs : List V} {ds : List D}, RpAll K H vs ds → RpAll K H vs.reverse ds.reverse
  | _, _, .nil => .nil
  | _, _, .cons a h => by
    rw [List.reverse_cons, List.reverse_cons]
    exact h.reverse.append (.cons a .nil)
theorem RpAll.rep {vs : List V} {ds : List D} (h : RpAll K H vs ds) : ∀ k : Nat, RpAll K H (List.replicate k vs).flatten (List.replicate k ds).flatten
  | 0 => .nil
  | k + 1 => by
    rw [List.replicate_succ, List.replicate_succ, List.flatten_cons, List.flatten_cons]
    exact h.append (h.rep k)
theorem RpAll.one {vs : List V} {d : D} (h : RpAll K H vs [d]) : ∃ v, vs = [v] ∧ Rp K H v d := by
  cases h with
  | cons a h => cases h; exact ⟨_, rfl, a⟩
theorem RpAll.two {vs : List V} {d e : D} (h : RpAll K H vs [d, e]) : ∃ v w, vs = [v, w] ∧ Rp K H v d ∧ Rp K H w e := by
  cases h with
  | cons a h => obtain ⟨w, rfl, b⟩ := h.one; exact ⟨_, _, rfl, a, b⟩
end

/-! ### the state -/
/-- what a slot holds: nothing known, data, or a list (a dict) that this slot alone holds -/
inductive Sl where
  | no | dat (d : D) | own (ds : List D) | owd (ks : List Key) (ds : List D)
abbrev Gm := List Sl

/-- what code did: the value heap grew; all that stood but the volatile stands -/
structure Ret (vol : Addr → Prop) (inv : Hp → Prop) (Hv H Hv' H' : Hp) : Prop where
  sv : Same Hv Hv'
  sub : Same Hv' H'
  old : ∀ a o, H a = some o → ¬ vol a → H' a = some o
  inv : inv H'
  nv : ∀ a, vol a → Hv' a = none
  grow : ∀ a o, Hv' a = some o → Hv a = some o ∨ H a = none

structure Vol where
  vol : Addr → Prop
  inv : Hp → Prop
  there : ∀ H a, inv H → vol a → H a ≠ none
  keep : ∀ H H', inv H → (∀ a, vol a → H' a = H a) → inv H'
def Vol.no : Vol := ⟨fun _ => False, fun _ => True, fun _ _ _ h => h.elim, fun _ _ _ _ => True.intro⟩

structure Wc where
  J : Vol
  H0 : Hp
  Hv0 : Hp
  inv0 : J.inv H0
  sub0 : Same Hv0 H0
  nv0 : ∀ a, J.vol a → Hv0 a = none

def Sl.isOwn : Sl → Bool
  | .own _ => true
  | .owd _ _ => true
  | _ => false

def SlOk (K : PySem.W.Frag) (W : Wc) (Hv H : Hp) : Sl → Option V → Prop
  | .no, _ => True
  | .dat d, o => ∃ v, o = some v ∧ Rp K Hv v d
  | .own ds, o => ∃ a vs, o = some (.ref a) ∧ H a = some (.lst vs) ∧ RpAll K Hv vs ds ∧ Hv a = none ∧ W.H0 a = none
  | .owd ks ds, o => ∃ a kvs, o = some (.ref a) ∧ H a = some (.dK kvs) ∧ ks = kvs.map (·.1) ∧ RpAll K Hv (kvs.map (·.2)) ds ∧ Hv a = none ∧ W.H0 a = none

structure Ev (K : PySem.W.Frag) (W : Wc) (Γ : Gm) (σ : St) (Hv H : Hp) : Prop where
  ret : Ret W.J.vol W.J.inv W.Hv0 W.H0 Hv H
  len : σ.length = Γ.length
  slots : ∀ (i : Nat) (sl : Sl), Γ[i]? = some sl → SlOk K W Hv H sl (σ[i]?.join)
  apart : ∀ (i j : Nat) (sl sl' : Sl) (a : Addr), i ≠ j → Γ[i]? = some sl → Γ[j]? = some sl' → sl.isOwn = true → sl'.isOwn = true → σ[i]? = some (some (V.ref a)) → σ[j]? ≠ some (some (V.ref a))

/-- a new object that no slot holds -/
structure Fresh (W : Wc) (Γ : Gm) (σ : St) (Hv : Hp) (p : Addr) : Prop where
  hv : Hv p = none
  h0 : W.H0 p = none
  sl : ∀ (i : Nat) (s : Sl), Γ[i]? = some s → s.isOwn = true → σ[i]? ≠ some (some (V.ref p))

section
variable {K : PySem.W.Frag} {W : Wc} {Γ : Gm} {σ : St} {Hv H Hv' H' : Hp}
theorem SlOk.own_at {sl : Sl} {o : Option V} (h : SlOk K W Hv H sl o) (ho : sl.isOwn = true) : ∃ a u, o = some (.ref a) ∧ H a = some u ∧ Hv a = none ∧ W.H0 a = none := by
  cases sl with
  | no => cases ho
  | dat d => cases ho
  | own ds => obtain ⟨a, vs, h1, h2, _, h4, h5⟩ := h; exact ⟨a, _, h1, h2, h4, h5⟩
  | owd ks ds => obtain ⟨a, vs, h1, h2, _, _, h4, h5⟩ := h; exact ⟨a, _, h1, h2, h4, h5⟩
/-- a slot stays when its own object stays and the value heap grows -/
theorem SlOk.stay {sl : Sl} {o : Option V} (h : SlOk K W Hv H sl o) (sv : Same Hv Hv') (k : ∀ a u, sl.isOwn = true → o = some (.ref a) → H a = some u → Hv a = none → H' a = some u ∧ Hv' a = none) : SlOk K W Hv' H' sl o := by
  cases sl with
  | no => trivial
  | dat d => obtain ⟨v, e, r⟩ := h; exact ⟨v, e, Rp.mono sv _ _ r⟩
  | own ds =>
    obtain ⟨a, vs, h1, h2, h3, h4, h5⟩ := h
    obtain ⟨k1, k2⟩ := k a _ rfl h1 h2 h4
    exact ⟨a, vs, h1, k1, RpAll.mono sv _ _ h3, k2, h5⟩
  | owd ks ds =>
    obtain ⟨a, vs, h1, h2, h3, h3', h4, h5⟩ := h
    obtain ⟨k1, k2⟩ := k a _ rfl h1 h2 h4
    exact ⟨a, vs, h1, k1, h3, RpAll.mono sv _ _ h3', k2, h5⟩
theorem Ev.noneH0 (E : Ev K W Γ σ Hv H) {p : Addr} (h : H p = none) : W.H0 p = none := by
  cases q : W.H0 p with
  | none => rfl
  | some o =>
    by_cases hv : W.J.vol p
    · exact absurd h (W.J.there _ _ E.ret.inv hv)
    · rw [E.ret.old _ _ q hv] at h; cases h
theorem Ev.noneHv (E : Ev K W Γ σ Hv H) {p : Addr} (h : H p = none) : Hv p = none := E.ret.sub.free h
theorem Ev.novol (E : Ev K W Γ σ Hv H) {p : Addr} (h : W.H0 p = none) : ¬ W.J.vol p := fun v => W.J.there _ _ W.inv0 v h
theorem same_upd {H : Hp} {p : Addr} {o : HO} (h : H p = none) : Same H (upd H p o) := fun b x e => by
  rw [upd_ne (ne_of_none e h)]
  exact e
theorem same_upd2 {Hv H : Hp} {p : Addr} {o : HO} (s : Same Hv H) : Same (upd Hv p o) (upd H p o) := fun b x e => by
  by_cases hb : b = p
  · subst hb; rw [upd_same] at e ⊢; exact e
  · rw [upd_ne hb] at e ⊢; exact s _ _ e
theorem same_left {Hv H : Hp} {p : Addr} {o : HO} (s : Same Hv H) (h : Hv p = none) : Same Hv (upd H p o) := fun b x e => by
  rw [upd_ne (ne_of_none e h)]; exact s _ _ e
theorem same_share {Hv H : Hp} {p : Addr} {o : HO} (s : Same Hv H) (h : H p = some o) : Same (upd Hv p o) H := fun b x e => by
  by_cases hb : b = p
  · subst hb; rw [upd_same] at e; cases e; exact h
  · rw [upd_ne hb] at e; exact s _ _ e
/-- a new object, of the value heap -/
theorem Ev.alloc (E : Ev K W Γ σ Hv H) {p : Addr} (o : HO) (h : H p = none) : Ev K W Γ σ (upd Hv p o) (upd H p o) := by
  have h0 := E.noneH0 h
  have hv := E.noneHv h
  have nv := E.novol h0
  refine ⟨⟨E.ret.sv.trans (same_upd hv), same_upd2 E.ret.sub, fun a u e n => ?_, W.J.keep _ _ E.ret.inv fun a v => ?_, fun a v => ?_, fun a u e => ?_⟩, E.len, fun i sl e => (E.slots i sl e).stay (same_upd hv) fun a u _ _ ea na => ?_, E.apart⟩
  · rw [upd_ne (ne_of_none e h0)]; exact E.ret.old a u e n
  · exact upd_ne (fun z => nv (by rw [← z]; exact v))
  · rw [upd_ne (show a ≠ p from fun z => nv (by rw [← z]; exact v))]; exact E.ret.nv a v
  · by_cases hb : a = p
    · subst hb; exact .inr h0
    · rw [upd_ne hb] at e; exact E.ret.grow a u e
  · have ne := ne_of_none ea h
    rw [upd_ne ne, upd_ne ne]; exact ⟨ea, na⟩
/-- a new object, of no one yet -/
theorem Ev.alloc0 (E : Ev K W Γ σ Hv H) {p : Addr} (o : HO) (h : H p = none) : Ev K W Γ σ Hv (upd H p o) ∧ Fresh W Γ σ Hv p := by
  have h0 := E.noneH0 h
  have hv := E.noneHv h
  have nv := E.novol h0
  refine ⟨⟨⟨E.ret.sv, same_left E.ret.sub hv, fun a u e n => ?_, W.J.keep _ _ E.ret.inv fun a v => ?_, E.ret.nv, E.ret.grow⟩, E.len, fun i sl e => (E.slots i sl e).stay (Same.refl _) fun a u _ _ ea na => ?_, E.apart⟩, hv, h0, fun i s e ow z => ?_⟩
  · rw [upd_ne (ne_of_none e h0)]; exact E.ret.old a u e n
  · exact upd_ne (fun z => nv (by rw [← z]; exact v))
  · rw [upd_ne (ne_of_none ea h)]; exact ⟨ea, na⟩
  · obtain ⟨a, u, e1, e2, _⟩ := (E.slots i s e).own_at ow
    rw [z] at e1
    cases e1
    rw [h] at e2; cases e2
/-- an object of no one is of the value heap from now on -/
theorem Ev.share (E : Ev K W Γ σ Hv H) {p : Addr} {o : HO} (F : Fresh W Γ σ Hv p) (h : H p = some o) : Ev K W Γ σ (upd Hv p o) H := by
  refine ⟨⟨E.ret.sv.trans (same_upd F.hv), same_share E.ret.sub h, E.ret.old, E.ret.inv, fun a v => ?_, fun a u e => ?_⟩, E.len, fun i sl e => (E.slots i sl e).stay (same_upd F.hv) fun a u ow eo ea na => ?_, E.apart⟩
  · rw [upd_ne (show a ≠ p from fun z => E.novol F.h0 (by rw [← z]; exact v))]; exact E.ret.nv a v
  · by_cases hb : a = p
    · subst hb; exact .inr F.h0
    · rw [upd_ne hb] at e; exact E.ret.grow a u e
  · refine ⟨ea, ?_⟩
    rw [upd_ne]
    · exact na
    · intro z
      subst z
      cases q : σ[i]? with
      | none => rw [q] at eo; cases eo
      | some y =>
        rw [q] at eo
        have : y = some (.ref a) := eo
        subst this
        exact F.sl i sl e ow q
/-- an object of no one is changed -/
theorem Ev.turn (E : Ev K W Γ σ Hv H) {p : Addr} (o : HO) (F : Fresh W Γ σ Hv p) (hp : H p ≠ none) : Ev K W Γ σ Hv (upd H p o) := by
  refine ⟨⟨E.ret.sv, same_left E.ret.sub F.hv, fun a u e n => ?_, W.J.keep _ _ E.ret.inv fun a v => ?_, E.ret.nv, E.ret.grow⟩, E.len, fun i sl e => (E.slots i sl e).stay (Same.refl _) fun a u ow eo ea na => ?_, E.apart⟩
  · rw [upd_ne (ne_of_none e F.h0)]; exact E.ret.old a u e n
  · exact upd_ne (fun z => E.novol F.h0 (by rw [← z]; exact v))
  · refine ⟨?_, na⟩
    rw [upd_ne]
    · exact ea
    · intro z
      subst z
      cases q : σ[i]? with
      | none => rw [q] at eo; cases eo
      | some y =>
        rw [q] at eo
        have : y = some (.ref a) := eo
        subst this
        exact F.sl i sl e ow q
/-- behind a call -/
theorem Ev.after (E : Ev K W Γ σ Hv H) (R : Ret W.J.vol W.J.inv Hv H Hv' H') : Ev K W Γ σ Hv' H' := by
  refine ⟨⟨E.ret.sv.trans R.sv, R.sub, fun a u e n => R.old a u (E.ret.old a u e n) n, R.inv, R.nv, fun a u e => ?_⟩, E.len, fun i sl e => (E.slots i sl e).stay R.sv fun a u ow eo ea na => ?_, E.apart⟩
  · rcases R.grow a u e with g | g
    · exact E.ret.grow a u g
    · exact .inr (E.noneH0 g)
  · obtain ⟨b, u', e1, e2, e3, e4⟩ := (E.slots i sl e).own_at ow
    rw [eo] at e1
    cases e1
    refine ⟨R.old a u ea (E.novol e4), ?_⟩
    cases q : Hv' a with
    | none => rfl
    | some w =>
      rcases R.grow a w q with g | g
      · rw [na] at g; cases g
      · rw [ea] at g; cases g
/-- what a pure callee did -/
theorem Ev.pure (E : Ev K W Γ σ Hv H) (R : Ret Vol.no.vol Vol.no.inv Hv H Hv' H') : Ret W.J.vol W.J.inv Hv H Hv' H' := by
  have all : Same H H' := fun a u e => R.old a u e fun z => z
  refine ⟨R.sv, R.sub, fun a u e _ => all a u e, W.J.keep _ _ E.ret.inv fun a v => ?_, fun a v => ?_, R.grow⟩
  · cases q : H a with
    | none => exact absurd q (W.J.there _ _ E.ret.inv v)
    | some u => exact all a u q
  · cases q : Hv' a with
    | none => rfl
    | some u =>
      rcases R.grow a u q with g | g
      · rw [E.ret.nv a v] at g; cases g
      · exact absurd g (W.J.there _ _ E.ret.inv v)
/-- what stands in a slot is stored -/
theorem Ev.set (E : Ev K W Γ σ Hv H) {i : Nat} {v : V} {d : D} (r : Rp K Hv v d) : Ev K W (Γ.set i (.dat d)) (σ.set i (some v)) Hv H := by
  have hl := E.len
  refine ⟨E.ret, by rw [List.length_set, List.length_set, hl], fun j sl e => ?_, fun j k sl sl' a ne e1 e2 o1 o2 q => ?_⟩
  · by_cases hj : i = j
    · subst hj
      have hi : i < Γ.length := by
        have := (List.getElem?_eq_some_iff.mp e).1
        rw [List.length_set] at this; exact this
      rw [List.getElem?_set_self hi] at e
      cases e
      rw [List.getElem?_set_self (by omega)]
      exact ⟨v, rfl, r⟩
    · rw [List.getElem?_set_ne hj] at e ⊢
      exact E.slots j sl e
  · by_cases hj : i = j
    · subst hj
      have hi : i < Γ.length := by
        have := (List.getElem?_eq_some_iff.mp e1).1
        rw [List.length_set] at this; exact this
      rw [List.getElem?_set_self hi] at e1
      cases e1; cases o1
    · by_cases hk : i = k
      · subst hk
        have hi : i < Γ.length := by
          have := (List.getElem?_eq_some_iff.mp e2).1
          rw [List.length_set] at this; exact this
        rw [List.getElem?_set_self hi] at e2
        cases e2; cases o2
      · rw [List.getElem?_set_ne hj] at e1 q
        rw [List.getElem?_set_ne hk] at e2 ⊢
        exact E.apart j k sl sl' a ne e1 e2 o1 o2 q
theorem Ev.get (E : Ev K W Γ σ Hv H) {i : Nat} {d : D} (e : Γ[i]? = some (.dat d)) : ∃ v, σ[i]? = some (some v) ∧ Rp K Hv v d := by
  obtain ⟨v, h, r⟩ := E.slots i _ e
  refine ⟨v, ?_, r⟩
  cases q : σ[i]? with
  | none => rw [q] at h; cases h
  | some y => rw [q] at h; exact congrArg some h
theorem Ev.getOwn (E : Ev K W Γ σ Hv H) {i : Nat} {ds : List D} (e : Γ[i]? = some (.own ds)) : ∃ a vs, σ[i]? = some (some (.ref a)) ∧ H a = some (.lst vs) ∧ RpAll K Hv vs ds ∧ Hv a = none ∧ W.H0 a = none := by
  obtain ⟨a, vs, h, r⟩ := E.slots i _ e
  refine ⟨a, vs, ?_, r⟩
  cases q : σ[i]? with
  | none => rw [q] at h; cases h
  | some y => rw [q] at h; exact congrArg some h
/-- an own list changed in its slot -/
theorem Ev.mut (E : Ev K W Γ σ Hv H) {i : Nat} {ds ds' : List D} {a : Addr} {vs' : List V} (e : Γ[i]? = some (.own ds)) (es : σ[i]? = some (some (.ref a))) (r : RpAll K Hv vs' ds') : Ev K W (Γ.set i (.own ds')) σ Hv (upd H a (.lst vs')) := by
  obtain ⟨a', vs, h1, h2, h3, h4, h5⟩ := E.getOwn e
  rw [es] at h1
  cases h1
  have hi : i < Γ.length := (List.getElem?_eq_some_iff.mp e).1
  have nva := E.novol h5
  refine ⟨⟨E.ret.sv, same_left E.ret.sub h4, fun b u q n => ?_, W.J.keep _ _ E.ret.inv fun b v => ?_, E.ret.nv, E.ret.grow⟩, by rw [List.length_set]; exact E.len, fun j sl q => ?_, fun j k sl sl' b ne e1 e2 o1 o2 q => ?_⟩
  · rw [upd_ne (ne_of_none q h5)]; exact E.ret.old b u q n
  · exact upd_ne (fun z => nva (by rw [← z]; exact v))
  · by_cases hj : i = j
    · subst hj
      rw [List.getElem?_set_self hi] at q
      cases q
      rw [es]
      exact ⟨a, vs', rfl, upd_same, r, h4, h5⟩
    · rw [List.getElem?_set_ne hj] at q
      refine (E.slots j sl q).stay (Same.refl _) fun b u ow eo eb nb => ⟨?_, nb⟩
      rw [upd_ne]
      · exact eb
      · intro z
        subst z
        have q2 : σ[j]? = some (some (.ref b)) := by
          cases w : σ[j]? with
          | none => rw [w] at eo; cases eo
          | some y => rw [w] at eo; exact congrArg some eo
        exact E.apart i j _ _ b hj e q rfl ow es q2
  · have fix : ∀ (j : Nat) (sl : Sl), (Γ.set i (.own ds'))[j]? = some sl → sl.isOwn = true → ∃ sl2, Γ[j]? = some sl2 ∧ sl2.isOwn = true := fun j sl q o => by
      by_cases hj : i = j
      · subst hj; exact ⟨_, e, rfl⟩
      · rw [List.getElem?_set_ne hj] at q; exact ⟨sl, q, o⟩
    obtain ⟨s1, f1, p1⟩ := fix j sl e1 o1
    obtain ⟨s2, f2, p2⟩ := fix k sl' e2 o2
    exact E.apart j k s1 s2 b ne f1 f2 p1 p2 q
/-- an own list is shared -/
theorem Ev.let (E : Ev K W Γ σ Hv H) {i : Nat} {ds : List D} (e : Γ[i]? = some (.own ds)) : ∃ a vs, σ[i]? = some (some (.ref a)) ∧ Hv a = none ∧ Ev K W (Γ.set i (.dat (.lst ds))) σ (upd Hv a (.lst vs)) H ∧ Rp K (upd Hv a (.lst vs)) (.ref a) (.lst ds) := by
  obtain ⟨a, vs, h1, h2, h3, h4, h5⟩ := E.getOwn e
  have hi : i < Γ.length := (List.getElem?_eq_some_iff.mp e).1
  have r : Rp K (upd Hv a (.lst vs)) (.ref a) (.lst ds) := .lst upd_same (RpAll.mono (same_upd h4) _ _ h3)
  refine ⟨a, vs, h1, h4, ⟨⟨E.ret.sv.trans (same_upd h4), same_share E.ret.sub h2, E.ret.old, E.ret.inv, fun b v => ?_, fun b u q => ?_⟩, by rw [List.length_set]; exact E.len, fun j sl q => ?_, fun j k sl sl' b ne e1 e2 o1 o2 q => ?_⟩, r⟩
  · rw [upd_ne (show b ≠ a from fun z => E.novol h5 (by rw [← z]; exact v))]; exact E.ret.nv b v
  · by_cases hb : b = a
    · subst hb; exact .inr h5
    · rw [upd_ne hb] at q; exact E.ret.grow b u q
  · by_cases hj : i = j
    · subst hj
      rw [List.getElem?_set_self hi] at q
      cases q
      rw [h1]
      exact ⟨_, rfl, r⟩
    · rw [List.getElem?_set_ne hj] at q
      refine (E.slots j sl q).stay (same_upd h4) fun b u ow eo eb nb => ⟨eb, ?_⟩
      rw [upd_ne]
      · exact nb
      · intro z
        subst z
        have q2 : σ[j]? = some (some (.ref b)) := by
          cases w : σ[j]? with
          | none => rw [w] at eo; cases eo
          | some y => rw [w] at eo; exact congrArg some eo
        exact E.apart i j _ _ b hj e q rfl ow h1 q2
  · have fix : ∀ (j : Nat) (sl : Sl), (Γ.set i (.dat (.lst ds)))[j]? = some sl → sl.isOwn = true → Γ[j]? = some sl := fun j sl q o => by
      by_cases hj : i = j
      · subst hj
        rw [List.getElem?_set_self hi] at q
        cases q; cases o
      · rw [List.getElem?_set_ne hj] at q; exact q
    exact E.apart j k sl sl' b ne (fix j sl e1 o1) (fix k sl' e2 o2) o1 o2 q
/-- a list of no one goes to a slot -/
theorem Ev.keepOwn (E : Ev K W Γ σ Hv H) {i : Nat} {p : Addr} {vs : List V} {ds : List D} (F : Fresh W Γ σ Hv p) (h : H p = some (.lst vs)) (r : RpAll K Hv vs ds) : Ev K W (Γ.set i (.own ds)) (σ.set i (some (.ref p))) Hv H := by
  have hl := E.len
  have atI : ∀ {sl : Sl}, (Γ.set i (.own ds))[i]? = some sl → i < Γ.length := fun e => by
    have := (List.getElem?_eq_some_iff.mp e).1
    rw [List.length_set] at this; exact this
  refine ⟨E.ret, by rw [List.length_set, List.length_set, hl], fun j sl e => ?_, fun j k sl sl' a ne e1 e2 o1 o2 q => ?_⟩
  · by_cases hj : i = j
    · subst hj
      have hi := atI e
      rw [List.getElem?_set_self hi] at e
      cases e
      rw [List.getElem?_set_self (by omega)]
      exact ⟨p, vs, rfl, h, r, F.hv, F.h0⟩
    · rw [List.getElem?_set_ne hj] at e ⊢
      exact E.slots j sl e
  · by_cases hj : i = j
    · subst hj
      have hi := atI e1
      rw [List.getElem?_set_self (by omega)] at q
      cases q
      have hk : i ≠ k := ne
      rw [List.getElem?_set_ne hk] at e2 ⊢
      exact F.sl k sl' e2 o2
    · by_cases hk : i = k
      · subst hk
        have hi := atI e2
        rw [List.getElem?_set_ne hj] at e1 q
        rw [List.getElem?_set_self (by omega)]
        intro z
        have z' : V.ref p = V.ref a := Option.some.inj (Option.some.inj z)
        cases z'
        exact F.sl j sl e1 o1 q
      · rw [List.getElem?_set_ne hj] at e1 q
        rw [List.getElem?_set_ne hk] at e2 ⊢
        exact E.apart j k sl sl' a ne e1 e2 o1 o2 q
theorem Fresh.at {Hv'' : Hp} {p : Addr} (F : Fresh W Γ σ Hv p) (h : Hv'' p = none) : Fresh W Γ σ Hv'' p := ⟨h, F.h0, F.sl⟩
end
end VL

set_option Elab.async false
set_option linter.all false
set_option maxRecDepth 100000
set_option maxHeartbeats 4000000
/-! VL2: steps, judgements with readings over data, the base rules. -/
namespace VL
open PySem PySem.Spec L2
open PyProof.Rows hiding St

/-- a step: the value heap grew, the state is held, what was of no one is untouched -/
structure Stp (K : PySem.W.Frag) (W : Wc) (Γ : Gm) (σ : St) (Hv H : Hp) (Γ' : Gm) (σ' : St) (Hv' H' : Hp) : Prop where
  sv : Same Hv Hv'
  ev : Ev K W Γ' σ' Hv' H'
  fr : ∀ a, Fresh W Γ σ Hv a → H a ≠ none → H' a = H a ∧ Fresh W Γ' σ' Hv' a
  st : ∀ a, H a ≠ none → H' a ≠ none
section
variable {K : PySem.W.Frag} {W : Wc} {Γ Γ' Γ'' : Gm} {σ σ' σ'' : St} {Hv H Hv' H' Hv'' H'' : Hp}
theorem Ev.stp (E : Ev K W Γ σ Hv H) : Stp K W Γ σ Hv H Γ σ Hv H := ⟨.refl _, E, fun _ F _ => ⟨rfl, F⟩, fun _ n => n⟩
theorem Stp.trans (a : Stp K W Γ σ Hv H Γ' σ' Hv' H') (b : Stp K W Γ' σ' Hv' H' Γ'' σ'' Hv'' H'') : Stp K W Γ σ Hv H Γ'' σ'' Hv'' H'' :=
  ⟨a.sv.trans b.sv, b.ev, fun x F n => by
    obtain ⟨e1, F1⟩ := a.fr x F n
    obtain ⟨e2, F2⟩ := b.fr x F1 (by rw [e1]; exact n)
    exact ⟨e2.trans e1, F2⟩, fun x n => b.st x (a.st x n)⟩
theorem upd_st {H : Hp} {p : Addr} {o : HO} : ∀ a, H a ≠ none → upd H p o a ≠ none := fun a n => by
  by_cases h : a = p
  · subst h; rw [upd_same]; simp
  · rw [upd_ne h]; exact n
theorem Stp.alloc (a : Stp K W Γ σ Hv H Γ' σ' Hv' H') {p : Addr} (o : HO) (h : H' p = none) : Stp K W Γ σ Hv H Γ' σ' (upd Hv' p o) (upd H' p o) :=
  a.trans ⟨same_upd (a.ev.noneHv h), a.ev.alloc o h, fun x F n => by
    have ne : x ≠ p := fun z => n (by rw [z]; exact h)
    rw [upd_ne ne]
    exact ⟨rfl, F.at (by rw [upd_ne ne]; exact F.hv)⟩, upd_st⟩
theorem Stp.alloc0 (a : Stp K W Γ σ Hv H Γ' σ' Hv' H') {p : Addr} (o : HO) (h : H' p = none) : Stp K W Γ σ Hv H Γ' σ' Hv' (upd H' p o) ∧ Fresh W Γ' σ' Hv' p := by
  obtain ⟨e, F⟩ := a.ev.alloc0 o h
  exact ⟨a.trans ⟨.refl _, e, fun x F n => ⟨upd_ne (show x ≠ p from fun z => n (by rw [z]; exact h)), F⟩, upd_st⟩, F⟩
/-- what is none now was none at the start of a step -/
theorem Stp.was (a : Stp K W Γ σ Hv H Γ' σ' Hv' H') {p : Addr} (h : H' p = none) : H p = none := by
  cases q : H p with
  | none => rfl
  | some o => exact absurd h (a.st p (by rw [q]; simp))
theorem Stp.share (a : Stp K W Γ σ Hv H Γ' σ' Hv' H') {p : Addr} {o : HO} (F : Fresh W Γ' σ' Hv' p) (h : H' p = some o) (hn : H p = none) : Stp K W Γ σ Hv H Γ' σ' (upd Hv' p o) H' := by
  refine ⟨a.sv.trans (same_upd F.hv), a.ev.share F h, fun x G n => ?_, a.st⟩
  obtain ⟨e, G'⟩ := a.fr x G n
  have ne : x ≠ p := fun z => n (by rw [z]; exact hn)
  exact ⟨e, G'.at (by rw [upd_ne ne]; exact G'.hv)⟩
theorem Stp.turn (a : Stp K W Γ σ Hv H Γ' σ' Hv' H') {p : Addr} (o : HO) (F : Fresh W Γ' σ' Hv' p) (hp : H' p ≠ none) (hn : H p = none) : Stp K W Γ σ Hv H Γ' σ' Hv' (upd H' p o) := by
  refine ⟨a.sv, a.ev.turn o F hp, fun x G n => ?_, fun x n => upd_st x (a.st x n)⟩
  obtain ⟨e, G'⟩ := a.fr x G n
  have ne : x ≠ p := fun z => n (by rw [z]; exact hn)
  exact ⟨by rw [upd_ne ne]; exact e, G'⟩
theorem Stp.after (a : Stp K W Γ σ Hv H Γ' σ' Hv' H') (R : Ret W.J.vol W.J.inv Hv' H' Hv'' H'') : Stp K W Γ σ Hv H Γ' σ' Hv'' H'' :=
  a.trans ⟨R.sv, a.ev.after R, fun x F n => by
    cases q : H' x with
    | none => exact absurd q n
    | some o =>
      refine ⟨(R.old x o q (a.ev.novol F.h0)), F.at ?_⟩
      cases w : Hv'' x with
      | none => rfl
      | some u =>
        rcases R.grow x u w with g | g
        · rw [F.hv] at g; cases g
        · exact absurd g n, fun x n => by
    by_cases v : W.J.vol x
    · exact W.J.there _ _ R.inv v
    · cases q : H' x with
      | none => exact absurd q n
      | some o => rw [R.old x o q v]; simp⟩
theorem Fresh.set {i : Nat} {s : Sl} {v : Option V} {a : Addr} (F : Fresh W Γ σ Hv a) (hl : σ.length = Γ.length) (h : s.isOwn = true → v ≠ some (.ref a)) : Fresh W (Γ.set i s) (σ.set i v) Hv a := by
  refine ⟨F.hv, F.h0, fun j t e o => ?_⟩
  by_cases hj : i = j
  · subst hj
    have hi : i < Γ.length := by
      have := (List.getElem?_eq_some_iff.mp e).1
      rw [List.length_set] at this; exact this
    rw [List.getElem?_set_self hi] at e
    cases e
    rw [List.getElem?_set_self (by omega)]
    intro z
    exact h o (Option.some.inj z)
  · rw [List.getElem?_set_ne hj] at e ⊢
    exact F.sl j t e o
theorem Stp.set (a : Stp K W Γ σ Hv H Γ' σ' Hv' H') {i : Nat} {v : V} {d : D} (r : Rp K Hv' v d) : Stp K W Γ σ Hv H (Γ'.set i (.dat d)) (σ'.set i (some v)) Hv' H' :=
  a.trans ⟨.refl _, a.ev.set r, fun x F n => ⟨rfl, F.set a.ev.len (fun z => by cases z)⟩, fun _ n => n⟩
theorem Stp.keepOwn (a : Stp K W Γ σ Hv H Γ' σ' Hv' H') {i : Nat} {p : Addr} {vs : List V} {ds : List D} (F : Fresh W Γ' σ' Hv' p) (h : H' p = some (.lst vs)) (r : RpAll K Hv' vs ds) (hn : H p = Option.none) :
    Stp K W Γ σ Hv H (Γ'.set i (.own ds)) (σ'.set i (some (.ref p))) Hv' H' := by
  refine ⟨a.sv, a.ev.keepOwn F h r, fun x G n => ?_, a.st⟩
  obtain ⟨e, G'⟩ := a.fr x G n
  have ne : x ≠ p := fun z => n (by rw [z]; exact hn)
  exact ⟨e, G'.set a.ev.len (fun _ z => ne (by injection z with z; injection z with z; exact z.symm))⟩
theorem Fresh.set1 {i : Nat} {s s' : Sl} {a : Addr} (F : Fresh W Γ σ Hv a) (e : Γ[i]? = some s) (h : s'.isOwn = true → s.isOwn = true) : Fresh W (Γ.set i s') σ Hv a := by
  refine ⟨F.hv, F.h0, fun j t q o => ?_⟩
  by_cases hj : i = j
  · subst hj
    have hi := (List.getElem?_eq_some_iff.mp e).1
    rw [List.getElem?_set_self hi] at q
    cases q
    exact F.sl i s e (h o)
  · rw [List.getElem?_set_ne hj] at q
    exact F.sl j t q o
theorem Fresh.ne_own {i : Nat} {s : Sl} {a p : Addr} (F : Fresh W Γ σ Hv a) (e : Γ[i]? = some s) (o : s.isOwn = true) (es : σ[i]? = some (some (.ref p))) : a ≠ p := fun z => F.sl i s e o (by rw [z]; exact es)
theorem Stp.mut (a : Stp K W Γ σ Hv H Γ' σ' Hv' H') {i : Nat} {ds ds' : List D} {p : Addr} {vs' : List V} (e : Γ'[i]? = some (.own ds)) (es : σ'[i]? = some (some (.ref p))) (r : RpAll K Hv' vs' ds') :
    Stp K W Γ σ Hv H (Γ'.set i (.own ds')) σ' Hv' (upd H' p (.lst vs')) :=
  a.trans ⟨.refl _, a.ev.mut e es r, fun x F n => ⟨upd_ne (F.ne_own e rfl es), F.set1 e fun _ => rfl⟩, upd_st⟩
theorem Stp.let (a : Stp K W Γ σ Hv H Γ' σ' Hv' H') {i : Nat} {ds : List D} (e : Γ'[i]? = some (.own ds)) :
    ∃ p vs, σ'[i]? = some (some (.ref p)) ∧ Stp K W Γ σ Hv H (Γ'.set i (.dat (.lst ds))) σ' (upd Hv' p (.lst vs)) H' ∧ Rp K (upd Hv' p (.lst vs)) (.ref p) (.lst ds) := by
  obtain ⟨p, vs, h1, h2, h3, h4⟩ := a.ev.let e
  refine ⟨p, vs, h1, a.trans ⟨same_upd h2, h3, fun x F n => ⟨rfl, ?_⟩, fun _ n => n⟩, h4⟩
  have ne := F.ne_own e rfl h1
  exact (F.set1 e fun z => by cases z).at (by rw [upd_ne ne]; exact F.hv)
end

/-! ### judgements -/
abbrev TDE := Gm → (D → Gm → Prop) → Prop
abbrev TDF := Gm → (List D → Gm → Prop) → Prop
abbrev TDT := Gm → (Bool → Gm → Prop) → Prop
abbrev TDG := D → Gm → (Gm → Prop) → Prop
def Ad (K : PySem.W.Frag) (W : Wc) (te : TE) (td : TDE) : Prop := ∀ Γ σ Hv H (Q : D → Gm → Prop) (Q' : VK), Ev K W Γ σ Hv H → td Γ Q →
  (∀ v d Γ' Hv' H', Stp K W Γ σ Hv H Γ' σ Hv' H' → Rp K Hv' v d → Q d Γ' → Q' v H') → te σ H Q'
/-- a new list -/
def AdF (K : PySem.W.Frag) (W : Wc) (te : TE) (td : TDF) : Prop := ∀ Γ σ Hv H (Q : List D → Gm → Prop) (Q' : VK), Ev K W Γ σ Hv H → td Γ Q →
  (∀ p vs ds Γ' Hv' H', Stp K W Γ σ Hv H Γ' σ Hv' H' → H p = none → H' p = some (.lst vs) → RpAll K Hv' vs ds → Fresh W Γ' σ Hv' p → Q ds Γ' → Q' (.ref p) H') → te σ H Q'
def AdA (K : PySem.W.Frag) (W : Wc) (ta : TA) (td : TDF) : Prop := ∀ Γ σ Hv H (Q : List D → Gm → Prop) (Q' : List V → Hp → Prop), Ev K W Γ σ Hv H → td Γ Q →
  (∀ vs ds Γ' Hv' H', Stp K W Γ σ Hv H Γ' σ Hv' H' → RpAll K Hv' vs ds → Q ds Γ' → Q' vs H') → ta σ H Q'
def AdT (K : PySem.W.Frag) (W : Wc) (tt : TT) (td : TDT) : Prop := ∀ Γ σ Hv H (Q : Bool → Gm → Prop) (Q' : Bool → Hp → Prop), Ev K W Γ σ Hv H → td Γ Q →
  (∀ b Γ' Hv' H', Stp K W Γ σ Hv H Γ' σ Hv' H' → Q b Γ' → Q' b H') → tt σ H Q'
structure EndsD where
  nx : Gm → Prop
  rt : D → Prop
  bk : Gm → Prop := fun _ => False
  ct : Gm → Prop := fun _ => False
abbrev TDS := EndsD → Gm → Prop
structure LkE (K : PySem.W.Frag) (W : Wc) (E : EndsD) (E' : Ends) (Γ : Gm) (σ : St) (Hv H : Hp) : Prop where
  nx : ∀ Γ' σ' Hv' H', Stp K W Γ σ Hv H Γ' σ' Hv' H' → E.nx Γ' → E'.nx σ' H'
  rt : ∀ v d Γ' σ' Hv' H', Stp K W Γ σ Hv H Γ' σ' Hv' H' → Rp K Hv' v d → E.rt d → E'.rt v H'
  bk : ∀ Γ' σ' Hv' H', Stp K W Γ σ Hv H Γ' σ' Hv' H' → E.bk Γ' → E'.bk σ' H'
  ct : ∀ Γ' σ' Hv' H', Stp K W Γ σ Hv H Γ' σ' Hv' H' → E.ct Γ' → E'.ct σ' H'
def AdS (K : PySem.W.Frag) (W : Wc) (ts : TS) (td : TDS) : Prop := ∀ Γ σ Hv H (E : EndsD) (E' : Ends), Ev K W Γ σ Hv H → td E Γ → LkE K W E E' Γ σ Hv H → ts E' σ H
theorem LkE.step {K W E E' Γ σ Hv H Γ1 σ1 Hv1 H1} (l : LkE K W E E' Γ σ Hv H) (s : Stp K W Γ σ Hv H Γ1 σ1 Hv1 H1) : LkE K W E E' Γ1 σ1 Hv1 H1 :=
  ⟨fun _ _ _ _ t q => l.nx _ _ _ _ (s.trans t) q, fun _ _ _ _ _ _ t r q => l.rt _ _ _ _ _ _ (s.trans t) r q, fun _ _ _ _ t q => l.bk _ _ _ _ (s.trans t) q, fun _ _ _ _ t q => l.ct _ _ _ _ (s.trans t) q⟩

structure DE (W : Wc) (X : Cx) (e : Expr) (te : TE) (td : TDE) : Prop where
  pe : PE X e te
  ad : Ad X.K W te td
structure DF (W : Wc) (X : Cx) (e : Expr) (te : TE) (td : TDF) : Prop where
  pe : PE X e te
  ad : AdF X.K W te td
structure DA (W : Wc) (X : Cx) (es : List Expr) (ta : TA) (td : TDF) : Prop where
  pa : PA X es ta
  ad : AdA X.K W ta td
structure DT (W : Wc) (X : Cx) (e : Expr) (tt : TT) (td : TDT) : Prop where
  pt : PT X e tt
  ad : AdT X.K W tt td
structure DW (W : Wc) (X : Cx) (e : Expr) (tt : TT) (td : TDT) : Prop where
  pw : PW X e tt
  ad : AdT X.K W tt td
structure DTs (W : Wc) (X : Cx) (es : List Expr) (tt : TT) (td : TDT) : Prop where
  pt : PTs X es tt
  ad : AdT X.K W tt td
structure DS (W : Wc) (X : Cx) (s : Stmt) (ts : TS) (td : TDS) : Prop where
  ps : PS X s ts
  ad : AdS X.K W ts td
structure DSs (W : Wc) (X : Cx) (s : List Stmt) (ts : TS) (td : TDS) : Prop where
  ps : PSs X s ts
  ad : AdS X.K W ts td
structure DG (W : Wc) (X : Cx) (tg : Expr) (g : TG) (gd : TDG) (is : List Nat) : Prop where
  pg : PG X tg g
  ad : ∀ Γ σ Hv H v d (Q : Gm → Prop) (Q' : St → Hp → Prop), Ev X.K W Γ σ Hv H → Rp X.K Hv v d → gd d Γ Q →
    (∀ Γ' σ' Hv' H', Stp X.K W Γ σ Hv H Γ' σ' Hv' H' → σ'.length = σ.length → (∀ j, j ∉ is → σ'[j]? = σ[j]?) → Q Γ' → Q' σ' H') → g v σ H Q'
structure DGs (W : Wc) (X : Cx) (tg : List Expr) (g : TGs) (gd : List D → Gm → (Gm → Prop) → Prop) (is : List Nat) : Prop where
  pg : PGs X tg g
  ad : ∀ Γ σ Hv H vs ds (Q : Gm → Prop) (Q' : St → Hp → Prop), Ev X.K W Γ σ Hv H → RpAll X.K Hv vs ds → gd ds Γ Q →
    (∀ Γ' σ' Hv' H', Stp X.K W Γ σ Hv H Γ' σ' Hv' H' → σ'.length = σ.length → (∀ j, j ∉ is → σ'[j]? = σ[j]?) → Q Γ' → Q' σ' H') → g vs σ H Q'
/-- an iterator yields the data L -/
def ItD (K : PySem.W.Frag) (W : Wc) (J : It) (L : List D) (Hs : Hp) : Prop := ∀ Γ σ Hv H, Same Hs Hv → Ev K W Γ σ Hv H → ∀ i, (L.length ≤ i → J.stop i H) ∧
  ∀ d, L[i]? = some d → J.go i H ∧ ∀ x H', J.yld i H x H' → ∃ Hv', Stp K W Γ σ Hv H Γ σ Hv' H' ∧ Rp K Hv' x d
structure DI (W : Wc) (X : Cx) (tg iter : Expr) (wi : TI) (di : TDF) : Prop where
  pi : PI X tg iter wi
  ad : ∀ Γ σ Hv H (Q : List D → Gm → Prop) (R : It → Hp → Prop), Ev X.K W Γ σ Hv H → di Γ Q →
    (∀ J L Γ' Hv' H', Stp X.K W Γ σ Hv H Γ' σ Hv' H' → ItD X.K W J L Hv' → Q L Γ' → R J H') → wi σ H R

/-! ### names, constants -/
section
variable {W : Wc} {X : Cx}
def rdVar (i : Nat) : TDE := fun Γ Q => match Γ[i]? with
  | some (.dat d) => Q d Γ
  | some (.own ds) => Q (.lst ds) (Γ.set i (.dat (.lst ds)))
  | _ => False
theorem d_var {i : Nat} {x : Str} {pos : Pos} (hN : X.N[i]? = some x := by rfl) (hv : Vis X.env.scope x := by first | exact Or.inl rfl | exact Or.inr (Or.inl rfl) | exact Or.inr (Or.inr rfl)) (hd : (x == ("__debug__" : Str)) = false := by decide)
    (hcd : (x == ("__classdict__" : Str)) = false := by decide) : DE W X (.Name x pos) (tVar i) (rdVar i) := by
  refine ⟨pe_var hN hv hd hcd, fun Γ σ Hv H Q Q' E h k => ?_⟩
  unfold rdVar at h
  cases q : Γ[i]? with
  | none => rw [q] at h; exact h.elim
  | some s =>
    rw [q] at h
    cases s with
    | no => exact h.elim
    | owd ks ds => exact h.elim
    | dat d =>
      obtain ⟨v, e, r⟩ := E.get q
      exact ⟨v, e, k v d Γ Hv H E.stp r h⟩
    | own ds =>
      obtain ⟨p, vs, e, s1, r⟩ := E.stp.let q
      exact ⟨_, e, k _ _ _ _ _ s1 r h⟩
def rdC (d : D) : TDE := fun Γ Q => Q d Γ
theorem ad_c {K : PySem.W.Frag} {v : V} {d : D} (r : ∀ H, Rp K H v d) : Ad K W (tC v) (rdC d) := fun Γ σ Hv H Q Q' E h k => k v d Γ Hv H E.stp (r Hv) h
theorem d_int {i j pos} : DE W X (.Constant (.int i) j pos) (tC (.int i)) (rdC (.int i)) := ⟨pe_int, ad_c fun _ => .int _⟩
theorem d_bl {i j pos} : DE W X (.Constant (.bool i) j pos) (tC (.bl i)) (rdC (.bl i)) := ⟨pe_bl, ad_c fun _ => .bl _⟩
theorem d_non {j pos} : DE W X (.Constant .none j pos) (tC .non) (rdC .non) := ⟨pe_non, ad_c fun _ => .non⟩
theorem d_str {i j pos} : DE W X (.Constant (.str i) j pos) (tC (.str i)) (rdC (.str i)) := ⟨pe_str, ad_c fun _ => .str _⟩
theorem d_glob {x : Str} {v : V} {d : D} {u : Value} {pos : Pos} (hg : Gl X x) (hm : X.mg x = some u) (r : RelV v u) (rd : ∀ H, Rp X.K H v d) (hd : (x == ("__debug__" : Str)) = false := by decide) : DE W X (.Name x pos) (tC v) (rdC d) :=
  ⟨pe_glob hg hm r hd, ad_c rd⟩
theorem d_bltn {x : Str} {v : V} {d : D} {u : Value} {pos : Pos} (hg : Gl X x) (hm : X.mg x = none) (hv : bootBuiltins x = some u) (r : RelV v u) (rd : ∀ H, Rp X.K H v d) (hn : x ≠ "__name__" := by decide) (hd : (x == ("__debug__" : Str)) = false := by decide) : DE W X (.Name x pos) (tC v) (rdC d) :=
  ⟨pe_bltn hg hm hv r hn hd, ad_c rd⟩

/-! ### sharing a new list -/
def rdShare (td : TDF) : TDE := fun Γ Q => td Γ fun ds Γ' => Q (.lst ds) Γ'
theorem d_share {e : Expr} {te : TE} {td : TDF} (h : DF W X e te td) : DE W X e te (rdShare td) := by
  refine ⟨h.pe, fun Γ σ Hv H Q Q' E hw k => ?_⟩
  refine h.ad Γ σ Hv H _ Q' E hw fun p vs ds Γ' Hv' H' s hn hp r F q => ?_
  exact k _ (.lst ds) _ _ _ (s.share F hp hn) (.lst upd_same (RpAll.mono (same_upd F.hv) _ _ r)) q

/-! ### operators by data -/
abbrev RD2 := D → D → (D → Prop) → Prop
def OpD (K : PySem.W.Frag) (W : Wc) (r : R2) (rd : RD2) : Prop := ∀ Γ σ Hv H x y dx dy (Q : D → Prop) (Q' : VK), Ev K W Γ σ Hv H → Rp K Hv x dx → Rp K Hv y dy → rd dx dy Q →
  (∀ v d Hv' H', Stp K W Γ σ Hv H Γ σ Hv' H' → Rp K Hv' v d → Q d → Q' v H') → r x y H Q'
def rdOp (rd : RD2) (ta tb : TDE) : TDE := fun Γ Q => ta Γ fun dx Γ1 => tb Γ1 fun dy Γ2 => rd dx dy fun d => Q d Γ2
variable {a b c : Expr} {ta tb tc : TE} {da db dc : TDE} {pos : Pos}
theorem ad_op {r : R2} {rd : RD2} {K : PySem.W.Frag} (hd : OpD K W r rd) (ha : Ad K W ta da) (hb : Ad K W tb db) : Ad K W (tOp r ta tb) (rdOp rd da db) := fun Γ σ Hv H Q Q' E h k =>
  ha Γ σ Hv H _ _ E h fun x dx Γ1 Hv1 H1 s1 r1 h1 => hb Γ1 σ Hv1 H1 _ _ s1.ev h1 fun y dy Γ2 Hv2 H2 s2 r2 h2 =>
    hd Γ2 σ Hv2 H2 x y dx dy _ _ s2.ev (Rp.mono s2.sv _ _ r1) r2 h2 fun v d Hv3 H3 s3 r3 q => k v d Γ2 Hv3 H3 ((s1.trans s2).trans s3) r3 q
theorem d_op {op : Operator} {r : R2} {rd : RD2} (ho : OpR X (binaryOp op) r) (hd : OpD X.K W r rd) (ha : DE W X a ta da) (hb : DE W X b tb db) : DE W X (.BinOp a op b pos) (tOp r ta tb) (rdOp rd da db) :=
  ⟨pe_op ho ha.pe hb.pe, ad_op hd ha.ad hb.ad⟩
theorem d_cmp {op : CmpOp} {r : R2} {rd : RD2} (ho : OpR X (compareOp op) r) (hd : OpD X.K W r rd) (ha : DE W X a ta da) (hb : DE W X b tb db) (hm : behindInMarks op b = false) : DE W X (.Compare a [op] [b] pos) (tOp r ta tb) (rdOp rd da db) :=
  ⟨pe_cmpR ho ha.pe hb.pe hm, ad_op hd ha.ad hb.ad⟩
def asB (d : D) (k : Bool → Prop) : Prop := match d with | .bl c => k c | _ => False
theorem asB_of {K : PySem.W.Frag} {H : Hp} {v : V} {d : D} {k : Bool → Prop} (r : Rp K H v d) (h : asB d k) : ∃ c, v = .bl c ∧ k c := by
  cases d <;> first | exact h.elim | skip
  cases r
  exact ⟨_, rfl, h⟩
def rdTest (da : TDE) : TDT := fun Γ Q => da Γ fun d Γ1 => asB d fun c => Q c Γ1
theorem ad_test {K : PySem.W.Frag} (ha : Ad K W ta da) : AdT K W (tTest ta) (rdTest da) := fun Γ σ Hv H Q Q' E h k =>
  ha Γ σ Hv H _ _ E h fun x dx Γ1 Hv1 H1 s1 r1 h1 => by
    obtain ⟨c, e, q⟩ := asB_of r1 h1
    exact ⟨c, e, k c Γ1 Hv1 H1 s1 q⟩
theorem ad_testB {K : PySem.W.Frag} (ha : Ad K W ta da) : AdT K W (tB ta) (rdTest da) := ad_test ha
theorem dt_cmp {op : CmpOp} {r : R2} {rd : RD2} (ho : OpR X (compareOp op) r) (hd : OpD X.K W r rd) (ha : DE W X a ta da) (hb : DE W X b tb db) (hm : behindInMarks op b = false) : DT W X (.Compare a [op] [b] pos) (tTest (tOp r ta tb)) (rdTest (rdOp rd da db)) :=
  ⟨pt_cmpR ho ha.pe hb.pe hm, ad_test (ad_op hd ha.ad hb.ad)⟩
theorem dt_val {e : Expr} {te : TE} {de : TDE} (h : DE W X e te de) (he : ∀ whole, isTrue e X.env whole = (do let v ← whole; standAt e.pos; holding [v] (truthy v)) := by intro _; rfl) : DT W X e (tB te) (rdTest de) :=
  ⟨pt_val h.pe he, ad_testB h.ad⟩
/-- a < b < c -/
def rdChain (r1 r2 : RD2) (da db dc : TDE) : TDE := fun Γ Q => da Γ fun dx Γ1 => db Γ1 fun dy Γ2 => r1 dx dy fun d => asB d fun k => if k = true then dc Γ2 fun dz Γ3 => r2 dy dz fun e => Q e Γ3 else Q (.bl false) Γ2
theorem ad_chain {r r' : R2} {rd rd' : RD2} {K : PySem.W.Frag} (hd : OpD K W r rd) (hd' : OpD K W r' rd') (ha : Ad K W ta da) (hb : Ad K W tb db) (hc : Ad K W tc dc) : Ad K W (tChain r r' ta tb tc) (rdChain rd rd' da db dc) := fun Γ σ Hv H Q Q' E h k =>
  ha Γ σ Hv H _ _ E h fun x dx Γ1 Hv1 H1 s1 r1 h1 => hb Γ1 σ Hv1 H1 _ _ s1.ev h1 fun y dy Γ2 Hv2 H2 s2 r2 h2 =>
    hd Γ2 σ Hv2 H2 x y dx dy _ _ s2.ev (Rp.mono s2.sv _ _ r1) r2 h2 fun v d Hv3 H3 s3 r3 q => by
      obtain ⟨c, e, q⟩ := asB_of r3 q
      refine ⟨c, e, ?_⟩
      cases c with
      | false =>
        rw [if_neg Bool.false_ne_true] at q ⊢
        exact k _ _ Γ2 Hv3 H3 ((s1.trans s2).trans s3) (.bl _) q
      | true =>
        rw [if_pos rfl] at q ⊢
        refine hc Γ2 σ Hv3 H3 _ _ s3.ev q fun z dz Γ3 Hv4 H4 s4 r4 q4 => ?_
        exact hd' Γ3 σ Hv4 H4 y z dy dz _ _ s4.ev (Rp.mono s4.sv _ _ (Rp.mono s3.sv _ _ r2)) r4 q4 fun v d Hv5 H5 s5 r5 q5 => k v d Γ3 Hv5 H5 (((s1.trans s2).trans (s3.trans s4)).trans s5) r5 q5
theorem d_chain {op op' : CmpOp} {r r' : R2} {rd rd' : RD2} (ho : OpR X (compareOp op) r) (hd : OpD X.K W r rd) (ho' : OpR X (compareOp op') r') (hd' : OpD X.K W r' rd') (ha : DE W X a ta da) (hb : DE W X b tb db) (hc : DE W X c tc dc) (hm : lastMarks [op, op'] [b, c] = false := by with_unfolding_all rfl) :
    DE W X (.Compare a [op, op'] [b, c] pos) (tChain r r' ta tb tc) (rdChain rd rd' da db dc) := ⟨pe_chain ho ho' ha.pe hb.pe hc.pe hm, ad_chain hd hd' ha.ad hb.ad hc.ad⟩
theorem dt_chain {op op' : CmpOp} {r r' : R2} {rd rd' : RD2} (ho : OpR X (compareOp op) r) (hd : OpD X.K W r rd) (ho' : OpR X (compareOp op') r') (hd' : OpD X.K W r' rd') (ha : DE W X a ta da) (hb : DE W X b tb db) (hc : DE W X c tc dc) (hm : lastMarks [op, op'] [b, c] = false := by with_unfolding_all rfl) :
    DT W X (.Compare a [op, op'] [b, c] pos) (tTest (tChain r r' ta tb tc)) (rdTest (rdChain rd rd' da db dc)) := ⟨pt_chain ho ho' ha.pe hb.pe hc.pe hm, ad_test (ad_chain hd hd' ha.ad hb.ad hc.ad)⟩

/-! ### and, or, not, if -/
variable {tA tB' : TT} {dA dB : TDT} {rest : List Expr}
def rdAnd (t u : TDT) : TDT := fun Γ Q => t Γ fun c Γ1 => if c = true then u Γ1 Q else Q false Γ1
def rdOr (t u : TDT) : TDT := fun Γ Q => t Γ fun c Γ1 => if c = true then Q true Γ1 else u Γ1 Q
def rdNot (t : TDT) : TDT := fun Γ Q => t Γ fun c Γ1 => Q (!c) Γ1
theorem DW.dt (h : DW W X a tA dA) : DT W X a tA dA := ⟨h.pw.pt, h.ad⟩
theorem dw_and1 (ha : DT W X a tA dA) : DW W X (.BoolOp .And [a] pos) tA dA := ⟨pw_and1 ha.pt, ha.ad⟩
theorem dw_or1 (ha : DT W X a tA dA) : DW W X (.BoolOp .Or [a] pos) tA dA := ⟨pw_or1 ha.pt, ha.ad⟩
theorem ad_and {K : PySem.W.Frag} (ha : AdT K W tA dA) (hb : AdT K W tB' dB) : AdT K W (tAnd tA tB') (rdAnd dA dB) := fun Γ σ Hv H Q Q' E h k =>
  ha Γ σ Hv H _ _ E h fun c Γ1 Hv1 H1 s1 q => by
    cases c with
    | true =>
      rw [if_pos rfl] at q ⊢
      exact hb Γ1 σ Hv1 H1 _ _ s1.ev q fun b Γ2 Hv2 H2 s2 q2 => k b Γ2 Hv2 H2 (s1.trans s2) q2
    | false =>
      rw [if_neg Bool.false_ne_true] at q ⊢
      exact k false Γ1 Hv1 H1 s1 q
theorem ad_or {K : PySem.W.Frag} (ha : AdT K W tA dA) (hb : AdT K W tB' dB) : AdT K W (tOr tA tB') (rdOr dA dB) := fun Γ σ Hv H Q Q' E h k =>
  ha Γ σ Hv H _ _ E h fun c Γ1 Hv1 H1 s1 q => by
    cases c with
    | false =>
      rw [if_neg Bool.false_ne_true] at q ⊢
      exact hb Γ1 σ Hv1 H1 _ _ s1.ev q fun b Γ2 Hv2 H2 s2 q2 => k b Γ2 Hv2 H2 (s1.trans s2) q2
    | true =>
      rw [if_pos rfl] at q ⊢
      exact k true Γ1 Hv1 H1 s1 q
theorem dw_and (ha : DT W X a tA dA) (hb : DW W X (.BoolOp .And (b :: rest) pos) tB' dB) : DW W X (.BoolOp .And (a :: b :: rest) pos) (tAnd tA tB') (rdAnd dA dB) := ⟨pw_and ha.pt hb.pw, ad_and ha.ad hb.ad⟩
theorem dw_or (ha : DT W X a tA dA) (hb : DW W X (.BoolOp .Or (b :: rest) pos) tB' dB) : DW W X (.BoolOp .Or (a :: b :: rest) pos) (tOr tA tB') (rdOr dA dB) := ⟨pw_or ha.pt hb.pw, ad_or ha.ad hb.ad⟩
theorem dt_not (ha : DT W X a tA dA) : DT W X (.UnaryOp .Not a pos) (tNot tA) (rdNot dA) := ⟨pt_not ha.pt, fun Γ σ Hv H Q Q' E h k => ha.ad Γ σ Hv H _ _ E h fun c Γ1 Hv1 H1 s1 q => k _ Γ1 Hv1 H1 s1 q⟩
def rdAndV (da db : TDE) : TDE := fun Γ Q => da Γ fun d Γ1 => asB d fun c => if c = true then db Γ1 Q else Q (.bl false) Γ1
def rdOrV (da db : TDE) : TDE := fun Γ Q => da Γ fun d Γ1 => asB d fun c => if c = true then Q (.bl true) Γ1 else db Γ1 Q
theorem d_one {op} (h : DE W X a ta da) : DE W X (.BoolOp op [a] pos) ta da := ⟨pe_one h.pe, h.ad⟩
theorem d_and (ha : DE W X a ta da) (hb : DE W X (.BoolOp .And (b :: rest) pos) tb db) : DE W X (.BoolOp .And (a :: b :: rest) pos) (tAndV ta tb) (rdAndV da db) := by
  refine ⟨pe_and ha.pe hb.pe, fun Γ σ Hv H Q Q' E h k => ?_⟩
  refine ha.ad Γ σ Hv H _ _ E h fun x d Γ1 Hv1 H1 s1 r1 q => ?_
  obtain ⟨c, e, q⟩ := asB_of r1 q
  refine ⟨c, e, ?_⟩
  cases c with
  | true =>
    rw [if_pos rfl] at q ⊢
    exact hb.ad Γ1 σ Hv1 H1 _ _ s1.ev q fun v d Γ2 Hv2 H2 s2 r2 q2 => k v d Γ2 Hv2 H2 (s1.trans s2) r2 q2
  | false =>
    rw [if_neg Bool.false_ne_true] at q ⊢
    exact k _ _ Γ1 Hv1 H1 s1 (.bl _) q
theorem d_or (ha : DE W X a ta da) (hb : DE W X (.BoolOp .Or (b :: rest) pos) tb db) : DE W X (.BoolOp .Or (a :: b :: rest) pos) (tOrV ta tb) (rdOrV da db) := by
  refine ⟨pe_or ha.pe hb.pe, fun Γ σ Hv H Q Q' E h k => ?_⟩
  refine ha.ad Γ σ Hv H _ _ E h fun x d Γ1 Hv1 H1 s1 r1 q => ?_
  obtain ⟨c, e, q⟩ := asB_of r1 q
  refine ⟨c, e, ?_⟩
  cases c with
  | false =>
    rw [if_neg Bool.false_ne_true] at q ⊢
    exact hb.ad Γ1 σ Hv1 H1 _ _ s1.ev q fun v d Γ2 Hv2 H2 s2 r2 q2 => k v d Γ2 Hv2 H2 (s1.trans s2) r2 q2
  | true =>
    rw [if_pos rfl] at q ⊢
    exact k _ _ Γ1 Hv1 H1 s1 (.bl _) q
def rdNotV (da : TDE) : TDE := fun Γ Q => da Γ fun d Γ1 => asB d fun c => Q (.bl (!c)) Γ1
theorem d_not (ha : DE W X a ta da) : DE W X (.UnaryOp .Not a pos) (tNotV ta) (rdNotV da) := by
  refine ⟨pe_not ha.pe, fun Γ σ Hv H Q Q' E h k => ?_⟩
  refine ha.ad Γ σ Hv H _ _ E h fun x d Γ1 Hv1 H1 s1 r1 q => ?_
  obtain ⟨c, e, q⟩ := asB_of r1 q
  exact ⟨c, e, k _ _ Γ1 Hv1 H1 s1 (.bl _) q⟩
def rdIf (t : TDT) (da db : TDE) : TDE := fun Γ Q => t Γ fun c Γ1 => if c = true then da Γ1 Q else db Γ1 Q
theorem d_ifExp (hc : DT W X c tA dA) (ha : DE W X a ta da) (hb : DE W X b tb db) : DE W X (.IfExp c a b pos) (tIf tA ta tb) (rdIf dA da db) := by
  refine ⟨pe_ifExp hc.pt ha.pe hb.pe, fun Γ σ Hv H Q Q' E h k => ?_⟩
  refine hc.ad Γ σ Hv H _ _ E h fun c Γ1 Hv1 H1 s1 q => ?_
  cases c with
  | true =>
    rw [if_pos rfl] at q ⊢
    exact ha.ad Γ1 σ Hv1 H1 _ _ s1.ev q fun v d Γ2 Hv2 H2 s2 r2 q2 => k v d Γ2 Hv2 H2 (s1.trans s2) r2 q2
  | false =>
    rw [if_neg Bool.false_ne_true] at q ⊢
    exact hb.ad Γ1 σ Hv1 H1 _ _ s1.ev q fun v d Γ2 Hv2 H2 s2 r2 q2 => k v d Γ2 Hv2 H2 (s1.trans s2) r2 q2

/-! ### arguments, displays -/
def rdNil : TDF := fun Γ Q => Q [] Γ
def rdCons (da : TDE) (dr : TDF) : TDF := fun Γ Q => da Γ fun d Γ1 => dr Γ1 fun ds Γ2 => Q (d :: ds) Γ2
variable {e : Expr} {es : List Expr} {te : TE} {t : TA} {de : TDE} {dt : TDF}
theorem da_nil : DA W X [] tNil rdNil := ⟨pa_nil, fun Γ σ Hv H Q Q' E h k => k [] [] Γ Hv H E.stp .nil h⟩
theorem da_cons (ha : DE W X e te de) (hr : DA W X es t dt) (hs : starEach (e :: es) X.env = (false, eval e X.env) :: starEach es X.env := by rfl) : DA W X (e :: es) (tCons te t) (rdCons de dt) := by
  refine ⟨pa_cons ha.pe hr.pa hs, fun Γ σ Hv H Q Q' E h k => ?_⟩
  refine ha.ad Γ σ Hv H _ _ E h fun x d Γ1 Hv1 H1 s1 r1 q => ?_
  exact hr.ad Γ1 σ Hv1 H1 _ _ s1.ev q fun vs ds Γ2 Hv2 H2 s2 r2 q2 => k _ _ Γ2 Hv2 H2 (s1.trans s2) (.cons (Rp.mono s2.sv _ _ r1) r2) q2
def small (n : Nat) : Prop := n ≤ sizeLine
def rdTup (dt : TDF) : TDE := fun Γ Q => dt Γ fun ds Γ1 => small ds.length ∧ Q (.tup ds) Γ1
theorem d_tup {x1} (h : DA W X es t dt) : DE W X (.Tuple es x1 pos) (tTup t) (rdTup dt) := by
  refine ⟨pe_tup h.pa, fun Γ σ Hv H Q Q' E hw k => ?_⟩
  refine h.ad Γ σ Hv H _ _ E hw fun vs ds Γ1 Hv1 H1 s1 r1 q => ?_
  refine ⟨by rw [r1.length]; exact q.1, fun p hp => ?_⟩
  exact k _ (.tup ds) Γ1 _ _ (s1.alloc _ hp) (.tup (.of upd_same) (RpAll.mono (same_upd (s1.ev.noneHv hp)) _ _ r1)) q.2
def rdLst (dt : TDF) : TDF := fun Γ Q => dt Γ fun ds Γ1 => small ds.length ∧ Q ds Γ1
theorem d_lst (h : DA W X es t dt) : DF W X (.List es pos) (tLst t) (rdLst dt) := by
  refine ⟨pe_lst h.pa, fun Γ σ Hv H Q Q' E hw k => ?_⟩
  refine h.ad Γ σ Hv H _ _ E hw fun vs ds Γ1 Hv1 H1 s1 r1 q => ?_
  refine ⟨by rw [r1.length]; exact q.1, fun p hp => ?_⟩
  obtain ⟨s2, F⟩ := s1.alloc0 (.lst vs) hp
  exact k p vs ds Γ1 _ _ s2 (s1.was hp) upd_same r1 F q.2
end
end VL

set_option Elab.async false
set_option linter.all false
set_option maxRecDepth 100000
set_option maxHeartbeats 4000000
/-! VL3: calls, subscripts, methods, comprehensions, statements, loops, a def's promise. -/
namespace VL
open PySem PySem.Spec L2
open PyProof.Rows hiding St
section
variable {W : Wc} {X : Cx} {a b c e o i : Expr} {es : List Expr} {ta tb tc te to ti : TE} {da db dc de do' di : TDE} {t : TA} {dt : TDF} {p pos apos : Pos}

/-! ### built-ins by name -/
def CallD (K : PySem.W.Frag) (W : Wc) (r : List V → Hp → VK → Prop) (rd : List D → (D → Prop) → Prop) : Prop := ∀ Γ σ Hv H vs ds (Q : D → Prop) (Q' : VK), Ev K W Γ σ Hv H → RpAll K Hv vs ds → rd ds Q →
  (∀ v d Hv' H', Stp K W Γ σ Hv H Γ σ Hv' H' → Rp K Hv' v d → Q d → Q' v H') → r vs H Q'
/-- the result is a new list -/
def CallF (K : PySem.W.Frag) (W : Wc) (r : List V → Hp → VK → Prop) (rd : List D → (List D → Prop) → Prop) : Prop := ∀ Γ σ Hv H vs ds (Q : List D → Prop) (Q' : VK), Ev K W Γ σ Hv H → RpAll K Hv vs ds → rd ds Q →
  (∀ q ws es Hv' H', Stp K W Γ σ Hv H Γ σ Hv' H' → H q = none → H' q = some (.lst ws) → RpAll K Hv' ws es → Fresh W Γ σ Hv' q → Q es → Q' (.ref q) H') → r vs H Q'
def rdCB (rd : List D → (D → Prop) → Prop) (dt : TDF) : TDE := fun Γ Q => dt Γ fun ds Γ1 => rd ds fun d => Q d Γ1
def rdCF (rd : List D → (List D → Prop) → Prop) (dt : TDF) : TDF := fun Γ Q => dt Γ fun ds Γ1 => rd ds fun es => Q es Γ1
theorem ad_cb {K : PySem.W.Frag} {r rd} (hd : CallD K W r rd) (h : AdA K W t dt) : Ad K W (tCB r t) (rdCB rd dt) := fun Γ σ Hv H Q Q' E hw k =>
  h Γ σ Hv H _ _ E hw fun vs ds Γ1 Hv1 H1 s1 r1 q => hd Γ1 σ Hv1 H1 vs ds _ _ s1.ev r1 q fun v d Hv2 H2 s2 r2 q2 => k v d Γ1 Hv2 H2 (s1.trans s2) r2 q2
theorem ad_cf {K : PySem.W.Frag} {r rd} (hd : CallF K W r rd) (h : AdA K W t dt) : AdF K W (tCB r t) (rdCF rd dt) := fun Γ σ Hv H Q Q' E hw k =>
  h Γ σ Hv H _ _ E hw fun vs ds Γ1 Hv1 H1 s1 r1 q => hd Γ1 σ Hv1 H1 vs ds _ _ s1.ev r1 q fun q' ws es Hv2 H2 s2 hn hq r2 F q2 => k q' ws es Γ1 Hv2 H2 (s1.trans s2) (s1.was hn) hq r2 F q2
variable {x : Str} {id T : String}
theorem d_callB {r rd} (hc : CallR X (.builtin id) r) (hd : CallD X.K W r rd) (hg : Gl X x) (hm : X.mg x = none) (hv : bootBuiltins x = some (.builtin id)) (ha : DA W X (e :: es) t dt) (hn : x ≠ "__name__" := by decide) (hdb : (x == ("__debug__" : Str)) = false := by decide)
    (he : starEach (e :: es) X.env = (false, eval e X.env) :: starEach es X.env := by rfl) (hpl : (backTo pos (starEach es X.env)).any (·.1) = false := by rfl) : DE W X (.Call (.Name x p) (e :: es) [] pos) (tCB r t) (rdCB rd dt) :=
  ⟨pe_callB hc hg hm hv ha.pa hn hdb he hpl, ad_cb hd ha.ad⟩
theorem d_callTy {r rd} (hc : CallR X (.type T) r) (hd : CallD X.K W r rd) (hg : Gl X x) (hm : X.mg x = none) (hv : bootBuiltins x = some (.type T)) (ha : DA W X (e :: es) t dt) (hn : x ≠ "__name__" := by decide) (hdb : (x == ("__debug__" : Str)) = false := by decide)
    (he : starEach (e :: es) X.env = (false, eval e X.env) :: starEach es X.env := by rfl) (hpl : (backTo pos (starEach es X.env)).any (·.1) = false := by rfl) : DE W X (.Call (.Name x p) (e :: es) [] pos) (tCB r t) (rdCB rd dt) :=
  ⟨pe_callTy hc hg hm hv ha.pa hn hdb he hpl, ad_cb hd ha.ad⟩
theorem df_callB {r rd} (hc : CallR X (.builtin id) r) (hd : CallF X.K W r rd) (hg : Gl X x) (hm : X.mg x = none) (hv : bootBuiltins x = some (.builtin id)) (ha : DA W X (e :: es) t dt) (hn : x ≠ "__name__" := by decide) (hdb : (x == ("__debug__" : Str)) = false := by decide)
    (he : starEach (e :: es) X.env = (false, eval e X.env) :: starEach es X.env := by rfl) (hpl : (backTo pos (starEach es X.env)).any (·.1) = false := by rfl) : DF W X (.Call (.Name x p) (e :: es) [] pos) (tCB r t) (rdCF rd dt) :=
  ⟨pe_callB hc hg hm hv ha.pa hn hdb he hpl, ad_cf hd ha.ad⟩
theorem df_callTy {r rd} (hc : CallR X (.type T) r) (hd : CallF X.K W r rd) (hg : Gl X x) (hm : X.mg x = none) (hv : bootBuiltins x = some (.type T)) (ha : DA W X (e :: es) t dt) (hn : x ≠ "__name__" := by decide) (hdb : (x == ("__debug__" : Str)) = false := by decide)
    (he : starEach (e :: es) X.env = (false, eval e X.env) :: starEach es X.env := by rfl) (hpl : (backTo pos (starEach es X.env)).any (·.1) = false := by rfl) : DF W X (.Call (.Name x p) (e :: es) [] pos) (tCB r t) (rdCF rd dt) :=
  ⟨pe_callTy hc hg hm hv ha.pa hn hdb he hpl, ad_cf hd ha.ad⟩

/-! ### a def's promise, by data -/
abbrev FD := List D → (D → Prop) → Prop
def spD (J : Vol) (K : PySem.W.Frag) (F : FD) : Sp := fun vs H Q _ => ∃ Hv ds Qd, Same Hv H ∧ J.inv H ∧ (∀ a, J.vol a → Hv a = none) ∧ RpAll K Hv vs ds ∧ F ds Qd ∧
  ∀ v d Hv' H', Ret J.vol J.inv Hv H Hv' H' → Rp K Hv' v d → Qd d → Q v H'
def rdCall (F : FD) (dds : List D) (dt : TDF) : TDE := fun Γ Q => dt Γ fun ds Γ1 => F (ds ++ dds) fun d => Q d Γ1
theorem ad_call {K : PySem.W.Frag} {F : FD} {dvs : List V} {dds : List D} {E : XK} (hdd : ∀ H, RpAll K H dvs dds) (h : AdA K W t dt) : Ad K W (tCall (spD W.J K F) dvs E t) (rdCall F dds dt) := fun Γ σ Hv H Q Q' E hw k =>
  h Γ σ Hv H _ _ E hw fun vs ds Γ1 Hv1 H1 s1 r1 q => ⟨Hv1, ds ++ dds, _, s1.ev.ret.sub, s1.ev.ret.inv, s1.ev.ret.nv, r1.append (hdd _), q, fun v d Hv2 H2 R r2 q2 => k v d Γ1 Hv2 H2 (s1.after R) r2 q2⟩
theorem ad_callP {K : PySem.W.Frag} {F : FD} {dvs : List V} {dds : List D} {E : XK} (hdd : ∀ H, RpAll K H dvs dds) (h : AdA K W t dt) : Ad K W (tCall (spD Vol.no K F) dvs E t) (rdCall F dds dt) := fun Γ σ Hv H Q Q' E hw k =>
  h Γ σ Hv H _ _ E hw fun vs ds Γ1 Hv1 H1 s1 r1 q => ⟨Hv1, ds ++ dds, _, s1.ev.ret.sub, True.intro, fun _ z => z.elim, r1.append (hdd _), q, fun v d Hv2 H2 R r2 q2 => k v d Γ1 Hv2 H2 (s1.after (s1.ev.pure R)) r2 q2⟩
variable {CX : CXT} {k : Nat} {f : Addr} {fd : FuncData} {ps : List Str} {F : FD} {dvs : List V} {dds : List D} {ds : List Value} {E : XK}
/-- f(e, ..), of the same volatile part -/
theorem d_call {J : Vol} (G : FnOk X.prog X.w X.K X.mg X.base CX k f fd ps (spD J X.K F)) (hJ : J = W.J) (hr : Room k X.A) (hg : Gl X x) (hm : X.mg x = some (.ref f)) (hk : PySem.W.keepIn X.K (.ref f) = true) (hb : Binds X.K fd ps ds) (hd : Vals dvs ds) (hdd : ∀ H, RpAll X.K H dvs dds) (hx : Passes CX X E)
    (ha : DA W X (e :: es) t dt) (hdb : (x == ("__debug__" : Str)) = false := by decide) (he : starEach (e :: es) X.env = (false, eval e X.env) :: starEach es X.env := by rfl) (hpl : (backTo pos (starEach es X.env)).any (·.1) = false := by rfl) :
    DE W X (.Call (.Name x p) (e :: es) [] pos) (tCall (spD J X.K F) dvs E t) (rdCall F dds dt) := by
  subst hJ
  exact ⟨pe_call G hr hg hm hk hb hd hx ha.pa hdb he hpl, ad_call hdd ha.ad⟩
/-- f(e, ..), f pure -/
theorem d_callP (G : FnOk X.prog X.w X.K X.mg X.base CX k f fd ps (spD Vol.no X.K F)) (hr : Room k X.A) (hg : Gl X x) (hm : X.mg x = some (.ref f)) (hk : PySem.W.keepIn X.K (.ref f) = true) (hb : Binds X.K fd ps ds) (hd : Vals dvs ds) (hdd : ∀ H, RpAll X.K H dvs dds) (hx : Passes CX X E)
    (ha : DA W X (e :: es) t dt) (hdb : (x == ("__debug__" : Str)) = false := by decide) (he : starEach (e :: es) X.env = (false, eval e X.env) :: starEach es X.env := by rfl) (hpl : (backTo pos (starEach es X.env)).any (·.1) = false := by rfl) :
    DE W X (.Call (.Name x p) (e :: es) [] pos) (tCall (spD Vol.no X.K F) dvs E t) (rdCall F dds dt) :=
  ⟨pe_call G hr hg hm hk hb hd hx ha.pa hdb he hpl, ad_callP hdd ha.ad⟩

/-! ### subscripts, slices -/
theorem d_ix {r : R2} {rd : RD2} (hr : IxR X r) (hd : OpD X.K W r rd) (ha : DE W X a ta da) (hb : DE W X b tb db) (hs : PlainIx b) : DE W X (.Subscript a b pos) (tOp r ta tb) (rdOp rd da db) := ⟨pe_ix hr ha.pe hb.pe hs, ad_op hd ha.ad hb.ad⟩
abbrev TDO := Gm → (Option Int → Gm → Prop) → Prop
def AdO (K : PySem.W.Frag) (W : Wc) (t : TO) (td : TDO) : Prop := ∀ Γ σ Hv H (Q : Option Int → Gm → Prop) (Q' : Option Int → Hp → Prop), Ev K W Γ σ Hv H → td Γ Q →
  (∀ o Γ' Hv' H', Stp K W Γ σ Hv H Γ' σ Hv' H' → Q o Γ' → Q' o H') → t σ H Q'
structure DO (W : Wc) (X : Cx) (e : Option Expr) (t : TO) (td : TDO) : Prop where
  po : PO X e t
  ad : AdO X.K W t td
def rdNoPart : TDO := fun Γ Q => Q none Γ
def asI (d : D) (k : Int → Prop) : Prop := match d with | .int c => k c | _ => False
theorem asI_of {K : PySem.W.Frag} {H : Hp} {v : V} {d : D} {k : Int → Prop} (r : Rp K H v d) (h : asI d k) : ∃ c, v = .int c ∧ k c := by
  cases d <;> first | exact h.elim | skip
  cases r
  exact ⟨_, rfl, h⟩
def rdPart (de : TDE) : TDO := fun Γ Q => de Γ fun d Γ1 => asI d fun j => Q (some j) Γ1
theorem do_none : DO W X none tNoPart rdNoPart := ⟨po_none, fun Γ σ Hv H Q Q' E h k => k none Γ Hv H E.stp h⟩
theorem do_some (h : DE W X e te de) : DO W X (some e) (tPart te) (rdPart de) := ⟨po_some h.pe, fun Γ σ Hv H Q Q' E hw k => h.ad Γ σ Hv H _ _ E hw fun v d Γ1 Hv1 H1 s1 r1 q => by
  obtain ⟨j, e1, q⟩ := asI_of r1 q
  exact ⟨j, e1, k _ Γ1 Hv1 H1 s1 q⟩⟩
def SlD (K : PySem.W.Frag) (W : Wc) (r : V → Option Int → Option Int → Hp → VK → Prop) (rd : D → Option Int → Option Int → (D → Prop) → Prop) : Prop := ∀ Γ σ Hv H x lo hi dx (Q : D → Prop) (Q' : VK), Ev K W Γ σ Hv H → Rp K Hv x dx → rd dx lo hi Q →
  (∀ v d Hv' H', Stp K W Γ σ Hv H Γ σ Hv' H' → Rp K Hv' v d → Q d → Q' v H') → r x lo hi H Q'
def rdSl (rd : D → Option Int → Option Int → (D → Prop) → Prop) (de : TDE) (dl dh : TDO) : TDE := fun Γ Q => de Γ fun d Γ1 => dl Γ1 fun lo Γ2 => dh Γ2 fun hi Γ3 => rd d lo hi fun d => Q d Γ3
theorem d_slice {r rd} {lo hi : Option Expr} {tl th : TO} {dl dh : TDO} {p2 : Pos} (hr : SlR X r) (hd : SlD X.K W r rd) (he : DE W X e te de) (hl : DO W X lo tl dl) (hu : DO W X hi th dh) : DE W X (.Subscript e (.Slice lo hi none p2) pos) (tSl r te tl th) (rdSl rd de dl dh) := by
  refine ⟨pe_slice hr he.pe hl.po hu.po, fun Γ σ Hv H Q Q' E h k => ?_⟩
  refine he.ad Γ σ Hv H _ _ E h fun x d Γ1 Hv1 H1 s1 r1 q => ?_
  refine hl.ad Γ1 σ Hv1 H1 _ _ s1.ev q fun l Γ2 Hv2 H2 s2 q2 => ?_
  refine hu.ad Γ2 σ Hv2 H2 _ _ s2.ev q2 fun u Γ3 Hv3 H3 s3 q3 => ?_
  exact hd Γ3 σ Hv3 H3 x l u d _ _ s3.ev (Rp.mono s3.sv _ _ (Rp.mono s2.sv _ _ r1)) q3 fun v d' Hv4 H4 s4 r4 q4 => k v d' Γ3 Hv4 H4 ((s1.trans (s2.trans s3)).trans s4) r4 q4

/-! ### methods of built-in types -/
def MtD (K : PySem.W.Frag) (W : Wc) (T : String) (r : V → List V → Hp → VK → Prop) (rd : D → List D → (D → Prop) → Prop) : Prop := ∀ Γ σ Hv H x dx vs ds (Q : D → Prop) (Q' : VK), Ev K W Γ σ Hv H → Rp K Hv x dx → RpAll K Hv vs ds → rd dx ds Q →
  (∀ v d Hv' H', Stp K W Γ σ Hv H Γ σ Hv' H' → Rp K Hv' v d → Q d → Q' v H') → r x vs H Q'
/-- the receiver's type, by data -/
def TyD (T : String) : D → Prop
  | .str _ => T = "str"
  | .lst _ => T = "list"
  | .tup _ => T = "tuple"
  | .dic _ _ => T = "dict"
  | _ => False

/-! ### statements -/
variable {s : Stmt} {rest sts bs : List Stmt} {tS uS : TS} {dS uD : TDS} {tT : TT} {dT : TDT}
def rdNext : TDS := fun E Γ => E.nx Γ
def rdSeq (t u : TDS) : TDS := fun E Γ => t { E with nx := u E } Γ
theorem dss_nil : DSs W X [] tNext rdNext := ⟨pss_nil, fun Γ σ Hv H E E' Z h l => l.nx _ _ _ _ Z.stp h⟩
theorem ad_seq {K : PySem.W.Frag} (h1 : AdS K W tS dS) (h2 : AdS K W uS uD) : AdS K W (tSeq tS uS) (rdSeq dS uD) := fun Γ σ Hv H E E' Z h l =>
  h1 Γ σ Hv H { E with nx := uD E } { E' with nx := uS E' } Z h ⟨fun Γ' σ' Hv' H' s q => h2 Γ' σ' Hv' H' E E' s.ev q (l.step s), l.rt, l.bk, l.ct⟩
theorem dss_cons (h1 : DS W X s tS dS) (h2 : DSs W X rest uS uD) : DSs W X (s :: rest) (tSeq tS uS) (rdSeq dS uD) := ⟨pss_cons h1.ps h2.ps, ad_seq h1.ad h2.ad⟩
theorem dss_one (h1 : DS W X s tS dS) : DSs W X [s] tS dS := ⟨pss_one h1.ps, h1.ad⟩
def rdBreak : TDS := fun E Γ => E.bk Γ
def rdCont : TDS := fun E Γ => E.ct Γ
theorem ds_pass : DS W X (.Pass pos) tNext rdNext := ⟨ps_pass, fun Γ σ Hv H E E' Z h l => l.nx _ _ _ _ Z.stp h⟩
theorem ds_break : DS W X (.Break pos) tBreak rdBreak := ⟨ps_break, fun Γ σ Hv H E E' Z h l => l.bk _ _ _ _ Z.stp h⟩
theorem ds_continue : DS W X (.Continue pos) tCont rdCont := ⟨ps_continue, fun Γ σ Hv H E E' Z h l => l.ct _ _ _ _ Z.stp h⟩
theorem ds_doc {y : Str} {j pos'} : DS W X (.Expr (.Constant (.str y) j pos) pos') tNext rdNext := ⟨ps_doc, fun Γ σ Hv H E E' Z h l => l.nx _ _ _ _ Z.stp h⟩
def rdDrop (de : TDE) : TDS := fun E Γ => de Γ fun _ Γ1 => E.nx Γ1
theorem ds_expr (he : DE W X e te de) (hs : swapsWith e none pos.line X.env = pure false := by rfl) : DS W X (.Expr e pos) (tDrop te) (rdDrop de) := ⟨ps_expr he.pe hs, fun Γ σ Hv H E E' Z h l => he.ad Γ σ Hv H _ _ Z h fun v d Γ1 Hv1 H1 s1 r1 q => l.nx _ _ _ _ s1 q⟩
def rdRet (de : TDE) : TDS := fun E Γ => de Γ fun d _ => E.rt d
theorem ds_ret (he : DE W X e te de) : DS W X (.Return (some e) pos) (tRet te) (rdRet de) := ⟨ps_ret he.pe, fun Γ σ Hv H E E' Z h l => he.ad Γ σ Hv H _ _ Z h fun v d Γ1 Hv1 H1 s1 r1 q => l.rt _ _ _ _ _ _ s1 r1 q⟩
def rdRetN : TDS := fun E _ => E.rt .non
theorem ds_retN : DS W X (.Return none pos) tRetN rdRetN := ⟨ps_retN, fun Γ σ Hv H E E' Z h l => l.rt _ _ _ _ _ _ Z.stp .non h⟩
def rdIfS (c : TDT) (t u : TDS) : TDS := fun E Γ => c Γ fun b Γ1 => if b = true then t E Γ1 else u E Γ1
theorem ds_if {as : List Stmt} (hc : DT W X c tT dT) (ha : DSs W X as tS dS) (hb : DSs W X bs uS uD) : DS W X (.If c as bs pos) (tIfS tT tS uS) (rdIfS dT dS uD) := by
  refine ⟨ps_if hc.pt ha.ps hb.ps, fun Γ σ Hv H E E' Z h l => hc.ad Γ σ Hv H _ _ Z h fun b Γ1 Hv1 H1 s1 q => ?_⟩
  cases b with
  | true =>
    rw [if_pos rfl] at q ⊢
    exact ha.ad Γ1 σ Hv1 H1 E E' s1.ev q (l.step s1)
  | false =>
    rw [if_neg Bool.false_ne_true] at q ⊢
    exact hb.ad Γ1 σ Hv1 H1 E E' s1.ev q (l.step s1)
theorem ds_never : DS W X s tNever (fun _ _ => False) := ⟨ps_never, fun Γ σ Hv H E E' Z h l => h.elim⟩
theorem dss_never : DSs W X sts tNever (fun _ _ => False) := ⟨pss_never, fun Γ σ Hv H E E' Z h l => h.elim⟩

/-! ### targets -/
def rgName (j : Nat) : TDG := fun d Γ Q => Q (Γ.set j (.dat d))
theorem dg_name {j : Nat} (hN : X.N.Nodup) (hi : X.N[j]? = some x) (hx : Loc X.env.scope x) (hf : X.fn x = true ∨ X.env.scope.names.lookup x = some .local := by first | exact .inl rfl | exact .inr rfl | assumption) : DG W X (.Name x pos) (gName j) (rgName j) [j] :=
  ⟨pg_name hN hi hx hf, fun Γ σ Hv H v d Q Q' Z r h k => k _ _ Hv H (Z.stp.set r) (by rw [List.length_set]) (fun l hl => List.getElem?_set_ne (fun z => hl (by simp [z]))) h⟩
def rgNil : List D → Gm → (Gm → Prop) → Prop := fun ds Γ Q => ds = [] ∧ Q Γ
def rgCons (t : TDG) (u : List D → Gm → (Gm → Prop) → Prop) : List D → Gm → (Gm → Prop) → Prop := fun ds Γ Q => match ds with
  | d :: r => t d Γ fun Γ1 => u r Γ1 Q
  | [] => False
theorem dgs_nil : DGs W X [] gNil rgNil [] := ⟨pgs_nil, fun Γ σ Hv H vs ds Q Q' Z r h k => by
  obtain ⟨rfl, h⟩ := h
  cases r
  exact ⟨rfl, k _ _ _ _ Z.stp rfl (fun _ _ => rfl) h⟩⟩
theorem dgs_cons {tg : Expr} {tgs : List Expr} {g : TG} {u : TGs} {gd : TDG} {ud} {is js : List Nat} (h1 : DG W X tg g gd is) (h2 : DGs W X tgs u ud js)
    (hs : (assignEach (tg :: tgs) X.env).map (·.2) = assign tg X.env :: (assignEach tgs X.env).map (·.2) := by rfl) : DGs W X (tg :: tgs) (gCons g u) (rgCons gd ud) (is ++ js) := by
  refine ⟨pgs_cons h1.pg h2.pg hs, fun Γ σ Hv H vs ds Q Q' Z r h k => ?_⟩
  cases r with
  | nil => exact h.elim
  | cons ra rr =>
    refine ⟨_, _, rfl, h1.ad Γ σ Hv H _ _ _ _ Z ra h fun Γ1 σ1 Hv1 H1 s1 l1 n1 q1 => ?_⟩
    refine h2.ad Γ1 σ1 Hv1 H1 _ _ _ _ s1.ev (RpAll.mono s1.sv _ _ rr) q1 fun Γ2 σ2 Hv2 H2 s2 l2 n2 q2 => ?_
    refine k Γ2 σ2 Hv2 H2 (s1.trans s2) (l2.trans l1) (fun j hj => ?_) q2
    rw [List.mem_append, not_or] at hj
    rw [n2 j hj.2, n1 j hj.1]
def rgTup (n : Nat) (u : List D → Gm → (Gm → Prop) → Prop) : TDG := fun d Γ Q => match d with
  | .tup ds => ds.length = n ∧ u ds Γ Q
  | _ => False
theorem dg_tup {tgs : List Expr} {kk : Nat} {u : TGs} {ud} {is : List Nat} {n : Nat} (hc : X.calm = true) (h : DGs W X tgs u ud is)
    (hn : (assignEach tgs X.env).length = n := by rfl) (hst : (assignEach tgs X.env).findIdx? (·.1) = none := by rfl) : DG W X (.Tuple tgs kk pos) (gTup X.K n u) (rgTup n ud) is := by
  refine ⟨pg_tup hc h.pg hn hst, fun Γ σ Hv H v d Q Q' Z r hw k => ?_⟩
  cases d <;> first | exact hw.elim | skip
  obtain ⟨hl, hw⟩ := hw
  cases r with
  | tup hs ra => exact ⟨_, _, rfl, seqT Z.ret.sub hs, by rw [ra.length]; exact hl, h.ad Γ σ Hv H _ _ _ _ Z ra hw k⟩
/-- target = value -/
def rdAsg (de : TDE) (gd : TDG) : TDS := fun E Γ => de Γ fun d Γ1 => gd d Γ1 E.nx
theorem ds_asg {tg : Expr} {g : TG} {gd : TDG} {is : List Nat} (he : DE W X e te de) (hg : DG W X tg g gd is) (hs : swapsWithSole [tg] e pos.line X.env = pure false := by rfl) (hw : swappedStores [tg] e X.env = pure none := by rfl)
    (h1 : (assignEach [tg] X.env).map (·.2) = [assign tg X.env] := by rfl) : DS W X (.Assign [tg] e pos) (tAsg te g) (rdAsg de gd) :=
  ⟨ps_asg he.pe hg.pg hs hw h1, fun Γ σ Hv H E E' Z h l => he.ad Γ σ Hv H _ _ Z h fun v d Γ1 Hv1 H1 s1 r1 q => hg.ad Γ1 σ Hv1 H1 _ _ _ _ s1.ev r1 q fun Γ2 σ2 Hv2 H2 s2 _ _ q2 => l.nx _ _ _ _ (s1.trans s2) q2⟩
theorem ds_set {j : Nat} {pos' : Pos} (hN : X.N.Nodup) (hi : X.N[j]? = some x) (hx : Loc X.env.scope x) (he : DE W X e te de) (hs : swapsWith e (some (.Name x pos')) pos.line X.env = pure false := by rfl) (hf : X.fn x = true ∨ X.env.scope.names.lookup x = some .local := by first | exact .inl rfl | exact .inr rfl | assumption) :
    DS W X (.Assign [.Name x pos'] e pos) (tAsg te (gName j)) (rdAsg de (rgName j)) :=
  ⟨ps_set hN hi hx he.pe hs hf, fun Γ σ Hv H E E' Z h l => he.ad Γ σ Hv H _ _ Z h fun v d Γ1 Hv1 H1 s1 r1 q => l.nx _ _ _ _ (s1.set r1) q⟩
/-- name = a new list: the slot's own -/
def rdSetOwn (de : TDF) (j : Nat) : TDS := fun E Γ => de Γ fun ds Γ1 => E.nx (Γ1.set j (.own ds))
theorem ds_setOwn {j : Nat} {pos' : Pos} {de : TDF} (hN : X.N.Nodup) (hi : X.N[j]? = some x) (hx : Loc X.env.scope x) (he : DF W X e te de) (hs : swapsWith e (some (.Name x pos')) pos.line X.env = pure false := by rfl) (hf : X.fn x = true ∨ X.env.scope.names.lookup x = some .local := by first | exact .inl rfl | exact .inr rfl | assumption) :
    DS W X (.Assign [.Name x pos'] e pos) (tAsg te (gName j)) (rdSetOwn de j) :=
  ⟨ps_set hN hi hx he.pe hs hf, fun Γ σ Hv H E E' Z h l => he.ad Γ σ Hv H _ _ Z h fun p vs ds Γ1 Hv1 H1 s1 hn hp r1 F q => l.nx _ _ _ _ (s1.keepOwn F hp r1 hn) q⟩
/-- x.append(e), x an own list's slot -/
def rdApp (j : Nat) (de : TDE) : TDE := fun Γ Q => (∃ ds, Γ[j]? = some (.own ds)) ∧ de Γ fun d Γ1 => match Γ1[j]? with
  | some (.own ds) => ds.length < sizeLine ∧ Q .non (Γ1.set j (.own (ds ++ [d])))
  | _ => False
theorem ad_app {K : PySem.W.Frag} {j : Nat} (he : Ad K W te de) : Ad K W (tBM K "list" rAppend (tVar j) (tCons te tNil)) (rdApp j de) := fun Γ σ Hv H Q Q' Z h k => by
  obtain ⟨⟨ds0, e0⟩, h⟩ := h
  obtain ⟨p, vs0, es, hp, _⟩ := Z.getOwn e0
  refine ⟨_, es, .inl ⟨rfl, _, .of hp⟩, he Γ σ Hv H _ _ Z h fun v d Γ1 Hv1 H1 s1 r1 q => ?_⟩
  cases e1 : Γ1[j]? with
  | none => rw [e1] at q; exact q.elim
  | some sl =>
    rw [e1] at q
    cases sl with
    | no => exact q.elim
    | dat _ => exact q.elim
    | owd _ _ => exact q.elim
    | own ds =>
      obtain ⟨p1, vs1, es1, hp1, ra, _⟩ := s1.ev.getOwn e1
      rw [es] at es1
      cases es1
      refine ⟨p, vs1, v, rfl, rfl, hp1, by rw [ra.length]; exact q.1, ?_⟩
      exact k _ _ _ _ _ (s1.mut e1 es (ra.append (.cons r1 .nil))) .non q.2

/-! ### for, while -/
def goFor (gd : TDG) (tb : TDS) (E : EndsD) : List D → Gm → Prop
  | [], Γ => E.nx Γ
  | d :: r, Γ => gd d Γ fun Γ2 => tb { E with nx := goFor gd tb E r, ct := goFor gd tb E r, bk := E.nx } Γ2
def rdFor (di : TDF) (gd : TDG) (tb : TDS) : TDS := fun E Γ => di Γ fun L Γ1 => goFor gd tb E L Γ1
theorem ds_for {tg iter : Expr} {body : List Stmt} {wi : TI} {di : TDF} {g : TG} {gd : TDG} {is : List Nat} (hp : PassesOwn (model X.prog X.w) X.A X.env X.xe) (hc : X.calm = true) (hi : DI W X tg iter wi di) (hg : DG W X tg g gd is) (hb : DSs W X body tS dS)
    (hs : ∀ x, foldedSetIterable iter X.env x = pure x := by intro _; rfl) : DS W X (.For tg iter body [] pos) (tFor wi g tS) (rdFor di gd dS) := by
  refine ⟨ps_for hp hc hi.pi hg.pg hb.ps hs, fun Γ σ Hv H E E' Z h l => ?_⟩
  refine hi.ad Γ σ Hv H _ _ Z h fun J L Γ1 Hv1 H1 s1 it q => ?_
  refine ⟨fun i m σ' H' => m = L.length - i ∧ i ≤ L.length ∧ ∃ Γ' Hv', Stp X.K W Γ σ Hv H Γ' σ' Hv' H' ∧ Same Hv1 Hv' ∧ goFor gd dS E (L.drop i) Γ', ⟨L.length, by simp, Nat.zero_le _, Γ1, Hv1, s1, .refl _, q⟩, ?_⟩
  rintro i m σ2 H2 ⟨rfl, hi2, Γ2, Hv2, s2, sm2, q2⟩
  obtain ⟨st, go⟩ := it Γ2 σ2 Hv2 H2 sm2 s2.ev i
  by_cases hlt : i < L.length
  · have e : L[i]? = some L[i] := List.getElem?_eq_getElem hlt
    obtain ⟨g1, g2⟩ := go _ e
    rw [List.drop_eq_getElem_cons hlt] at q2
    refine .inr ⟨g1, fun σ' H' => ∃ Γ' Hv', Stp X.K W Γ σ Hv H Γ' σ' Hv' H' ∧ Same Hv1 Hv' ∧ goFor gd dS E (L.drop (i + 1)) Γ', fun σ' H' n => ⟨L.length - (i + 1), by omega, rfl, hlt, n⟩, fun x H3 y => ?_⟩
    obtain ⟨Hv3, s3, r3⟩ := g2 x H3 y
    refine hg.ad Γ2 σ2 Hv3 H3 x _ _ _ s3.ev r3 q2 fun Γ4 σ4 Hv4 H4 s4 _ _ q4 => ?_
    have s24 := s2.trans (s3.trans s4)
    have sm4 : Same Hv1 Hv4 := sm2.trans (s3.sv.trans s4.sv)
    refine hb.ad Γ4 σ4 Hv4 H4 _ _ s4.ev q4 ⟨fun Γ' σ' Hv' H' s q => ⟨Γ', Hv', s24.trans s, sm4.trans s.sv, q⟩, fun v d Γ' σ' Hv' H' s r q => l.rt _ _ _ _ _ _ (s24.trans s) r q, fun Γ' σ' Hv' H' s q => l.nx _ _ _ _ (s24.trans s) q, fun Γ' σ' Hv' H' s q => ⟨Γ', Hv', s24.trans s, sm4.trans s.sv, q⟩⟩
  · have e : i = L.length := by omega
    subst e
    rw [List.drop_length] at q2
    exact .inl ⟨st (Nat.le_refl _), l.nx _ _ _ _ s2 q2⟩
def goW (c : TDT) (tb : TDS) (E : EndsD) : Nat → Gm → Prop
  | 0, _ => False
  | n + 1, Γ => c Γ fun b Γ1 => if b = true then tb { E with nx := goW c tb E n, ct := goW c tb E n, bk := E.nx } Γ1 else E.nx Γ1
def rdWhile (c : TDT) (tb : TDS) : TDS := fun E Γ => ∃ n, goW c tb E n Γ
theorem ds_while {body : List Stmt} (hp : PassesOwn (model X.prog X.w) X.A X.env X.xe) (hc : DT W X c tT dT) (hb : DSs W X body tS dS) : DS W X (.While c body [] pos) (tWhile tT tS) (rdWhile dT dS) := by
  refine ⟨ps_while hp hc.pt hb.ps, fun Γ σ Hv H E E' Z h l => ?_⟩
  obtain ⟨n, h⟩ := h
  refine ⟨fun m σ' H' => ∃ Γ' Hv', Stp X.K W Γ σ Hv H Γ' σ' Hv' H' ∧ goW dT dS E m Γ', ⟨n, Γ, Hv, Z.stp, h⟩, ?_⟩
  rintro m σ1 H1 ⟨Γ1, Hv1, s1, q1⟩
  cases m with
  | zero => exact q1.elim
  | succ m =>
    refine hc.ad Γ1 σ1 Hv1 H1 _ _ s1.ev q1 fun b Γ2 Hv2 H2 s2 q2 => ?_
    have s12 := s1.trans s2
    cases b with
    | true =>
      rw [if_pos rfl] at q2 ⊢
      refine ⟨fun σ' H' => ∃ Γ' Hv', Stp X.K W Γ σ Hv H Γ' σ' Hv' H' ∧ goW dT dS E m Γ', fun σ' H' n => ⟨m, Nat.lt_succ_self m, n⟩, ?_⟩
      exact hb.ad Γ2 σ1 Hv2 H2 _ _ s2.ev q2 ⟨fun Γ' σ' Hv' H' s q => ⟨Γ', Hv', s12.trans s, q⟩, fun v d Γ' σ' Hv' H' s r q => l.rt _ _ _ _ _ _ (s12.trans s) r q, fun Γ' σ' Hv' H' s q => l.nx _ _ _ _ (s12.trans s) q, fun Γ' σ' Hv' H' s q => ⟨Γ', Hv', s12.trans s, q⟩⟩
    | false =>
      rw [if_neg Bool.false_ne_true] at q2 ⊢
      exact l.nx _ _ _ _ s12 q2
end

/-! ### comprehensions -/
def wipeG (Γ : Gm) : List Nat → Gm
  | [] => Γ
  | v :: vs => (wipeG Γ vs).set v .no
def backG (Γ Γ' : Gm) : List Nat → Gm
  | [] => Γ'
  | v :: vs => (backG Γ Γ' vs).set v ((Γ[v]?).getD .no)
def noOwn (Γ : Gm) (vs : List Nat) : Prop := ∀ v ∈ vs, ∀ s, Γ[v]? = some s → s.isOwn = false
theorem wipeG_len (Γ : Gm) : ∀ vs, (wipeG Γ vs).length = Γ.length
  | [] => rfl
  | v :: vs => by unfold wipeG; rw [List.length_set, wipeG_len Γ vs]
theorem backG_len (Γ Γ' : Gm) : ∀ vs, (backG Γ Γ' vs).length = Γ'.length
  | [] => rfl
  | v :: vs => by unfold backG; rw [List.length_set, backG_len Γ Γ' vs]
theorem wipeG_get (Γ : Gm) : ∀ (vs : List Nat) (i : Nat), (wipeG Γ vs)[i]? = if i ∈ vs ∧ i < Γ.length then some .no else Γ[i]?
  | [], i => by simp [wipeG]
  | v :: vs, i => by
    unfold wipeG
    by_cases hv : v = i
    · subst hv
      by_cases hl : v < Γ.length
      · rw [List.getElem?_set_self (by rw [wipeG_len]; exact hl), if_pos ⟨by simp, hl⟩]
      · rw [List.getElem?_eq_none (by rw [List.length_set, wipeG_len]; omega), if_neg (fun z => hl z.2), List.getElem?_eq_none (by omega)]
    · rw [List.getElem?_set_ne hv, wipeG_get Γ vs i]
      have e : (i ∈ v :: vs ∧ i < Γ.length) ↔ (i ∈ vs ∧ i < Γ.length) := by
        rw [List.mem_cons]
        exact ⟨fun z => ⟨z.1.resolve_left (fun q => hv q.symm), z.2⟩, fun z => ⟨.inr z.1, z.2⟩⟩
      by_cases q : i ∈ vs ∧ i < Γ.length
      · rw [if_pos q, if_pos (e.mpr q)]
      · rw [if_neg q, if_neg (fun z => q (e.mp z))]
theorem wipe_get (σ : L2.St) : ∀ (vs : List Nat) (i : Nat), (wipe σ vs)[i]? = if i ∈ vs ∧ i < σ.length then some none else σ[i]?
  | [], i => by simp [wipe]
  | v :: vs, i => by
    unfold wipe
    by_cases hv : v = i
    · subst hv
      by_cases hl : v < σ.length
      · rw [List.getElem?_set_self (by rw [wipe_length]; exact hl), if_pos ⟨by simp, hl⟩]
      · rw [List.getElem?_eq_none (by rw [List.length_set, wipe_length]; omega), if_neg (fun z => hl z.2), List.getElem?_eq_none (by omega)]
    · rw [List.getElem?_set_ne hv, wipe_get σ vs i]
      have e : (i ∈ v :: vs ∧ i < σ.length) ↔ (i ∈ vs ∧ i < σ.length) := by
        rw [List.mem_cons]
        exact ⟨fun z => ⟨z.1.resolve_left (fun q => hv q.symm), z.2⟩, fun z => ⟨.inr z.1, z.2⟩⟩
      by_cases q : i ∈ vs ∧ i < σ.length
      · rw [if_pos q, if_pos (e.mpr q)]
      · rw [if_neg q, if_neg (fun z => q (e.mp z))]
theorem backG_get (Γ Γ' : Gm) : ∀ (vs : List Nat) (i : Nat), (backG Γ Γ' vs)[i]? = if i ∈ vs ∧ i < Γ'.length then some ((Γ[i]?).getD .no) else Γ'[i]?
  | [], i => by simp [backG]
  | v :: vs, i => by
    unfold backG
    by_cases hv : v = i
    · subst hv
      by_cases hl : v < Γ'.length
      · rw [List.getElem?_set_self (by rw [backG_len]; exact hl), if_pos ⟨by simp, hl⟩]
      · rw [List.getElem?_eq_none (by rw [List.length_set, backG_len]; omega), if_neg (fun z => hl z.2), List.getElem?_eq_none (by omega)]
    · rw [List.getElem?_set_ne hv, backG_get Γ Γ' vs i]
      have e : (i ∈ v :: vs ∧ i < Γ'.length) ↔ (i ∈ vs ∧ i < Γ'.length) := by
        rw [List.mem_cons]
        exact ⟨fun z => ⟨z.1.resolve_left (fun q => hv q.symm), z.2⟩, fun z => ⟨.inr z.1, z.2⟩⟩
      by_cases q : i ∈ vs ∧ i < Γ'.length
      · rw [if_pos q, if_pos (e.mpr q)]
      · rw [if_neg q, if_neg (fun z => q (e.mp z))]
section
variable {K : PySem.W.Frag} {W : Wc} {Γ Γ' : Gm} {σ σ' : L2.St} {Hv H Hv' H' : Hp} {vs : List Nat}
theorem Ev.wipe (E : Ev K W Γ σ Hv H) (vs : List Nat) : Stp K W Γ σ Hv H (wipeG Γ vs) (L2.wipe σ vs) Hv H := by
  have hl := E.len
  have at_ : ∀ {i : Nat} {sl : Sl}, (wipeG Γ vs)[i]? = some sl → sl.isOwn = true → Γ[i]? = some sl ∧ (L2.wipe σ vs)[i]? = σ[i]? := fun {i sl} e o => by
    rw [wipeG_get] at e
    rw [wipe_get]
    by_cases q : i ∈ vs ∧ i < Γ.length
    · rw [if_pos q] at e
      cases e; cases o
    · rw [if_neg q] at e
      exact ⟨e, if_neg fun z => q ⟨z.1, by omega⟩⟩
  refine ⟨.refl _, ⟨E.ret, by rw [wipe_length, wipeG_len, hl], fun i sl e => ?_, fun i j sl sl' a ne e1 e2 o1 o2 q => ?_⟩, fun x F n => ⟨rfl, F.hv, F.h0, fun i s e o => ?_⟩, fun _ n => n⟩
  · rw [wipeG_get] at e
    rw [wipe_get]
    by_cases q : i ∈ vs ∧ i < Γ.length
    · rw [if_pos q] at e
      cases e
      trivial
    · rw [if_neg q] at e
      rw [if_neg fun z => q ⟨z.1, by omega⟩]
      exact E.slots i sl e
  · obtain ⟨f1, g1⟩ := at_ e1 o1
    obtain ⟨f2, g2⟩ := at_ e2 o2
    rw [g1] at q
    rw [g2]
    exact E.apart i j sl sl' a ne f1 f2 o1 o2 q
  · obtain ⟨f1, g1⟩ := at_ e o
    rw [g1]
    exact F.sl i s f1 o
theorem Ev.back (E : Ev K W Γ σ Hv H) (n0 : noOwn Γ vs) {σ2 : L2.St} (s : Stp K W (wipeG Γ vs) (L2.wipe σ vs) Hv H Γ' σ2 Hv' H') (hl : σ2.length = σ.length) (hn : ∀ j, j ∉ vs → σ2[j]? = σ[j]?) :
    Stp K W Γ σ Hv H (backG Γ Γ' vs) σ Hv' H' := by
  have l1 := E.len
  have l2 := s.ev.len
  have at_ : ∀ {i : Nat} {sl : Sl}, (backG Γ Γ' vs)[i]? = some sl → sl.isOwn = true → Γ'[i]? = some sl ∧ σ2[i]? = σ[i]? := fun {i sl} e o => by
    rw [backG_get] at e
    by_cases q : i ∈ vs ∧ i < Γ'.length
    · rw [if_pos q] at e
      cases g : Γ[i]? with
      | none => rw [g] at e; cases e; cases o
      | some sl2 =>
        rw [g] at e
        have z : sl2 = sl := Option.some.inj e
        subst z
        rw [n0 i q.1 _ g] at o; cases o
    · rw [if_neg q] at e
      refine ⟨e, hn i fun z => q ⟨z, (List.getElem?_eq_some_iff.mp e).1⟩⟩
  refine ⟨s.sv, ⟨s.ev.ret, by rw [backG_len]; omega, fun i sl e => ?_, fun i j sl sl' a ne e1 e2 o1 o2 q => ?_⟩, fun x F n => ?_, fun x n => s.st x n⟩
  · rw [backG_get] at e
    by_cases q : i ∈ vs ∧ i < Γ'.length
    · rw [if_pos q] at e
      have hi : i < Γ.length := by omega
      have g : Γ[i]? = some Γ[i] := List.getElem?_eq_getElem hi
      rw [g] at e
      have z : Γ[i] = sl := Option.some.inj e
      have o := n0 i q.1 _ g
      rw [z] at g o
      refine (E.slots i sl g).stay s.sv fun a u ow _ _ _ => ?_
      rw [ow] at o; cases o
    · rw [if_neg q] at e
      have hx := s.ev.slots i sl e
      rw [hn i fun z => q ⟨z, (List.getElem?_eq_some_iff.mp e).1⟩] at hx
      exact hx
  · obtain ⟨f1, g1⟩ := at_ e1 o1
    obtain ⟨f2, g2⟩ := at_ e2 o2
    rw [← g1] at q
    rw [← g2]
    exact s.ev.apart i j sl sl' a ne f1 f2 o1 o2 q
  · have w := (E.wipe vs).fr x F n
    obtain ⟨e1, F1⟩ := s.fr x w.2 n
    refine ⟨e1, F1.hv, F1.h0, fun i sl e o => ?_⟩
    obtain ⟨f1, g1⟩ := at_ e o
    rw [← g1]
    exact F1.sl i sl f1 o
theorem noOwn.back (n0 : noOwn Γ vs) : noOwn (backG Γ Γ' vs) vs := fun v hv s e => by
  rw [backG_get] at e
  by_cases q : v ∈ vs ∧ v < Γ'.length
  · rw [if_pos q] at e
    cases g : Γ[v]? with
    | none => rw [g] at e; cases e; rfl
    | some sl => rw [g] at e; cases e; exact n0 v hv _ g
  · rw [if_neg q] at e
    exact absurd ⟨hv, (List.getElem?_eq_some_iff.mp e).1⟩ q
theorem wipe_same {σ σ2 : L2.St} {vs : List Nat} (hl : σ2.length = σ.length) (hn : ∀ j, j ∉ vs → σ2[j]? = σ[j]?) : L2.wipe σ2 vs = L2.wipe σ vs := by
  apply List.ext_getElem?
  intro i
  rw [wipe_get, wipe_get, hl]
  by_cases q : i ∈ vs ∧ i < σ.length
  · rw [if_pos q, if_pos q]
  · rw [if_neg q, if_neg q]
    by_cases hi : i ∈ vs
    · have : ¬ i < σ.length := fun z => q ⟨hi, z⟩
      rw [List.getElem?_eq_none (by omega), List.getElem?_eq_none (by omega)]
    · exact hn i hi
end
def goLc (gd : TDG) (tt : TDT) (te : TDE) (vs : List Nat) (Q : List D → Gm → Prop) : List D → List D → Gm → Prop
  | [], acc, Γ => Q acc Γ
  | d :: r, acc, Γ => gd d (wipeG Γ vs) fun Γ2 => tt Γ2 fun b Γ3 => if b = true then te Γ3 fun y Γ4 => acc.length < sizeLine ∧ goLc gd tt te vs Q r (acc ++ [y]) (backG Γ Γ4 vs) else goLc gd tt te vs Q r acc (backG Γ Γ3 vs)
def rdLc (di : TDF) (gd : TDG) (tt : TDT) (te : TDE) (vs : List Nat) : TDF := fun Γ Q => di Γ fun L Γ1 => noOwn Γ1 vs ∧ goLc gd tt te vs Q L [] Γ1
section
variable {W : Wc} {X : Cx}
theorem dts_nil : DTs W X [] tYes (fun Γ Q => Q true Γ) := ⟨pts_nil, fun Γ σ Hv H Q Q' E h k => k true Γ Hv H E.stp h⟩
theorem dts_one {c : Expr} {t : TT} {d : TDT} (h : DT W X c t d) : DTs W X [c] t d := ⟨pts_one h.pt, h.ad⟩
theorem ad_lc {K : PySem.W.Frag} {tg iter : Expr} {wi : TI} {di : TDF} {g : TG} {gd : TDG} {tt : TT} {td : TDT} {te : TE} {de : TDE} {is vs : List Nat}
    (hi : ∀ Γ σ Hv H (Q : List D → Gm → Prop) (R : It → Hp → Prop), Ev K W Γ σ Hv H → di Γ Q → (∀ J L Γ' Hv' H', Stp K W Γ σ Hv H Γ' σ Hv' H' → ItD K W J L Hv' → Q L Γ' → R J H') → wi σ H R)
    (hg : ∀ Γ σ Hv H v d (Q : Gm → Prop) (Q' : L2.St → Hp → Prop), Ev K W Γ σ Hv H → Rp K Hv v d → gd d Γ Q → (∀ Γ' σ' Hv' H', Stp K W Γ σ Hv H Γ' σ' Hv' H' → σ'.length = σ.length → (∀ j, j ∉ is → σ'[j]? = σ[j]?) → Q Γ' → Q' σ' H') → g v σ H Q')
    (ht : AdT K W tt td) (he : Ad K W te de) (hv : ∀ j ∈ is, j ∈ vs) : AdF K W (tLc wi g tt te vs) (rdLc di gd td de vs) := by
  intro Γ σ Hv H Q Q' E h k
  refine hi Γ σ Hv H _ _ E h fun J L Γ1 Hv1 H1 s1 it q => ?_
  obtain ⟨n1, q⟩ := q
  intro A hA
  obtain ⟨s2, F2⟩ := s1.alloc0 (.lst []) hA
  refine ⟨fun i m H' => m = L.length - i ∧ i ≤ L.length ∧ ∃ Γ' Hv' av acc, Stp K W Γ σ Hv H Γ' σ Hv' H' ∧ Same Hv1 Hv' ∧ noOwn Γ' vs ∧ H' A = some (.lst av) ∧ RpAll K Hv' av acc ∧ Fresh W Γ' σ Hv' A ∧ goLc gd td de vs Q (L.drop i) acc Γ',
    ⟨L.length, by simp, Nat.zero_le _, Γ1, Hv1, [], [], s2, .refl _, n1, upd_same, .nil, F2, q⟩, ?_⟩
  rintro i m H2 ⟨rfl, hi2, Γ2, Hv2, av, acc, s2, sm2, n2, hA2, ra2, F2, q2⟩
  obtain ⟨st, go⟩ := it Γ2 σ Hv2 H2 sm2 s2.ev i
  by_cases hlt : i < L.length
  · have e : L[i]? = some L[i] := List.getElem?_eq_getElem hlt
    obtain ⟨g1, g2⟩ := go _ e
    rw [List.drop_eq_getElem_cons hlt] at q2
    refine .inr ⟨g1, fun H' => ∃ Γ' Hv' av acc, Stp K W Γ σ Hv H Γ' σ Hv' H' ∧ Same Hv1 Hv' ∧ noOwn Γ' vs ∧ H' A = some (.lst av) ∧ RpAll K Hv' av acc ∧ Fresh W Γ' σ Hv' A ∧ goLc gd td de vs Q (L.drop (i + 1)) acc Γ', fun H' n => ⟨L.length - (i + 1), by omega, rfl, hlt, n⟩, fun x H3 y => ?_⟩
    obtain ⟨Hv3, s3, r3⟩ := g2 x H3 y
    have w3 := s3.ev.wipe vs
    refine hg (wipeG Γ2 vs) (L2.wipe σ vs) Hv3 H3 x _ _ _ w3.ev r3 q2 fun Γ4 σ4 Hv4 H4 s4 l4 n4 q4 => ?_
    have l4' : σ4.length = σ.length := by rw [l4, wipe_length]
    have n4' : ∀ j, j ∉ vs → σ4[j]? = σ[j]? := fun j hj => by
      rw [n4 j fun z => hj (hv j z), wipe_get, if_neg fun z => hj z.1]
    refine ⟨wipe_same l4' n4', ?_⟩
    refine ht Γ4 σ4 Hv4 H4 _ _ s4.ev q4 fun b Γ5 Hv5 H5 s5 q5 => ?_
    have A0 : H A = none := by
      cases z : H A with
      | none => rfl
      | some u => exact absurd (s1.st A (by rw [z]; simp)) (by rw [hA]; simp)
    cases b with
    | false =>
      rw [if_neg Bool.false_ne_true] at q5 ⊢
      have sb := s3.ev.back n2 (s4.trans s5) l4' n4'
      have sAll := s2.trans (s3.trans sb)
      obtain ⟨e5, F5⟩ := (s3.trans sb).fr A F2 (by rw [hA2]; simp)
      exact ⟨_, Hv5, av, acc, sAll, sm2.trans (s3.trans sb).sv, n2.back, e5.trans hA2, RpAll.mono (s3.trans sb).sv _ _ ra2, F5, q5⟩
    | true =>
      rw [if_pos rfl] at q5 ⊢
      refine he Γ5 σ4 Hv5 H5 _ _ s5.ev q5 fun y d Γ6 Hv6 H6 s6 r6 q6 => ?_
      have sb := s3.ev.back n2 (s4.trans (s5.trans s6)) l4' n4'
      have sAll := s2.trans (s3.trans sb)
      obtain ⟨e6, F6⟩ := (s3.trans sb).fr A F2 (by rw [hA2]; simp)
      refine ⟨av, e6.trans hA2, by rw [ra2.length]; exact q6.1, _, Hv6, av ++ [y], acc ++ [d], sAll.turn _ F6 (by rw [e6, hA2]; simp) A0, sm2.trans (s3.trans sb).sv, n2.back, upd_same, (RpAll.mono (s3.trans sb).sv _ _ ra2).append (.cons r6 .nil), F6, q6.2⟩
  · have e : i = L.length := by omega
    subst e
    rw [List.drop_length] at q2
    exact .inl ⟨st (Nat.le_refl _), k A av acc Γ2 Hv2 H2 s2 (s1.was hA) hA2 ra2 F2 q2⟩
theorem d_lc {elt tg iter : Expr} {ifs : List Expr} {scope : Scope} {own : List (Str × Nat)} {pos : Pos} {wi : TI} {di : TDF} {g : TG} {gd : TDG} {tt : TT} {td : TDT} {te : TE} {de : TDE} {is : List Nat} (hc : X.calm = true) (hN : X.N.Nodup) (hi : DI W X tg iter wi di) (ok : BlkOk X.N X.env.scope scope own)
    (hg : ∀ (s : Shared) (H : Hp) (C : Addr) (cl : List (Str × Addr)) (fp : List Addr), DG W (X.blk s H scope (compEnvC scope cl C X.env) fp) tg g gd is) (ht : ∀ (s : Shared) (H : Hp) (C : Addr) (cl : List (Str × Addr)) (fp : List Addr), DTs W (X.blk s H scope (compEnvC scope cl C X.env) fp) ifs tt td)
    (he : ∀ (s : Shared) (H : Hp) (C : Addr) (cl : List (Str × Addr)) (fp : List Addr), DE W (X.blk s H scope (compEnvC scope cl C X.env) fp) elt te de) (hv : ∀ j ∈ is, j ∈ own.map (·.2)) (hs : ∀ x, foldedSetIterable iter X.env x = pure x := by intro _; rfl) :
    DF W X (.ListComp elt [⟨tg, iter, ifs, 0⟩] scope pos) (tLc wi g tt te (own.map (·.2))) (rdLc di gd td de (own.map (·.2))) :=
  ⟨pe_lc hc hN hi.pi ok (fun s H C cl fp => (hg s H C cl fp).pg) (fun s H C cl fp => (ht s H C cl fp).pt) (fun s H C cl fp => (he s H C cl fp).pe) hs,
    ad_lc (tg := tg) (iter := iter) hi.ad (hg X.s_0 (fun _ => none) 0 [] []).ad (ht X.s_0 (fun _ => none) 0 [] []).ad (he X.s_0 (fun _ => none) 0 [] []).ad hv⟩
/-- name = [..] on one line -/
theorem ds_setLc {j : Nat} {y : Str} {py : Pos} {elt tg iter : Expr} {ifs : List Expr} {scope : Scope} {own : List (Str × Nat)} {pos spos : Pos} {wi : TI} {di : TDF} {g : TG} {gd : TDG} {tt : TT} {td : TDT} {te : TE} {de : TDE} {is : List Nat} (hc : X.calm = true) (hN : X.N.Nodup) (hy : X.N[j]? = some y) (hyl : X.env.scope.names.lookup y = some .local)
    (hsw : swapsWith (.ListComp elt [⟨tg, iter, ifs, 0⟩] scope pos) (some (.Name y py)) spos.line X.env = pure true) (hi : DI W X tg iter wi di) (ok : BlkOk X.N X.env.scope scope own)
    (hg : ∀ (s : Shared) (H : Hp) (C : Addr) (cl : List (Str × Addr)) (fp : List Addr), DG W (X.blk s H scope (compEnvC scope cl C X.env) fp) tg g gd is) (ht : ∀ (s : Shared) (H : Hp) (C : Addr) (cl : List (Str × Addr)) (fp : List Addr), DTs W (X.blk s H scope (compEnvC scope cl C X.env) fp) ifs tt td)
    (he : ∀ (s : Shared) (H : Hp) (C : Addr) (cl : List (Str × Addr)) (fp : List Addr), DE W (X.blk s H scope (compEnvC scope cl C X.env) fp) elt te de) (hv : ∀ j ∈ is, j ∈ own.map (·.2)) (hs : ∀ x, foldedSetIterable iter X.env x = pure x := by intro _; rfl) :
    DS W X (.Assign [.Name y py] (.ListComp elt [⟨tg, iter, ifs, 0⟩] scope pos) spos) (tAsg (tLc wi g tt te (own.map (·.2))) (gName j)) (rdSetOwn (rdLc di gd td de (own.map (·.2))) j) :=
  ⟨ps_setLc hc hN hy hyl hsw hi.pi ok (fun s H C cl fp => (hg s H C cl fp).pg) (fun s H C cl fp => (ht s H C cl fp).pt) (fun s H C cl fp => (he s H C cl fp).pe) hs, fun Γ σ Hv H E E' Z h l =>
    ad_lc (tg := tg) (iter := iter) hi.ad (hg X.s_0 (fun _ => none) 0 [] []).ad (ht X.s_0 (fun _ => none) 0 [] []).ad (he X.s_0 (fun _ => none) 0 [] []).ad hv Γ σ Hv H _ _ Z h fun p vs ds Γ1 Hv1 H1 s1 hn hp r1 F q => l.nx _ _ _ _ (s1.keepOwn F hp r1 hn) q⟩

/-! ### a def, by its body's reading -/
def startG (N : List Str) (ds : List D) : Gm := ds.map .dat ++ List.replicate (N.length - ds.length) .no
theorem start_slots {K : PySem.W.Frag} {W : Wc} {Hv H : Hp} {N : List Str} {vs : List V} {ds : List D} (r : RpAll K Hv vs ds) (R : Ret W.J.vol W.J.inv W.Hv0 W.H0 Hv H) : Ev K W (startG N ds) (L2.start N vs) Hv H := by
  have hl := r.length
  have key : ∀ (i : Nat) (sl : Sl), (startG N ds)[i]? = some sl → sl = .no ∨ ∃ d v, sl = .dat d ∧ (L2.start N vs)[i]? = some (some v) ∧ Rp K Hv v d := fun i sl e => by
    unfold startG at e
    by_cases hi : i < ds.length
    · rw [List.getElem?_append_left (by rw [List.length_map]; exact hi), List.getElem?_map, List.getElem?_eq_getElem hi] at e
      obtain ⟨v, ev, rv⟩ := r.get (List.getElem?_eq_getElem hi)
      refine .inr ⟨_, v, (Option.some.inj e).symm, ?_, rv⟩
      unfold L2.start
      rw [List.getElem?_append_left (by rw [List.length_map]; omega), List.getElem?_map, ev]
      rfl
    · rw [List.getElem?_append_right (by rw [List.length_map]; omega)] at e
      obtain ⟨_, e2⟩ := List.getElem?_eq_some_iff.mp e
      rw [List.getElem_replicate] at e2
      exact .inl e2.symm
  refine ⟨R, ?_, fun i sl e => ?_, fun i j sl sl' a ne e1 e2 o1 o2 q => ?_⟩
  · unfold L2.start startG
    rw [List.length_append, List.length_append, List.length_map, List.length_map, List.length_replicate, List.length_replicate, hl]
  · rcases key i sl e with rfl | ⟨d, v, rfl, ev, rv⟩
    · trivial
    · rw [ev]; exact ⟨v, rfl, rv⟩
  · rcases key i sl e1 with rfl | ⟨d, v, rfl, _⟩ <;> cases o1
variable {P : Program} {w : World} {K : PySem.W.Frag} {mg : Str → Option Value} {base : Heap}
/-- THE RULE for a def -/
theorem fn_d {x qual : Str} {st : Stmt} {f : Addr} {fd : FuncData} {N ps : List Str} {k : Nat} (J : Vol) {Fd : FD} (F : Fun K x qual st f fd) (S : FnScope N ps (defScope st)) (len : ∀ ds Q, Fd ds Q → ds.length = ps.length)
    (hbody : ∀ (cdv : Value) (A : Around) (outer : List Env) (s : Shared) (H : Hp) (E : XK) (W : Wc), W.J = J → Room k (A.deeper (envOfC qual (defScope st) s.heap.objs.size f cdv)) →
      ∃ t td, DSs W (cxOf CX0 P w K mg base N qual (defScope st) f cdv A outer s H E).nox (defBody st) t td ∧ ∀ ds Q, Fd ds Q → td { nx := fun _ => Q .non, rt := Q } (startG N ds)) :
    FnOk P w K mg base CX0 (k + 1) f fd ps (spD J K Fd) := by
  refine F.ok S (fun vs H Q E h => ?_) (fun cdv A outer s H vs Q E hr h => ?_)
  · obtain ⟨Hv, ds, Qd, _, _, _, r, hf, _⟩ := h
    rw [r.length, len _ _ hf]
  · obtain ⟨Hv, ds, Qd, sub, inv, nv, r, hf, out⟩ := h
    let W : Wc := ⟨J, H, Hv, inv, sub, nv⟩
    obtain ⟨t, td, hb, hq⟩ := hbody cdv A outer s H E W rfl hr
    refine ⟨t, hb.ps, ?_⟩
    have Z : Ev K W (startG N ds) (L2.start N vs) Hv H := start_slots r ⟨.refl _, sub, fun _ _ e _ => e, inv, nv, fun _ _ e => .inl e⟩
    refine hb.ad _ _ Hv H _ _ Z (hq ds Qd hf) ⟨fun Γ' σ' Hv' H' s q => ?_, fun v d Γ' σ' Hv' H' s rv q => ?_, fun _ _ _ _ _ q => q.elim, fun _ _ _ _ _ q => q.elim⟩
    · exact out .non .non Hv' H' s.ev.ret .non q
    · exact out v d Hv' H' s.ev.ret rv q
end
end VL

set_option Elab.async false
set_option linter.all false
set_option maxRecDepth 100000
set_option maxHeartbeats 4000000
/-! VLG: defs that are run where no repr is under way (the guards are known to be empty): their promise, call, body, and the law's end. -/
namespace VL
open PySem PySem.Spec L2
open PyProof.Rows hiding St

/-- a def's promise where no guard is up -/
structure FnG (P : Program) (w : World) (K : PySem.W.Frag) (mg : Str → Option Value) (base : Heap) (CX : CXT) (k : Nat) (f : Addr) (fd : FuncData)
    (ps : List Str) (sp : Sp) : Prop where
  len : ∀ vs H Q E, sp vs H Q E → vs.length = ps.length
  go : ∀ (A : Around) (outer : List Env) (s : Shared) (H : Hp) (args : Args) (us : List Value) (vs : List V) (Q : VK) (E : XK), A.guards = some [] →
    Room k A → Env0 P w K mg base A outer s H → BindsTo s fd args (ps.zip us) → Vals vs us →
    sp vs H Q E → codeAny (model P w) A (.call (.ref f) args) (CR CX outer P w H s Q E) s
theorem FnG.of {P : Program} {w : World} {K : PySem.W.Frag} {mg : Str → Option Value} {base : Heap} {CX : CXT} {k : Nat} {f : Addr} {fd : FuncData} {ps : List Str} {sp : Sp}
    (F : FnOk P w K mg base CX k f fd ps sp) : FnG P w K mg base CX k f fd ps sp :=
  ⟨F.len, fun A o s H a us vs Q E _ => F.run A o s H a us vs Q E⟩

section
variable {X : Cx} {CX : CXT} {k : Nat} {f : Addr} {fd : FuncData} {ps ks : List Str} {sp : Sp} {dvs : List V} {ds : List Value} {E : XK} {x : Str} {p pos : Pos} {e : Expr} {es : List Expr} {ta : TE} {t : TA}
/-- what comes of a callee -/
theorem call_back {pins : List (Addr × Obj)} {σ : L2.St} {H : Hp} {s s' : Shared} {Q : VK} {r : Result} (hx : Passes CX X E)
    (I : Inv X pins σ H s) (h : CR CX X.stack X.prog X.w H s Q E r s') :
    match r with
    | .ok (.ret u) => EP X pins σ Q u s'
    | .ok _ => False
    | .error e => X.xe e s' := by
  cases r with
  | ok fl =>
    cases fl with
    | ret u => exact I.after h
    | next => exact h
    | brk => exact h
    | cont => exact h
  | error e => exact hx pins σ H s e s' I h
theorem run_g {pins : List (Addr × Obj)} {σ : L2.St} {H : Hp} {s : Shared} {Q : VK} {us : List Value} {vs : List V} (F : FnG X.prog X.w X.K X.mg X.base CX k f fd ps sp) (hgd : X.A.guards = some [])
    (hr : Room k X.A) (hb : Binds X.K fd ps ds) (hd : Vals dvs ds) (hx : Passes CX X E) (I : Inv X pins σ H s) (r : Vals vs us)
    (h : sp (vs ++ dvs) H Q E) :
    wpAny (model X.prog X.w) X.A (call (.ref f) us) (EP X pins σ Q) X.xe s := by
  have ra : Vals (vs ++ dvs) (us ++ ds) := r.append hd
  have la := (ra.length).symm.trans (F.len _ _ _ _ h)
  have go := F.go X.A X.stack s H ⟨us, []⟩ (us ++ ds) (vs ++ dvs) Q E hgd hr I.env0 (hb s us I.kIn la) ra h
  refine wpAny_call (codeAny_mono go fun res s' q => ?_)
  have cb := call_back hx I q
  cases res with
  | ok fl => cases fl <;> first | exact cb | exact cb.elim
  | error e => exact cb
/-- f(e, ..) -/
theorem pe_callG (F : FnG X.prog X.w X.K X.mg X.base CX k f fd ps sp) (hgd : X.A.guards = some []) (hr : Room k X.A) (hg : Gl X x) (hm : X.mg x = some (.ref f))
    (hk : PySem.W.keepIn X.K (.ref f) = true) (hb : Binds X.K fd ps ds) (hd : Vals dvs ds) (hx : Passes CX X E) (ha : PA X (e :: es) t) (hdb : (x == ("__debug__" : Str)) = false := by decide)
    (he : starEach (e :: es) X.env = (false, eval e X.env) :: starEach es X.env := by rfl) (hpl : (backTo pos (starEach es X.env)).any (·.1) = false := by rfl) :
    PE X (.Call (.Name x p) (e :: es) [] pos) (tCall sp dvs E t) := by
  constructor
  intro pins s σ H Q I h
  refine wpAny_Call_Name_kw (ld_glob I hg hm (PySem.W.callWith_K (h₀ := X.base) I.ok.mod.kin hk ?_ he hpl) hdb)
  refine thn (ha.run pos pins s σ H _ I h) ?_
  rintro us s1 ⟨vs, H1, I1, r, q⟩
  exact ⟨I1.kIn, run_g F hgd hr hb hd hx I1 r q⟩
/-- f() -/
theorem pe_callG0 (F : FnG X.prog X.w X.K X.mg X.base CX k f fd ps sp) (hgd : X.A.guards = some []) (hr : Room k X.A) (hg : Gl X x) (hm : X.mg x = some (.ref f))
    (hk : PySem.W.keepIn X.K (.ref f) = true) (hb : Binds X.K fd ps ds) (hd : Vals dvs ds) (hx : Passes CX X E) (hdb : (x == ("__debug__" : Str)) = false := by decide) :
    PE X (.Call (.Name x p) [] [] pos) (tCall sp dvs E tNil) := by
  constructor
  intro pins s σ H Q I h
  exact wpAny_Call_Name_kw (ld_glob I hg hm (PySem.W.callWith_K0 I.kIn hk (run_g (us := []) F hgd hr hb hd hx I .nil h)) hdb)
/-- f(k = v, ..), keywords alone (a def without guards) -/
def tCallKw (n : Nat) (sp : Sp) (gV : List V → List V → List V) (E : XK) (tk : TA) : TE := fun σ H Q => tk σ H fun zs H2 => zs.length = n ∧ sp (gV [] zs) H2 Q E
theorem pe_callKw {g : List Value → List Value → List Value} {gV : List V → List V → List V} {kws : List Keyword} {tk : TA} (F : FnOk X.prog X.w X.K X.mg X.base CX k f fd ps sp) (hr : Room k X.A) (hg : Gl X x) (hm : X.mg x = some (.ref f))
    (hk : PySem.W.keepIn X.K (.ref f) = true) (hb : KBn X.K fd ps 0 ks g gV) (hx : Passes CX X E) (hkw : PK X kws tk) (hall : (backToKw pos (keywordEach kws X.env)).all (·.1.isSome) = true := by rfl)
    (hks : (backToKw pos (keywordEach kws X.env)).filterMap (·.1) = ks := by rfl) (hdb : (x == ("__debug__" : Str)) = false := by decide)
    (hpl : ((backTo pos (starEach [] X.env)).any (·.1) || (backToKw pos (keywordEach kws X.env)).any (·.1.isNone)) = false := by rfl) :
    PE X (.Call (.Name x p) [] kws pos) (tCallKw ks.length sp gV E tk) := by
  constructor
  intro pins s σ H Q I h
  refine wpAny_Call_Name_kw (ld_glob I hg hm (PySem.W.callWith_KW0 (h₀ := X.base) I.ok.mod.kin hk hall ?_ hpl) hdb)
  refine thn (hkw.run pos pins s σ H _ I h) ?_
  rintro ws s2 ⟨zs, H2, I2, rz, l2, q2⟩
  refine ⟨I2.kIn, ?_⟩
  rw [hks]
  exact run_fnN F hr hb hx I2 (us := []) (vs := []) .nil rz rfl l2 q2
end

/-- the rule for a def, where no guard is up -/
theorem fn_ofG {CX : CXT} {P : Program} {w : World} {K : PySem.W.Frag} {mg : Str → Option Value} {base : Heap} {k : Nat} {f : Addr} {name qual : Str} {params : Arguments} {body : List Stmt} {scope : Scope}
    {dV kV doc pm cdv ct oc : Value} {an od : Option Addr} {osl : Array (Option Value)} {N ps : List Str} {sp : Sp}
    (lk : K.lookup f = some ⟨oc, od, .func (PySem.W.fnOf name qual params body scope dV kV doc pm an cdv ct), osl⟩)
    (hcd : PySem.W.codeIn K cdv qual = true) (S : FnScope N ps scope) (len : ∀ vs H Q E, sp vs H Q E → vs.length = ps.length)
    (hbody : ∀ (A : Around) (outer : List Env) (s : Shared) (H : Hp) (vs : List V) (Q : VK) (E : XK), A.guards = some [] →
      Room k (A.deeper (envOfC qual scope s.heap.objs.size f cdv)) → sp vs H Q E →
      ∃ t, PSs (cxOf CX P w K mg base N qual scope f cdv A outer s H E) body t ∧ t { nx := fun _ H' => Q .non H', rt := Q } (L2.start N vs) H) :
    FnG P w K mg base CX (k + 1) f (PySem.W.fnOf name qual params body scope dV kV doc pm an cdv ct) ps sp := by
  refine ⟨len, ?_⟩
  intro A outer s H args us vs Q E hgd hr e0 hb r hsp
  have ln := len _ _ _ _ hsp
  have kin : K.In s.heap := e0.mod.kin.keeps (fun b o e => (e0.bs b o e).1)
  have nol : s.heap.NoLimit := e0.mod.nolimit.keeps (fun b o e => (e0.bs b o e).1)
  obtain ⟨t, ht, hq⟩ := hbody A outer s H vs Q E hgd (hr.deeper _) hsp
  refine codeAny_call_function hr.depth (kin _ _ lk) rfl S.co S.gen rfl (PySem.W.codeRec_of kin hcd) (hb _ _ _ _ ?_)
  refine wpAny_newFunctionEnv_cells S.kind ?_ ?_
  · rintro ⟨n, v⟩ hy
    rcases S.par n (List.of_mem_zip hy).1 with q | q
    · exact .inl q
    · exact .inr ⟨q, PySem.W.cellsFrom_some _ _ _ (.inl q)⟩
  · intro env he s1 x
    subst he
    refine ⟨nol.keeps x.toInCall.keep, codeAny_func ?_⟩
    have I : Inv (cxOf CX P w K mg base N qual scope f cdv A outer s H E) [] (L2.start N vs) H s1 := inv_start S hr.hd e0 ln r x
    refine wpAny_mono (ht.run [] s1 (L2.start N vs) H _ I hq) ?_ (fun e s' hs => hs)
    intro fl s' hs
    cases fl with
    | next =>
      obtain ⟨_, H', J, q⟩ := hs
      exact ⟨V.non, H', J.os, J.bare, J.base, J.hok, rfl, q⟩
    | ret u =>
      obtain ⟨v, _, H', J, rv, q⟩ := hs
      exact ⟨v, H', J.os, J.bare, J.base, J.hok, rv, q⟩
    | brk =>
      obtain ⟨_, _, _, q⟩ := hs
      exact q.elim
    | cont =>
      obtain ⟨_, _, _, q⟩ := hs
      exact q.elim

section
variable {W : Wc} {X : Cx} {e : Expr} {es : List Expr} {t : TA} {dt : TDF} {p pos : Pos} {x : Str} {CX : CXT} {k : Nat} {f : Addr} {fd : FuncData} {ps : List Str} {F : FD} {dvs : List V} {dds : List D} {ds : List Value} {E : XK}
theorem d_callG {J : Vol} (G : FnG X.prog X.w X.K X.mg X.base CX k f fd ps (spD J X.K F)) (hJ : J = W.J) (hgd : X.A.guards = some []) (hr : Room k X.A) (hg : Gl X x) (hm : X.mg x = some (.ref f)) (hk : PySem.W.keepIn X.K (.ref f) = true)
    (hb : Binds X.K fd ps ds) (hd : Vals dvs ds) (hdd : ∀ H, RpAll X.K H dvs dds) (hx : Passes CX X E) (ha : DA W X (e :: es) t dt) (hdb : (x == ("__debug__" : Str)) = false := by decide)
    (he : starEach (e :: es) X.env = (false, eval e X.env) :: starEach es X.env := by rfl) (hpl : (backTo pos (starEach es X.env)).any (·.1) = false := by rfl) :
    DE W X (.Call (.Name x p) (e :: es) [] pos) (tCall (spD J X.K F) dvs E t) (rdCall F dds dt) := by
  subst hJ
  exact ⟨pe_callG G hgd hr hg hm hk hb hd hx ha.pa hdb he hpl, ad_call hdd ha.ad⟩
theorem d_callGP (G : FnG X.prog X.w X.K X.mg X.base CX k f fd ps (spD Vol.no X.K F)) (hgd : X.A.guards = some []) (hr : Room k X.A) (hg : Gl X x) (hm : X.mg x = some (.ref f)) (hk : PySem.W.keepIn X.K (.ref f) = true)
    (hb : Binds X.K fd ps ds) (hd : Vals dvs ds) (hdd : ∀ H, RpAll X.K H dvs dds) (hx : Passes CX X E) (ha : DA W X (e :: es) t dt) (hdb : (x == ("__debug__" : Str)) = false := by decide)
    (he : starEach (e :: es) X.env = (false, eval e X.env) :: starEach es X.env := by rfl) (hpl : (backTo pos (starEach es X.env)).any (·.1) = false := by rfl) :
    DE W X (.Call (.Name x p) (e :: es) [] pos) (tCall (spD Vol.no X.K F) dvs E t) (rdCall F dds dt) :=
  ⟨pe_callG G hgd hr hg hm hk hb hd hx ha.pa hdb he hpl, ad_callP hdd ha.ad⟩
/-- keywords -/
structure DK (W : Wc) (X : Cx) (kws : List Keyword) (ta : TA) (td : TDF) : Prop where
  pk : PK X kws ta
  ad : AdA X.K W ta td
theorem dk_nil : DK W X [] tNil rdNil := ⟨pk_nil, fun Γ σ Hv H Q Q' E h k => k [] [] Γ Hv H E.stp .nil h⟩
theorem dk_cons {kws : List Keyword} {te : TE} {de : TDE} {nm : Option Str} {kpos : Pos} (ha : DE W X e te de) (hr : DK W X kws t dt) : DK W X (⟨nm, e, kpos⟩ :: kws) (tCons te t) (rdCons de dt) := by
  refine ⟨pk_cons ha.pe hr.pk, fun Γ σ Hv H Q Q' E h k => ?_⟩
  refine ha.ad Γ σ Hv H _ _ E h fun x d Γ1 Hv1 H1 s1 r1 q => ?_
  exact hr.ad Γ1 σ Hv1 H1 _ _ s1.ev q fun vs ds Γ2 Hv2 H2 s2 r2 q2 => k _ _ Γ2 Hv2 H2 (s1.trans s2) (.cons (Rp.mono s2.sv _ _ r1) r2) q2
def rdCallKw (n : Nat) (F : FD) (dt : TDF) : TDE := fun Γ Q => dt Γ fun ds Γ1 => ds.length = n ∧ F ds fun d => Q d Γ1
/-- f(k = v, ..), f pure, the keywords in the parameters' order -/
theorem d_callKwP {ks : List Str} {g : List Value → List Value → List Value} {kws : List Keyword} (G : FnOk X.prog X.w X.K X.mg X.base CX k f fd ps (spD Vol.no X.K F)) (hr : Room k X.A) (hg : Gl X x) (hm : X.mg x = some (.ref f))
    (hk : PySem.W.keepIn X.K (.ref f) = true) (hb : KBn X.K fd ps 0 ks g (fun _ zs => zs)) (hx : Passes CX X E) (hkw : DK W X kws t dt) (hall : (backToKw pos (keywordEach kws X.env)).all (·.1.isSome) = true := by rfl)
    (hks : (backToKw pos (keywordEach kws X.env)).filterMap (·.1) = ks := by rfl) (hdb : (x == ("__debug__" : Str)) = false := by decide)
    (hpl : ((backTo pos (starEach [] X.env)).any (·.1) || (backToKw pos (keywordEach kws X.env)).any (·.1.isNone)) = false := by rfl) :
    DE W X (.Call (.Name x p) [] kws pos) (tCallKw ks.length (spD Vol.no X.K F) (fun _ zs => zs) E t) (rdCallKw ks.length F dt) := by
  refine ⟨pe_callKw G hr hg hm hk hb hx hkw.pk hall hks hdb hpl, fun Γ σ Hv H Q Q' Z h k => ?_⟩
  refine hkw.ad Γ σ Hv H _ _ Z h fun vs ds Γ1 Hv1 H1 s1 r1 q => ⟨by rw [r1.length]; exact q.1, ?_⟩
  exact ⟨Hv1, ds, _, s1.ev.ret.sub, True.intro, fun _ z => z.elim, r1, q.2, fun v d Hv2 H2 R r2 q2 => k v d Γ1 Hv2 H2 (s1.after (s1.ev.pure R)) r2 q2⟩
variable {P : Program} {w : World} {K : PySem.W.Frag} {mg : Str → Option Value} {base : Heap}
theorem fn_dG {x qual : Str} {st : Stmt} {f : Addr} {fd : FuncData} {N ps : List Str} {k : Nat} (J : Vol) {Fd : FD} (F : Fun K x qual st f fd) (S : FnScope N ps (defScope st)) (len : ∀ ds Q, Fd ds Q → ds.length = ps.length)
    (hbody : ∀ (cdv : Value) (A : Around) (outer : List Env) (s : Shared) (H : Hp) (E : XK) (W : Wc), W.J = J → A.guards = some [] → Room k (A.deeper (envOfC qual (defScope st) s.heap.objs.size f cdv)) →
      ∃ t td, DSs W (cxOf CX0 P w K mg base N qual (defScope st) f cdv A outer s H E).nox (defBody st) t td ∧ ∀ ds Q, Fd ds Q → td { nx := fun _ => Q .non, rt := Q } (startG N ds)) :
    FnG P w K mg base CX0 (k + 1) f fd ps (spD J K Fd) := by
  obtain ⟨oc, od, kV, doc, pm, an, cdv, ct, osl, rfl, lk, hcd⟩ := F.ex
  refine fn_ofG lk hcd S (fun vs H Q E h => ?_) fun A outer s H vs Q E hgd hr h => ?_
  · obtain ⟨Hv, ds, Qd, _, _, _, r, hf, _⟩ := h
    rw [r.length, len _ _ hf]
  · obtain ⟨Hv, ds, Qd, sub, inv, nv, r, hf, out⟩ := h
    let W : Wc := ⟨J, H, Hv, inv, sub, nv⟩
    obtain ⟨t, td, hb, hq⟩ := hbody cdv A outer s H E W rfl hgd hr
    refine ⟨t, hb.ps.nox, ?_⟩
    have Z : Ev K W (startG N ds) (L2.start N vs) Hv H := start_slots r ⟨.refl _, sub, fun _ _ e _ => e, inv, nv, fun _ _ e => .inl e⟩
    refine hb.ad _ _ Hv H _ _ Z (hq ds Qd hf) ⟨fun Γ' σ' Hv' H' s q => ?_, fun v d Γ' σ' Hv' H' s rv q => ?_, fun _ _ _ _ _ q => q.elim, fun _ _ _ _ _ q => q.elim⟩
    · exact out .non .non Hv' H' s.ev.ret .non q
    · exact out v d Hv' H' s.ev.ret rv q
end

/-! ### the law's end -/
theorem law_goes {P : Program} {w : World} {K : PySem.W.Frag} {mg mb : Str → Option Value} {k : Nat} {fa a : Addr} {fd : FuncData} {x : Str} {sp : Sp} {s₁ : Shared} {vs : List Value} {ns : List Int}
    (kin : K.In s₁.heap) (hns : s₁.heap.Ns mainGlobals mg) (hb : s₁.heap.Ns builtinsNs mb) (hbb : ∀ x : Str, x ≠ "__name__" → mb x = bootBuiltins x)
    (hlim : s₁.heap.NoLimit) (hg : s₁.gens = #[]) (ha : s₁.heap.get? a = some { cls := .type "list", data := .seq vs.toArray }) (hi : IntsAre vs ns)
    (hl : ns.length ≤ sizeLine) (hr : Room k callerA)
    (F : ∀ base : Heap, K.In base → base.Ns mainGlobals mg → FnG P w K mg base CX0 k fa fd [x] sp)
    (hbind : ∀ (s : Shared) (u : Value), BindsTo s fd ⟨[u], []⟩ [(x, u)])
    (hsp : ∀ H : Hp, Only H → SqL K H a (ns.map V.int) → sp [.ref a] H (fun v _ => v = .bl true) fun _ _ _ => False) :
    codeAny (model P w) callerA (.call (.ref fa) ⟨[.ref a], []⟩)
      (fun r s' => r = .ok (.ret (.bool true)) ∧ OldK s₁.heap s'.heap ∧ s'.os = s₁.os ∧ AllBare s'.gens) s₁ := by
  have rv : Vals (ns.map V.int) vs := vals_ints hi
  have lv := hi.length
  -- over an abstract heap that tracks at most the script
  have main : ∀ H : Hp, Only H → SqL K H a (ns.map V.int) → HOk P w H s₁.heap → (∀ b u, H b = some u → b = a ∧ K.lookup a = none) →
      codeAny (model P w) callerA (.call (.ref fa) ⟨[.ref a], []⟩)
        (fun r s' => r = .ok (.ret (.bool true)) ∧ OldK s₁.heap s'.heap ∧ s'.os = s₁.os ∧ AllBare s'.gens) s₁ := by
    intro H only sq hok just
    have free : ∀ {b : Addr}, (b ≠ a ∨ K.lookup a ≠ none) → H b = none := by
      intro b hn
      cases q : H b with
      | none => rfl
      | some u =>
        obtain ⟨e1, e2⟩ := just b u q
        rcases hn with n | n
        · exact absurd e1 n
        · exact absurd e2 n
    have nsOf : ∀ {b : Addr} {m : Str → Option Value}, s₁.heap.Ns b m → (hidT s₁.heap H).Ns b m := by
      rintro b m ⟨o, es, ep, e, d, rest⟩
      refine ⟨o, es, ep, hidT_get e (free (.inl ?_)), d, rest⟩
      rintro rfl
      rw [ha] at e
      cases e
      cases (show Data.seq vs.toArray _ = Data.dict es ep from d)
    have kinB : K.In (hidT s₁.heap H) := by
      intro b o e
      refine hidT_get (kin b o e) ?_
      by_cases hab : b = a
      · subst hab
        exact free (.inr (by rw [e]; simp))
      · exact free (.inl hab)
    obtain ⟨mc, hc1, hc2⟩ := hlim
    have M : Mod K mg (hidT s₁.heap H) := ⟨kinB, nsOf hns, ⟨mb, nsOf hb, hbb⟩, ⟨mc, nsOf hc1, hc2⟩⟩
    have Z : Env0 P w K mg (hidT s₁.heap H) callerA [] s₁ H :=
      ⟨rfl, M, fun b o e => of_hidT e, Nat.le_of_eq (hidT_size _ _), trivial, fun b hb => (List.not_mem_nil hb).elim, hok, .of_eq hg⟩
    have run := (F _ kinB (nsOf hns)).go callerA [] s₁ H ⟨[.ref a], []⟩ [.ref a] [.ref a] _ _ rfl hr Z (hbind s₁ (.ref a)) (.cons rfl .nil) (hsp H only sq)
    refine codeAny_mono run ?_
    intro r s' q
    match r, q with
    | .error e, q => exact q.elim
    | .ok .next, q => exact q.elim
    | .ok .brk, q => exact q.elim
    | .ok .cont, q => exact q.elim
    | .ok (.ret u), q =>
      obtain ⟨v, H', os, bare, un, hok', ru, ev⟩ := q
      obtain rfl : v = .bl true := ev
      obtain rfl : u = Value.bool true := ru
      refine ⟨rfl, OldK.of_keep ?_, os, bare⟩
      intro b o e
      rcases only b with z | ⟨ob, xs, z⟩
      · exact un.keep b o e z (fun m => (List.not_mem_nil m).elim) List.not_mem_nil
      · obtain ⟨e1, _⟩ := hok b _ z
        obtain ⟨e2, _⟩ := hok' b _ (un.frzs b ob _ z)
        rw [e] at e1
        cases e1
        exact e2
  by_cases hk : ∃ o, K.lookup a = some o
  · obtain ⟨o, hk⟩ := hk
    have e := kin a o hk
    rw [ha] at e
    cases e
    refine main (fun _ => none) (fun _ => .inl rfl) (.inr ⟨_, vs.toArray, _, hk, rfl, rfl, rfl, ?_, ?_⟩) ?_ ?_
    · rw [List.size_toArray, lv]; exact hl
    · simpa using rv
    · intro b u z; cases z
    · intro b u z; cases z
  · have hk' : K.lookup a = none := by
      cases q : K.lookup a with
      | none => rfl
      | some o => exact absurd ⟨o, q⟩ hk
    let S : HO := .frz { cls := .type "list", data := .seq vs.toArray } (.lst (ns.map V.int))
    refine main (fun b => if b = a then some S else none) ?_ (.inl (.inr ⟨{ cls := .type "list", data := .seq vs.toArray }, if_pos rfl⟩)) ?_ ?_
    · intro b
      by_cases hb : b = a
      · exact .inr ⟨_, _, if_pos hb⟩
      · exact .inl (if_neg hb)
    · intro b u z
      have z : (if b = a then some S else none) = some u := z
      by_cases hb : b = a
      · subst hb
        rw [if_pos rfl] at z
        cases z
        exact ⟨ha, by rw [List.length_map]; exact hl, vs, _, rv, ha⟩
      · rw [if_neg hb] at z
        cases z
    · intro b u z
      have z : (if b = a then some S else none) = some u := z
      by_cases hb : b = a
      · exact ⟨hb, hk'⟩
      · rw [if_neg hb] at z
        cases z
theorem walk_g {l : PySem.W.OpenLaw} {n k : Nat} {q : Program} {loose : List Str} {XP : (Str → Option Value) → Heap → Prop} {YP : World → Heap → Prop} {d : DefRec} {K : Params → PySem.W.Frag} {sp : World → Sp} {x : Str}
    (hn : l.most = some n) (hn2 : n ≤ sizeLine) (hdf : d.params.defaults = []) (hr : Room k callerA) (hY : ∀ (w : World) (h : Heap), YP w h → (K w.params).In h)
    (F : ∀ (w : World) (mg : Str → Option Value) (fa : Addr) (h : Heap), (K w.params).In h → h.Ns mainGlobals mg → mg d.name = some (.ref fa) →
      ∃ fd : FuncData, (∀ (s : Shared) (u : Value), BindsTo s fd ⟨[u], []⟩ [(x, u)]) ∧
        ∀ base : Heap, (K w.params).In base → base.Ns mainGlobals mg → FnG l.prog w (K w.params) mg base CX0 k fa fd [x] (sp w))
    (hsp : ∀ (w : World) (H : Hp) (a : Addr) (ns : List Int), ns.length ≤ n → Only H → SqL (K w.params) H a (ns.map V.int) →
      sp w [.ref a] H (fun v _ => v = .bl true) fun _ _ _ => False) :
    PySem.W.WalkO q loose XP YP l.row.toRowW d [] (fun f vs => PySem.call f vs) := by
  refine Att.attach_call hn hdf ?_
  intro w s₀ s₁ mg mb fa o pm cd doc a vs ns G Y ho hd hcd hmg hobj hints hlen hg
  obtain ⟨fd, hb, hF⟩ := F w mg fa _ (hY w _ Y) G.T.g hmg
  exact law_goes (hY w _ Y) G.T.g G.T.b G.T.builtins G.T.nolimit hg hobj hints (Nat.le_trans hlen hn2) hr hF hb (fun H hO hS => hsp w H a ns hlen hO hS)
end VL

set_option Elab.async false
set_option linter.all false
set_option maxRecDepth 100000
set_option maxHeartbeats 4000000
/-! VL4: operations by data. -/
namespace VL
open PySem PySem.Spec L2
open PyProof.Rows hiding St

/-! ### data as the library's -/
def kD : Key → PyData
  | .inl i => .int i
  | .inr x => .str x
mutual
def py : D → PyData
  | .non => .none
  | .bl b => .bool b
  | .int i => .int i
  | .str x => .str x
  | .tup ds => .tuple (pyAll ds)
  | .lst ds => .list (pyAll ds)
  | .dic ks ds => .dict ((ks.map kD).zip (pyAll ds))
  | _ => .none
def pyAll : List D → List PyData
  | [] => []
  | d :: ds => py d :: pyAll ds
end
mutual
/-- plain: none, bools, ints, texts, lists and tuples of such -/
def pl : D → Bool
  | .non => true
  | .bl _ => true
  | .int _ => true
  | .str _ => true
  | .tup ds => plAll ds
  | .lst ds => plAll ds
  | _ => false
def plAll : List D → Bool
  | [] => true
  | d :: ds => pl d && plAll ds
end
mutual
/-- the same with dicts -/
def pq : D → Bool
  | .non => true
  | .bl _ => true
  | .int _ => true
  | .str _ => true
  | .tup ds => pqAll ds
  | .lst ds => pqAll ds
  | .dic _ ds => pqAll ds
  | _ => false
def pqAll : List D → Bool
  | [] => true
  | d :: ds => pq d && pqAll ds
end
section
variable {K : PySem.W.Frag} {H : Hp}
mutual
theorem Rp.dp : ∀ (d : D) (v : V), Rp K H v d → pl d = true → Dp K H v (py d)
  | .non, _, .non, _ => by unfold py; exact .non
  | .bl _, _, .bl b, _ => by unfold py; exact .bl b
  | .int _, _, .int b, _ => by unfold py; exact .int b
  | .str _, _, .str b, _ => by unfold py; exact .str b
  | .tup ds, _, .tup h hs, q => by unfold py; exact .tup h (RpAll.dp ds _ hs (by unfold pl at q; exact q))
  | .lst ds, _, .lst h hs, q => by unfold py; exact .lst (.of h) (RpAll.dp ds _ hs (by unfold pl at q; exact q))
  | .dic _ _, _, _, q => by unfold pl at q; cases q
  | .obj _ _ _, _, _, q => by unfold pl at q; cases q
  | .fz _, _, _, q => by unfold pl at q; cases q
  | .ty _, _, _, q => by unfold pl at q; cases q
  | .ref _, _, _, q => by unfold pl at q; cases q
theorem RpAll.dp : ∀ (ds : List D) (vs : List V), RpAll K H vs ds → plAll ds = true → DpAll K H vs (pyAll ds)
  | [], _, .nil, _ => by unfold pyAll; exact .nil
  | d :: ds, _, .cons h hs, q => by
    unfold plAll at q
    rw [Bool.and_eq_true] at q
    unfold pyAll
    exact .cons (Rp.dp d _ h q.1) (RpAll.dp ds _ hs q.2)
end
end
theorem Inv.noSys {X : Cx} {pins : List (Addr × Obj)} {σ : L2.St} {H : Hp} {s : Shared} {a : Addr} {xs : List V} (I : Inv X pins σ H s) (h : H a = some (.lst xs)) (hs : ∃ o es ep, s.heap.get? sysModules = some o ∧ o.data = .dict es ep) : sysModules ≠ a := by
  rintro rfl
  obtain ⟨o, es, ep, e, d⟩ := hs
  obtain ⟨_, its, n, _, e2⟩ := I.hok _ _ h
  rw [e] at e2
  cases e2
  have : Data.dict es ep = Data.seq its.toArray n := d.symm
  cases this

/-- two data alike for == -/
def eqD (x y : D) : Bool := PyData.eqv (py x) (py y)
/-- data that == may look at -/
def okE (d : D) : Prop := pl d = true ∧ SeqAt.shaped (py d) = true

/-! ### ==, !=, in, not in -/
section
variable {W : Wc} {X : Cx}
def rdEq : RD2 := fun x y Q => match x, y with
  | .str a, .str b => Q (.bl (decide (a = b)))
  | .int a, .int b => Q (.bl (decide (a = b)))
  | x, y => okE x ∧ okE y ∧ Q (.bl (eqD x y))
def rdNe : RD2 := fun x y Q => match x, y with
  | .str a, .str b => Q (.bl (!decide (a = b)))
  | .int a, .int b => Q (.bl (!decide (a = b)))
  | x, y => okE x ∧ okE y ∧ Q (.bl (!eqD x y))
def rEqA (K : PySem.W.Frag) : R2 := fun x y H Q => rEq x y H Q ∨ rEqD K x y H Q
def rNeA (K : PySem.W.Frag) : R2 := fun x y H Q => rNe x y H Q ∨ rNeD K x y H Q
theorem op_eqA (hu : X.A.units + 64 < cLine) : OpR X (compareOp .Eq) (rEqA X.K) := op_eq.or (op_eqD hu)
theorem op_neA (hu : X.A.units + 64 < cLine) : OpR X (compareOp .NotEq) (rNeA X.K) := op_ne.or (op_neD hu)
theorem od_eq {K : PySem.W.Frag} : OpD K W (rEqA K) rdEq := by
  intro Γ σ Hv H x y dx dy Q Q' E rx ry h k
  have gen : okE dx ∧ okE dy ∧ Q (.bl (eqD dx dy)) → rEqA K x y H Q' := fun ⟨o1, o2, q⟩ =>
    .inr ⟨_, _, Rp.dp _ _ (Rp.mono E.ret.sub _ _ rx) o1.1, Rp.dp _ _ (Rp.mono E.ret.sub _ _ ry) o2.1, o1.2, o2.2, k _ _ Hv H E.stp (.bl _) q⟩
  unfold rdEq at h
  split at h
  · cases rx; cases ry
    exact .inl ⟨rfl, k _ _ Hv H E.stp (.bl _) (by simpa using h)⟩
  · cases rx; cases ry
    exact .inl ⟨rfl, k _ _ Hv H E.stp (.bl _) (by simpa using h)⟩
  · exact gen h
theorem od_ne {K : PySem.W.Frag} : OpD K W (rNeA K) rdNe := by
  intro Γ σ Hv H x y dx dy Q Q' E rx ry h k
  have gen : okE dx ∧ okE dy ∧ Q (.bl (!eqD dx dy)) → rNeA K x y H Q' := fun ⟨o1, o2, q⟩ =>
    .inr ⟨_, _, Rp.dp _ _ (Rp.mono E.ret.sub _ _ rx) o1.1, Rp.dp _ _ (Rp.mono E.ret.sub _ _ ry) o2.1, o1.2, o2.2, k _ _ Hv H E.stp (.bl _) q⟩
  unfold rdNe at h
  split at h
  · cases rx; cases ry
    exact .inl ⟨rfl, k _ _ Hv H E.stp (.bl _) (by simpa using h)⟩
  · cases rx; cases ry
    exact .inl ⟨rfl, k _ _ Hv H E.stp (.bl _) (by simpa using h)⟩
  · exact gen h
/-- x in a list, a tuple, or one sign in a text -/
def rInT (K : PySem.W.Frag) (neg : Bool) : R2 := fun x y H Q => ∃ d ds, Dp K H x d ∧ Dp K H y (.tuple ds) ∧ SeqAt.shaped d = true ∧ SeqAt.shaped (.tuple ds) = true ∧ Q (.bl (neg ^^ ds.any fun z => PyData.eqv z d)) H
theorem op_inT (hu : X.A.units + 65 < cLine) : OpR X (compareOp .In) (rInT X.K false) := by
  intro pins s σ H x y v u Q I rx ry h
  obtain ⟨d, ds, hd, he, sd, se, q⟩ := h
  obtain ⟨as, r1⟩ := Dp.reads I d x v hd rx
  obtain ⟨bs, r2⟩ := Dp.reads I (.tuple ds) y u he ry
  rw [Bool.false_xor] at q
  exact SeqAt.in_tuple_reads r2 r1 (SeqAt.canLay_of_shaped se) (SeqAt.canLay_of_shaped sd) (room_in_shaped sd hu) ⟨.bl _, H, I, rfl, q⟩
theorem op_notInT (hu : X.A.units + 65 < cLine) : OpR X (compareOp .NotIn) (rInT X.K true) := by
  intro pins s σ H x y v u Q I rx ry h
  obtain ⟨d, ds, hd, he, sd, se, q⟩ := h
  obtain ⟨as, r1⟩ := Dp.reads I d x v hd rx
  obtain ⟨bs, r2⟩ := Dp.reads I (.tuple ds) y u he ry
  rw [Bool.true_xor] at q
  exact SeqAt.notIn_tuple_reads r2 r1 (SeqAt.canLay_of_shaped se) (SeqAt.canLay_of_shaped sd) (room_in_shaped sd hu) ⟨.bl _, H, I, rfl, q⟩
def rInSg (neg : Bool) : R2 := fun x y H Q => ∃ (c : Nat) (z : Str), x = .str ⟨#[c]⟩ ∧ y = .str z ∧ Q (.bl (neg ^^ decide (c ∈ z.cps.toList))) H
theorem op_inSg : OpR X (compareOp .In) (rInSg false) := fun pins s σ H x y v u Q I rx ry ⟨c, z, e1, e2, q⟩ => op_in_sign pins s σ H x y v u Q I rx ry ⟨c, z, e1, e2, by rw [Bool.false_xor] at q; exact q⟩
theorem op_notInSg : OpR X (compareOp .NotIn) (rInSg true) := fun pins s σ H x y v u Q I rx ry ⟨c, z, e1, e2, q⟩ => op_notIn_sign pins s σ H x y v u Q I rx ry ⟨c, z, e1, e2, by rw [Bool.true_xor] at q; exact q⟩
def rInA (K : PySem.W.Frag) : R2 := fun x y H Q => rInSg false x y H Q ∨ rInD K x y H Q ∨ rInT K false x y H Q
def rNotInA (K : PySem.W.Frag) : R2 := fun x y H Q => rInSg true x y H Q ∨ rNotInD K x y H Q ∨ rInT K true x y H Q
theorem op_inA (hu : X.A.units + 65 < cLine) : OpR X (compareOp .In) (rInA X.K) := op_inSg.or ((op_inD hu).or (op_inT hu))
theorem op_notInA (hu : X.A.units + 65 < cLine) : OpR X (compareOp .NotIn) (rNotInA X.K) := op_notInSg.or ((op_notInD hu).or (op_notInT hu))
/-- the sign that a text of one sign is -/
def signOf (x : Str) : Option Nat := match x.cps.toList with | [c] => some c | _ => none
theorem signOf_eq {x : Str} {c : Nat} (h : signOf x = some c) : x = ⟨#[c]⟩ := by
  obtain ⟨⟨l⟩⟩ := x
  unfold signOf at h
  split at h
  · rename_i d e
    cases h
    have e' : l = [c] := e
    subst e'
    rfl
  · cases h
def isIn (x : D) (ds : List D) : Bool := ds.any fun z => eqD z x
theorem isIn_py (x : D) : ∀ ds : List D, isIn x ds = (pyAll ds).any fun z => PyData.eqv z (py x)
  | [] => by unfold isIn pyAll; rfl
  | d :: ds => by
    unfold pyAll
    show (eqD d x || isIn x ds) = _
    rw [isIn_py x ds]
    rfl
def rdIn (neg : Bool) : RD2 := fun x y Q => match x, y with
  | .str a, .str z => ∃ c, signOf a = some c ∧ Q (.bl (neg ^^ decide (c ∈ z.cps.toList)))
  | x, .lst ds => okE x ∧ okE (.lst ds) ∧ Q (.bl (neg ^^ isIn x ds))
  | x, .tup ds => okE x ∧ okE (.tup ds) ∧ Q (.bl (neg ^^ isIn x ds))
  | _, _ => False
theorem od_in {K : PySem.W.Frag} : OpD K W (rInA K) (rdIn false) := by
  intro Γ σ Hv H x y dx dy Q Q' E rx ry h k
  unfold rdIn at h
  split at h
  · obtain ⟨c, e, q⟩ := h
    cases rx; cases ry
    exact .inl ⟨c, _, by rw [signOf_eq e], rfl, k _ _ Hv H E.stp (.bl _) q⟩
  · obtain ⟨o1, o2, q⟩ := h
    have d2 := Rp.dp _ _ (Rp.mono E.ret.sub _ _ ry) o2.1
    have s2 := o2.2
    unfold py at d2 s2
    rw [Bool.false_xor, isIn_py] at q
    exact .inr (.inl ⟨_, _, Rp.dp _ _ (Rp.mono E.ret.sub _ _ rx) o1.1, d2, o1.2, s2, k _ _ Hv H E.stp (.bl _) q⟩)
  · obtain ⟨o1, o2, q⟩ := h
    have d2 := Rp.dp _ _ (Rp.mono E.ret.sub _ _ ry) o2.1
    have s2 := o2.2
    unfold py at d2 s2
    rw [isIn_py] at q
    exact .inr (.inr ⟨_, _, Rp.dp _ _ (Rp.mono E.ret.sub _ _ rx) o1.1, d2, o1.2, s2, k _ _ Hv H E.stp (.bl _) q⟩)
  · exact h.elim
theorem od_notIn {K : PySem.W.Frag} : OpD K W (rNotInA K) (rdIn true) := by
  intro Γ σ Hv H x y dx dy Q Q' E rx ry h k
  unfold rdIn at h
  split at h
  · obtain ⟨c, e, q⟩ := h
    cases rx; cases ry
    exact .inl ⟨c, _, by rw [signOf_eq e], rfl, k _ _ Hv H E.stp (.bl _) q⟩
  · obtain ⟨o1, o2, q⟩ := h
    have d2 := Rp.dp _ _ (Rp.mono E.ret.sub _ _ ry) o2.1
    have s2 := o2.2
    unfold py at d2 s2
    rw [Bool.true_xor, isIn_py] at q
    exact .inr (.inl ⟨_, _, Rp.dp _ _ (Rp.mono E.ret.sub _ _ rx) o1.1, d2, o1.2, s2, k _ _ Hv H E.stp (.bl _) q⟩)
  · obtain ⟨o1, o2, q⟩ := h
    have d2 := Rp.dp _ _ (Rp.mono E.ret.sub _ _ ry) o2.1
    have s2 := o2.2
    unfold py at d2 s2
    rw [isIn_py] at q
    exact .inr (.inr ⟨_, _, Rp.dp _ _ (Rp.mono E.ret.sub _ _ rx) o1.1, d2, o1.2, s2, k _ _ Hv H E.stp (.bl _) q⟩)
  · exact h.elim

/-! ### ints -/
def rdI0 (g : Int → Int → D) : RD2 := fun x y Q => match x, y with | .int i, .int j => Q (g i j) | _, _ => False
def rdI (C : Int → Int → Prop) (g : Int → Int → D) : RD2 := fun x y Q => match x, y with | .int i, .int j => C i j ∧ Q (g i j) | _, _ => False
theorem od_i0 {K : PySem.W.Frag} {f : Int → Int → V} {g : Int → Int → D} (hr : ∀ i j H, Rp K H (f i j) (g i j)) : OpD K W (rI0 f) (rdI0 g) := by
  intro Γ σ Hv H x y dx dy Q Q' E rx ry h k
  unfold rdI0 at h
  split at h
  · cases rx; cases ry
    exact ⟨_, _, rfl, rfl, k _ _ Hv H E.stp (hr _ _ _) h⟩
  · exact h.elim
theorem od_iC {K : PySem.W.Frag} {C : Int → Int → Prop} {f : Int → Int → V} {g : Int → Int → D} (hr : ∀ i j H, Rp K H (f i j) (g i j)) : OpD K W (rI C f) (rdI C g) := by
  intro Γ σ Hv H x y dx dy Q Q' E rx ry h k
  unfold rdI at h
  split at h
  · cases rx; cases ry
    exact ⟨_, _, rfl, rfl, h.1, k _ _ Hv H E.stp (hr _ _ _) h.2⟩
  · exact h.elim
theorem od_lt {K : PySem.W.Frag} : OpD K W (rI0 fun i j => .bl (decide (i < j))) (rdI0 fun i j => .bl (decide (i < j))) := od_i0 fun _ _ _ => .bl _
theorem od_le {K : PySem.W.Frag} : OpD K W (rI0 fun i j => .bl (decide (i ≤ j))) (rdI0 fun i j => .bl (decide (i ≤ j))) := od_i0 fun _ _ _ => .bl _
theorem od_gt {K : PySem.W.Frag} : OpD K W (rI0 fun i j => .bl (decide (j < i))) (rdI0 fun i j => .bl (decide (j < i))) := od_i0 fun _ _ _ => .bl _
theorem od_ge {K : PySem.W.Frag} : OpD K W (rI0 fun i j => .bl (decide (j ≤ i))) (rdI0 fun i j => .bl (decide (j ≤ i))) := od_i0 fun _ _ _ => .bl _
theorem od_sub {K : PySem.W.Frag} : OpD K W (rI0 fun i j => .int (i - j)) (rdI0 fun i j => .int (i - j)) := od_i0 fun _ _ _ => .int _
theorem od_mod {K : PySem.W.Frag} : OpD K W (rI (fun _ j => 0 < j) fun i j => .int (i % j)) (rdI (fun _ j => 0 < j) fun i j => .int (i % j)) := od_iC fun _ _ _ => .int _
theorem od_fdiv {K : PySem.W.Frag} : OpD K W (rI CDiv fun i j => .int (i / j)) (rdI CDiv fun i j => .int (i / j)) := od_iC fun _ _ _ => .int _
theorem od_pow {K : PySem.W.Frag} : OpD K W (rI CPow fun i j => .int (i ^ j.toNat)) (rdI CPow fun i j => .int (i ^ j.toNat)) := od_iC fun _ _ _ => .int _
/-- +: ints, texts, lists, tuples -/
def rAddA (K : PySem.W.Frag) : R2 := fun x y H Q => (rI0 fun i j => .int (i + j)) x y H Q ∨ (fun x y H Q => ∃ i j, x = .str i ∧ y = .str j ∧ i.length + j.length ≤ sizeLine ∧ Q (.str (i ++ j)) H) x y H Q ∨ rCat x y H Q
theorem op_addA : OpR X (binaryOp .Add) (rAddA X.K) := op_add.or (op_add_str.or op_cat)
def rdAdd : RD2 := fun x y Q => match x, y with
  | .int i, .int j => Q (.int (i + j))
  | .str a, .str b => a.length + b.length ≤ sizeLine ∧ Q (.str (a ++ b))
  | .lst a, .lst b => a.length + b.length ≤ sizeLine ∧ Q (.lst (a ++ b))
  | _, _ => False
theorem od_add {K : PySem.W.Frag} : OpD K W (rAddA K) rdAdd := by
  intro Γ σ Hv H x y dx dy Q Q' E rx ry h k
  unfold rdAdd at h
  split at h
  · cases rx; cases ry
    exact .inl ⟨_, _, rfl, rfl, k _ _ Hv H E.stp (.int _) h⟩
  · cases rx; cases ry
    exact .inr (.inl ⟨_, _, rfl, rfl, h.1, k _ _ Hv H E.stp (.str _) h.2⟩)
  · cases rx with
    | lst h1 r1 =>
      cases ry with
      | lst h2 r2 =>
        refine .inr (.inr ⟨_, _, _, _, rfl, rfl, E.ret.sub _ _ h1, E.ret.sub _ _ h2, by rw [r1.length, r2.length]; exact h.1, fun p hp => ?_⟩)
        exact k _ _ _ _ (E.stp.alloc _ hp) (.lst upd_same (RpAll.mono (same_upd (E.noneHv hp)) _ _ (r1.append r2))) h.2
  · exact h.elim
/-- *: ints, a list times an int -/
def rMulA : R2 := fun x y H Q => rI CMul (fun i j => .int (i * j)) x y H Q ∨ rRep x y H Q
theorem op_mulA : OpR X (binaryOp .Mult) rMulA := op_mul.or op_rep
def rdMul : RD2 := fun x y Q => match x, y with
  | .int i, .int j => CMul i j ∧ Q (.int (i * j))
  | .lst a, .int j => (-(2 ^ 63) ≤ j ∧ j < 2 ^ 63) ∧ a.length * j.toNat ≤ sizeLine ∧ Q (.lst (List.replicate j.toNat a).flatten)
  | _, _ => False
theorem od_mul {K : PySem.W.Frag} : OpD K W rMulA rdMul := by
  intro Γ σ Hv H x y dx dy Q Q' E rx ry h k
  unfold rdMul at h
  split at h
  · cases rx; cases ry
    exact .inl ⟨_, _, rfl, rfl, h.1, k _ _ Hv H E.stp (.int _) h.2⟩
  · cases rx with
    | lst h1 r1 =>
      cases ry
      refine .inr ⟨_, _, _, rfl, rfl, E.ret.sub _ _ h1, h.1.1, h.1.2, by rw [r1.length]; exact h.2.1, fun p hp => ?_⟩
      exact k _ _ _ _ (E.stp.alloc _ hp) (.lst upd_same (RpAll.mono (same_upd (E.noneHv hp)) _ _ (r1.rep _))) h.2.2
  · exact h.elim

/-! ### subscripts -/
def rdIx : RD2 := fun x y Q => match x, y with
  | .lst ds, .int i => ∃ d, atI ds i = some d ∧ Q d
  | .tup ds, .int i => ∃ d, atI ds i = some d ∧ Q d
  | .str z, .int i => z.length ≤ sizeLine ∧ ∃ c, atI z.cps.toList i = some c ∧ Q (.str ⟨#[c]⟩)
  | _, _ => False
theorem RpAll.at {K : PySem.W.Frag} {H : Hp} {vs : List V} {ds : List D} {i : Int} {d : D} (r : RpAll K H vs ds) (h : atI ds i = some d) : ∃ v, atI vs i = some v ∧ Rp K H v d := by
  unfold atI at h ⊢
  rw [r.length]
  cases q : ixN ds.length i with
  | none => rw [q] at h; cases h
  | some j =>
    rw [q] at h
    exact r.get h
theorem od_ix {K : PySem.W.Frag} : OpD K W (rIx K) rdIx := by
  intro Γ σ Hv H x y dx dy Q Q' E rx ry h k
  unfold rdIx at h
  split at h
  · obtain ⟨d, e, q⟩ := h
    cases rx with
    | lst h1 r1 =>
      cases ry
      obtain ⟨v, e2, r2⟩ := r1.at e
      exact .inl ⟨_, _, _, v, rfl, rfl, .of (E.ret.sub _ _ h1), e2, k v d Hv H E.stp r2 q⟩
  · obtain ⟨d, e, q⟩ := h
    cases rx with
    | tup h1 r1 =>
      cases ry
      obtain ⟨v, e2, r2⟩ := r1.at e
      exact .inr (.inl ⟨_, _, _, v, rfl, rfl, seqT E.ret.sub h1, e2, k v d Hv H E.stp r2 q⟩)
  · obtain ⟨hz, c, e, q⟩ := h
    cases rx; cases ry
    exact .inr (.inr ⟨_, _, c, rfl, rfl, hz, e, k _ _ Hv H E.stp (.str _) q⟩)
  · exact h.elim
/-- x[lo:hi] of a list, a text -/
def rSlA (K : PySem.W.Frag) : V → Option Int → Option Int → Hp → VK → Prop := fun x lo hi H Q => rSlL K x lo hi H Q ∨ rSlS x lo hi H Q
theorem sl_all : SlR X (rSlA X.K) := sl_list.or sl_str
def cutD (xs : List D) (lo hi : Option Int) : List D := (xs.drop (HT.sIx xs.length 0 lo)).take (HT.sIx xs.length xs.length hi - HT.sIx xs.length 0 lo)
def rdSlA : D → Option Int → Option Int → (D → Prop) → Prop := fun x lo hi Q => match x with
  | .lst ds => Q (.lst (cutD ds lo hi))
  | .fz ns => Q (.lst ((cutD (ns.map D.int) lo hi)))
  | .str z => z.length ≤ sizeLine ∧ Q (.str (cutS z lo hi))
  | _ => False
theorem rp_ints {K : PySem.W.Frag} {H : Hp} : ∀ ns : List Int, RpAll K H (ns.map V.int) (ns.map D.int)
  | [] => .nil
  | n :: ns => .cons (.int n) (rp_ints ns)
theorem RpAll.cut {K : PySem.W.Frag} {H : Hp} {vs : List V} {ds : List D} (r : RpAll K H vs ds) (lo hi : Option Int) : RpAll K H (cutV vs lo hi) (cutD ds lo hi) := by
  unfold cutV cutD
  rw [r.length]
  exact (r.drop _).take _
theorem sd_all {K : PySem.W.Frag} : SlD K W (rSlA K) rdSlA := by
  intro Γ σ Hv H x lo hi dx Q Q' E rx h k
  unfold rdSlA at h
  split at h
  · cases rx with
    | lst h1 r1 =>
      refine .inl ⟨_, _, rfl, .of (E.ret.sub _ _ h1), fun p hp => ?_⟩
      exact k _ _ _ _ (E.stp.alloc _ hp) (.lst upd_same (RpAll.mono (same_upd (E.noneHv hp)) _ _ (r1.cut lo hi))) h
  · cases rx with
    | fz h1 =>
      rename_i ns _
      refine .inl ⟨_, _, rfl, E.ret.sub.seq h1, fun p hp => ?_⟩
      exact k _ _ _ _ (E.stp.alloc _ hp) (.lst upd_same (RpAll.mono (same_upd (E.noneHv hp)) _ _ ((rp_ints ns).cut lo hi))) h
  · cases rx
    exact .inr ⟨_, rfl, h.1, k _ _ Hv H E.stp (.str _) h.2⟩
  · exact h.elim

/-! ### built-ins -/
def rdLen : List D → (D → Prop) → Prop := fun ds Q => match ds with
  | [.lst xs] => Q (.int xs.length)
  | [.tup xs] => Q (.int xs.length)
  | [.fz xs] => Q (.int xs.length)
  | [.str z] => z.length ≤ sizeLine ∧ Q (.int z.length)
  | _ => False
def rLenA (K : PySem.W.Frag) : List V → Hp → VK → Prop := fun xs H Q => (fun xs H Q => ∃ p ys, xs = [.ref p] ∧ (SqL K H p ys ∨ SqT K H p ys) ∧ Q (.int ys.length) H) xs H Q ∨ (fun xs H Q => ∃ z, xs = [.str z] ∧ z.length ≤ sizeLine ∧ Q (.int z.length) H) xs H Q
theorem cr_len : CallR X (.builtin "len") (rLenA X.K) := call_len_seq.or call_len_str
theorem cd_len {K : PySem.W.Frag} : CallD K W (rLenA K) rdLen := by
  intro Γ σ Hv H vs ds Q Q' E r h k
  unfold rdLen at h
  split at h
  · obtain ⟨v, rfl, rv⟩ := r.one
    cases rv with
    | lst h1 r1 => exact .inl ⟨_, _, rfl, .inl (.of (E.ret.sub _ _ h1)), k _ _ Hv H E.stp (.int _) (by rw [r1.length]; exact h)⟩
  · obtain ⟨v, rfl, rv⟩ := r.one
    cases rv with
    | tup h1 r1 => exact .inl ⟨_, _, rfl, .inr (seqT E.ret.sub h1), k _ _ Hv H E.stp (.int _) (by rw [r1.length]; exact h)⟩
  · obtain ⟨v, rfl, rv⟩ := r.one
    cases rv with
    | fz h1 => exact .inl ⟨_, _, rfl, .inl (E.ret.sub.seq h1), k _ _ Hv H E.stp (.int _) (by rw [List.length_map]; exact h)⟩
  · obtain ⟨v, rfl, rv⟩ := r.one
    cases rv
    exact .inr ⟨_, rfl, h.1, k _ _ Hv H E.stp (.int _) h.2⟩
  · exact h.elim
/-- a list of bools -/
def asBs : List D → Option (List Bool)
  | [] => some []
  | .bl b :: r => (asBs r).map (b :: ·)
  | _ :: _ => none
theorem asBs_of {K : PySem.W.Frag} {H : Hp} : ∀ {ds : List D} {vs : List V} {bs : List Bool}, RpAll K H vs ds → asBs ds = some bs → vs = bs.map V.bl
  | [], _, _, r, e => by cases r; cases e; rfl
  | .bl b :: ds, _, _, r, e => by
    cases r with
    | cons a r =>
      cases a
      unfold asBs at e
      cases q : asBs ds with
      | none => rw [q] at e; cases e
      | some bs =>
        rw [q] at e
        cases e
        rw [asBs_of r q]
        rfl
  | .non :: _, _, _, _, e => by cases e
  | .int _ :: _, _, _, _, e => by cases e
  | .str _ :: _, _, _, _, e => by cases e
  | .ty _ :: _, _, _, _, e => by cases e
  | .ref _ :: _, _, _, _, e => by cases e
  | .tup _ :: _, _, _, _, e => by cases e
  | .lst _ :: _, _, _, _, e => by cases e
  | .dic _ _ :: _, _, _, _, e => by cases e
  | .obj _ _ _ :: _, _, _, _, e => by cases e
  | .fz _ :: _, _, _, _, e => by cases e
theorem asBs_map (bs : List Bool) : asBs (bs.map D.bl) = some bs := by
  induction bs with
  | nil => rfl
  | cons b r ih => show (asBs (r.map D.bl)).map (b :: ·) = _; rw [ih]; rfl
def rdAll : List D → (D → Prop) → Prop := fun ds Q => match ds with
  | [.lst xs] => ∃ bs, asBs xs = some bs ∧ Q (.bl (bs.all id))
  | _ => False
def rdAny : List D → (D → Prop) → Prop := fun ds Q => match ds with
  | [.lst xs] => ∃ bs, asBs xs = some bs ∧ Q (.bl (bs.any id))
  | _ => False
theorem cd_all {K : PySem.W.Frag} : CallD K W (rAll K) rdAll := by
  intro Γ σ Hv H vs ds Q Q' E r h k
  unfold rdAll at h
  split at h
  · obtain ⟨bs, e, q⟩ := h
    obtain ⟨v, rfl, rv⟩ := r.one
    cases rv with
    | lst h1 r1 =>
      have ev := asBs_of r1 e
      subst ev
      exact ⟨_, bs, rfl, .of (E.ret.sub _ _ h1), k _ _ Hv H E.stp (.bl _) q⟩
  · exact h.elim
theorem cd_any {K : PySem.W.Frag} : CallD K W (rAny K) rdAny := by
  intro Γ σ Hv H vs ds Q Q' E r h k
  unfold rdAny at h
  split at h
  · obtain ⟨bs, e, q⟩ := h
    obtain ⟨v, rfl, rv⟩ := r.one
    cases rv with
    | lst h1 r1 =>
      have ev := asBs_of r1 e
      subst ev
      exact ⟨_, bs, rfl, .of (E.ret.sub _ _ h1), k _ _ Hv H E.stp (.bl _) q⟩
  · exact h.elim
def rdAbs : List D → (D → Prop) → Prop := fun ds Q => match ds with | [.int i] => Q (.int (if i < 0 then -i else i)) | _ => False
theorem cd_abs {K : PySem.W.Frag} : CallD K W (fun xs H Q => ∃ i, xs = [.int i] ∧ Q (.int (if i < 0 then -i else i)) H) rdAbs := by
  intro Γ σ Hv H vs ds Q Q' E r h k
  unfold rdAbs at h
  split at h
  · obtain ⟨v, rfl, rv⟩ := r.one
    cases rv
    exact ⟨_, rfl, k _ _ Hv H E.stp (.int _) h⟩
  · exact h.elim
def rdInt : List D → (D → Prop) → Prop := fun ds Q => match ds with | [.int i] => Q (.int i) | [.bl b] => Q (.int (if b then 1 else 0)) | _ => False
theorem cd_int {K : PySem.W.Frag} : CallD K W (fun xs H Q => (∃ i, xs = [.int i] ∧ Q (.int i) H) ∨ ∃ k, xs = [.bl k] ∧ Q (.int (if k then 1 else 0)) H) rdInt := by
  intro Γ σ Hv H vs ds Q Q' E r h k
  unfold rdInt at h
  split at h
  · obtain ⟨v, rfl, rv⟩ := r.one
    cases rv
    exact .inl ⟨_, rfl, k _ _ Hv H E.stp (.int _) h⟩
  · obtain ⟨v, rfl, rv⟩ := r.one
    cases rv
    exact .inr ⟨_, rfl, k _ _ Hv H E.stp (.int _) h⟩
  · exact h.elim
def rdMin2 : List D → (D → Prop) → Prop := fun ds Q => match ds with | [.int i, .int j] => Q (.int (if j < i then j else i)) | _ => False
theorem cd_min2 {K : PySem.W.Frag} : CallD K W (fun xs H Q => ∃ i j, xs = [.int i, .int j] ∧ Q (.int (if j < i then j else i)) H) rdMin2 := by
  intro Γ σ Hv H vs ds Q Q' E r h k
  unfold rdMin2 at h
  split at h
  · obtain ⟨v, w, rfl, rv, rw'⟩ := r.two
    cases rv; cases rw'
    exact ⟨_, _, rfl, k _ _ Hv H E.stp (.int _) h⟩
  · exact h.elim
/-- list(x) of a list or a tuple -/
def rdList : List D → (List D → Prop) → Prop := fun ds Q => match ds with | [.lst xs] => Q xs | [.tup xs] => Q xs | _ => False
theorem cf_list {K : PySem.W.Frag} : CallF K W (fun xs H Q => ∃ p ys, xs = [.ref p] ∧ (SqL K H p ys ∨ SqT K H p ys) ∧ ∀ l, H l = none → Q (.ref l) (upd H l (.lst ys))) rdList := by
  intro Γ σ Hv H vs ds Q Q' E r h k
  unfold rdList at h
  split at h
  · obtain ⟨v, rfl, rv⟩ := r.one
    cases rv with
    | lst h1 r1 =>
      refine ⟨_, _, rfl, .inl (.of (E.ret.sub _ _ h1)), fun l hl => ?_⟩
      obtain ⟨s, F⟩ := E.stp.alloc0 (.lst _) hl
      exact k l _ _ Hv _ s hl upd_same r1 F h
  · obtain ⟨v, rfl, rv⟩ := r.one
    cases rv with
    | tup h1 r1 =>
      refine ⟨_, _, rfl, .inr (seqT E.ret.sub h1), fun l hl => ?_⟩
      obtain ⟨s, F⟩ := E.stp.alloc0 (.lst _) hl
      exact k l _ _ Hv _ s hl upd_same r1 F h
  · exact h.elim
/-- tuple(x) -/
def rdTuple : List D → (D → Prop) → Prop := fun ds Q => match ds with | [.lst xs] => Q (.tup xs) | [.tup xs] => Q (.tup xs) | _ => False
theorem cd_tuple {K : PySem.W.Frag} : CallD K W (fun xs H Q => ∃ p ys, xs = [.ref p] ∧ ((SqL K H p ys ∧ ∀ l, H l = none → Q (.ref l) (upd H l (.tup ys))) ∨ (SqT K H p ys ∧ Q (.ref p) H))) rdTuple := by
  intro Γ σ Hv H vs ds Q Q' E r h k
  unfold rdTuple at h
  split at h
  · obtain ⟨v, rfl, rv⟩ := r.one
    cases rv with
    | lst h1 r1 =>
      refine ⟨_, _, rfl, .inl ⟨.of (E.ret.sub _ _ h1), fun l hl => ?_⟩⟩
      exact k _ _ _ _ (E.stp.alloc _ hl) (.tup (.of upd_same) (RpAll.mono (same_upd (E.noneHv hl)) _ _ r1)) h
  · obtain ⟨v, rfl, rv⟩ := r.one
    cases rv with
    | tup h1 r1 => exact ⟨_, _, rfl, .inr ⟨seqT E.ret.sub h1, k _ _ Hv H E.stp (.tup h1 r1) h⟩⟩
  · exact h.elim

/-! ### isinstance against built-in types -/
def tyName : D → Option String
  | .non => some "NoneType"
  | .bl _ => some "bool"
  | .int _ => some "int"
  | .str _ => some "str"
  | .lst _ => some "list"
  | .tup _ => some "tuple"
  | .dic _ _ => some "dict"
  | _ => none
theorem tyX_of {K : PySem.W.Frag} {H : Hp} {v : V} {d : D} {n : String} (r : Rp K H v d) (h : tyName d = some n) : TyX K H v (.type n) := by
  cases d <;> cases h
  · cases r; exact .base .non
  · cases r; exact .base (.bl _)
  · cases r; exact .base (.int _)
  · cases r; exact .base (.str _)
  · cases r with
    | tup h1 r1 =>
      rcases h1 with (h1 | ⟨o, h1⟩) | ⟨o, its, k, h1, h2, h3⟩
      · exact .base (.tup h1)
      · exact .fTuple h1
      · exact .kTuple h1 h2
  · cases r with
    | lst h1 r1 => exact .base (.lst h1)
  · cases r with
    | dic h1 hk r1 => exact .base (.dK h1)
def rdIsi : List D → (D → Prop) → Prop := fun ds Q => match ds with
  | [x, .ty T] => ∃ n b, tyName x = some n ∧ kitB n T = some b ∧ Q (.bl b)
  | _ => False
theorem cd_isi {K : PySem.W.Frag} : CallD K W (rIsi K) rdIsi := by
  intro Γ σ Hv H vs ds Q Q' E r h k
  unfold rdIsi at h
  split at h
  · obtain ⟨n, b, e1, e2, q⟩ := h
    obtain ⟨v, w, rfl, rv, rw'⟩ := r.two
    cases rw'
    exact ⟨v, _, _, _, b, rfl, .ty _, tyX_of (Rp.mono E.ret.sub _ _ rv) e1, kit_ty e2, k _ _ Hv H E.stp (.bl _) q⟩
  · exact h.elim

/-! ### what is walked -/
variable {tg e : Expr} {te : TE} {de : TDE} {es : List Expr} {t : TA} {dt : TDF} {p pos : Pos}
def asL (d : D) (k : List D → Prop) : Prop := match d with | .lst ds => k ds | _ => False
def asT (d : D) (k : List D → Prop) : Prop := match d with | .tup ds => k ds | _ => False
def asS (d : D) (k : Str → Prop) : Prop := match d with | .str ds => k ds | _ => False
def rdILst (de : TDE) : TDF := fun Γ Q => de Γ fun d Γ1 => asL d fun ds => Q ds Γ1
def rdITup (de : TDE) : TDF := fun Γ Q => de Γ fun d Γ1 => asT d fun ds => Q ds Γ1
def rdIStr (de : TDE) : TDF := fun Γ Q => de Γ fun d Γ1 => asS d fun z => Q (z.cps.toList.map fun c => D.str ⟨#[c]⟩) Γ1
theorem itd_list {K : PySem.W.Frag} {a : Addr} {vs : List V} {ds : List D} {Hs : Hp} (h : Hs a = some (.lst vs)) (r : RpAll K Hs vs ds) : ItD K W (Itl K a) ds Hs := by
  intro Γ σ Hv H sm E i
  have ha : SqL K H a vs := .of (E.ret.sub _ _ (sm _ _ h))
  refine ⟨fun hi => ⟨vs, ha, by rw [r.length]; exact hi⟩, fun d e => ?_⟩
  obtain ⟨v, ev, rv⟩ := r.get e
  refine ⟨⟨vs, v, ha, ev⟩, fun x H' y => ?_⟩
  obtain ⟨rfl, y⟩ := y
  have ex := y vs ha
  rw [ev] at ex
  cases ex
  exact ⟨Hv, E.stp, Rp.mono sm _ _ rv⟩
theorem itd_tup {K : PySem.W.Frag} {a : Addr} {vs : List V} {ds : List D} {Hs : Hp} (h : SqT K Hs a vs) (r : RpAll K Hs vs ds) : ItD K W (Itt K a) ds Hs := by
  intro Γ σ Hv H sm E i
  have ha : SqT K H a vs := seqT E.ret.sub (seqT sm h)
  refine ⟨fun hi => ⟨vs, ha, by rw [r.length]; exact hi⟩, fun d e => ?_⟩
  obtain ⟨v, ev, rv⟩ := r.get e
  refine ⟨⟨vs, v, ha, ev⟩, fun x H' y => ?_⟩
  obtain ⟨rfl, y⟩ := y
  have ex := y vs ha
  rw [ev] at ex
  cases ex
  exact ⟨Hv, E.stp, Rp.mono sm _ _ rv⟩
theorem di_list (he : DE W X e te de) : DI W X tg e (iList X.K te) (rdILst de) := by
  refine ⟨pi_list he.pe, fun Γ σ Hv H Q R E h k => he.ad Γ σ Hv H _ _ E h fun v d Γ1 Hv1 H1 s1 r1 q => ?_⟩
  cases d <;> first | exact q.elim | skip
  cases r1 with
  | lst h1 ra => exact ⟨_, rfl, ⟨_, .of (s1.ev.ret.sub _ _ h1)⟩, k _ _ Γ1 Hv1 H1 s1 (itd_list h1 ra) q⟩
theorem di_tup (he : DE W X e te de) : DI W X tg e (iTup X.K te) (rdITup de) := by
  refine ⟨pi_tup he.pe, fun Γ σ Hv H Q R E h k => he.ad Γ σ Hv H _ _ E h fun v d Γ1 Hv1 H1 s1 r1 q => ?_⟩
  cases d <;> first | exact q.elim | skip
  cases r1 with
  | tup h1 ra => exact ⟨_, rfl, ⟨_, seqT s1.ev.ret.sub h1⟩, k _ _ Γ1 Hv1 H1 s1 (itd_tup h1 ra) q⟩
theorem di_str (he : DE W X e te de) : DI W X tg e (iStr te) (rdIStr de) := by
  refine ⟨pi_str he.pe, fun Γ σ Hv H Q R E h k => he.ad Γ σ Hv H _ _ E h fun v d Γ1 Hv1 H1 s1 r1 q => ?_⟩
  cases d <;> first | exact q.elim | skip
  cases r1
  rename_i z
  refine ⟨z, rfl, k _ _ Γ1 Hv1 H1 s1 (fun Γ' σ' Hv' H' sm E' i => ⟨fun hi => ?_, fun d e => ?_⟩) q⟩
  · rw [List.length_map, Array.length_toList] at hi
    exact hi
  · rw [List.getElem?_map, Array.getElem?_toList] at e
    cases q2 : z.cps[i]? with
    | none => rw [q2] at e; cases e
    | some c =>
      rw [q2] at e
      cases e
      refine ⟨(Array.getElem?_eq_some_iff.mp q2).1, fun x H2 y => ?_⟩
      obtain ⟨rfl, c', e', rfl⟩ := y
      rw [q2] at e'
      cases e'
      exact ⟨Hv', E'.stp, .str _⟩
/-- range(n) -/
def rangeD (n : Nat) : List D := (List.range n).map fun i => D.int ((i : Nat) : Int)
def rngOf (ds : List D) (k : List D → Prop) : Prop := match ds with
  | [.int j] => (-(2 ^ 62) ≤ j ∧ j < 2 ^ 62) ∧ k (rangeD j.toNat)
  | _ => False
def rdIRng (dt : TDF) : TDF := fun Γ Q => dt Γ fun ds Γ1 => rngOf ds fun L => Q L Γ1
theorem di_range {a : Expr} (hg : Gl X "range") (hm : X.mg "range" = none) (ha : DA W X [a] t dt) (hs : starEach [a] X.env = [(false, eval a X.env)] := by rfl) : DI W X tg (.Call (.Name "range" p) [a] [] pos) (iRng1 t) (rdIRng dt) := by
  refine ⟨pi_range1 hg hm ha.pa hs, fun Γ σ Hv H Q R E h k => ha.ad Γ σ Hv H _ _ E h fun vs ds Γ1 Hv1 H1 s1 r1 q => ?_⟩
  unfold rngOf at q
  split at q
  · obtain ⟨v, rfl, rv⟩ := r1.one
    cases rv
    rename_i j
    refine ⟨j, rfl, q.1.1, q.1.2, k _ _ Γ1 Hv1 H1 s1 (fun Γ' σ' Hv' H' sm E' i => ⟨fun hi => ?_, fun d e => ?_⟩) q.2⟩
    · unfold rangeD at hi
      rw [List.length_map, List.length_range] at hi
      exact hi
    · unfold rangeD at e
      rw [List.getElem?_map] at e
      by_cases hi : i < j.toNat
      · rw [List.getElem?_range hi] at e
        cases e
        refine ⟨hi, fun x H2 y => ?_⟩
        obtain ⟨rfl, rfl⟩ := y
        rw [Int.zero_add]
        exact ⟨Hv', E'.stp, .int _⟩
      · rw [List.getElem?_eq_none (by rw [List.length_range]; omega)] at e
        cases e
  · exact q.elim

/-! ### repr -/
/-- data that repr may look at -/
def okR (d : D) : Prop := pl d = true ∧ (py d).showable = true ∧ (py d).depth ≤ 60 ∧ (PyData.shown (py d)).length ≤ sizeLine
def rdRepr : List D → (D → Prop) → Prop := fun ds Q => match ds with
  | [.int _] => False
  | [.str _] => False
  | [.bl _] => False
  | [.non] => False
  | [d] => okR d ∧ Q (.str (PyData.shown (py d)))
  | _ => False
def rRepr (K : PySem.W.Frag) : List V → Hp → VK → Prop := fun vs H Q => ∃ a d, vs = [.ref a] ∧ Dp K H (.ref a) d ∧ d.showable = true ∧ d.depth ≤ 60 ∧ d.shown.length ≤ sizeLine ∧ Q (.str d.shown) H
mutual
theorem dp_nodict {K : PySem.W.Frag} {H : Hp} : ∀ (d : PyData) (v : V), Dp K H v d → d.hasDict = false
  | .none, _, _ => by simp only [PyData.hasDict]
  | .bool _, _, _ => by simp only [PyData.hasDict]
  | .int _, _, _ => by simp only [PyData.hasDict]
  | .str _, _, _ => by simp only [PyData.hasDict]
  | .list ds, _, h => by
    simp only [PyData.hasDict]
    cases h with
    | lst _ ha => exact dp_nodictAll ds _ ha
  | .tuple ds, _, h => by
    simp only [PyData.hasDict]
    cases h with
    | tup _ ha => exact dp_nodictAll ds _ ha
  | .dict _, _, h => by cases h
theorem dp_nodictAll {K : PySem.W.Frag} {H : Hp} : ∀ (ds : List PyData) (vs : List V), DpAll K H vs ds → PyData.hasDictAll ds = false
  | [], _, _ => by simp only [PyData.hasDictAll]
  | d :: ds, _, h => by
    cases h with
    | cons h1 h2 => simp only [PyData.hasDictAll, dp_nodict d _ h1, dp_nodictAll ds _ h2, Bool.or_self]
end
theorem cr_repr {k : Nat} (hr : Room k X.A) (hg : X.A.guards = some []) : CallR X (.builtin "repr") (rRepr X.K) := by
  intro pins s σ H xs us Q I r h
  obtain ⟨a, d, rfl, hd, h1, h2, h3, q⟩ := h
  obtain ⟨u, rfl, ru⟩ := vals1 r
  obtain ⟨as, rr⟩ := Dp.reads I d _ u hd ru
  cases ru
  have hu := hr.units
  refine repr_of_reads' rr h1 (PyData.noDict_hsm (dp_nodict d _ hd)) hg (by omega) (fun _ _ e => e) (fun h' u tk hk => ?_) h3
  exact ⟨.str d.shown, H, I.kept hk, ⟨u, rfl⟩, q⟩
theorem cd_repr {K : PySem.W.Frag} : CallD K W (rRepr K) rdRepr := by
  intro Γ σ Hv H vs ds Q Q' E r h k
  unfold rdRepr at h
  split at h
  · exact h.elim
  · exact h.elim
  · exact h.elim
  · exact h.elim
  · rename_i d n1 n2 n3 n4
    obtain ⟨⟨o1, o2, o3, o4⟩, q⟩ := h
    obtain ⟨v, rfl, rv⟩ := r.one
    have rr := Rp.dp _ _ (Rp.mono E.ret.sub _ _ rv) o1
    have ea : ∃ a, v = .ref a := by
      cases rv with
      | non => exact absurd rfl (n4 )
      | bl b => exact absurd rfl (n3 b)
      | int b => exact absurd rfl (n1 b)
      | str b => exact absurd rfl (n2 b)
      | ty n => unfold pl at o1; cases o1
      | _ => exact ⟨_, rfl⟩
    obtain ⟨a, rfl⟩ := ea
    exact ⟨a, _, rfl, rr, o2, o3, o4, k _ _ Hv H E.stp (.str _) q⟩
  · exact h.elim
end
end VL

set_option Elab.async false
set_option linter.all false
set_option maxRecDepth 100000
set_option maxHeartbeats 4000000
/-! VL5: more rules; the drawing draw. -/
namespace VL
open PySem PySem.Spec L2
open PyProof.Rows hiding St

theorem hu64 {k : Nat} {A : Around} (r : Room k A) : A.units + 64 < cLine := r.units
theorem hu65 {k : Nat} {A : Around} (r : Room k A) : A.units + 65 < cLine := by have := r.un; omega
theorem small_of {n : Nat} (h : n ≤ 1000) : small n := Nat.le_trans h (by decide)

section
variable {W : Wc} {X : Cx} {a b e : Expr} {es rest : List Expr} {ta tb te : TE} {da db de : TDE} {t : TA} {dt : TDF} {p pos : Pos} {x y : Str}
/-! ### -e, list(a text), x or y by truth -/
def rdNeg (da : TDE) : TDE := fun Γ Q => da Γ fun d Γ1 => asI d fun i => Q (.int (-i)) Γ1
theorem d_neg (ha : DE W X a ta da) : DE W X (.UnaryOp .USub a pos) (tUn (rU fun i => .int (-i)) ta) (rdNeg da) := by
  refine ⟨pe_un un_neg ha.pe, fun Γ σ Hv H Q Q' E h k => ha.ad Γ σ Hv H _ _ E h fun v d Γ1 Hv1 H1 s1 r1 q => ?_⟩
  obtain ⟨i, e1, q⟩ := asI_of r1 q
  exact ⟨i, e1, k _ _ Γ1 Hv1 H1 s1 (.int _) q⟩
def signsV (z : Str) : List V := z.cps.toList.map fun c => V.str ⟨#[c]⟩
def signsD (z : Str) : List D := z.cps.toList.map fun c => D.str ⟨#[c]⟩
theorem rp_signs {K : PySem.W.Frag} {H : Hp} (z : Str) : RpAll K H (signsV z) (signsD z) := by
  unfold signsV signsD
  induction z.cps.toList with
  | nil => exact .nil
  | cons c r ih => exact .cons (.str _) ih
theorem vals_signs : ∀ {its : List Value} {cs : List Nat}, its.length = cs.length → (∀ i (h : i < its.length), ∃ (c : Nat) (u : Tok), cs[i]? = some c ∧ its[i] = .str ⟨#[c]⟩ u) → Vals (cs.map fun c => V.str ⟨#[c]⟩) its
  | [], [], _, _ => .nil
  | [], _ :: _, h, _ => by cases h
  | _ :: _, [], h, _ => by cases h
  | v :: its, c :: cs, h, f => by
    obtain ⟨c', u, e1, e2⟩ := f 0 (Nat.zero_lt_succ _)
    cases e1
    refine .cons ⟨u, e2⟩ (vals_signs (Nat.succ.inj h) fun i hi => ?_)
    obtain ⟨c2, u2, f1, f2⟩ := f (i + 1) (Nat.succ_lt_succ hi)
    exact ⟨c2, u2, by simpa using f1, by simpa using f2⟩
theorem cr_listStr (hc : X.calm = true) : CallR X (.type "list") (fun xs H Q => ∃ z, xs = [.str z] ∧ z.length ≤ sizeLine ∧ ∀ l, H l = none → Q (.ref l) (upd H l (.lst (signsV z)))) := by
  intro pins s σ H xs us Q I r h
  obtain ⟨z, rfl, hz, q⟩ := h
  obtain ⟨u, rfl, tk, rfl⟩ := vals1 r
  refine call_list_str (I.ok.hd hc) z tk (fun h' tk' acc c' kp e hit => ?_) hz
  have rv : Vals (signsV z) acc.toList := by
    refine vals_signs (by rw [Array.length_toList, Array.length_toList, hit.1]) fun i hi => ?_
    rw [Array.length_toList] at hi
    obtain ⟨c, u, e1, e2⟩ := hit.2 i acc[i] (Array.getElem?_eq_getElem hi)
    exact ⟨c, u, by rw [Array.getElem?_toList]; exact e1, by simpa using e2⟩
  refine ⟨.ref s.heap.objs.size, _, I.laid (t' := tk') kp (Nat.le_refl _) (show ObjOk X.prog X.w _ h' _ (.lst (signsV z)) from ⟨?_, acc.toList, c', rv, by rw [e]⟩), rfl, q _ (I.hok.fresh (Nat.le_refl _))⟩
  unfold signsV
  rw [List.length_map, Array.length_toList]
  exact hz
def rListA (K : PySem.W.Frag) : List V → Hp → VK → Prop := fun xs H Q => (fun xs H Q => ∃ p ys, xs = [.ref p] ∧ (SqL K H p ys ∨ SqT K H p ys) ∧ ∀ l, H l = none → Q (.ref l) (upd H l (.lst ys))) xs H Q ∨
  (fun xs H Q => ∃ z, xs = [.str z] ∧ z.length ≤ sizeLine ∧ ∀ l, H l = none → Q (.ref l) (upd H l (.lst (signsV z)))) xs H Q
theorem cr_list (hc : X.calm = true) : CallR X (.type "list") (rListA X.K) := call_list_of.or (cr_listStr hc)
def rdListA : List D → (List D → Prop) → Prop := fun ds Q => match ds with | [.lst xs] => Q xs | [.tup xs] => Q xs | [.str z] => z.length ≤ sizeLine ∧ Q (signsD z) | _ => False
theorem cf_listA {K : PySem.W.Frag} : CallF K W (rListA K) rdListA := by
  intro Γ σ Hv H vs ds Q Q' E r h k
  unfold rdListA at h
  split at h
  · exact .inl (cf_list Γ σ Hv H vs _ Q Q' E r h k)
  · exact .inl (cf_list Γ σ Hv H vs _ Q Q' E r h k)
  · obtain ⟨v, rfl, rv⟩ := r.one
    cases rv
    refine .inr ⟨_, rfl, h.1, fun l hl => ?_⟩
    obtain ⟨s, F⟩ := E.stp.alloc0 (.lst _) hl
    exact k l _ _ Hv _ s hl upd_same (rp_signs _) F h.2
  · exact h.elim
/-- x or y, x a list -/
def rdOrT (da db : TDE) : TDE := fun Γ Q => da Γ fun d Γ1 => asL d fun ds => if ds.isEmpty = true then db Γ1 Q else Q (.lst ds) Γ1
theorem d_orT (ha : DE W X a ta da) (hb : DE W X (.BoolOp .Or (b :: rest) pos) tb db) : DE W X (.BoolOp .Or (a :: b :: rest) pos) (tOrT X.K ta tb) (rdOrT da db) := by
  refine ⟨pe_orT ha.pe hb.pe, fun Γ σ Hv H Q Q' E h k => ha.ad Γ σ Hv H _ _ E h fun v d Γ1 Hv1 H1 s1 r1 q => ?_⟩
  cases d <;> first | exact q.elim | skip
  rename_i ds
  have ra := r1
  cases r1 with
  | lst h1 r1 =>
    refine ⟨!ds.isEmpty, .inl ⟨_, .of (s1.ev.ret.sub _ _ h1), ?_⟩, ?_⟩
    · cases r1 <;> rfl
    · cases ds with
      | nil =>
        dsimp only [asL] at q
        rw [if_pos (show ([] : List D).isEmpty = true from rfl)] at q
        rw [if_neg (show ¬ (!([] : List D).isEmpty) = true from by simp)]
        exact hb.ad Γ1 σ Hv1 H1 _ _ s1.ev q fun v d Γ2 Hv2 H2 s2 r2 q2 => k v d Γ2 Hv2 H2 (s1.trans s2) r2 q2
      | cons d0 r0 =>
        dsimp only [asL] at q
        rw [if_neg (show ¬ (d0 :: r0).isEmpty = true from by simp)] at q
        rw [if_pos (show (!(d0 :: r0).isEmpty) = true from rfl)]
        exact k _ _ Γ1 Hv1 H1 s1 ra q

/-! ### a, b = e1, e2 -/
def rdPar (i j : Nat) (dt : TDF) : TDS := fun E Γ => dt Γ fun ds Γ1 => match ds with | [d, e] => E.nx ((Γ1.set i (.dat d)).set j (.dat e)) | _ => False
theorem ds_par {i j : Nat} {px py pt : Pos} {kt k2 pt2} (hc : X.calm = true) (hN : X.N.Nodup) (hi : X.N[i]? = some x) (hj : X.N[j]? = some y) (hij : i ≠ j)
    (hx : X.env.scope.names.lookup x = some .local) (hy : X.env.scope.names.lookup y = some .local) (ha : DA W X [a, b] t dt)
    (hw : swappedStores [.Tuple [.Name x px, .Name y py] kt pt] (.Tuple [a, b] k2 pt2) X.env = pure (some [x, y]))
    (hs : swapsWithSole [.Tuple [.Name x px, .Name y py] kt pt] (.Tuple [a, b] k2 pt2) pos.line X.env = pure false := by rfl) :
    DS W X (.Assign [.Tuple [.Name x px, .Name y py] kt pt] (.Tuple [a, b] k2 pt2) pos) (tPar i j t) (rdPar i j dt) := by
  refine ⟨ps_par hc hN hi hj hij hx hy ha.pa hw hs, fun Γ σ Hv H E E' Z h l => ha.ad Γ σ Hv H _ _ Z h fun vs ds Γ1 Hv1 H1 s1 r1 q => ?_⟩
  split at q
  · obtain ⟨v, w, rfl, rv, rw'⟩ := r1.two
    exact ⟨v, w, rfl, l.nx _ _ _ _ ((s1.set rv).set rw') q⟩
  · exact q.elim

/-! ### dict displays -/
def rdDic0 : TDE := fun Γ Q => Q (.dic [] []) Γ
theorem d_dic0 : DE W X (.Dict [] [] pos) tDNewK rdDic0 := ⟨pe_dnewK, fun Γ σ Hv H Q Q' E h k => fun q hq => k _ _ _ _ _ (E.stp.alloc (.dK []) hq) (.dic upd_same rfl .nil) h⟩
def keyOf : D → Option Key
  | .int i => some (.inl i)
  | .str x => some (.inr x)
  | _ => none
theorem keyOf_rp {K : PySem.W.Frag} {H : Hp} {v : V} {d : D} {k : Key} (r : Rp K H v d) (h : keyOf d = some k) : v = kV k := by
  cases d <;> cases h <;> cases r <;> rfl
/-- {k: v} -/
def rdDic1 (da db : TDE) : TDE := fun Γ Q => da Γ fun dk Γ1 => db Γ1 fun d Γ2 => ∃ k, keyOf dk = some k ∧ Q (.dic [k] [d]) Γ2
theorem d_dic1 (ha : DE W X a ta da) (hb : DE W X b tb db) : DE W X (.Dict [some a] [b] pos) (tDisp [(ta, tb)]) (rdDic1 da db) := by
  refine ⟨pe_disp (pps_cons ha.pe hb.pe pps_nil) rfl rfl (fun z => by cases z) (by show (1 : Nat) ≤ 15; decide), fun Γ σ Hv H Q Q' E h k => fun q hq => ?_⟩
  obtain ⟨s0, F0⟩ := E.stp.alloc0 (.dK []) hq
  refine ha.ad Γ σ Hv _ _ _ s0.ev h fun v dk Γ1 Hv1 H1 s1 r1 h1 => ?_
  refine hb.ad Γ1 σ Hv1 H1 _ _ s1.ev h1 fun w d Γ2 Hv2 H2 s2 r2 h2 => ?_
  obtain ⟨ky, e1, h2⟩ := h2
  have s12 := s1.trans s2
  obtain ⟨e2, F2⟩ := s12.fr q F0 (by rw [upd_same]; simp)
  rw [upd_same] at e2
  have sA := s0.trans s12
  have sT := (sA.turn (.dK [(ky, w)]) F2 (by rw [e2]; simp) hq).share F2 upd_same hq
  refine ⟨e2, [(ky, w)], by rw [keyOf_rp (Rp.mono s2.sv _ _ r1) e1]; rfl, by show (1 : Nat) ≤ 15; decide, ?_⟩
  exact k _ _ _ _ _ sT (.dic upd_same rfl (.cons (Rp.mono (same_upd F2.hv) _ _ r2) .nil)) h2
end

/-! ### the drawing draw: its list at d, its cells at c -/
def drawJ (d c : Addr) : Vol where
  vol := fun a => a = d ∨ a = c
  inv := fun H => d ≠ c ∧ ∃ (cells : List Int) (p m t : Int), H d = some (.lst [.ref c, .int p, .int m, .int t]) ∧ H c = some (.lst (cells.map V.int)) ∧ cells ≠ [] ∧ cells.length ≤ 63 ∧ (∀ x ∈ cells, 0 ≤ x) ∧ 0 ≤ p ∧ (0 ≤ m ∧ m < 2147483647) ∧ 0 ≤ t
  there := fun H a h v => by
    obtain ⟨_, cells, p, m, t, h1, h2, _⟩ := h
    rcases v with rfl | rfl
    · rw [h1]; simp
    · rw [h2]; simp
  keep := fun H H' h v => by
    obtain ⟨n, cells, p, m, t, h1, h2, h3⟩ := h
    exact ⟨n, cells, p, m, t, (v d (.inl rfl)).trans h1, (v c (.inr rfl)).trans h2, h3⟩
/-- a promise that holds for some draw -/
def spV (K : PySem.W.Frag) (F : Addr → FD) : Sp := fun vs H Q E => ∃ d c, spD (drawJ d c) K (F d) vs H Q E
theorem fnV {P : Program} {w : World} {K : PySem.W.Frag} {mg : Str → Option Value} {base : Heap} {CX : CXT} {k : Nat} {f : Addr} {fd : FuncData} {ps : List Str} {F : Addr → FD}
    (h : ∀ d c, FnOk P w K mg base CX k f fd ps (spD (drawJ d c) K (F d))) : FnOk P w K mg base CX k f fd ps (spV K F) :=
  ⟨fun vs H Q E ⟨d, c, q⟩ => (h d c).len vs H Q E q, fun A o s H a us vs Q E hr e0 hb r ⟨d, c, q⟩ => (h d c).run A o s H a us vs Q E hr e0 hb r q⟩
theorem fnVG {P : Program} {w : World} {K : PySem.W.Frag} {mg : Str → Option Value} {base : Heap} {CX : CXT} {k : Nat} {f : Addr} {fd : FuncData} {ps : List Str} {F : Addr → FD}
    (h : ∀ d c, FnG P w K mg base CX k f fd ps (spD (drawJ d c) K (F d))) : FnG P w K mg base CX k f fd ps (spV K F) :=
  ⟨fun vs H Q E ⟨d, c, q⟩ => (h d c).len vs H Q E q, fun A o s H a us vs Q E hgd hr e0 hb r ⟨d, c, q⟩ => (h d c).go A o s H a us vs Q E hgd hr e0 hb r q⟩
section
variable {W : Wc} {X : Cx} {e : Expr} {es : List Expr} {t : TA} {dt : TDF} {p pos : Pos} {x : Str} {CX : CXT} {k : Nat} {f : Addr} {fd : FuncData} {ps : List Str} {F : Addr → FD} {dvs : List V} {dds : List D} {ds : List Value} {E : XK} {d c : Addr}
theorem ad_callV {K : PySem.W.Frag} (hJ : W.J = drawJ d c) (hdd : ∀ H, RpAll K H dvs dds) (h : AdA K W t dt) : Ad K W (tCall (spV K F) dvs E t) (rdCall (F d) dds dt) := fun Γ σ Hv H Q Q' Z hw k => by
  have q := ad_call (F := F d) (E := E) hdd h Γ σ Hv H Q Q' Z hw k
  refine h Γ σ Hv H _ _ Z hw fun vs ds Γ1 Hv1 H1 s1 r1 q => ⟨d, c, ?_⟩
  rw [← hJ]
  exact ⟨Hv1, ds ++ dds, _, s1.ev.ret.sub, s1.ev.ret.inv, s1.ev.ret.nv, r1.append (hdd _), q, fun v d Hv2 H2 R r2 q2 => k v d Γ1 Hv2 H2 (s1.after R) r2 q2⟩
theorem d_callV (G : FnOk X.prog X.w X.K X.mg X.base CX k f fd ps (spV X.K F)) (hJ : W.J = drawJ d c) (hr : Room k X.A) (hg : Gl X x) (hm : X.mg x = some (.ref f)) (hk : PySem.W.keepIn X.K (.ref f) = true) (hb : Binds X.K fd ps ds) (hd : Vals dvs ds) (hdd : ∀ H, RpAll X.K H dvs dds) (hx : Passes CX X E)
    (ha : DA W X (e :: es) t dt) (hdb : (x == ("__debug__" : Str)) = false := by decide) (he : starEach (e :: es) X.env = (false, eval e X.env) :: starEach es X.env := by rfl) (hpl : (backTo pos (starEach es X.env)).any (·.1) = false := by rfl) :
    DE W X (.Call (.Name x p) (e :: es) [] pos) (tCall (spV X.K F) dvs E t) (rdCall (F d) dds dt) :=
  ⟨pe_call G hr hg hm hk hb hd hx ha.pa hdb he hpl, ad_callV hJ hdd ha.ad⟩
theorem d_callVG (G : FnG X.prog X.w X.K X.mg X.base CX k f fd ps (spV X.K F)) (hJ : W.J = drawJ d c) (hgd : X.A.guards = some []) (hr : Room k X.A) (hg : Gl X x) (hm : X.mg x = some (.ref f)) (hk : PySem.W.keepIn X.K (.ref f) = true) (hb : Binds X.K fd ps ds) (hd : Vals dvs ds) (hdd : ∀ H, RpAll X.K H dvs dds) (hx : Passes CX X E)
    (ha : DA W X (e :: es) t dt) (hdb : (x == ("__debug__" : Str)) = false := by decide) (he : starEach (e :: es) X.env = (false, eval e X.env) :: starEach es X.env := by rfl) (hpl : (backTo pos (starEach es X.env)).any (·.1) = false := by rfl) :
    DE W X (.Call (.Name x p) (e :: es) [] pos) (tCall (spV X.K F) dvs E t) (rdCall (F d) dds dt) :=
  ⟨pe_callG G hgd hr hg hm hk hb hd hx ha.pa hdb he hpl, ad_callV hJ hdd ha.ad⟩
end
/-- _law_take(draw, many) -/
def Ftake (d : Addr) : FD := fun ds Q => ∃ n : Int, ds = [.ref d, .int n] ∧ (0 < n ∧ n < 1073741824) ∧ ∀ r : Int, 0 ≤ r → r < n → Q (.int r)
/-- _law_pick(draw, some) -/
def Fpick (d : Addr) : FD := fun ds Q => ∃ xs : List D, ds = [.ref d, .lst xs] ∧ xs ≠ [] ∧ xs.length < 1000 ∧ ∀ x ∈ xs, Q x
def FpickS (d : Addr) : FD := fun ds Q => (∃ xs : List D, ds = [.ref d, .lst xs] ∧ xs ≠ [] ∧ xs.length < 1000 ∧ ∀ x ∈ xs, Q x) ∨ ∃ z : Str, ds = [.ref d, .str z] ∧ z.length ≠ 0 ∧ z.length < 1000 ∧ ∀ c ∈ z.cps.toList, Q (.str ⟨#[c]⟩)
/-- the draw's list and cells are changed -/
theorem draw_step {d c : Addr} {H : Hp} {cells : List Int} {p m t : Int} (n : d ≠ c) (h1 : H d = some (.lst [.ref c, .int p, .int m, .int t])) (h2 : H c = some (.lst (cells.map V.int))) (h3 : cells ≠ []) (h4 : cells.length ≤ 63) (h5 : ∀ x ∈ cells, 0 ≤ x) (h6 : 0 ≤ p) (h7 : 0 ≤ m ∧ m < 2147483647) (h8 : 0 ≤ t) : (drawJ d c).inv H :=
  ⟨n, cells, p, m, t, h1, h2, h3, h4, h5, h6, h7, h8⟩
end VL

set_option Elab.async false
set_option linter.all false
set_option maxRecDepth 100000
set_option maxHeartbeats 4000000
/-! VL6: the law's start, the draw's making and taking by their readings. -/
namespace VL
open PySem PySem.Spec L2
open PyProof.Rows hiding St

/-- _law_begin(script) -/
def Fbegin : FD := fun ds Q => ∃ ns : List Int, ds = [.fz ns] ∧ ∀ cells : List Int, cells ≠ [] → cells.length ≤ 63 → (∀ x ∈ cells, 0 ≤ x) → Q (.lst [.lst (cells.map D.int), .int 0, .int 1, .int 0])
theorem len_begin {ds : List D} {Q : D → Prop} (h : Fbegin ds Q) : ds.length = 1 := by
  obtain ⟨ns, rfl, _⟩ := h
  rfl
theorem len_take {d : Addr} {ds : List D} {Q : D → Prop} (h : Ftake d ds Q) : ds.length = 2 := by
  obtain ⟨n, rfl, _⟩ := h
  rfl
theorem len_pick {d : Addr} {ds : List D} {Q : D → Prop} (h : Fpick d ds Q) : ds.length = 2 := by
  obtain ⟨n, rfl, _⟩ := h
  rfl
theorem len_pickS {d : Addr} {ds : List D} {Q : D → Prop} (h : FpickS d ds Q) : ds.length = 2 := by
  rcases h with ⟨n, rfl, _⟩ | ⟨n, rfl, _⟩ <;> rfl
/-- what the script's law is asked -/
def spLaw (K : PySem.W.Frag) : Sp := fun vs H Q _ => ∃ (a : Addr) (ns : List Int), vs = [.ref a] ∧ SqL K H a (ns.map V.int) ∧ ns.length ≤ 63 ∧ Only H ∧ ∀ H', Q (.bl true) H'
theorem law_start {K : PySem.W.Frag} {H : Hp} {a : Addr} {ns : List Int} (hl : ns.length ≤ 63) (hO : Only H) (hS : SqL K H a (ns.map V.int)) : spLaw K [.ref a] H (fun v _ => v = .bl true) fun _ _ _ => False :=
  ⟨a, ns, rfl, hS, hl, hO, fun _ => rfl⟩
/-- some state with a draw -/
def W1 : Wc where
  J := drawJ 0 1
  H0 := fun x => if x = 0 then some (.lst [.ref 1, .int 0, .int 0, .int 0]) else if x = 1 then some (.lst [.int 0]) else none
  Hv0 := fun _ => none
  inv0 := ⟨by decide, [0], 0, 0, 0, rfl, rfl, by decide, by decide, by decide, by decide, by decide, by decide⟩
  sub0 := fun _ _ h => by cases h
  nv0 := fun _ _ => rfl
theorem rp_ints_inv {K : PySem.W.Frag} {H : Hp} : ∀ (ns : List Int) {vs : List V}, RpAll K H vs (ns.map D.int) → vs = ns.map V.int
  | [], _, h => by cases h; rfl
  | n :: ns, _, h => by
    cases h with
    | cons a h =>
      cases a
      rw [rp_ints_inv ns h]
      rfl
/-- the law's body: _law_draw = _law_begin(_law_script), then the rest -/
theorem law_body {K : PySem.W.Frag} {ts : TS} {td : Addr → TDS} {N : List Str} {m : Nat} {E0' : XK} (hN : N.length = m + 2) (had : ∀ W d c, W.J = drawJ d c → AdS K W ts (td d))
    (fin : ∀ d ns, ns.length ≤ 63 → td d { nx := fun _ => False, rt := fun r => r = .bl true } (.dat (.fz ns) :: .dat (.ref d) :: List.replicate m .no))
    {vs : List V} {H : Hp} {Q : VK} {E : XK} (h : spLaw K vs H Q E) :
    tSeq (tAsg (tCall (spD Vol.no K Fbegin) [] E0' (tCons (tVar 0) tNil)) (gName 1)) ts { nx := fun _ H' => Q .non H', rt := Q } (L2.start N vs) H := by
  obtain ⟨a, ns, rfl, hS, hl, hO, out⟩ := h
  refine ⟨.ref a, rfl, ?_⟩
  refine ⟨H, [.fz ns], fun r => ∃ cells : List Int, r = .lst [.lst (cells.map D.int), .int 0, .int 1, .int 0] ∧ cells ≠ [] ∧ cells.length ≤ 63 ∧ ∀ x ∈ cells, 0 ≤ x, .refl _, trivial, fun _ z => z.elim, .cons (.fz hS) .nil, ⟨ns, rfl, fun cells h1 h2 h3 => ⟨cells, rfl, h1, h2, h3⟩⟩, ?_⟩
  rintro v r Hv' H' R rv ⟨cells, rfl, h1, h2, h3⟩
  cases rv with
  | lst hd rs =>
    rename_i d vs
    cases rs with
    | cons rc rs =>
      cases rc with
      | lst hc rcs =>
        rename_i c cvs
        cases rs with
        | cons r0 rs =>
          cases r0
          cases rs with
          | cons r1 rs =>
            cases r1
            cases rs with
            | cons r2 rs =>
              cases r2
              cases rs
              have ec := rp_ints_inv cells rcs
              subst ec
              have Hd : H' d = some (.lst [.ref c, .int 0, .int 1, .int 0]) := R.sub _ _ hd
              have Hc : H' c = some (.lst (cells.map V.int)) := R.sub _ _ hc
              have dc : d ≠ c := by
                rintro rfl
                rw [hd] at hc
                have z := HO.lst.inj (Option.some.inj hc)
                cases cells with
                | nil => cases z
                | cons x r => cases z
              have free : ∀ b xs, H' b = some (.lst xs) → H b = none := by
                intro b xs e
                rcases hO b with z | ⟨o, ys, z⟩
                · exact z
                · rw [R.old b _ z fun q => q] at e
                  cases e
              let W : Wc :=
                { J := drawJ d c, H0 := H', Hv0 := H, inv0 := draw_step dc Hd Hc h1 h2 h3 (by decide) (by decide) (by decide), sub0 := fun b o e => R.old b o e fun z => z,
                  nv0 := fun b v => by
                    rcases v with rfl | rfl
                    · exact free _ _ Hd
                    · exact free _ _ Hc }
              have hst : (L2.start N [.ref a]).set 1 (some (.ref d)) = some (.ref a) :: some (.ref d) :: List.replicate m none := by
                unfold L2.start
                rw [hN]
                show (some (V.ref a) :: List.replicate (m + 2 - 1) none).set 1 (some (V.ref d)) = _
                rw [show m + 2 - 1 = m + 1 from rfl, List.replicate_succ]
                rfl
              show ts { nx := fun _ H' => Q .non H', rt := Q } ((L2.start N [.ref a]).set 1 (some (.ref d))) H'
              rw [hst]
              have slots : ∀ (i : Nat) (sl : Sl), (Sl.dat (.fz ns) :: .dat (.ref d) :: List.replicate m .no)[i]? = some sl → sl.isOwn = false ∧ SlOk K W H H' sl (((some (V.ref a) :: some (.ref d) :: List.replicate m none : L2.St))[i]?.join) := by
                intro i sl e
                match i with
                | 0 => cases e; exact ⟨rfl, _, rfl, .fz hS⟩
                | 1 => cases e; exact ⟨rfl, _, rfl, .ref _⟩
                | i + 2 =>
                  have e' : (List.replicate m Sl.no)[i]? = some sl := e
                  obtain ⟨_, e2⟩ := List.getElem?_eq_some_iff.mp e'
                  rw [List.getElem_replicate] at e2
                  subst e2
                  exact ⟨rfl, trivial⟩
              have Z : Ev K W (.dat (.fz ns) :: .dat (.ref d) :: List.replicate m .no) (some (.ref a) :: some (.ref d) :: List.replicate m none) H H' :=
                ⟨⟨.refl _, fun b o e => R.old b o e fun z => z, fun _ _ e _ => e, W.inv0, W.nv0, fun _ _ e => .inl e⟩, by simp, fun i sl e => (slots i sl e).2, fun i j sl sl' b ne e1 e2 o1 => by rw [(slots i sl e1).1] at o1; cases o1⟩
              refine had W d c rfl _ _ H H' _ _ Z (fin d ns hl) ⟨fun _ _ _ _ _ q => q.elim, fun v r Γ' σ' Hv' H' s rv q => ?_, fun _ _ _ _ _ q => q.elim, fun _ _ _ _ _ q => q.elim⟩
              have q' : r = .bl true := q
              subst q'
              cases rv
              exact out _
end VL

set_option Elab.async false
set_option linter.all false
set_option maxRecDepth 100000
set_option maxHeartbeats 4000000
/-! VL7: readings evaluated. -/
namespace VL
open PySem PySem.Spec L2
open PyProof.Rows hiding St

/-- a comprehension with one name, whose test and element are known -/
theorem goLc_1 {tt : TDT} {te : TDE} {i : Nat} {Q : List D → Gm → Prop} {Γ : Gm} (f : D → D) (p : D → Bool) (hi : i < Γ.length) : ∀ (L acc : List D), acc.length + L.length ≤ sizeLine →
    (∀ d ∈ L, ∀ k : Bool → Gm → Prop, k (p d) (Γ.set i (.dat d)) → tt (Γ.set i (.dat d)) k) →
    (∀ d ∈ L, p d = true → ∀ k : D → Gm → Prop, k (f d) (Γ.set i (.dat d)) → te (Γ.set i (.dat d)) k) →
    Q (acc ++ (L.filter p).map f) Γ → goLc (rgName i) tt te [i] Q L acc Γ
  | [], acc, _, _, _, q => by
    rw [List.filter_nil, List.map_nil, List.append_nil] at q
    exact q
  | d :: L, acc, hl, ht, he, q => by
    have eb : ∀ s : Sl, backG Γ (Γ.set i s) [i] = Γ := fun s => by
      show (Γ.set i s).set i ((Γ[i]?).getD .no) = Γ
      rw [List.set_set, List.getElem?_eq_getElem hi]
      exact List.set_getElem_self hi
    show tt ((Γ.set i .no).set i (.dat d)) _
    rw [List.set_set]
    refine ht d List.mem_cons_self _ ?_
    rw [List.length_cons] at hl
    cases hp : p d with
    | false =>
      rw [if_neg Bool.false_ne_true, eb]
      rw [List.filter_cons_of_neg (by rw [hp]; exact Bool.false_ne_true)] at q
      exact goLc_1 f p hi L acc (by omega) (fun d h => ht d (List.mem_cons_of_mem _ h)) (fun d h => he d (List.mem_cons_of_mem _ h)) q
    | true =>
      rw [if_pos rfl]
      refine he d List.mem_cons_self hp _ ⟨by omega, ?_⟩
      rw [eb]
      rw [List.filter_cons_of_pos hp, List.map_cons] at q
      refine goLc_1 f p hi L (acc ++ [f d]) (by rw [List.length_append]; show acc.length + 1 + L.length ≤ _; omega) (fun d h => ht d (List.mem_cons_of_mem _ h)) (fun d h => he d (List.mem_cons_of_mem _ h)) ?_
      rw [List.append_assoc]
      exact q
/-- the same without a test -/
theorem goLc_m {te : TDE} {i : Nat} {Q : List D → Gm → Prop} {Γ : Gm} (f : D → D) (hi : i < Γ.length) (L : List D) (hl : L.length ≤ sizeLine)
    (he : ∀ d ∈ L, ∀ k : D → Gm → Prop, k (f d) (Γ.set i (.dat d)) → te (Γ.set i (.dat d)) k) (q : Q (L.map f) Γ) : goLc (rgName i) (fun Γ Q => Q true Γ) te [i] Q L [] Γ := by
  refine goLc_1 f (fun _ => true) hi L [] (by show 0 + L.length ≤ _; omega) (fun _ _ _ h => h) (fun d h _ => he d h) ?_
  rw [List.filter_eq_self.mpr fun _ _ => rfl]
  exact q
theorem noOwn_of {Γ : Gm} {vs : List Nat} (h : (vs.all fun i => !((Γ[i]?.map Sl.isOwn).getD false)) = true) : noOwn Γ vs := fun v hv s e => by
  have := List.all_eq_true.mp h v hv
  rw [e] at this
  simpa using this
/-- a loop by an invariant over what is left -/
theorem goFor_inv {gd : TDG} {tb : TDS} {E : EndsD} (P : Gm → Prop) : ∀ (L : List D) (Γ : Gm), P Γ →
    (∀ d ∈ L, ∀ Γ, P Γ → ∀ N : Gm → Prop, (∀ Γ', P Γ' → N Γ') → gd d Γ fun Γ2 => tb { E with nx := N, ct := N, bk := E.nx } Γ2) → (∀ Γ, P Γ → E.nx Γ) → goFor gd tb E L Γ
  | [], Γ, h, _, q => q Γ h
  | d :: L, Γ, h, hs, q => hs d List.mem_cons_self Γ h _ fun Γ' h' => goFor_inv P L Γ' h' (fun d hd => hs d (List.mem_cons_of_mem _ hd)) q
end VL

set_option Elab.async false
set_option linter.all false
set_option maxRecDepth 100000
set_option maxHeartbeats 4000000
/-! VL8: methods of lists; readings told in short. -/
namespace VL
open PySem PySem.Spec L2
open PyProof.Rows hiding St
section
variable {W : Wc} {X : Cx} {e : Expr} {te : TE} {de : TDE} {x : Str} {p apos cpos : Pos} {i : Nat}
theorem d_append (he : DE W X e te de) (hN : X.N[i]? = some x := by rfl) (hv : Vis X.env.scope x := by first | exact Or.inl rfl | exact Or.inr (Or.inl rfl) | exact Or.inr (Or.inr rfl)) (hd : (x == ("__debug__" : Str)) = false := by decide)
    (hcd : (x == ("__classdict__" : Str)) = false := by decide) (hbase : attributeBase (.Name x p) "append" X.env (eval (.Name x p) X.env) = eval (.Name x p) X.env := by rfl)
    (hfew : ((backTo cpos (starEach [e] X.env)).all (fun x => !x.1) && (backToKw cpos (keywordEach [] X.env)).all (fun x => x.1.isSome)
      && decide ([e].length + ([] : List Keyword).length + (if ([] : List Keyword).isEmpty then 0 else 1) < 30)) = true := by rfl)
    (hline : (apos.endLine == cpos.line) = true := by rfl) (hs : starEach [e] X.env = (false, eval e X.env) :: starEach [] X.env := by rfl) (hplain : (backTo cpos (starEach [] X.env)).any (·.1) = false := by rfl) :
    DE W X (.Call (.Attribute (.Name x p) "append" apos) [e] [] cpos) (tBM X.K "list" rAppend (tVar i) (tCons te tNil)) (rdApp i de) :=
  ⟨pe_bm PySem.F.plainAttrs_list PySem.F.slot_list_append PySem.F.type_list_append mt_append (pe_var hN hv hd hcd) (pa_cons he.pe pa_nil hs) hbase hfew hline hs hplain, ad_app he.ad⟩
end
/-- a comprehension with one name over the data of xs -/
theorem goLc_a {α : Type} {tt : TDT} {te : TDE} {i : Nat} {Q : List D → Gm → Prop} {Γ : Gm} (g : α → D) (p : α → Bool) (f : α → D) (hi : i < Γ.length) : ∀ (L : List α) (acc : List D), acc.length + L.length ≤ sizeLine →
    (∀ a ∈ L, ∀ k : Bool → Gm → Prop, k (p a) (Γ.set i (.dat (g a))) → tt (Γ.set i (.dat (g a))) k) →
    (∀ a ∈ L, p a = true → ∀ k : D → Gm → Prop, k (f a) (Γ.set i (.dat (g a))) → te (Γ.set i (.dat (g a))) k) →
    Q (acc ++ (L.filter p).map f) Γ → goLc (rgName i) tt te [i] Q (L.map g) acc Γ
  | [], acc, _, _, _, q => by
    rw [List.filter_nil, List.map_nil, List.append_nil] at q
    exact q
  | d :: L, acc, hl, ht, he, q => by
    have eb : ∀ s : Sl, backG Γ (Γ.set i s) [i] = Γ := fun s => by
      show (Γ.set i s).set i ((Γ[i]?).getD .no) = Γ
      rw [List.set_set, List.getElem?_eq_getElem hi]
      exact List.set_getElem_self hi
    show tt ((Γ.set i .no).set i (.dat (g d))) _
    rw [List.set_set]
    refine ht d List.mem_cons_self _ ?_
    rw [List.length_cons] at hl
    cases hp : p d with
    | false =>
      rw [if_neg Bool.false_ne_true, eb]
      rw [List.filter_cons_of_neg (by rw [hp]; exact Bool.false_ne_true)] at q
      exact goLc_a g p f hi L acc (by omega) (fun d h => ht d (List.mem_cons_of_mem _ h)) (fun d h => he d (List.mem_cons_of_mem _ h)) q
    | true =>
      rw [if_pos rfl]
      refine he d List.mem_cons_self hp _ ⟨by omega, ?_⟩
      rw [eb]
      rw [List.filter_cons_of_pos hp, List.map_cons] at q
      refine goLc_a g p f hi L (acc ++ [f d]) (by rw [List.length_append]; show acc.length + 1 + L.length ≤ _; omega) (fun d h => ht d (List.mem_cons_of_mem _ h)) (fun d h => he d (List.mem_cons_of_mem _ h)) ?_
      rw [List.append_assoc]
      exact q
theorem goLc_b {α : Type} {te : TDE} {i : Nat} {Q : List D → Gm → Prop} {Γ : Gm} (g : α → D) (f : α → D) (hi : i < Γ.length) (L : List α) (hl : L.length ≤ sizeLine)
    (he : ∀ a ∈ L, ∀ k : D → Gm → Prop, k (f a) (Γ.set i (.dat (g a))) → te (Γ.set i (.dat (g a))) k) (q : Q (L.map f) Γ) : goLc (rgName i) (fun Γ Q => Q true Γ) te [i] Q (L.map g) [] Γ := by
  refine goLc_a g (fun _ => true) f hi L [] (by show 0 + L.length ≤ _; omega) (fun _ _ _ h => h) (fun d h _ => he d h) ?_
  rw [List.filter_eq_self.mpr fun _ _ => rfl]
  exact q
/-- in: a sign in a text -/
theorem rdIn_sign {neg : Bool} {c : Nat} {z : Str} {Q : D → Prop} (q : Q (.bl (neg ^^ decide (c ∈ z.cps.toList)))) : rdIn neg (.str ⟨#[c]⟩) (.str z) Q := ⟨c, rfl, q⟩
theorem rdIn_sg0 {c : Nat} {z : Str} {Q : D → Prop} (q : Q (.bl (decide (c ∈ z.cps.toList)))) : rdIn false (.str ⟨#[c]⟩) (.str z) Q := ⟨c, rfl, by rw [Bool.false_xor]; exact q⟩
theorem rdIn_sg1 {c : Nat} {z : Str} {Q : D → Prop} (q : Q (.bl (!decide (c ∈ z.cps.toList)))) : rdIn true (.str ⟨#[c]⟩) (.str z) Q := ⟨c, rfl, by rw [Bool.true_xor]; exact q⟩
theorem asBs_maps {α : Type} (L : List α) (p : α → Bool) : asBs (L.map fun a => D.bl (p a)) = some (L.map p) := by
  induction L with
  | nil => rfl
  | cons b r ih => show (asBs (r.map _)).map (p b :: ·) = _; rw [ih]; rfl
theorem all_id {α : Type} (L : List α) (p : α → Bool) : (L.map p).all id = L.all p := by
  rw [List.all_map]; rfl
theorem any_id {α : Type} (L : List α) (p : α → Bool) : (L.map p).any id = L.any p := by
  rw [List.any_map]; rfl
theorem lenS (z : Str) : z.cps.toList.length = z.length := Array.length_toList
/-! ### slices from or up to a plain place -/
theorem drop_min {α : Type} (xs : List α) (k n : Nat) (h : xs.length = n) : xs.drop (min k n) = xs.drop k := by
  by_cases q : k ≤ n
  · rw [Nat.min_eq_left q]
  · rw [Nat.min_eq_right (by omega), List.drop_of_length_le (by omega), List.drop_of_length_le (by omega)]
theorem take_min {α : Type} (xs : List α) (k n : Nat) (h : xs.length = n) : xs.take (min k n) = xs.take k := by
  by_cases q : k ≤ n
  · rw [Nat.min_eq_left q]
  · rw [Nat.min_eq_right (by omega), List.take_of_length_le (by omega), List.take_of_length_le (by omega)]
theorem cutS_from (z : Str) (k : Nat) : (cutS z (some (k : Int)) none).cps.toList = z.cps.toList.drop k := by
  show ((z.cps.toList.drop (HT.sIx z.length 0 (some (k : Int)))).take (z.length - HT.sIx z.length 0 (some (k : Int)))) = _
  rw [HT.sIx_nat, drop_min _ _ _ (lenS z), List.take_of_length_le]
  rw [List.length_drop, lenS]
  omega
theorem cutS_to (z : Str) (k : Nat) : (cutS z none (some (k : Int))).cps.toList = z.cps.toList.take k := by
  show ((z.cps.toList.drop 0).take (HT.sIx z.length z.length (some (k : Int)) - 0)) = _
  rw [HT.sIx_nat, List.drop_zero, Nat.sub_zero, take_min _ _ _ (lenS z)]
theorem cutD_from (xs : List D) (k : Nat) : cutD xs (some (k : Int)) none = xs.drop k := by
  show ((xs.drop (HT.sIx xs.length 0 (some (k : Int)))).take (xs.length - HT.sIx xs.length 0 (some (k : Int)))) = _
  rw [HT.sIx_nat, drop_min _ _ _ rfl, List.take_of_length_le]
  rw [List.length_drop]
  omega
theorem cutD_to (xs : List D) (k : Nat) : cutD xs none (some (k : Int)) = xs.take k := by
  show ((xs.drop 0).take (HT.sIx xs.length xs.length (some (k : Int)) - 0)) = _
  rw [HT.sIx_nat, List.drop_zero, Nat.sub_zero, take_min _ _ _ rfl]
theorem str_of_list (z : Str) : z = ⟨z.cps.toList.toArray⟩ := by
  obtain ⟨⟨l⟩⟩ := z
  rfl
theorem atI_n {α : Type} (xs : List α) (k : Nat) : atI xs (k : Int) = xs[k]? := by
  unfold atI ixN
  by_cases h : k < xs.length
  · rw [if_pos (Int.natCast_nonneg k), if_pos (by omega)]
    rfl
  · rw [if_pos (Int.natCast_nonneg k), if_neg (by omega), List.getElem?_eq_none (by omega)]
    rfl
/-! ### picks, loops -/
theorem pickS_lst {d : Addr} {xs : List D} {Q : D → Prop} (h1 : xs ≠ []) (h2 : xs.length < 1000) (q : ∀ x ∈ xs, Q x) : FpickS d [.ref d, .lst xs] Q := .inl ⟨xs, rfl, h1, h2, q⟩
theorem pickS_str {d : Addr} {z : Str} {Q : D → Prop} (h1 : z.length ≠ 0) (h2 : z.length < 1000) (q : ∀ c ∈ z.cps.toList, Q (.str ⟨#[c]⟩)) : FpickS d [.ref d, .str z] Q := .inr ⟨z, rfl, h1, h2, q⟩
theorem pick_lst {d : Addr} {xs : List D} {Q : D → Prop} (h1 : xs ≠ []) (h2 : xs.length < 1000) (q : ∀ x ∈ xs, Q x) : Fpick d [.ref d, .lst xs] Q := ⟨xs, rfl, h1, h2, q⟩
theorem take_ok {d : Addr} {n : Int} {Q : D → Prop} (h1 : 0 < n) (h2 : n < 1073741824) (q : ∀ r : Nat, (r : Int) < n → Q (.int r)) : Ftake d [.ref d, .int n] Q := ⟨n, rfl, ⟨h1, h2⟩, fun r h3 h4 => by
  have := q r.toNat (by omega)
  rw [Int.toNat_of_nonneg h3] at this
  exact this⟩
/-- a loop by an invariant that counts -/
theorem goFor_n {gd : TDG} {tb : TDS} {E : EndsD} (P : Nat → Gm → Prop) : ∀ (L : List D) (i : Nat) (Γ : Gm), P i Γ →
    (∀ j d, i ≤ j → L[j - i]? = some d → ∀ Γ, P j Γ → ∀ N : Gm → Prop, (∀ Γ', P (j + 1) Γ' → N Γ') → gd d Γ fun Γ2 => tb { E with nx := N, ct := N, bk := E.nx } Γ2) → (∀ Γ, P (i + L.length) Γ → E.nx Γ) → goFor gd tb E L Γ
  | [], i, Γ, h, _, q => q Γ h
  | d :: L, i, Γ, h, hs, q => hs i d (Nat.le_refl _) (by rw [Nat.sub_self]; rfl) Γ h _ fun Γ' h' => goFor_n P L (i + 1) Γ' h' (fun j e hj he => hs j e (by omega) (by rw [show j - i = (j - (i + 1)) + 1 by omega]; exact he)) (fun Γ hq => q Γ (by rw [List.length_cons, show i + (L.length + 1) = i + 1 + L.length by omega]; exact hq))
theorem len_one (c : Nat) : (⟨#[c]⟩ : Str).length = 1 := rfl
theorem len_app (a b : Str) : (a ++ b).length = a.length + b.length := Array.size_append
/-- the draw's start -/
def rdBegin : TDS :=
    (rdRet (rdShare (rdLst (rdCons (rdOrT (rdShare (rdLc (rdILst (rdSl rdSlA (rdVar 0) rdNoPart (rdPart (rdC (.int 63))))) (rgName 1) (fun Γ Q => Q true Γ) (rdCB rdAbs (rdCons (rdVar 1) rdNil)) [1])) (rdShare (rdLst (rdCons (rdC (.int 7)) rdNil)))) (rdCons (rdC (.int 0)) (rdCons (rdC (.int 1)) (rdCons (rdC (.int 0)) rdNil)))))))
theorem rdl_begin {ds : List D} {Q : D → Prop} (h : Fbegin ds Q) : rdBegin { nx := fun _ => Q .non, rt := Q } (startG ["_law_script", "_law_cell"] ds) := by
  obtain ⟨ns, rfl, q⟩ := h
  refine ⟨noOwn_of (by rfl), ?_⟩
  show goLc _ _ _ _ _ (cutD (ns.map D.int) none (some ((63 : Nat) : Int))) [] _
  rw [cutD_to, ← List.map_take]
  have hl : (ns.take 63).length ≤ 63 := by rw [List.length_take]; omega
  refine goLc_b D.int (fun i => .int (if i < 0 then -i else i)) (show 1 < 2 by decide) _ (Nat.le_trans hl (by decide)) (fun i hi k hk => hk) ?_
  cases e : ns.take 63 with
  | nil => exact ⟨small_of (by decide), small_of (by decide), q [7] (by simp) (by decide) (by intro x hx; simp at hx; omega)⟩
  | cons n r =>
    refine ⟨small_of (show 4 ≤ 1000 by decide), ?_⟩
    have q' := q ((ns.take 63).map fun i => if i < 0 then -i else i) (by rw [e]; simp) (by rw [List.length_map]; exact hl) (fun x hx => by
      obtain ⟨i, _, rfl⟩ := List.mem_map.mp hx
      split <;> omega)
    rw [List.map_map, e] at q'
    exact q'
/-- _law_pick -/
def rdPick (d : Addr) : TDS :=
    (rdRet (rdOp rdIx (rdVar 1) (rdCall (Ftake d) [] (rdCons (rdVar 0) (rdCons (rdCB rdLen (rdCons (rdVar 1) rdNil)) rdNil)))))
theorem rdl_pick {d : Addr} {ds : List D} {Q : D → Prop} (h : FpickS d ds Q) : rdPick d { nx := fun _ => Q .non, rt := Q } (startG ["_law_draw", "_law_some"] ds) := by
  rcases h with ⟨xs, rfl, h1, h2, q⟩ | ⟨z, rfl, h1, h2, q⟩
  · have h0 : 0 < xs.length := List.length_pos_iff.mpr h1
    unfold rdPick
    simp only [rdRet, rdOp, rdVar, rdCall, rdCons, rdNil, rdCB, rdLen, startG, List.map_cons, List.map_nil, List.cons_append, List.nil_append, List.append_nil, List.getElem?_cons_zero, List.getElem?_cons_succ, List.length_cons, List.length_nil, List.replicate]
    refine take_ok (by omega) (by omega) fun r hr => ?_
    have hr' : r < xs.length := by omega
    show ∃ x, atI xs r = some x ∧ Q x
    refine ⟨xs[r], ?_, q _ (List.getElem_mem hr')⟩
    rw [atI_n]
    exact List.getElem?_eq_getElem hr'
  · have hz : z.length ≤ sizeLine := Nat.le_trans (Nat.le_of_lt h2) (by decide)
    unfold rdPick
    simp only [rdRet, rdOp, rdVar, rdCall, rdCons, rdNil, rdCB, rdLen, startG, List.map_cons, List.map_nil, List.cons_append, List.nil_append, List.append_nil, List.getElem?_cons_zero, List.getElem?_cons_succ, List.length_cons, List.length_nil, List.replicate]
    refine ⟨hz, take_ok (by omega) (by omega) fun r hr => ?_⟩
    refine ⟨hz, ?_⟩
    have hr' : r < z.cps.toList.length := by rw [lenS]; omega
    refine ⟨z.cps.toList[r], ?_, q _ (List.getElem_mem hr')⟩
    rw [atI_n]
    exact List.getElem?_eq_getElem hr'
/-! ### data that == and repr may look at -/
def okN (n : Nat) (d : D) : Prop := pl d = true ∧ PyData.canLay0 (py d) = true ∧ PyData.depth (py d) ≤ n
theorem okN.e {n : Nat} {d : D} (h : okN n d) (hn : n ≤ 64) : okE d := ⟨h.1, by
  show (PyData.canLay0 (py d) && decide (PyData.depth (py d) ≤ 64)) = true
  rw [h.2.1, decide_eq_true (Nat.le_trans h.2.2 hn)]
  rfl⟩
theorem okN.up {n m : Nat} {d : D} (h : okN n d) (hn : n ≤ m) : okN m d := ⟨h.1, h.2.1, Nat.le_trans h.2.2 hn⟩
theorem okN_non : okN 0 .non := ⟨rfl, rfl, Nat.le_refl _⟩
theorem okN_bl (b : Bool) : okN 0 (.bl b) := ⟨rfl, rfl, Nat.le_refl _⟩
theorem okN_int (i : Int) : okN 0 (.int i) := ⟨rfl, rfl, Nat.le_refl _⟩
theorem okN_str {z : Str} (h : PyData.strOk z = true) : okN 0 (.str z) := ⟨rfl, h, Nat.le_refl _⟩
theorem okN_all {n : Nat} : ∀ {ds : List D}, (∀ d ∈ ds, okN n d) → plAll ds = true ∧ PyData.canLayAll0 (pyAll ds) = true ∧ PyData.depthAll (pyAll ds) ≤ n
  | [], _ => ⟨rfl, rfl, Nat.zero_le _⟩
  | d :: ds, h => by
    obtain ⟨a1, a2, a3⟩ := h d List.mem_cons_self
    obtain ⟨b1, b2, b3⟩ := okN_all fun d hd => h d (List.mem_cons_of_mem _ hd)
    unfold plAll pyAll
    simp only [PyData.canLayAll0, PyData.depthAll, a1, a2, b1, b2, Bool.and_self, true_and]
    omega
theorem okN_lst {n : Nat} {ds : List D} (h : ∀ d ∈ ds, okN n d) : okN (n + 1) (.lst ds) := by
  obtain ⟨b1, b2, b3⟩ := okN_all h
  refine ⟨b1, ?_, ?_⟩
  · unfold py; simp only [PyData.canLay0]; exact b2
  · unfold py; simp only [PyData.depth]; omega
theorem okN_tup {n : Nat} {ds : List D} (h : ∀ d ∈ ds, okN n d) : okN (n + 1) (.tup ds) := by
  obtain ⟨b1, b2, b3⟩ := okN_all h
  refine ⟨b1, ?_, ?_⟩
  · unfold py; simp only [PyData.canLay0]; exact b2
  · unfold py; simp only [PyData.depth]; omega
theorem eqD_nil (ds : List D) : eqD (.lst ds) (.lst []) = ds.isEmpty := by
  cases ds with
  | nil => rfl
  | cons d r =>
    show PyData.eqv (py (.lst (d :: r))) (py (.lst [])) = false
    unfold py pyAll
    simp only [PyData.eqv, PyData.eqvAll]
theorem strOk_all {z : Str} : PyData.strOk z = true ↔ ∀ c ∈ z.cps.toList, c < 1114112 := by
  unfold PyData.strOk
  rw [Array.all_eq_true']
  simp only [Array.mem_toList_iff, decide_eq_true_eq]
theorem strOk_one {c : Nat} (h : c < 1114112) : PyData.strOk ⟨#[c]⟩ = true := by
  rw [strOk_all]
  intro d hd
  have : d = c := by simpa using hd
  omega
theorem strOk_app {a b : Str} (ha : PyData.strOk a = true) (hb : PyData.strOk b = true) : PyData.strOk (a ++ b) = true := by
  rw [strOk_all] at ha hb ⊢
  intro c hc
  have : c ∈ a.cps.toList ++ b.cps.toList := by
    rw [← Array.toList_append]
    exact hc
  rcases List.mem_append.mp this with h | h
  · exact ha c h
  · exact hb c h
end VL

set_option Elab.async false
set_option linter.all false
set_option maxRecDepth 100000
set_option maxHeartbeats 4000000
/-! VL9: _law_take, by what its walk asks. -/
namespace VL
open PySem PySem.Spec L2
open PyProof.Rows hiding St
def rInt1 : List V → Hp → VK → Prop := fun xs H Q => (∃ i, xs = [.int i] ∧ Q (.int i) H) ∨ ∃ k, xs = [.bl k] ∧ Q (.int (if k then 1 else 0)) H
def rMod : R2 := rI (fun _ j => 0 < j) fun i j => .int (i % j)
def tIt (K : PySem.W.Frag) (t : TE) (i : Int) : TE := tOp (rIx K) t (tC (.int i))
def tI1 (t : TE) : TE := tCB rInt1 (tCons t tNil)
def rAddI : R2 := rI0 fun i j => .int (i + j)
def rMulI : R2 := rI CMul fun i j => .int (i * j)
def tTake (K : PySem.W.Frag) : TS :=
  tSeq (tAsg (tIt K (tVar 0) 0) (gName 2)) <|
  tSeq (tAsg (tOp rMod (tI1 (tIt K (tVar 0) 1)) (tCB (rLenA K) (tCons (tVar 2) tNil))) (gName 3)) <|
  tSeq (tAsg (tOp (rIx K) (tVar 2) (tVar 3)) (gName 4)) <|
  tSeq (tIfS (tTest (tOp (rI0 fun i j => .bl (decide (j ≤ i))) (tVar 4) (tOp (rI CPow fun i j => .int (i ^ j.toNat)) (tC (.int 10)) (tC (.int 18)))))
    (tSeq (tAsg (tOp (rI CDiv fun i j => .int (i / j)) (tVar 4) (tVar 1)) (gSub (tVar 2) (tVar 3) rSetL)) (tRet (tOp rMod (tI1 (tVar 4)) (tVar 1)))) tNext) <|
  tSeq (tAsg (tOp rAddI (tIt K (tVar 0) 1) (tC (.int 1))) (gSub (tVar 0) (tC (.int 1)) rSetL)) <|
  tSeq (tAsg (tOp rAddI (tIt K (tVar 0) 3) (tC (.int 1))) (gSub (tVar 0) (tC (.int 3)) rSetL)) <|
  tSeq (tAsg (tOp rMod (tI1 (tOp rAddI (tOp rAddI (tOp rAddI (tOp rMulI (tIt K (tVar 0) 2) (tC (.int 48271))) (tVar 4)) (tOp rMulI (tC (.int 7919)) (tIt K (tVar 0) 3))) (tC (.int 12345)))) (tC (.int 2147483647))) (gSub (tVar 0) (tC (.int 2)) rSetL)) <|
  tSeq (tAsg (tOp rMod (tI1 (tOp rMulI (tIt K (tVar 0) 2) (tIt K (tVar 0) 2))) (tC (.int 2147483629))) (gName 5)) <|
  tRet (tOp rMod (tI1 (tOp (rI CDiv fun i j => .int (i / j)) (tVar 5) (tC (.int 16)))) (tVar 1))
section
variable {K : PySem.W.Frag}
theorem it_ok {H : Hp} {σ : L2.St} {a : Addr} {xs : List V} {v : V} {Q : VK} {i : Nat} {t : TE} (ht : ∀ Q' : VK, Q' (.ref a) H → t σ H Q') (h : H a = some (.lst xs)) (e : xs[i]? = some v) (q : Q v H) : tIt K t (i : Int) σ H Q :=
  ht _ (.inl ⟨a, xs, _, v, rfl, rfl, .of h, by rw [atI_n]; exact e, q⟩)
theorem var_ok {H : Hp} {σ : L2.St} {v : V} {i : Nat} {Q : VK} (e : σ[i]? = some (some v)) (q : Q v H) : tVar i σ H Q := ⟨v, e, q⟩
theorem draw_ret {d c : Addr} {Hv H H' : Hp} {W : Vol} (hW : W = drawJ d c) (sub : Same Hv H) (nv : ∀ a, W.vol a → Hv a = none) (same : ∀ a, a ≠ d → a ≠ c → H' a = H a) (inv : W.inv H') : Ret W.vol W.inv Hv H Hv H' := by
  subst hW
  refine ⟨.refl _, fun a u e => ?_, fun a u e n => ?_, inv, nv, fun _ _ e => .inl e⟩
  · have n1 : a ≠ d := by rintro rfl; rw [nv _ (.inl rfl)] at e; cases e
    have n2 : a ≠ c := by rintro rfl; rw [nv _ (.inr rfl)] at e; cases e
    rw [same a n1 n2]; exact sub _ _ e
  · rw [same a (fun z => n (.inl z)) (fun z => n (.inr z))]; exact e
theorem mod_ok {H : Hp} {i j : Int} {Q : VK} (h : 0 < j) (q : Q (.int (i % j)) H) : rMod (.int i) (.int j) H Q := ⟨i, j, rfl, rfl, h, q⟩
theorem take_sem {d c : Addr} {N : List Str} (hN : N.length = 6) {vs : List V} {H : Hp} {Q : VK} {E : XK} (h : spD (drawJ d c) K (Ftake d) vs H Q E) : tTake K { nx := fun _ H' => Q .non H', rt := Q } (L2.start N vs) H := by
  obtain ⟨Hv, ds, Qd, sub, ⟨dc, cells, p, m, t, h1, h2, h3, h4, h5, h6, h7, h8⟩, nv, r, hf, out⟩ := h
  obtain ⟨n, rfl, ⟨hn1, hn2⟩, hq⟩ := hf
  obtain ⟨v, w, rfl, rv, rw'⟩ := r.two
  cases rv; cases rw'
  have hst : L2.start N [.ref d, .int n] = [some (.ref d), some (.int n), none, none, none, none] := by
    unfold L2.start
    rw [hN]; rfl
  rw [hst]
  have fin : ∀ (r : Int) (H' : Hp), 0 ≤ r → r < n → (∀ a, a ≠ d → a ≠ c → H' a = H a) → (drawJ d c).inv H' → Q (.int r) H' := fun r H' a1 a2 a3 a4 => out (.int r) (.int r) Hv H' (draw_ret rfl sub nv a3 a4) (.int r) (hq r a1 a2)
  have hcl : 0 < cells.length := List.length_pos_iff.mpr h3
  simp only [tTake, tSeq, tAsg, gName, tOp, tIfS, tTest, gSub, tRet, tI1, tCB, tCons, tNil, tC, List.set]
  refine it_ok (i := 0) (fun Q' q => var_ok rfl q) h1 rfl ?_
  refine it_ok (i := 1) (fun Q' q => var_ok rfl q) h1 rfl ?_
  refine Or.inl ⟨p, rfl, ?_⟩
  refine var_ok (v := .ref c) rfl ?_
  refine Or.inl ⟨c, _, rfl, Or.inl (.of h2), ?_⟩
  rw [List.length_map]
  refine mod_ok (by omega) ?_
  have pl0 : 0 ≤ p % (cells.length : Int) := Int.emod_nonneg _ (by omega)
  have pl1 : p % (cells.length : Int) < cells.length := Int.emod_lt_of_pos _ (by omega)
  obtain ⟨i, hi⟩ : ∃ i : Nat, p % (cells.length : Int) = i := ⟨_, (Int.toNat_of_nonneg pl0).symm⟩
  have hil : i < cells.length := by omega
  rw [hi]
  refine var_ok (v := .ref c) rfl ?_
  refine var_ok (v := .int i) rfl ?_
  refine Or.inl ⟨c, _, _, .int cells[i], rfl, rfl, .of h2, by rw [atI_n, List.getElem?_map, List.getElem?_eq_getElem hil]; rfl, ?_⟩
  have hx0 : 0 ≤ cells[i] := h5 _ (List.getElem_mem hil)
  generalize cells[i] = x at hx0
  refine var_ok (v := .int x) rfl ⟨10, 18, rfl, rfl, ⟨by decide, by decide, by decide⟩, x, _, rfl, rfl, _, rfl, ?_⟩
  split
  · -- the cell is a long one: its own digits are taken
    refine var_ok (v := .int x) rfl ?_
    refine var_ok (v := .int n) rfl ⟨x, n, rfl, rfl, ⟨hn1, hn2⟩, ?_⟩
    refine var_ok (v := .ref c) rfl ?_
    refine var_ok (v := .int i) rfl ⟨c, _, _, i, rfl, rfl, h2, ?_, ?_⟩
    · unfold ixN
      rw [List.length_map, if_pos (Int.natCast_nonneg i), if_pos (by omega)]
      rfl
    · refine var_ok (v := .int x) rfl ?_
      refine Or.inl ⟨x, rfl, ?_⟩
      refine var_ok (v := .int n) rfl ?_
      refine mod_ok hn1 ?_
      refine fin _ _ (Int.emod_nonneg _ (by omega)) (Int.emod_lt_of_pos _ hn1) (fun a n1 n2 => upd_ne n2) ?_
      refine ⟨dc, cells.set i (x / n), p, m, t, ?_, ?_, ?_, ?_, ?_, h6, h7, h8⟩
      · rw [upd_ne dc]; exact h1
      · rw [upd_same, List.map_set]
      · intro z
        have := congrArg List.length z
        rw [List.length_set, List.length_nil] at this
        omega
      · rw [List.length_set]; exact h4
      · intro y hy
        rcases List.mem_or_eq_of_mem_set hy with hy | rfl
        · exact h5 y hy
        · exact Int.ediv_nonneg hx0 (by omega)
  · -- the draw's own counting
    refine it_ok (i := 1) (fun Q' q => var_ok rfl q) h1 rfl ⟨p, 1, rfl, rfl, ?_⟩
    refine var_ok (v := .ref d) rfl ⟨d, _, 1, 1, rfl, rfl, h1, rfl, ?_⟩
    have g1 : upd H d (.lst [.ref c, .int (p + 1), .int m, .int t]) d = some (.lst [.ref c, .int (p + 1), .int m, .int t]) := upd_same
    refine it_ok (i := 3) (fun Q' q => var_ok rfl q) g1 rfl ⟨t, 1, rfl, rfl, ?_⟩
    refine var_ok (v := .ref d) rfl ⟨d, _, 3, 3, rfl, rfl, g1, rfl, ?_⟩
    have g2 : upd (upd H d (.lst [.ref c, .int (p + 1), .int m, .int t])) d (.lst [.ref c, .int (p + 1), .int m, .int (t + 1)]) d = some (.lst [.ref c, .int (p + 1), .int m, .int (t + 1)]) := upd_same
    refine it_ok (i := 2) (fun Q' q => var_ok rfl q) g2 rfl ⟨m, 48271, rfl, rfl, Or.inr ⟨by decide, by decide⟩, ?_⟩
    refine var_ok (v := .int x) rfl ⟨_, x, rfl, rfl, ?_⟩
    refine it_ok (i := 3) (fun Q' q => var_ok rfl q) g2 rfl ⟨7919, t + 1, rfl, rfl, Or.inl ⟨by decide, by decide⟩, _, _, rfl, rfl, ?_⟩
    refine ⟨_, 12345, rfl, rfl, Or.inl ⟨_, rfl, mod_ok (by decide) ?_⟩⟩
    refine var_ok (v := .ref d) rfl ⟨d, _, 2, 2, rfl, rfl, g2, rfl, ?_⟩
    generalize hm : (m * 48271 + x + 7919 * (t + 1) + 12345) % 2147483647 = m2
    have m0 : 0 ≤ m2 ∧ m2 < 2147483647 := by subst hm; exact ⟨Int.emod_nonneg _ (by decide), Int.emod_lt_of_pos _ (by decide)⟩
    have g3 : upd (upd (upd H d (.lst [.ref c, .int (p + 1), .int m, .int t])) d (.lst [.ref c, .int (p + 1), .int m, .int (t + 1)])) d (.lst [.ref c, .int (p + 1), .int m2, .int (t + 1)]) d = some (.lst [.ref c, .int (p + 1), .int m2, .int (t + 1)]) := upd_same
    have big : (2147483647 : Int) < 2 ^ 64 := by decide
    refine it_ok (i := 2) (fun Q' q => var_ok rfl q) g3 rfl ?_
    refine it_ok (i := 2) (fun Q' q => var_ok rfl q) g3 rfl ⟨m2, m2, rfl, rfl, Or.inl ⟨by omega, by omega⟩, Or.inl ⟨_, rfl, mod_ok (by decide) ?_⟩⟩
    simp only [gName, tRet, tOp, tCB, tCons, tC, tNil, List.set]
    refine var_ok (v := .int (m2 * m2 % 2147483629)) rfl ⟨_, 16, rfl, rfl, ⟨by decide, by decide⟩, Or.inl ⟨_, rfl, ?_⟩⟩
    refine var_ok (v := .int n) rfl ?_
    refine mod_ok hn1 ?_
    refine fin _ _ (Int.emod_nonneg _ (by omega)) (Int.emod_lt_of_pos _ hn1) (fun a n1 n2 => by rw [upd_ne n1, upd_ne n1, upd_ne n1]) ?_
    refine ⟨dc, cells, p + 1, m2, t + 1, g3, ?_, h3, h4, h5, by omega, m0, by omega⟩
    rw [upd_ne (Ne.symm dc), upd_ne (Ne.symm dc), upd_ne (Ne.symm dc)]
    exact h2
end
theorem p_var {X : Cx} {i : Nat} {x : Str} {pos : Pos} (hN : X.N[i]? = some x := by rfl) (hv : Vis X.env.scope x := by first | exact Or.inl rfl | exact Or.inr (Or.inl rfl) | exact Or.inr (Or.inr rfl)) (hd : (x == ("__debug__" : Str)) = false := by decide)
    (hcd : (x == ("__classdict__" : Str)) = false := by decide) : PE X (.Name x pos) (tVar i) := pe_var hN hv hd hcd
end VL

set_option Elab.async false
set_option linter.all false
set_option maxRecDepth 100000
set_option maxHeartbeats 4000000
/-! VL10: readings of data, one equation a shape; values that two ways come to. -/
namespace VL
open PySem PySem.Spec L2
open PyProof.Rows hiding St
section
variable {Q : D → Prop} {a b : Str} {i j : Int} {x y : D} {xs ys : List D} {neg : Bool} {k : Bool → Prop}
theorem asB_e {c : Bool} : asB (.bl c) k = k c := rfl
theorem asI_e {k : Int → Prop} : asI (.int i) k = k i := rfl
theorem asL_e {k : List D → Prop} : asL (.lst xs) k = k xs := rfl
theorem asT_e {k : List D → Prop} : asT (.tup xs) k = k xs := rfl
theorem asS_e {k : Str → Prop} : asS (.str a) k = k a := rfl
theorem rngOf_e {k : List D → Prop} : rngOf [.int j] k = ((-(2 ^ 62) ≤ j ∧ j < 2 ^ 62) ∧ k (rangeD j.toNat)) := rfl
theorem rdEq_s : rdEq (.str a) (.str b) Q = Q (.bl (decide (a = b))) := rfl
theorem rdEq_i : rdEq (.int i) (.int j) Q = Q (.bl (decide (i = j))) := rfl
theorem rdEq_l : rdEq (.lst xs) y Q = (okE (.lst xs) ∧ okE y ∧ Q (.bl (eqD (.lst xs) y))) := rfl
theorem rdEq_t : rdEq (.tup xs) y Q = (okE (.tup xs) ∧ okE y ∧ Q (.bl (eqD (.tup xs) y))) := rfl
theorem rdEq_b {c : Bool} : rdEq (.bl c) y Q = (okE (.bl c) ∧ okE y ∧ Q (.bl (eqD (.bl c) y))) := rfl
theorem rdEq_n : rdEq .non y Q = (okE .non ∧ okE y ∧ Q (.bl (eqD .non y))) := rfl
theorem rdEq_sn : rdEq (.str a) .non Q = (okE (.str a) ∧ okE .non ∧ Q (.bl (eqD (.str a) .non))) := rfl
theorem rdNe_s : rdNe (.str a) (.str b) Q = Q (.bl (!decide (a = b))) := rfl
theorem rdNe_i : rdNe (.int i) (.int j) Q = Q (.bl (!decide (i = j))) := rfl
theorem rdNe_l : rdNe (.lst xs) y Q = (okE (.lst xs) ∧ okE y ∧ Q (.bl (!eqD (.lst xs) y))) := rfl
theorem rdNe_t : rdNe (.tup xs) y Q = (okE (.tup xs) ∧ okE y ∧ Q (.bl (!eqD (.tup xs) y))) := rfl
theorem rdNe_b {c : Bool} : rdNe (.bl c) y Q = (okE (.bl c) ∧ okE y ∧ Q (.bl (!eqD (.bl c) y))) := rfl
theorem rdNe_n : rdNe .non y Q = (okE .non ∧ okE y ∧ Q (.bl (!eqD .non y))) := rfl
theorem rdNe_sn : rdNe (.str a) .non Q = (okE (.str a) ∧ okE .non ∧ Q (.bl (!eqD (.str a) .non))) := rfl
theorem rdIn_l : rdIn neg x (.lst ys) Q = (okE x ∧ okE (.lst ys) ∧ Q (.bl (neg ^^ isIn x ys))) := by cases x <;> rfl
theorem rdIn_t : rdIn neg x (.tup ys) Q = (okE x ∧ okE (.tup ys) ∧ Q (.bl (neg ^^ isIn x ys))) := by cases x <;> rfl
theorem rdIn_s {c : Nat} : rdIn neg (.str ⟨#[c]⟩) (.str b) Q = Q (.bl (neg ^^ decide (c ∈ b.cps.toList))) := by
  refine propext ⟨fun h => ?_, fun h => ⟨c, rfl, h⟩⟩
  obtain ⟨c', e, q⟩ := h
  cases e
  exact q
theorem rdI0_e {g : Int → Int → D} : rdI0 g (.int i) (.int j) Q = Q (g i j) := rfl
theorem rdI_e {C : Int → Int → Prop} {g : Int → Int → D} : rdI C g (.int i) (.int j) Q = (C i j ∧ Q (g i j)) := rfl
theorem rdAdd_i : rdAdd (.int i) (.int j) Q = Q (.int (i + j)) := rfl
theorem rdAdd_s : rdAdd (.str a) (.str b) Q = (a.length + b.length ≤ sizeLine ∧ Q (.str (a ++ b))) := rfl
theorem rdAdd_l : rdAdd (.lst xs) (.lst ys) Q = (xs.length + ys.length ≤ sizeLine ∧ Q (.lst (xs ++ ys))) := rfl
theorem rdMul_i : rdMul (.int i) (.int j) Q = (CMul i j ∧ Q (.int (i * j))) := rfl
theorem rdMul_l : rdMul (.lst xs) (.int j) Q = ((-(2 ^ 63) ≤ j ∧ j < 2 ^ 63) ∧ xs.length * j.toNat ≤ sizeLine ∧ Q (.lst (List.replicate j.toNat xs).flatten)) := rfl
theorem rdIx_l : rdIx (.lst xs) (.int i) Q = ∃ d, atI xs i = some d ∧ Q d := rfl
theorem rdIx_t : rdIx (.tup xs) (.int i) Q = ∃ d, atI xs i = some d ∧ Q d := rfl
theorem rdIx_s : rdIx (.str a) (.int i) Q = (a.length ≤ sizeLine ∧ ∃ c, atI a.cps.toList i = some c ∧ Q (.str ⟨#[c]⟩)) := rfl
theorem rdSlA_l {lo hi : Option Int} : rdSlA (.lst xs) lo hi Q = Q (.lst (cutD xs lo hi)) := rfl
theorem rdSlA_s {lo hi : Option Int} : rdSlA (.str a) lo hi Q = (a.length ≤ sizeLine ∧ Q (.str (cutS a lo hi))) := rfl
theorem rdLen_l : rdLen [.lst xs] Q = Q (.int xs.length) := rfl
theorem rdLen_t : rdLen [.tup xs] Q = Q (.int xs.length) := rfl
theorem rdLen_f {ns : List Int} : rdLen [.fz ns] Q = Q (.int ns.length) := rfl
theorem rdLen_s : rdLen [.str a] Q = (a.length ≤ sizeLine ∧ Q (.int a.length)) := rfl
theorem rdAll_e : rdAll [.lst xs] Q = ∃ bs, asBs xs = some bs ∧ Q (.bl (bs.all id)) := rfl
theorem rdAny_e : rdAny [.lst xs] Q = ∃ bs, asBs xs = some bs ∧ Q (.bl (bs.any id)) := rfl
theorem rdAbs_e : rdAbs [.int i] Q = Q (.int (if i < 0 then -i else i)) := rfl
theorem rdInt_i : rdInt [.int i] Q = Q (.int i) := rfl
theorem rdMin2_e : rdMin2 [.int i, .int j] Q = Q (.int (if j < i then j else i)) := rfl
theorem rdList_l {Q : List D → Prop} : rdList [.lst xs] Q = Q xs := rfl
theorem rdListA_l {Q : List D → Prop} : rdListA [.lst xs] Q = Q xs := rfl
theorem rdListA_t {Q : List D → Prop} : rdListA [.tup xs] Q = Q xs := rfl
theorem rdListA_s {Q : List D → Prop} : rdListA [.str a] Q = (a.length ≤ sizeLine ∧ Q (signsD a)) := rfl
theorem rdTuple_l : rdTuple [.lst xs] Q = Q (.tup xs) := rfl
theorem rdTuple_t : rdTuple [.tup xs] Q = Q (.tup xs) := rfl
theorem rdIsi_e {T : String} : rdIsi [x, .ty T] Q = ∃ n b, tyName x = some n ∧ kitB n T = some b ∧ Q (.bl b) := rfl
theorem tyN_non : tyName .non = some "NoneType" := rfl
theorem tyN_bl {c : Bool} : tyName (.bl c) = some "bool" := rfl
theorem tyN_int : tyName (.int i) = some "int" := rfl
theorem tyN_str : tyName (.str a) = some "str" := rfl
theorem tyN_lst : tyName (.lst xs) = some "list" := rfl
theorem tyN_tup : tyName (.tup xs) = some "tuple" := rfl
theorem tyN_dic {ks : List Key} : tyName (.dic ks xs) = some "dict" := rfl
theorem keyOf_s : keyOf (.str a) = some (.inr a) := rfl
theorem keyOf_i : keyOf (.int i) = some (.inl i) := rfl
theorem repr_ok (d : D) (h : (∃ xs, d = .lst xs) ∨ ∃ xs, d = .tup xs) (o : okR d) (q : Q (.str (PyData.shown (py d)))) : rdRepr [d] Q := by
  rcases h with ⟨xs, rfl⟩ | ⟨xs, rfl⟩
  · exact ⟨o, q⟩
  · exact ⟨o, q⟩
end
section
variable {da db : TDE} {Γ : Gm} {Q : D → Gm → Prop}
/-- and, or, an if: values known, one way on -/
theorem andV_ok (b1 b2 : Bool) (h1 : ∀ K : D → Gm → Prop, K (.bl b1) Γ → da Γ K) (h2 : b1 = true → ∀ K : D → Gm → Prop, K (.bl b2) Γ → db Γ K) (q : Q (.bl (b1 && b2)) Γ) : rdAndV da db Γ Q := by
  refine h1 _ ?_
  show if b1 = true then db Γ Q else Q (.bl false) Γ
  cases b1 with
  | false => exact q
  | true => exact h2 rfl _ q
theorem orV_ok (b1 b2 : Bool) (h1 : ∀ K : D → Gm → Prop, K (.bl b1) Γ → da Γ K) (h2 : b1 = false → ∀ K : D → Gm → Prop, K (.bl b2) Γ → db Γ K) (q : Q (.bl (b1 || b2)) Γ) : rdOrV da db Γ Q := by
  refine h1 _ ?_
  show if b1 = true then Q (.bl true) Γ else db Γ Q
  cases b1 with
  | true => exact q
  | false => exact h2 rfl _ q
theorem chain_ok {r1 r2 : RD2} {dc : TDE} (b1 b2 : Bool) (x y z : D) (hx : ∀ K : D → Gm → Prop, K x Γ → da Γ K) (hy : ∀ K : D → Gm → Prop, K y Γ → db Γ K) (h1 : ∀ K : D → Prop, K (.bl b1) → r1 x y K)
    (hz : b1 = true → ∀ K : D → Gm → Prop, K z Γ → dc Γ K) (h2 : b1 = true → ∀ K : D → Prop, K (.bl b2) → r2 y z K) (q : Q (.bl (b1 && b2)) Γ) : rdChain r1 r2 da db dc Γ Q := by
  refine hx _ (hy _ (h1 _ ?_))
  show if b1 = true then dc Γ (fun dz Γ3 => r2 y dz fun e => Q e Γ3) else Q (.bl false) Γ
  cases b1 with
  | false => exact q
  | true => exact hz rfl _ (h2 rfl _ q)
end
/-! ### repr's equality of lists of bools -/
end VL

set_option Elab.async false
set_option linter.all false
set_option maxRecDepth 100000
set_option maxHeartbeats 4000000
/-! VL11: the rules with the fragment's name told, for use inside comprehensions. -/
namespace VL
open PySem PySem.Spec L2
open PyProof.Rows hiding St
section
variable {X : Cx} {K : PySem.W.Frag}
theorem opK {op : Value → Value → Sem Value} (r : PySem.W.Frag → R2) (hK : X.K = K) (h : OpR X op (r X.K)) : OpR X op (r K) := by subst hK; exact h
theorem ixK (r : PySem.W.Frag → R2) (hK : X.K = K) (h : IxR X (r X.K)) : IxR X (r K) := by subst hK; exact h
theorem slK (r : PySem.W.Frag → V → Option Int → Option Int → Hp → VK → Prop) (hK : X.K = K) (h : SlR X (r X.K)) : SlR X (r K) := by subst hK; exact h
theorem crK {f : Value} (r : PySem.W.Frag → List V → Hp → VK → Prop) (hK : X.K = K) (h : CallR X f (r X.K)) : CallR X f (r K) := by subst hK; exact h
variable {W : Wc} {tg e : Expr} {es rest : List Expr} {te ta tb : TE} {de da db : TDE} {t : TA} {dt : TDF} {p pos apos cpos : Pos} {x : Str} {CX : CXT} {k : Nat} {f : Addr} {fd : FuncData} {ps : List Str} {F : FD} {FV : Addr → FD} {dvs : List V} {dds : List D} {ds : List Value} {E : XK} {d c : Addr} {a b : Expr} {i : Nat}
theorem di_listK (hK : X.K = K) (he : DE W X e te de) : DI W X tg e (iList K te) (rdILst de) := by subst hK; exact di_list he
theorem di_tupK (hK : X.K = K) (he : DE W X e te de) : DI W X tg e (iTup K te) (rdITup de) := by subst hK; exact di_tup he
theorem dg_tupK {tgs : List Expr} {kk : Nat} {u : TGs} {ud} {is : List Nat} {n : Nat} (hK : X.K = K) (hc : X.calm = true) (h : DGs W X tgs u ud is)
    (hn : (assignEach tgs X.env).length = n := by rfl) (hst : (assignEach tgs X.env).findIdx? (·.1) = none := by rfl) : DG W X (.Tuple tgs kk pos) (gTup K n u) (rgTup n ud) is := by subst hK; exact dg_tup hc h hn hst
theorem d_orTK (hK : X.K = K) (ha : DE W X a ta da) (hb : DE W X (.BoolOp .Or (b :: rest) pos) tb db) : DE W X (.BoolOp .Or (a :: b :: rest) pos) (tOrT K ta tb) (rdOrT da db) := by subst hK; exact d_orT ha hb
theorem d_callPK (hK : X.K = K) (G : FnOk X.prog X.w K X.mg X.base CX k f fd ps (spD Vol.no K F)) (hr : Room k X.A) (hg : Gl X x) (hm : X.mg x = some (.ref f)) (hk : PySem.W.keepIn K (.ref f) = true) (hb : Binds K fd ps ds) (hd : Vals dvs ds) (hdd : ∀ H, RpAll K H dvs dds) (hx : Passes CX X E)
    (ha : DA W X (e :: es) t dt) (hdb : (x == ("__debug__" : Str)) = false := by decide) (he : starEach (e :: es) X.env = (false, eval e X.env) :: starEach es X.env := by rfl) (hpl : (backTo pos (starEach es X.env)).any (·.1) = false := by rfl) :
    DE W X (.Call (.Name x p) (e :: es) [] pos) (tCall (spD Vol.no K F) dvs E t) (rdCall F dds dt) := by subst hK; exact d_callP G hr hg hm hk hb hd hdd hx ha hdb he hpl
theorem d_callVK (hK : X.K = K) (G : FnOk X.prog X.w K X.mg X.base CX k f fd ps (spV K FV)) (hJ : W.J = drawJ d c) (hr : Room k X.A) (hg : Gl X x) (hm : X.mg x = some (.ref f)) (hk : PySem.W.keepIn K (.ref f) = true) (hb : Binds K fd ps ds) (hd : Vals dvs ds) (hdd : ∀ H, RpAll K H dvs dds) (hx : Passes CX X E)
    (ha : DA W X (e :: es) t dt) (hdb : (x == ("__debug__" : Str)) = false := by decide) (he : starEach (e :: es) X.env = (false, eval e X.env) :: starEach es X.env := by rfl) (hpl : (backTo pos (starEach es X.env)).any (·.1) = false := by rfl) :
    DE W X (.Call (.Name x p) (e :: es) [] pos) (tCall (spV K FV) dvs E t) (rdCall (FV d) dds dt) := by subst hK; exact d_callV G hJ hr hg hm hk hb hd hdd hx ha hdb he hpl
theorem d_callGPK (hK : X.K = K) (G : FnG X.prog X.w K X.mg X.base CX k f fd ps (spD Vol.no K F)) (hgd : X.A.guards = some []) (hr : Room k X.A) (hg : Gl X x) (hm : X.mg x = some (.ref f)) (hk : PySem.W.keepIn K (.ref f) = true) (hb : Binds K fd ps ds) (hd : Vals dvs ds) (hdd : ∀ H, RpAll K H dvs dds) (hx : Passes CX X E)
    (ha : DA W X (e :: es) t dt) (hdb : (x == ("__debug__" : Str)) = false := by decide) (he : starEach (e :: es) X.env = (false, eval e X.env) :: starEach es X.env := by rfl) (hpl : (backTo pos (starEach es X.env)).any (·.1) = false := by rfl) :
    DE W X (.Call (.Name x p) (e :: es) [] pos) (tCall (spD Vol.no K F) dvs E t) (rdCall F dds dt) := by subst hK; exact d_callGP G hgd hr hg hm hk hb hd hdd hx ha hdb he hpl
theorem d_callVGK (hK : X.K = K) (G : FnG X.prog X.w K X.mg X.base CX k f fd ps (spV K FV)) (hJ : W.J = drawJ d c) (hgd : X.A.guards = some []) (hr : Room k X.A) (hg : Gl X x) (hm : X.mg x = some (.ref f)) (hk : PySem.W.keepIn K (.ref f) = true) (hb : Binds K fd ps ds) (hd : Vals dvs ds) (hdd : ∀ H, RpAll K H dvs dds) (hx : Passes CX X E)
    (ha : DA W X (e :: es) t dt) (hdb : (x == ("__debug__" : Str)) = false := by decide) (he : starEach (e :: es) X.env = (false, eval e X.env) :: starEach es X.env := by rfl) (hpl : (backTo pos (starEach es X.env)).any (·.1) = false := by rfl) :
    DE W X (.Call (.Name x p) (e :: es) [] pos) (tCall (spV K FV) dvs E t) (rdCall (FV d) dds dt) := by subst hK; exact d_callVG G hJ hgd hr hg hm hk hb hd hdd hx ha hdb he hpl
theorem d_callKwPK {ks : List Str} {g : List Value → List Value → List Value} {kws : List Keyword} (hK : X.K = K) (G : FnOk X.prog X.w K X.mg X.base CX k f fd ps (spD Vol.no K F)) (hr : Room k X.A) (hg : Gl X x) (hm : X.mg x = some (.ref f))
    (hk : PySem.W.keepIn K (.ref f) = true) (hb : KBn K fd ps 0 ks g (fun _ zs => zs)) (hx : Passes CX X E) (hkw : DK W X kws t dt) (hall : (backToKw pos (keywordEach kws X.env)).all (·.1.isSome) = true := by rfl)
    (hks : (backToKw pos (keywordEach kws X.env)).filterMap (·.1) = ks := by rfl) (hdb : (x == ("__debug__" : Str)) = false := by decide)
    (hpl : ((backTo pos (starEach [] X.env)).any (·.1) || (backToKw pos (keywordEach kws X.env)).any (·.1.isNone)) = false := by rfl) :
    DE W X (.Call (.Name x p) [] kws pos) (tCallKw ks.length (spD Vol.no K F) (fun _ zs => zs) E t) (rdCallKw ks.length F dt) := by subst hK; exact d_callKwP G hr hg hm hk hb hx hkw hall hks hdb hpl
end
def rTupOf (K : PySem.W.Frag) : List V → Hp → VK → Prop := fun xs H Q => ∃ p ys, xs = [.ref p] ∧ ((SqL K H p ys ∧ ∀ l, H l = none → Q (.ref l) (upd H l (.tup ys))) ∨ (SqT K H p ys ∧ Q (.ref p) H))
theorem rgTup_e {n : Nat} {u : List D → Gm → (Gm → Prop) → Prop} {ds : List D} {Γ : Gm} {Q : Gm → Prop} : rgTup n u (.tup ds) Γ Q = (ds.length = n ∧ u ds Γ Q) := rfl
theorem rgCons_e {t : TDG} {u : List D → Gm → (Gm → Prop) → Prop} {d : D} {r : List D} {Γ : Gm} {Q : Gm → Prop} : rgCons t u (d :: r) Γ Q = t d Γ fun Γ1 => u r Γ1 Q := rfl
theorem rgNil_e {ds : List D} {Γ : Gm} {Q : Gm → Prop} : rgNil ds Γ Q = (ds = [] ∧ Q Γ) := rfl
end VL

set_option Elab.async false
set_option linter.all false
set_option maxRecDepth 100000
set_option maxHeartbeats 4000000
namespace K02
open PySem PySem.Spec L2 VL
open PyProof.Rows hiding St
/-! ### the text -/
def topS (i : Nat) : Stmt := PySem.Challenge.pw_guardlots_k02_words_and_class_names.main.body.getD i (.Pass ⟨0, 0, 0, 0⟩)
abbrev s_is_word : Stmt := topS 4
abbrev N_is_word : List Str := ["value", "sign"]
theorem sc_is_word : FnScope N_is_word ["value"] (defScope s_is_word) := ⟨rfl, rfl, rfl, by decide +kernel, rfl, by decide +kernel, by decide +kernel⟩
abbrev s_is_class_name : Stmt := topS 5
abbrev N_is_class_name : List Str := ["value", "sign"]
theorem sc_is_class_name : FnScope N_is_class_name ["value"] (defScope s_is_class_name) := ⟨rfl, rfl, rfl, by decide +kernel, rfl, by decide +kernel, by decide +kernel⟩
abbrev s__law_begin : Stmt := topS 7
abbrev N__law_begin : List Str := ["_law_script", "_law_cell"]
theorem sc__law_begin : FnScope N__law_begin ["_law_script"] (defScope s__law_begin) := ⟨rfl, rfl, rfl, by decide +kernel, rfl, by decide +kernel, by decide +kernel⟩
abbrev s__law_take : Stmt := topS 8
abbrev N__law_take : List Str := ["_law_draw", "_law_many", "_law_cells", "_law_place", "_law_cell", "_law_mixed"]
theorem sc__law_take : FnScope N__law_take ["_law_draw", "_law_many"] (defScope s__law_take) := ⟨rfl, rfl, rfl, by decide +kernel, rfl, by decide +kernel, by decide +kernel⟩
abbrev s__law_pick : Stmt := topS 9
abbrev N__law_pick : List Str := ["_law_draw", "_law_some"]
theorem sc__law_pick : FnScope N__law_pick ["_law_draw", "_law_some"] (defScope s__law_pick) := ⟨rfl, rfl, rfl, by decide +kernel, rfl, by decide +kernel, by decide +kernel⟩
abbrev s__law_text : Stmt := topS 10
abbrev N__law_text : List Str := ["_law_draw", "_law_small", "_law_large", "_law_found", "_law_turn", "_law_odd"]
theorem sc__law_text : FnScope N__law_text ["_law_draw"] (defScope s__law_text) := ⟨rfl, rfl, rfl, by decide +kernel, rfl, by decide +kernel, by decide +kernel⟩
abbrev s__law_is_small : Stmt := topS 11
abbrev N__law_is_small : List Str := ["_law_note", "_law_sign"]
theorem sc__law_is_small : FnScope N__law_is_small ["_law_note"] (defScope s__law_is_small) := ⟨rfl, rfl, rfl, by decide +kernel, rfl, by decide +kernel, by decide +kernel⟩
abbrev s_law : Stmt := topS 12
abbrev N_law : List Str := ["_law_script", "_law_draw", "_law_turn", "_law_note", "_law_due", "_law_odd"]
theorem sc_law : FnScope N_law ["_law_script"] (defScope s_law) := ⟨rfl, rfl, rfl, by decide +kernel, rfl, by decide +kernel, by decide +kernel⟩
/-! ### what the top has left -/
structure Txt (K : PySem.W.Frag) (mg : Str → Option Value) where
  a_is_word : Addr
  fd_is_word : FuncData
  F_is_word : Fun K "is_word" "is_word" s_is_word a_is_word fd_is_word
  g_is_word : mg "is_word" = some (.ref a_is_word)
  b_is_word : Binds K fd_is_word ["value"] []
  kw_is_word : KBn K fd_is_word ["value"] 0 ["value"] (fun _ ws => ws) (fun _ zs => zs)
  a_is_class_name : Addr
  fd_is_class_name : FuncData
  F_is_class_name : Fun K "is_class_name" "is_class_name" s_is_class_name a_is_class_name fd_is_class_name
  g_is_class_name : mg "is_class_name" = some (.ref a_is_class_name)
  b_is_class_name : Binds K fd_is_class_name ["value"] []
  kw_is_class_name : KBn K fd_is_class_name ["value"] 0 ["value"] (fun _ ws => ws) (fun _ zs => zs)
  a__law_begin : Addr
  fd__law_begin : FuncData
  F__law_begin : Fun K "_law_begin" "_law_begin" s__law_begin a__law_begin fd__law_begin
  g__law_begin : mg "_law_begin" = some (.ref a__law_begin)
  b__law_begin : Binds K fd__law_begin ["_law_script"] []
  a__law_take : Addr
  fd__law_take : FuncData
  F__law_take : Fun K "_law_take" "_law_take" s__law_take a__law_take fd__law_take
  g__law_take : mg "_law_take" = some (.ref a__law_take)
  b__law_take : Binds K fd__law_take ["_law_draw", "_law_many"] []
  a__law_pick : Addr
  fd__law_pick : FuncData
  F__law_pick : Fun K "_law_pick" "_law_pick" s__law_pick a__law_pick fd__law_pick
  g__law_pick : mg "_law_pick" = some (.ref a__law_pick)
  b__law_pick : Binds K fd__law_pick ["_law_draw", "_law_some"] []
  a__law_text : Addr
  fd__law_text : FuncData
  F__law_text : Fun K "_law_text" "_law_text" s__law_text a__law_text fd__law_text
  g__law_text : mg "_law_text" = some (.ref a__law_text)
  b__law_text : Binds K fd__law_text ["_law_draw"] []
  a__law_is_small : Addr
  fd__law_is_small : FuncData
  F__law_is_small : Fun K "_law_is_small" "_law_is_small" s__law_is_small a__law_is_small fd__law_is_small
  g__law_is_small : mg "_law_is_small" = some (.ref a__law_is_small)
  b__law_is_small : Binds K fd__law_is_small ["_law_note"] []
  a_law : Addr
  fd_law : FuncData
  F_law : Fun K "law" "law" s_law a_law fd_law
  g_law : mg "law" = some (.ref a_law)
  b_law : Binds K fd_law ["_law_script"] []
  t_LARGE : Tok
  m_LARGE : mg "LARGE" = some (.str "ABCDEFGHIJKLMNOPQRSTUVWXYZ" t_LARGE)
  t_LONGEST : Tok
  m_LONGEST : mg "LONGEST" = some (.int 8 t_LONGEST)
  t_SMALL : Tok
  m_SMALL : mg "SMALL" = some (.str "abcdefghijklmnopqrstuvwxyz" t_SMALL)
  n_abs : mg "abs" = none
  n_all : mg "all" = none
  n_int : mg "int" = none
  n_isinstance : mg "isinstance" = none
  n_len : mg "len" = none
  n_list : mg "list" = none
  n_range : mg "range" = none
  n_repr : mg "repr" = none
  n_str : mg "str" = none
/-! ### what the defs tell -/
def smalls : Str := "abcdefghijklmnopqrstuvwxyz"
def larges : Str := "ABCDEFGHIJKLMNOPQRSTUVWXYZ"
def okS (z : Str) : Prop := z.length ≤ 100 ∧ PyData.strOk z = true
def okV : D → Prop
  | .str z => z.length ≤ 100
  | d => tyName d ≠ none
def isW : D → Bool
  | .str z => decide (1 ≤ z.length) && decide (z.length ≤ 8) && z.cps.toList.all fun c => decide (c ∈ smalls.cps.toList)
  | _ => false
def isC : D → Bool
  | .str z => decide (1 ≤ z.length) && decide (z.length ≤ 8) && (match z.cps.toList with | c :: r => decide (c ∈ larges.cps.toList) && r.all fun c => decide (c ∈ smalls.cps.toList) | [] => false)
  | _ => false
def Fis_word : FD := fun ds Q => ∃ d, ds = [d] ∧ okV d ∧ Q (.bl (isW d))
def Fis_class_name : FD := fun ds Q => ∃ d, ds = [d] ∧ okV d ∧ Q (.bl (isC d))
def Fsmall : FD := fun ds Q => ∃ z : Str, ds = [.str z] ∧ okS z ∧ Q (.bl (z.cps.toList.all fun c => decide (c ∈ smalls.cps.toList)))
def Ftext (d : Addr) : FD := fun ds Q => ds = [.ref d] ∧ ∀ z : Str, okS z → Q (.str z)
theorem len__law_begin {ds : List D} {Q : D → Prop} (h : Fbegin ds Q) : ds.length = 1 := len_begin h
theorem len__law_pick {d : Addr} {ds : List D} {Q : D → Prop} (h : FpickS d ds Q) : ds.length = 2 := len_pickS h
theorem len_is_word {ds : List D} {Q : D → Prop} (h : Fis_word ds Q) : ds.length = 1 := by obtain ⟨d, rfl, _⟩ := h; rfl
theorem len_is_class_name {ds : List D} {Q : D → Prop} (h : Fis_class_name ds Q) : ds.length = 1 := by obtain ⟨d, rfl, _⟩ := h; rfl
theorem len__law_is_small {ds : List D} {Q : D → Prop} (h : Fsmall ds Q) : ds.length = 1 := by obtain ⟨d, rfl, _⟩ := h; rfl
theorem len__law_text {d : Addr} {ds : List D} {Q : D → Prop} (h : Ftext d ds Q) : ds.length = 1 := by obtain ⟨rfl, _⟩ := h; rfl
def rd_is_word : TDS :=
    (rdRet (rdAndV (rdCB rdIsi (rdCons (rdVar 0) (rdCons (rdC (.ty "str")) rdNil))) (rdAndV (rdChain (rdI0 fun i j => .bl (decide (i ≤ j))) (rdI0 fun i j => .bl (decide (i ≤ j))) (rdC (.int 1)) (rdCB rdLen (rdCons (rdVar 0) rdNil)) (rdC (.int 8))) (rdCB rdAll (rdCons (rdShare (rdLc (rdIStr (rdVar 0)) (rgName 1) (fun Γ Q => Q true Γ) (rdOp (rdIn false) (rdVar 1) (rdC (.str "abcdefghijklmnopqrstuvwxyz"))) [1])) rdNil)))))
def rd_is_class_name : TDS :=
    (rdSeq (rdIfS (rdOr (rdNot (rdTest (rdCB rdIsi (rdCons (rdVar 0) (rdCons (rdC (.ty "str")) rdNil))))) (rdOr (rdNot (rdTest (rdChain (rdI0 fun i j => .bl (decide (i ≤ j))) (rdI0 fun i j => .bl (decide (i ≤ j))) (rdC (.int 1)) (rdCB rdLen (rdCons (rdVar 0) rdNil)) (rdC (.int 8))))) (rdTest (rdOp (rdIn true) (rdOp rdIx (rdVar 0) (rdC (.int 0))) (rdC (.str "ABCDEFGHIJKLMNOPQRSTUVWXYZ")))))) (rdRet (rdC (.bl false))) rdNext)
    (rdRet (rdCB rdAll (rdCons (rdShare (rdLc (rdIStr (rdSl rdSlA (rdVar 0) (rdPart (rdC (.int 1))) rdNoPart)) (rgName 1) (fun Γ Q => Q true Γ) (rdOp (rdIn false) (rdVar 1) (rdC (.str "abcdefghijklmnopqrstuvwxyz"))) [1])) rdNil))))
def rd__law_begin : TDS :=
    (rdRet (rdShare (rdLst (rdCons (rdOrT (rdShare (rdLc (rdILst (rdSl rdSlA (rdVar 0) rdNoPart (rdPart (rdC (.int 63))))) (rgName 1) (fun Γ Q => Q true Γ) (rdCB rdAbs (rdCons (rdVar 1) rdNil)) [1])) (rdShare (rdLst (rdCons (rdC (.int 7)) rdNil)))) (rdCons (rdC (.int 0)) (rdCons (rdC (.int 1)) (rdCons (rdC (.int 0)) rdNil)))))))
def rd__law_pick (d : Addr) : TDS :=
    (rdRet (rdOp rdIx (rdVar 1) (rdCall (Ftake d) [] (rdCons (rdVar 0) (rdCons (rdCB rdLen (rdCons (rdVar 1) rdNil)) rdNil)))))
def rd__law_text (d : Addr) : TDS :=
    (rdSeq (rdAsg (rdTup (rdCons (rdC (.str "abcdefghijklmnopqrstuvwxyz")) (rdCons (rdC (.str "ABCDEFGHIJKLMNOPQRSTUVWXYZ")) rdNil))) (rgTup 2 (rgCons (rgName 1) (rgCons (rgName 2) rgNil))))
    (rdSeq (rdAsg (rdCall (FpickS d) [] (rdCons (rdVar 0) (rdCons (rdShare (rdLst (rdCons (rdC (.str "")) (rdCons (rdCall (FpickS d) [] (rdCons (rdVar 0) (rdCons (rdVar 2) rdNil))) (rdCons (rdCall (FpickS d) [] (rdCons (rdVar 0) (rdCons (rdVar 1) rdNil))) rdNil))))) rdNil))) (rgName 3))
    (rdSeq (rdFor (rdIRng (rdCons (rdCall (Ftake d) [] (rdCons (rdVar 0) (rdCons (rdC (.int 11)) rdNil))) rdNil)) (rgName 4) (rdSeq (rdAsg (rdCall (FpickS d) [] (rdCons (rdVar 0) (rdCons (rdShare (rdLst (rdCons (rdCall (FpickS d) [] (rdCons (rdVar 0) (rdCons (rdVar 2) rdNil))) (rdCons (rdC (.str " ")) (rdCons (rdC (.str "0")) (rdCons (rdC (.str "_")) (rdCons (rdC (.str ".")) (rdCons (rdC (.str "~")) rdNil)))))))) rdNil))) (rgName 5))
    (rdAsg (rdOp rdAdd (rdVar 3) (rdCall (FpickS d) [] (rdCons (rdVar 0) (rdCons (rdOp rdAdd (rdOp rdMul (rdShare (rdLst (rdCons (rdCall (FpickS d) [] (rdCons (rdVar 0) (rdCons (rdVar 1) rdNil))) rdNil))) (rdC (.int 9))) (rdShare (rdLst (rdCons (rdVar 5) rdNil)))) rdNil)))) (rgName 3))))
    (rdRet (rdVar 3)))))
def rd__law_is_small : TDS :=
    (rdRet (rdOp rdEq (rdShare (rdLc (rdIStr (rdVar 0)) (rgName 1) (rdTest (rdOp (rdIn true) (rdVar 1) (rdC (.str "abcdefghijklmnopqrstuvwxyz")))) (rdVar 1) [1])) (rdShare (rdLst rdNil))))
def rd_law_1 (d : Addr) : TDS :=
    (rdAsg (rdCall (Ftext d) [] (rdCons (rdVar 1) rdNil)) (rgName 3))
def rd_law_2 (d : Addr) : TDS :=
    (rdSetOwn (rdLst (rdCons (rdAndV (rdChain (rdI0 fun i j => .bl (decide (i ≤ j))) (rdI0 fun i j => .bl (decide (i ≤ j))) (rdC (.int 1)) (rdCB rdLen (rdCons (rdVar 3) rdNil)) (rdC (.int 8))) (rdCall Fsmall [] (rdCons (rdVar 3) rdNil))) rdNil)) 4)
def rd_law_3 (d : Addr) : TDS :=
    (rdDrop (rdApp 4 (rdAndV (rdChain (rdI0 fun i j => .bl (decide (i ≤ j))) (rdI0 fun i j => .bl (decide (i ≤ j))) (rdC (.int 1)) (rdCB rdLen (rdCons (rdVar 3) rdNil)) (rdC (.int 8))) (rdAndV (rdOp (rdIn false) (rdSl rdSlA (rdVar 3) rdNoPart (rdPart (rdC (.int 1)))) (rdShare (rdCF rdListA (rdCons (rdC (.str "ABCDEFGHIJKLMNOPQRSTUVWXYZ")) rdNil)))) (rdCall Fsmall [] (rdCons (rdSl rdSlA (rdVar 3) (rdPart (rdC (.int 1))) rdNoPart) rdNil))))))
def rd_law_5 (d : Addr) : TDS :=
    (rdRet (rdC (.bl false)))
def rd_law_4 (d : Addr) : TDS :=
    (rdIfS (rdTest (rdOp rdNe (rdCB rdRepr (rdCons (rdShare (rdLst (rdCons (rdCall Fis_word [] (rdCons (rdVar 3) rdNil)) (rdCons (rdCall Fis_class_name [] (rdCons (rdVar 3) rdNil)) rdNil)))) rdNil)) (rdCB rdRepr (rdCons (rdVar 4) rdNil)))) (rd_law_5 d) rdNext)
def rd_law_7 (d : Addr) : TDS :=
    (rdRet (rdC (.bl false)))
def rd_law_6 (d : Addr) : TDS :=
    (rdIfS (rdTest (rdOp rdNe (rdCB rdRepr (rdCons (rdShare (rdLst (rdCons (rdCallKw 1 Fis_word (rdCons (rdVar 3) rdNil)) (rdCons (rdCallKw 1 Fis_class_name (rdCons (rdVar 3) rdNil)) rdNil)))) rdNil)) (rdCB rdRepr (rdCons (rdVar 4) rdNil)))) (rd_law_7 d) rdNext)
def rd_law_8 (d : Addr) : TDS :=
    (rdAsg (rdCall (FpickS d) [] (rdCons (rdVar 1) (rdCons (rdShare (rdLst (rdCons (rdC .non) (rdCons (rdC (.int 5)) (rdCons (rdC (.bl true)) (rdCons (rdShare (rdLst (rdCons (rdVar 3) rdNil))) (rdCons (rdTup (rdCons (rdVar 3) rdNil)) (rdCons rdDic0 (rdCons (rdDic1 (rdVar 3) (rdC (.int 1))) (rdCons (rdTup rdNil) (rdCons (rdShare (rdLst rdNil)) (rdCons (rdOp (rdI CPow fun i j => .int (i ^ j.toNat)) (rdC (.int 10)) (rdC (.int 50))) (rdCons (rdNeg (rdC (.int 1))) rdNil))))))))))))) rdNil))) (rgName 5))
def rd_law_10 (d : Addr) : TDS :=
    (rdRet (rdC (.bl false)))
def rd_law_9 (d : Addr) : TDS :=
    (rdIfS (rdTest (rdOp rdNe (rdCB rdRepr (rdCons (rdShare (rdLst (rdCons (rdCall Fis_word [] (rdCons (rdVar 5) rdNil)) (rdCons (rdCall Fis_class_name [] (rdCons (rdVar 5) rdNil)) rdNil)))) rdNil)) (rdCB rdRepr (rdCons (rdShare (rdLst (rdCons (rdC (.bl false)) (rdCons (rdC (.bl false)) rdNil)))) rdNil)))) (rd_law_10 d) rdNext)
def rd_law_0 (d : Addr) : TDS :=
    (rdFor (rdIRng (rdCons (rdC (.int 20)) rdNil)) (rgName 2) (rdSeq (rd_law_1 d)
    (rdSeq (rd_law_2 d)
    (rdSeq (rd_law_3 d)
    (rdSeq (rd_law_4 d)
    (rdSeq (rd_law_6 d)
    (rdSeq (rd_law_8 d)
    (rd_law_9 d))))))))
def rd_law_11 (d : Addr) : TDS :=
    (rdRet (rdC (.bl true)))
def rd_law (d : Addr) : TDS :=
    (rdSeq (rd_law_0 d)
    (rd_law_11 d))
end K02

set_option Elab.async false
set_option linter.all false
set_option maxRecDepth 100000
set_option maxHeartbeats 4000000
namespace K02
open PySem PySem.Spec L2 VL
open PyProof.Rows hiding St
theorem kit_non_str : kitB "NoneType" "str" = some false := rfl
theorem kit_bool_str : kitB "bool" "str" = some false := rfl
theorem kit_int_str : kitB "int" "str" = some false := rfl
theorem kit_str_str : kitB "str" "str" = some true := rfl
theorem kit_lst_str : kitB "list" "str" = some false := rfl
theorem kit_tup_str : kitB "tuple" "str" = some false := rfl
theorem kit_dic_str : kitB "dict" "str" = some false := rfl
theorem lc_small {N : Gm} {i : Nat} {Q : D → Prop} {l : List Nat} (hi : i < N.length) (hl : l.length ≤ 100) (q : Q (.bl (l.all fun c => decide (c ∈ smalls.cps.toList)))) :
    goLc (rgName i) (fun Γ Q => Q true Γ) (rdOp (rdIn false) (rdVar i) (rdC (.str smalls))) [i] (fun ds Γ' => ∃ bs, asBs ds = some bs ∧ Q (.bl (bs.all id))) (l.map fun c => .str ⟨#[c]⟩) [] N := by
  refine goLc_b _ (fun c => .bl (decide (c ∈ smalls.cps.toList))) hi _ (Nat.le_trans hl (by decide)) (fun c hc k hk => ?_) ?_
  · show rdVar i _ _
    unfold rdVar
    rw [List.getElem?_set_self hi]
    show rdIn false (.str ⟨#[c]⟩) (.str smalls) (fun d => k d (N.set i (.dat (.str ⟨#[c]⟩))))
    exact rdIn_sg0 hk
  · rw [asBs_maps]
    exact ⟨_, rfl, by rw [all_id]; exact q⟩
theorem rdl_is_word {ds : List D} {Q : D → Prop} (h : Fis_word ds Q) : rd_is_word { nx := fun _ => Q .non, rt := Q } (startG N_is_word ds) := by
  obtain ⟨d, rfl, ok, q⟩ := h
  unfold rd_is_word
  cases d
  all_goals try exact absurd rfl ok
  all_goals simp only [rdVar, rdC, rdShare, rdOp, rdTest, rdAnd, rdOr, rdNot, rdNotV, rdNil, rdCons, rdTup, rdLst, rdCB, rdCF, rdCall, rdCallKw, rdSl, rdNoPart, rdPart, rdNext, rdSeq, rdDrop, rdRet, rdRetN, rdIfS, rgName, rdAsg, rdSetOwn, rdApp, rdFor, rdLc, rdILst, rdITup, rdIStr, rdIRng, rdNeg, rdOrT, rdPar, rdDic0, rdDic1, startG, List.length_cons, List.length_nil, List.map_cons, List.map_nil, List.replicate, List.set, List.getElem?_cons_zero, List.getElem?_cons_succ, List.append, List.cons_append, List.nil_append, List.append_nil, Nat.reduceSub, Nat.reduceAdd, rgTup_e, rgCons_e, rgNil_e, asB_e, asI_e, asL_e, asT_e, asS_e, rngOf_e, rdEq_s, rdEq_i, rdEq_l, rdEq_t, rdEq_b, rdEq_n, rdEq_sn, rdNe_s, rdNe_i, rdNe_l, rdNe_t, rdNe_b, rdNe_n, rdNe_sn, rdIn_l, rdIn_t, rdIn_s, rdI0_e, rdI_e, rdAdd_i, rdAdd_s, rdAdd_l, rdMul_i, rdMul_l, rdIx_l, rdIx_t, rdIx_s, rdSlA_l, rdSlA_s, rdLen_l, rdLen_t, rdLen_f, rdLen_s, rdAll_e, rdAny_e, rdAbs_e, rdInt_i, rdMin2_e, rdList_l, rdListA_l, rdListA_t, rdListA_s, rdTuple_l, rdTuple_t, rdIsi_e, tyN_non, tyN_bl, tyN_int, tyN_str, tyN_lst, tyN_tup, tyN_dic, keyOf_s, keyOf_i, rdAndV, rdOrV, rdIf, rdChain, eq_self, decide_true, decide_false, Option.some.injEq, exists_eq_left', exists_eq_left, exists_eq_right, exists_and_left, true_and, and_true, Bool.false_eq_true, if_false, if_true, reduceIte, Bool.not_true, Bool.not_false, reduceCtorEq, kit_non_str, kit_bool_str, kit_int_str, kit_str_str, kit_lst_str, kit_tup_str, kit_dic_str]
  all_goals try exact q
  rename_i z
  have hz : z.length ≤ 100 := ok
  refine ⟨Nat.le_trans hz (by decide), ?_⟩
  simp only [decide_eq_true_eq]
  have e : isW (.str z) = (decide (1 ≤ z.length) && decide (z.length ≤ 8) && z.cps.toList.all fun c => decide (c ∈ smalls.cps.toList)) := rfl
  rw [e] at q
  split
  · rename_i h1
    rw [decide_eq_true (show 1 ≤ z.length by omega), Bool.true_and] at q
    split
    · rename_i h2
      rw [decide_eq_true (show z.length ≤ 8 by omega), Bool.true_and] at q
      exact ⟨noOwn_of (by rfl), lc_small (show 1 < 2 by decide) (by rw [lenS]; exact hz) q⟩
    · rename_i h2
      rw [decide_eq_false (show ¬ z.length ≤ 8 by omega)] at q
      simpa using q
  · rename_i h1
    rw [decide_eq_false (show ¬ 1 ≤ z.length by omega)] at q
    simpa using q
theorem rdl_is_class_name {ds : List D} {Q : D → Prop} (h : Fis_class_name ds Q) : rd_is_class_name { nx := fun _ => Q .non, rt := Q } (startG N_is_class_name ds) := by
  obtain ⟨d, rfl, ok, q⟩ := h
  unfold rd_is_class_name
  cases d
  all_goals try exact absurd rfl ok
  all_goals simp only [rdVar, rdC, rdShare, rdOp, rdTest, rdAnd, rdOr, rdNot, rdNotV, rdNil, rdCons, rdTup, rdLst, rdCB, rdCF, rdCall, rdCallKw, rdSl, rdNoPart, rdPart, rdNext, rdSeq, rdDrop, rdRet, rdRetN, rdIfS, rgName, rdAsg, rdSetOwn, rdApp, rdFor, rdLc, rdILst, rdITup, rdIStr, rdIRng, rdNeg, rdOrT, rdPar, rdDic0, rdDic1, startG, List.length_cons, List.length_nil, List.map_cons, List.map_nil, List.replicate, List.set, List.getElem?_cons_zero, List.getElem?_cons_succ, List.append, List.cons_append, List.nil_append, List.append_nil, Nat.reduceSub, Nat.reduceAdd, rgTup_e, rgCons_e, rgNil_e, asB_e, asI_e, asL_e, asT_e, asS_e, rngOf_e, rdEq_s, rdEq_i, rdEq_l, rdEq_t, rdEq_b, rdEq_n, rdEq_sn, rdNe_s, rdNe_i, rdNe_l, rdNe_t, rdNe_b, rdNe_n, rdNe_sn, rdIn_l, rdIn_t, rdIn_s, rdI0_e, rdI_e, rdAdd_i, rdAdd_s, rdAdd_l, rdMul_i, rdMul_l, rdIx_l, rdIx_t, rdIx_s, rdSlA_l, rdSlA_s, rdLen_l, rdLen_t, rdLen_f, rdLen_s, rdAll_e, rdAny_e, rdAbs_e, rdInt_i, rdMin2_e, rdList_l, rdListA_l, rdListA_t, rdListA_s, rdTuple_l, rdTuple_t, rdIsi_e, tyN_non, tyN_bl, tyN_int, tyN_str, tyN_lst, tyN_tup, tyN_dic, keyOf_s, keyOf_i, rdAndV, rdOrV, rdIf, rdChain, eq_self, decide_true, decide_false, Option.some.injEq, exists_eq_left', exists_eq_left, exists_eq_right, exists_and_left, true_and, and_true, Bool.false_eq_true, if_false, if_true, reduceIte, Bool.not_true, Bool.not_false, reduceCtorEq, kit_non_str, kit_bool_str, kit_int_str, kit_str_str, kit_lst_str, kit_tup_str, kit_dic_str]
  all_goals try exact q
  rename_i z
  have hz : z.length ≤ 100 := ok
  have hz' : z.length ≤ sizeLine := Nat.le_trans hz (by decide)
  refine ⟨hz', ?_⟩
  have e : isC (.str z) = (decide (1 ≤ z.length) && decide (z.length ≤ 8) && (match z.cps.toList with | c :: r => decide (c ∈ larges.cps.toList) && r.all fun c => decide (c ∈ smalls.cps.toList) | [] => false)) := rfl
  rw [e] at q
  simp only [decide_eq_true_eq, Bool.not_eq_true', decide_eq_false_iff_not]
  split
  · rename_i h1
    rw [decide_eq_true (show 1 ≤ z.length by omega), Bool.true_and] at q
    split
    · rename_i h2
      rw [decide_eq_false (show ¬ z.length ≤ 8 by omega)] at q
      simpa using q
    · rename_i h2
      rw [decide_eq_true (show z.length ≤ 8 by omega), Bool.true_and] at q
      refine ⟨hz', ?_⟩
      cases el : z.cps.toList with
      | nil => rw [← lenS z, el] at h1; simp at h1
      | cons c r =>
        rw [el] at q
        refine ⟨c, by rw [show (0 : Int) = ((0 : Nat) : Int) from rfl, atI_n]; rfl, ?_⟩
        rw [Bool.true_xor]
        cases hc : decide (c ∈ larges.cps.toList) with
        | false =>
          dsimp only at q
          rw [hc, Bool.false_and] at q
          have hc' : decide (c ∈ (Str.ofString "ABCDEFGHIJKLMNOPQRSTUVWXYZ").cps.toList) = false := hc
          rw [hc']
          exact q
        | true =>
          dsimp only at q
          rw [hc, Bool.true_and] at q
          have hc' : decide (c ∈ (Str.ofString "ABCDEFGHIJKLMNOPQRSTUVWXYZ").cps.toList) = true := hc
          rw [hc']
          refine ⟨hz', noOwn_of (by rfl), ?_⟩
          rw [show (1 : Int) = ((1 : Nat) : Int) from rfl, cutS_from, el]
          have : z.cps.toList.length = r.length + 1 := by rw [el]; rfl
          rw [lenS] at this
          exact lc_small (show 1 < 2 by decide) (by show r.length ≤ 100; omega) q
  · rename_i h1
    rw [decide_eq_false (show ¬ 1 ≤ z.length by omega)] at q
    simpa using q
theorem rdl__law_is_small {ds : List D} {Q : D → Prop} (h : Fsmall ds Q) : rd__law_is_small { nx := fun _ => Q .non, rt := Q } (startG N__law_is_small ds) := by
  obtain ⟨z, rfl, hz, q⟩ := h
  unfold rd__law_is_small
  simp only [rdVar, rdC, rdShare, rdOp, rdTest, rdAnd, rdOr, rdNot, rdNotV, rdNil, rdCons, rdTup, rdLst, rdCB, rdCF, rdCall, rdCallKw, rdSl, rdNoPart, rdPart, rdNext, rdSeq, rdDrop, rdRet, rdRetN, rdIfS, rgName, rdAsg, rdSetOwn, rdApp, rdFor, rdLc, rdILst, rdITup, rdIStr, rdIRng, rdNeg, rdOrT, rdPar, rdDic0, rdDic1, startG, List.length_cons, List.length_nil, List.map_cons, List.map_nil, List.replicate, List.set, List.getElem?_cons_zero, List.getElem?_cons_succ, List.append, List.cons_append, List.nil_append, List.append_nil, Nat.reduceSub, Nat.reduceAdd, rgTup_e, rgCons_e, rgNil_e, asB_e, asI_e, asL_e, asT_e, asS_e, rngOf_e, rdEq_s, rdEq_i, rdEq_l, rdEq_t, rdEq_b, rdEq_n, rdEq_sn, rdNe_s, rdNe_i, rdNe_l, rdNe_t, rdNe_b, rdNe_n, rdNe_sn, rdIn_l, rdIn_t, rdIn_s, rdI0_e, rdI_e, rdAdd_i, rdAdd_s, rdAdd_l, rdMul_i, rdMul_l, rdIx_l, rdIx_t, rdIx_s, rdSlA_l, rdSlA_s, rdLen_l, rdLen_t, rdLen_f, rdLen_s, rdAll_e, rdAny_e, rdAbs_e, rdInt_i, rdMin2_e, rdList_l, rdListA_l, rdListA_t, rdListA_s, rdTuple_l, rdTuple_t, rdIsi_e, tyN_non, tyN_bl, tyN_int, tyN_str, tyN_lst, tyN_tup, tyN_dic, keyOf_s, keyOf_i, rdAndV, rdOrV, rdIf, rdChain, eq_self, decide_true, decide_false, Option.some.injEq, exists_eq_left', exists_eq_left, exists_eq_right, exists_and_left, true_and, and_true, Bool.false_eq_true, if_false, if_true, reduceIte, Bool.not_true, Bool.not_false, reduceCtorEq]
  refine ⟨noOwn_of (by rfl), goLc_a (fun c => D.str ⟨#[c]⟩) (fun c => !decide (c ∈ smalls.cps.toList)) (fun c => D.str ⟨#[c]⟩) (show 1 < 2 by decide) _ _ ?_ ?_ ?_ ?_⟩
  · rw [lenS]; exact Nat.le_trans (show 0 + z.length ≤ 100 by have := hz.1; omega) (by decide)
  · intro c _ k hk
    show rdIn true (.str ⟨#[c]⟩) (.str smalls) (fun d => asB d fun b => k b [.dat (.str z), .dat (.str ⟨#[c]⟩)])
    exact rdIn_sg1 hk
  · intro c _ _ k hk
    exact hk
  · rw [List.nil_append]
    refine ⟨small_of (by decide), (okN_lst (n := 0) fun d hd => ?_).e (by decide), (okN_lst (n := 0) fun d hd => by cases hd).e (by decide), ?_⟩
    · obtain ⟨c, hc, rfl⟩ := List.mem_map.mp hd
      exact okN_str (strOk_one (strOk_all.mp hz.2 c (List.mem_filter.mp hc).1))
    · rw [eqD_nil]
      have e : (List.map (fun c => D.str ⟨#[c]⟩) (z.cps.toList.filter fun c => !decide (c ∈ smalls.cps.toList))).isEmpty = z.cps.toList.all fun c => decide (c ∈ smalls.cps.toList) := by
        rw [List.isEmpty_map]
        induction z.cps.toList with
        | nil => rfl
        | cons c r ih =>
          rw [List.all_cons, List.filter_cons]
          cases decide (c ∈ smalls.cps.toList)
          · rfl
          · exact ih
      rw [e]
      exact q
theorem mem_lt {z : Str} (h : PyData.strOk z = true) {c : Nat} (hc : c ∈ z.cps.toList) : PyData.strOk ⟨#[c]⟩ = true := strOk_one (strOk_all.mp h c hc)
theorem rdl__law_text {d : Addr} {ds : List D} {Q : D → Prop} (h : Ftext d ds Q) : rd__law_text d { nx := fun _ => Q .non, rt := Q } (startG N__law_text ds) := by
  obtain ⟨rfl, q⟩ := h
  have hs : PyData.strOk smalls = true := by decide +kernel
  have hL : PyData.strOk larges = true := by decide +kernel
  unfold rd__law_text
  simp only [rdVar, rdC, rdShare, rdOp, rdTest, rdAnd, rdOr, rdNot, rdNotV, rdNil, rdCons, rdTup, rdLst, rdCB, rdCF, rdCall, rdCallKw, rdSl, rdNoPart, rdPart, rdNext, rdSeq, rdDrop, rdRet, rdRetN, rdIfS, rgName, rdAsg, rdSetOwn, rdApp, rdFor, rdLc, rdILst, rdITup, rdIStr, rdIRng, rdNeg, rdOrT, rdPar, rdDic0, rdDic1, startG, List.length_cons, List.length_nil, List.map_cons, List.map_nil, List.replicate, List.set, List.getElem?_cons_zero, List.getElem?_cons_succ, List.append, List.cons_append, List.nil_append, List.append_nil, Nat.reduceSub, Nat.reduceAdd, rgTup_e, rgCons_e, rgNil_e, asB_e, asI_e, asL_e, asT_e, asS_e, rngOf_e, rdEq_s, rdEq_i, rdEq_l, rdEq_t, rdEq_b, rdEq_n, rdEq_sn, rdNe_s, rdNe_i, rdNe_l, rdNe_t, rdNe_b, rdNe_n, rdNe_sn, rdIn_l, rdIn_t, rdIn_s, rdI0_e, rdI_e, rdAdd_i, rdAdd_s, rdAdd_l, rdMul_i, rdMul_l, rdIx_l, rdIx_t, rdIx_s, rdSlA_l, rdSlA_s, rdLen_l, rdLen_t, rdLen_f, rdLen_s, rdAll_e, rdAny_e, rdAbs_e, rdInt_i, rdMin2_e, rdList_l, rdListA_l, rdListA_t, rdListA_s, rdTuple_l, rdTuple_t, rdIsi_e, tyN_non, tyN_bl, tyN_int, tyN_str, tyN_lst, tyN_tup, tyN_dic, keyOf_s, keyOf_i, rdAndV, rdOrV, rdIf, rdChain, eq_self, decide_true, decide_false, Option.some.injEq, exists_eq_left', exists_eq_left, exists_eq_right, exists_and_left, true_and, and_true, Bool.false_eq_true, if_false, if_true, reduceIte, Bool.not_true, Bool.not_false, reduceCtorEq]
  refine ⟨small_of (show 2 ≤ 1000 by decide), ?_⟩
  refine pickS_str (by decide) (by decide) fun c1 m1 => ?_
  refine pickS_str (by decide) (by decide) fun c2 m2 => ?_
  refine ⟨small_of (by decide), pickS_lst (by simp) (show 3 < 1000 by decide) fun e he => ?_⟩
  refine take_ok (by decide) (by decide) fun r hr => ⟨by omega, ?_⟩
  have ez : ∃ z : Str, e = .str z ∧ z.length ≤ 1 ∧ PyData.strOk z = true := by
    simp only [List.mem_cons, List.not_mem_nil, or_false] at he
    rcases he with rfl | rfl | rfl
    · exact ⟨_, rfl, by decide, by decide +kernel⟩
    · exact ⟨_, rfl, Nat.le_refl _, mem_lt hL m1⟩
    · exact ⟨_, rfl, Nat.le_refl _, mem_lt hs m2⟩
  obtain ⟨z, rfl, hz⟩ := ez
  refine goFor_n (fun i Γ => ∃ (z : Str) (x y : Sl), (z.length ≤ 1 + i ∧ PyData.strOk z = true) ∧ Γ = [.dat (.ref d), .dat (.str smalls), .dat (.str larges), .dat (.str z), x, y]) _ 0 _ ⟨z, _, _, hz, rfl⟩ ?_ ?_
  · rintro j e _ hj _ ⟨z, x, y, hz, rfl⟩ N hN
    have hj' : j < 11 := by
      have := (List.getElem?_eq_some_iff.mp hj).1
      unfold rangeD at this
      rw [List.length_map, List.length_range] at this
      omega
    simp only [rdVar, rdC, rdShare, rdOp, rdTest, rdAnd, rdOr, rdNot, rdNotV, rdNil, rdCons, rdTup, rdLst, rdCB, rdCF, rdCall, rdCallKw, rdSl, rdNoPart, rdPart, rdNext, rdSeq, rdDrop, rdRet, rdRetN, rdIfS, rgName, rdAsg, rdSetOwn, rdApp, rdFor, rdLc, rdILst, rdITup, rdIStr, rdIRng, rdNeg, rdOrT, rdPar, rdDic0, rdDic1, startG, List.length_cons, List.length_nil, List.map_cons, List.map_nil, List.replicate, List.set, List.getElem?_cons_zero, List.getElem?_cons_succ, List.append, List.cons_append, List.nil_append, List.append_nil, Nat.reduceSub, Nat.reduceAdd, rgTup_e, rgCons_e, rgNil_e, asB_e, asI_e, asL_e, asT_e, asS_e, rngOf_e, rdEq_s, rdEq_i, rdEq_l, rdEq_t, rdEq_b, rdEq_n, rdEq_sn, rdNe_s, rdNe_i, rdNe_l, rdNe_t, rdNe_b, rdNe_n, rdNe_sn, rdIn_l, rdIn_t, rdIn_s, rdI0_e, rdI_e, rdAdd_i, rdAdd_s, rdAdd_l, rdMul_i, rdMul_l, rdIx_l, rdIx_t, rdIx_s, rdSlA_l, rdSlA_s, rdLen_l, rdLen_t, rdLen_f, rdLen_s, rdAll_e, rdAny_e, rdAbs_e, rdInt_i, rdMin2_e, rdList_l, rdListA_l, rdListA_t, rdListA_s, rdTuple_l, rdTuple_t, rdIsi_e, tyN_non, tyN_bl, tyN_int, tyN_str, tyN_lst, tyN_tup, tyN_dic, keyOf_s, keyOf_i, rdAndV, rdOrV, rdIf, rdChain, eq_self, decide_true, decide_false, Option.some.injEq, exists_eq_left', exists_eq_left, exists_eq_right, exists_and_left, true_and, and_true, Bool.false_eq_true, if_false, if_true, reduceIte, Bool.not_true, Bool.not_false, reduceCtorEq]
    refine pickS_str (by decide) (by decide) fun c3 m3 => ⟨small_of (by decide), ?_⟩
    refine pickS_lst (by simp) (show 6 < 1000 by decide) fun e he => ?_
    have ez : ∃ z : Str, e = .str z ∧ z.length ≤ 1 ∧ PyData.strOk z = true := by
      simp only [List.mem_cons, List.not_mem_nil, or_false] at he
      rcases he with rfl | rfl | rfl | rfl | rfl | rfl
      · exact ⟨_, rfl, Nat.le_refl _, mem_lt hL m3⟩
      all_goals exact ⟨_, rfl, by decide, by decide +kernel⟩
    obtain ⟨z2, rfl, hz2⟩ := ez
    refine pickS_str (by decide) (by decide) fun c4 m4 => ⟨small_of (by decide), by decide, by decide, small_of (by decide), by show 9 + 1 ≤ _; decide, ?_⟩
    refine pickS_lst (by simp) (show 10 < 1000 by decide) fun e he => ?_
    have ez : ∃ z : Str, e = .str z ∧ z.length ≤ 1 ∧ PyData.strOk z = true := by
      rcases List.mem_append.mp he with he | he
      · have : e = .str ⟨#[c4]⟩ := by
          obtain ⟨l, hl, he⟩ := List.mem_flatten.mp he
          rw [(List.mem_replicate.mp hl).2] at he
          simpa using he
        exact ⟨_, this, Nat.le_refl _, mem_lt hs m4⟩
      · have : e = .str z2 := by simpa using he
        exact ⟨_, this, hz2⟩
    obtain ⟨z3, rfl, hz3⟩ := ez
    refine ⟨Nat.le_trans (show _ ≤ 100 by omega) (by decide), hN _ ⟨_, _, _, ⟨by rw [len_app]; omega, strOk_app hz.2 hz3.2⟩, rfl⟩⟩
  · rintro _ ⟨z, x, y, hz, rfl⟩
    simp only [rdVar, rdC, rdShare, rdOp, rdTest, rdAnd, rdOr, rdNot, rdNotV, rdNil, rdCons, rdTup, rdLst, rdCB, rdCF, rdCall, rdCallKw, rdSl, rdNoPart, rdPart, rdNext, rdSeq, rdDrop, rdRet, rdRetN, rdIfS, rgName, rdAsg, rdSetOwn, rdApp, rdFor, rdLc, rdILst, rdITup, rdIStr, rdIRng, rdNeg, rdOrT, rdPar, rdDic0, rdDic1, startG, List.length_cons, List.length_nil, List.map_cons, List.map_nil, List.replicate, List.set, List.getElem?_cons_zero, List.getElem?_cons_succ, List.append, List.cons_append, List.nil_append, List.append_nil, Nat.reduceSub, Nat.reduceAdd, rgTup_e, rgCons_e, rgNil_e, asB_e, asI_e, asL_e, asT_e, asS_e, rngOf_e, rdEq_s, rdEq_i, rdEq_l, rdEq_t, rdEq_b, rdEq_n, rdEq_sn, rdNe_s, rdNe_i, rdNe_l, rdNe_t, rdNe_b, rdNe_n, rdNe_sn, rdIn_l, rdIn_t, rdIn_s, rdI0_e, rdI_e, rdAdd_i, rdAdd_s, rdAdd_l, rdMul_i, rdMul_l, rdIx_l, rdIx_t, rdIx_s, rdSlA_l, rdSlA_s, rdLen_l, rdLen_t, rdLen_f, rdLen_s, rdAll_e, rdAny_e, rdAbs_e, rdInt_i, rdMin2_e, rdList_l, rdListA_l, rdListA_t, rdListA_s, rdTuple_l, rdTuple_t, rdIsi_e, tyN_non, tyN_bl, tyN_int, tyN_str, tyN_lst, tyN_tup, tyN_dic, keyOf_s, keyOf_i, rdAndV, rdOrV, rdIf, rdChain, eq_self, decide_true, decide_false, Option.some.injEq, exists_eq_left', exists_eq_left, exists_eq_right, exists_and_left, true_and, and_true, Bool.false_eq_true, if_false, if_true, reduceIte, Bool.not_true, Bool.not_false, reduceCtorEq]
    refine q z ⟨?_, hz.2⟩
    unfold rangeD at hz
    rw [List.length_map, List.length_range] at hz
    omega
end K02

set_option Elab.async false
set_option linter.all false
set_option maxRecDepth 100000
set_option maxHeartbeats 4000000
namespace K02
open PySem PySem.Spec L2 VL
open PyProof.Rows hiding St
theorem text_ok {d : Addr} {Q : D → Prop} (q : ∀ z : Str, okS z → Q (.str z)) : Ftext d [.ref d] Q := ⟨rfl, q⟩
theorem word_ok {x : D} {Q : D → Prop} (h : okV x) (q : Q (.bl (isW x))) : Fis_word [x] Q := ⟨x, rfl, h, q⟩
theorem cname_ok {x : D} {Q : D → Prop} (h : okV x) (q : Q (.bl (isC x))) : Fis_class_name [x] Q := ⟨x, rfl, h, q⟩
theorem small_ok {z : Str} {Q : D → Prop} (h : okS z) (q : Q (.bl (z.cps.toList.all fun c => decide (c ∈ smalls.cps.toList)))) : Fsmall [.str z] Q := ⟨z, rfl, h, q⟩
theorem okR_bb (a b : Bool) : okR (.lst [.bl a, .bl b]) := by
  refine ⟨rfl, ?_, ?_, ?_⟩ <;> cases a <;> cases b <;> decide +kernel
theorem ne_same {s : Str} : (!decide (s = s)) = false := by simp
theorem isW_str (z : Str) : isW (.str z) = (decide (1 ≤ z.length) && decide (z.length ≤ 8) && z.cps.toList.all fun c => decide (c ∈ smalls.cps.toList)) := rfl
theorem len_chain {z : Str} {Γ : Gm} {Q : D → Gm → Prop} {i : Nat} (hz : z.length ≤ 100) (e : Γ[i]? = some (.dat (.str z))) (q : Q (.bl (decide (1 ≤ z.length) && decide (z.length ≤ 8))) Γ) :
    rdChain (rdI0 fun i j => .bl (decide (i ≤ j))) (rdI0 fun i j => .bl (decide (i ≤ j))) (rdC (.int 1)) (rdCB rdLen (rdCons (rdVar i) rdNil)) (rdC (.int 8)) Γ Q := by
  refine chain_ok (decide (1 ≤ z.length)) (decide (z.length ≤ 8)) (.int 1) (.int z.length) (.int 8) (fun K k => k) (fun K k => ?_) (fun K k => ?_) (fun _ K k => k) (fun _ K k => ?_) q
  · show rdVar i Γ _
    unfold rdVar
    rw [e]
    exact ⟨Nat.le_trans hz (by decide), k⟩
  · show K (.bl (decide ((1 : Int) ≤ z.length)))
    rw [show decide ((1 : Int) ≤ z.length) = decide (1 ≤ z.length) by simp only [decide_eq_decide]; omega]
    exact k
  · show K (.bl (decide ((z.length : Int) ≤ 8)))
    rw [show decide ((z.length : Int) ≤ 8) = decide (z.length ≤ 8) by simp only [decide_eq_decide]; omega]
    exact k
theorem isC_str (z : Str) (hz : okS z) : isC (.str z) = (decide (1 ≤ z.length) && decide (z.length ≤ 8) && (isIn (.str (cutS z none (some 1))) (signsD larges) && ((cutS z (some 1) none).cps.toList.all fun c => decide (c ∈ smalls.cps.toList)))) := by
  have e : isC (.str z) = (decide (1 ≤ z.length) && decide (z.length ≤ 8) && (match z.cps.toList with | c :: r => decide (c ∈ larges.cps.toList) && r.all fun c => decide (c ∈ smalls.cps.toList) | [] => false)) := rfl
  rw [e]
  have e1 : (cutS z (some 1) none).cps.toList = z.cps.toList.drop 1 := cutS_from z 1
  have e0 : (cutS z none (some 1)).cps.toList = z.cps.toList.take 1 := cutS_to z 1
  rw [e1]
  cases el : z.cps.toList with
  | nil =>
    have : z.length = 0 := by rw [← lenS, el]; rfl
    rw [this]
    rfl
  | cons c r =>
    rw [el] at e0
    have : cutS z none (some 1) = ⟨#[c]⟩ := by
      rw [str_of_list (cutS z none (some 1)), e0]
      rfl
    rw [this]
    have hin : ∀ l : List Nat, isIn (.str ⟨#[c]⟩) (l.map fun c => D.str ⟨#[c]⟩) = decide (c ∈ l) := by
      intro l
      induction l with
      | nil => rfl
      | cons a l ih =>
        show (eqD (.str ⟨#[a]⟩) (.str ⟨#[c]⟩) || isIn (.str ⟨#[c]⟩) (l.map fun c => D.str ⟨#[c]⟩)) = _
        rw [ih]
        have : eqD (.str ⟨#[a]⟩) (.str ⟨#[c]⟩) = decide (c = a) := by
          show ((⟨#[a]⟩ : Str) == ⟨#[c]⟩) = _
          by_cases h : c = a
          · subst h; simp
          · rw [decide_eq_false h]
            apply beq_false_of_ne
            intro z
            cases z
            exact h rfl
        rw [this]
        by_cases h : c = a
        · simp [h]
        · simp [h]
    show (_ && (_ && _)) = (_ && (isIn (.str ⟨#[c]⟩) (larges.cps.toList.map fun c => D.str ⟨#[c]⟩) && _))
    rw [hin]
    rfl
section
variable {d : Addr} {E : EndsD} {x0 x1 x2 x3 x4 x5 : Sl} {z : Str}
theorem st1 (q : ∀ z, okS z → E.nx [x0, .dat (.ref d), x2, .dat (.str z), x4, x5]) : rd_law_1 d E [x0, .dat (.ref d), x2, x3, x4, x5] := by
  unfold rd_law_1
  simp only [rdVar, rdC, rdShare, rdOp, rdTest, rdAnd, rdOr, rdNot, rdNotV, rdNil, rdCons, rdTup, rdLst, rdCB, rdCF, rdCall, rdCallKw, rdSl, rdNoPart, rdPart, rdNext, rdSeq, rdDrop, rdRet, rdRetN, rdIfS, rgName, rdAsg, rdSetOwn, rdApp, rdFor, rdLc, rdILst, rdITup, rdIStr, rdIRng, rdNeg, rdOrT, rdPar, rdDic0, rdDic1, startG, List.length_cons, List.length_nil, List.map_cons, List.map_nil, List.replicate, List.set, List.getElem?_cons_zero, List.getElem?_cons_succ, List.append, List.cons_append, List.nil_append, List.append_nil, Nat.reduceSub, Nat.reduceAdd, rgTup_e, rgCons_e, rgNil_e, asB_e, asI_e, asL_e, asT_e, asS_e, rngOf_e, rdEq_s, rdEq_i, rdEq_l, rdEq_t, rdEq_b, rdEq_n, rdEq_sn, rdNe_s, rdNe_i, rdNe_l, rdNe_t, rdNe_b, rdNe_n, rdNe_sn, rdIn_l, rdIn_t, rdIn_s, rdI0_e, rdI_e, rdAdd_i, rdAdd_s, rdAdd_l, rdMul_i, rdMul_l, rdIx_l, rdIx_t, rdIx_s, rdSlA_l, rdSlA_s, rdLen_l, rdLen_t, rdLen_f, rdLen_s, rdAll_e, rdAny_e, rdAbs_e, rdInt_i, rdMin2_e, rdList_l, rdListA_l, rdListA_t, rdListA_s, rdTuple_l, rdTuple_t, rdIsi_e, tyN_non, tyN_bl, tyN_int, tyN_str, tyN_lst, tyN_tup, tyN_dic, keyOf_s, keyOf_i, eq_self, decide_true, decide_false, Option.some.injEq, exists_eq_left', exists_eq_left, exists_eq_right, exists_and_left, true_and, and_true, Bool.false_eq_true, if_false, if_true, reduceIte, Bool.not_true, Bool.not_false, reduceCtorEq]
  exact text_ok fun z hz => q z hz
theorem st2 (hz : okS z) (q : E.nx [x0, x1, x2, .dat (.str z), .own [.bl (isW (.str z))], x5]) : rd_law_2 d E [x0, x1, x2, .dat (.str z), x4, x5] := by
  unfold rd_law_2
  simp only [rdVar, rdC, rdShare, rdOp, rdTest, rdAnd, rdOr, rdNot, rdNotV, rdNil, rdCons, rdTup, rdLst, rdCB, rdCF, rdCall, rdCallKw, rdSl, rdNoPart, rdPart, rdNext, rdSeq, rdDrop, rdRet, rdRetN, rdIfS, rgName, rdAsg, rdSetOwn, rdApp, rdFor, rdLc, rdILst, rdITup, rdIStr, rdIRng, rdNeg, rdOrT, rdPar, rdDic0, rdDic1, startG, List.length_cons, List.length_nil, List.map_cons, List.map_nil, List.replicate, List.set, List.getElem?_cons_zero, List.getElem?_cons_succ, List.append, List.cons_append, List.nil_append, List.append_nil, Nat.reduceSub, Nat.reduceAdd, rgTup_e, rgCons_e, rgNil_e, asB_e, asI_e, asL_e, asT_e, asS_e, rngOf_e, rdEq_s, rdEq_i, rdEq_l, rdEq_t, rdEq_b, rdEq_n, rdEq_sn, rdNe_s, rdNe_i, rdNe_l, rdNe_t, rdNe_b, rdNe_n, rdNe_sn, rdIn_l, rdIn_t, rdIn_s, rdI0_e, rdI_e, rdAdd_i, rdAdd_s, rdAdd_l, rdMul_i, rdMul_l, rdIx_l, rdIx_t, rdIx_s, rdSlA_l, rdSlA_s, rdLen_l, rdLen_t, rdLen_f, rdLen_s, rdAll_e, rdAny_e, rdAbs_e, rdInt_i, rdMin2_e, rdList_l, rdListA_l, rdListA_t, rdListA_s, rdTuple_l, rdTuple_t, rdIsi_e, tyN_non, tyN_bl, tyN_int, tyN_str, tyN_lst, tyN_tup, tyN_dic, keyOf_s, keyOf_i, eq_self, decide_true, decide_false, Option.some.injEq, exists_eq_left', exists_eq_left, exists_eq_right, exists_and_left, true_and, and_true, Bool.false_eq_true, if_false, if_true, reduceIte, Bool.not_true, Bool.not_false, reduceCtorEq]
  refine andV_ok _ (z.cps.toList.all fun c => decide (c ∈ smalls.cps.toList)) (fun K k => len_chain hz.1 rfl k) (fun _ K k => ?_) ⟨small_of (show 1 ≤ 1000 by decide), ?_⟩
  · simp only [rdVar, rdC, rdShare, rdOp, rdTest, rdAnd, rdOr, rdNot, rdNotV, rdNil, rdCons, rdTup, rdLst, rdCB, rdCF, rdCall, rdCallKw, rdSl, rdNoPart, rdPart, rdNext, rdSeq, rdDrop, rdRet, rdRetN, rdIfS, rgName, rdAsg, rdSetOwn, rdApp, rdFor, rdLc, rdILst, rdITup, rdIStr, rdIRng, rdNeg, rdOrT, rdPar, rdDic0, rdDic1, startG, List.length_cons, List.length_nil, List.map_cons, List.map_nil, List.replicate, List.set, List.getElem?_cons_zero, List.getElem?_cons_succ, List.append, List.cons_append, List.nil_append, List.append_nil, Nat.reduceSub, Nat.reduceAdd, rgTup_e, rgCons_e, rgNil_e, asB_e, asI_e, asL_e, asT_e, asS_e, rngOf_e, rdEq_s, rdEq_i, rdEq_l, rdEq_t, rdEq_b, rdEq_n, rdEq_sn, rdNe_s, rdNe_i, rdNe_l, rdNe_t, rdNe_b, rdNe_n, rdNe_sn, rdIn_l, rdIn_t, rdIn_s, rdI0_e, rdI_e, rdAdd_i, rdAdd_s, rdAdd_l, rdMul_i, rdMul_l, rdIx_l, rdIx_t, rdIx_s, rdSlA_l, rdSlA_s, rdLen_l, rdLen_t, rdLen_f, rdLen_s, rdAll_e, rdAny_e, rdAbs_e, rdInt_i, rdMin2_e, rdList_l, rdListA_l, rdListA_t, rdListA_s, rdTuple_l, rdTuple_t, rdIsi_e, tyN_non, tyN_bl, tyN_int, tyN_str, tyN_lst, tyN_tup, tyN_dic, keyOf_s, keyOf_i, eq_self, decide_true, decide_false, Option.some.injEq, exists_eq_left', exists_eq_left, exists_eq_right, exists_and_left, true_and, and_true, Bool.false_eq_true, if_false, if_true, reduceIte, Bool.not_true, Bool.not_false, reduceCtorEq]
    exact small_ok hz k
  · rw [← isW_str]
    exact q
theorem st3 (hz : okS z) {b : Bool} (q : E.nx [x0, x1, x2, .dat (.str z), .own [.bl b, .bl (isC (.str z))], x5]) : rd_law_3 d E [x0, x1, x2, .dat (.str z), .own [.bl b], x5] := by
  unfold rd_law_3
  simp only [rdVar, rdC, rdShare, rdOp, rdTest, rdAnd, rdOr, rdNot, rdNotV, rdNil, rdCons, rdTup, rdLst, rdCB, rdCF, rdCall, rdCallKw, rdSl, rdNoPart, rdPart, rdNext, rdSeq, rdDrop, rdRet, rdRetN, rdIfS, rgName, rdAsg, rdSetOwn, rdApp, rdFor, rdLc, rdILst, rdITup, rdIStr, rdIRng, rdNeg, rdOrT, rdPar, rdDic0, rdDic1, startG, List.length_cons, List.length_nil, List.map_cons, List.map_nil, List.replicate, List.set, List.getElem?_cons_zero, List.getElem?_cons_succ, List.append, List.cons_append, List.nil_append, List.append_nil, Nat.reduceSub, Nat.reduceAdd, rgTup_e, rgCons_e, rgNil_e, asB_e, asI_e, asL_e, asT_e, asS_e, rngOf_e, rdEq_s, rdEq_i, rdEq_l, rdEq_t, rdEq_b, rdEq_n, rdEq_sn, rdNe_s, rdNe_i, rdNe_l, rdNe_t, rdNe_b, rdNe_n, rdNe_sn, rdIn_l, rdIn_t, rdIn_s, rdI0_e, rdI_e, rdAdd_i, rdAdd_s, rdAdd_l, rdMul_i, rdMul_l, rdIx_l, rdIx_t, rdIx_s, rdSlA_l, rdSlA_s, rdLen_l, rdLen_t, rdLen_f, rdLen_s, rdAll_e, rdAny_e, rdAbs_e, rdInt_i, rdMin2_e, rdList_l, rdListA_l, rdListA_t, rdListA_s, rdTuple_l, rdTuple_t, rdIsi_e, tyN_non, tyN_bl, tyN_int, tyN_str, tyN_lst, tyN_tup, tyN_dic, keyOf_s, keyOf_i, eq_self, decide_true, decide_false, Option.some.injEq, exists_eq_left', exists_eq_left, exists_eq_right, exists_and_left, true_and, and_true, Bool.false_eq_true, if_false, if_true, reduceIte, Bool.not_true, Bool.not_false, reduceCtorEq]
  have sub : ∀ c ∈ (cutS z none (some 1)).cps.toList, c ∈ z.cps.toList := fun c hc => by
    rw [show (1 : Int) = ((1 : Nat) : Int) from rfl, cutS_to] at hc
    exact List.mem_of_mem_take hc
  have sub2 : ∀ c ∈ (cutS z (some 1) none).cps.toList, c ∈ z.cps.toList := fun c hc => by
    rw [show (1 : Int) = ((1 : Nat) : Int) from rfl, cutS_from] at hc
    exact List.mem_of_mem_drop hc
  have hL : PyData.strOk larges = true := by decide +kernel
  refine ⟨⟨_, rfl⟩, andV_ok _ (isIn (.str (cutS z none (some 1))) (signsD larges) && ((cutS z (some 1) none).cps.toList.all fun c => decide (c ∈ smalls.cps.toList))) (fun K k => len_chain hz.1 rfl k) (fun _ K k => ?_) ?_⟩
  · refine andV_ok _ _ (fun K k => ?_) (fun _ K k => ?_) k
    all_goals simp only [rdVar, rdC, rdShare, rdOp, rdTest, rdAnd, rdOr, rdNot, rdNotV, rdNil, rdCons, rdTup, rdLst, rdCB, rdCF, rdCall, rdCallKw, rdSl, rdNoPart, rdPart, rdNext, rdSeq, rdDrop, rdRet, rdRetN, rdIfS, rgName, rdAsg, rdSetOwn, rdApp, rdFor, rdLc, rdILst, rdITup, rdIStr, rdIRng, rdNeg, rdOrT, rdPar, rdDic0, rdDic1, startG, List.length_cons, List.length_nil, List.map_cons, List.map_nil, List.replicate, List.set, List.getElem?_cons_zero, List.getElem?_cons_succ, List.append, List.cons_append, List.nil_append, List.append_nil, Nat.reduceSub, Nat.reduceAdd, rgTup_e, rgCons_e, rgNil_e, asB_e, asI_e, asL_e, asT_e, asS_e, rngOf_e, rdEq_s, rdEq_i, rdEq_l, rdEq_t, rdEq_b, rdEq_n, rdEq_sn, rdNe_s, rdNe_i, rdNe_l, rdNe_t, rdNe_b, rdNe_n, rdNe_sn, rdIn_l, rdIn_t, rdIn_s, rdI0_e, rdI_e, rdAdd_i, rdAdd_s, rdAdd_l, rdMul_i, rdMul_l, rdIx_l, rdIx_t, rdIx_s, rdSlA_l, rdSlA_s, rdLen_l, rdLen_t, rdLen_f, rdLen_s, rdAll_e, rdAny_e, rdAbs_e, rdInt_i, rdMin2_e, rdList_l, rdListA_l, rdListA_t, rdListA_s, rdTuple_l, rdTuple_t, rdIsi_e, tyN_non, tyN_bl, tyN_int, tyN_str, tyN_lst, tyN_tup, tyN_dic, keyOf_s, keyOf_i, eq_self, decide_true, decide_false, Option.some.injEq, exists_eq_left', exists_eq_left, exists_eq_right, exists_and_left, true_and, and_true, Bool.false_eq_true, if_false, if_true, reduceIte, Bool.not_true, Bool.not_false, reduceCtorEq]
    · refine ⟨Nat.le_trans hz.1 (by decide), by decide, ?_, ?_, ?_⟩
      · exact (okN_str (strOk_all.mpr fun c hc => strOk_all.mp hz.2 c (sub c hc))).e (by decide)
      · refine (okN_lst (n := 0) fun d hd => ?_).e (by decide)
        obtain ⟨c, hc, rfl⟩ := List.mem_map.mp hd
        exact okN_str (strOk_one (strOk_all.mp hL c hc))
      · rw [Bool.false_xor]
        exact k
    · refine ⟨Nat.le_trans hz.1 (by decide), ?_⟩
      exact small_ok ⟨Nat.le_trans (cutS_length _ _ _) hz.1, strOk_all.mpr fun c hc => strOk_all.mp hz.2 c (sub2 c hc)⟩ k
  · rw [← isC_str z hz]
    exact ⟨show 1 < sizeLine by decide, q⟩
theorem st4 (hz : okS z) (q : E.nx [x0, x1, x2, .dat (.str z), .dat (.lst [.bl (isW (.str z)), .bl (isC (.str z))]), x5]) : rd_law_4 d E [x0, x1, x2, .dat (.str z), .own [.bl (isW (.str z)), .bl (isC (.str z))], x5] := by
  unfold rd_law_4
  simp only [rdVar, rdC, rdShare, rdOp, rdTest, rdAnd, rdOr, rdNot, rdNotV, rdNil, rdCons, rdTup, rdLst, rdCB, rdCF, rdCall, rdCallKw, rdSl, rdNoPart, rdPart, rdNext, rdSeq, rdDrop, rdRet, rdRetN, rdIfS, rgName, rdAsg, rdSetOwn, rdApp, rdFor, rdLc, rdILst, rdITup, rdIStr, rdIRng, rdNeg, rdOrT, rdPar, rdDic0, rdDic1, startG, List.length_cons, List.length_nil, List.map_cons, List.map_nil, List.replicate, List.set, List.getElem?_cons_zero, List.getElem?_cons_succ, List.append, List.cons_append, List.nil_append, List.append_nil, Nat.reduceSub, Nat.reduceAdd, rgTup_e, rgCons_e, rgNil_e, asB_e, asI_e, asL_e, asT_e, asS_e, rngOf_e, rdEq_s, rdEq_i, rdEq_l, rdEq_t, rdEq_b, rdEq_n, rdEq_sn, rdNe_s, rdNe_i, rdNe_l, rdNe_t, rdNe_b, rdNe_n, rdNe_sn, rdIn_l, rdIn_t, rdIn_s, rdI0_e, rdI_e, rdAdd_i, rdAdd_s, rdAdd_l, rdMul_i, rdMul_l, rdIx_l, rdIx_t, rdIx_s, rdSlA_l, rdSlA_s, rdLen_l, rdLen_t, rdLen_f, rdLen_s, rdAll_e, rdAny_e, rdAbs_e, rdInt_i, rdMin2_e, rdList_l, rdListA_l, rdListA_t, rdListA_s, rdTuple_l, rdTuple_t, rdIsi_e, tyN_non, tyN_bl, tyN_int, tyN_str, tyN_lst, tyN_tup, tyN_dic, keyOf_s, keyOf_i, eq_self, decide_true, decide_false, Option.some.injEq, exists_eq_left', exists_eq_left, exists_eq_right, exists_and_left, true_and, and_true, Bool.false_eq_true, if_false, if_true, reduceIte, Bool.not_true, Bool.not_false, reduceCtorEq]
  refine word_ok hz.1 (cname_ok hz.1 ⟨small_of (show 2 ≤ 1000 by decide), ?_⟩)
  refine repr_ok _ (.inl ⟨_, rfl⟩) (okR_bb _ _) (repr_ok _ (.inl ⟨_, rfl⟩) (okR_bb _ _) ?_)
  simp only [rdNe_s, asB_e, ne_same, Bool.false_eq_true, if_false]
  exact q
theorem st6 (hz : okS z) (q : E.nx [x0, x1, x2, .dat (.str z), .dat (.lst [.bl (isW (.str z)), .bl (isC (.str z))]), x5]) : rd_law_6 d E [x0, x1, x2, .dat (.str z), .dat (.lst [.bl (isW (.str z)), .bl (isC (.str z))]), x5] := by
  unfold rd_law_6
  simp only [rdVar, rdC, rdShare, rdOp, rdTest, rdAnd, rdOr, rdNot, rdNotV, rdNil, rdCons, rdTup, rdLst, rdCB, rdCF, rdCall, rdCallKw, rdSl, rdNoPart, rdPart, rdNext, rdSeq, rdDrop, rdRet, rdRetN, rdIfS, rgName, rdAsg, rdSetOwn, rdApp, rdFor, rdLc, rdILst, rdITup, rdIStr, rdIRng, rdNeg, rdOrT, rdPar, rdDic0, rdDic1, startG, List.length_cons, List.length_nil, List.map_cons, List.map_nil, List.replicate, List.set, List.getElem?_cons_zero, List.getElem?_cons_succ, List.append, List.cons_append, List.nil_append, List.append_nil, Nat.reduceSub, Nat.reduceAdd, rgTup_e, rgCons_e, rgNil_e, asB_e, asI_e, asL_e, asT_e, asS_e, rngOf_e, rdEq_s, rdEq_i, rdEq_l, rdEq_t, rdEq_b, rdEq_n, rdEq_sn, rdNe_s, rdNe_i, rdNe_l, rdNe_t, rdNe_b, rdNe_n, rdNe_sn, rdIn_l, rdIn_t, rdIn_s, rdI0_e, rdI_e, rdAdd_i, rdAdd_s, rdAdd_l, rdMul_i, rdMul_l, rdIx_l, rdIx_t, rdIx_s, rdSlA_l, rdSlA_s, rdLen_l, rdLen_t, rdLen_f, rdLen_s, rdAll_e, rdAny_e, rdAbs_e, rdInt_i, rdMin2_e, rdList_l, rdListA_l, rdListA_t, rdListA_s, rdTuple_l, rdTuple_t, rdIsi_e, tyN_non, tyN_bl, tyN_int, tyN_str, tyN_lst, tyN_tup, tyN_dic, keyOf_s, keyOf_i, eq_self, decide_true, decide_false, Option.some.injEq, exists_eq_left', exists_eq_left, exists_eq_right, exists_and_left, true_and, and_true, Bool.false_eq_true, if_false, if_true, reduceIte, Bool.not_true, Bool.not_false, reduceCtorEq]
  refine word_ok hz.1 (cname_ok hz.1 ⟨small_of (show 2 ≤ 1000 by decide), ?_⟩)
  refine repr_ok _ (.inl ⟨_, rfl⟩) (okR_bb _ _) (repr_ok _ (.inl ⟨_, rfl⟩) (okR_bb _ _) ?_)
  simp only [rdNe_s, asB_e, ne_same, Bool.false_eq_true, if_false]
  exact q
theorem st8 (q : ∀ o, okV o → isW o = false → isC o = false → E.nx [x0, .dat (.ref d), x2, .dat (.str z), x4, .dat o]) : rd_law_8 d E [x0, .dat (.ref d), x2, .dat (.str z), x4, x5] := by
  unfold rd_law_8
  simp only [rdVar, rdC, rdShare, rdOp, rdTest, rdAnd, rdOr, rdNot, rdNotV, rdNil, rdCons, rdTup, rdLst, rdCB, rdCF, rdCall, rdCallKw, rdSl, rdNoPart, rdPart, rdNext, rdSeq, rdDrop, rdRet, rdRetN, rdIfS, rgName, rdAsg, rdSetOwn, rdApp, rdFor, rdLc, rdILst, rdITup, rdIStr, rdIRng, rdNeg, rdOrT, rdPar, rdDic0, rdDic1, startG, List.length_cons, List.length_nil, List.map_cons, List.map_nil, List.replicate, List.set, List.getElem?_cons_zero, List.getElem?_cons_succ, List.append, List.cons_append, List.nil_append, List.append_nil, Nat.reduceSub, Nat.reduceAdd, rgTup_e, rgCons_e, rgNil_e, asB_e, asI_e, asL_e, asT_e, asS_e, rngOf_e, rdEq_s, rdEq_i, rdEq_l, rdEq_t, rdEq_b, rdEq_n, rdEq_sn, rdNe_s, rdNe_i, rdNe_l, rdNe_t, rdNe_b, rdNe_n, rdNe_sn, rdIn_l, rdIn_t, rdIn_s, rdI0_e, rdI_e, rdAdd_i, rdAdd_s, rdAdd_l, rdMul_i, rdMul_l, rdIx_l, rdIx_t, rdIx_s, rdSlA_l, rdSlA_s, rdLen_l, rdLen_t, rdLen_f, rdLen_s, rdAll_e, rdAny_e, rdAbs_e, rdInt_i, rdMin2_e, rdList_l, rdListA_l, rdListA_t, rdListA_s, rdTuple_l, rdTuple_t, rdIsi_e, tyN_non, tyN_bl, tyN_int, tyN_str, tyN_lst, tyN_tup, tyN_dic, keyOf_s, keyOf_i, eq_self, decide_true, decide_false, Option.some.injEq, exists_eq_left', exists_eq_left, exists_eq_right, exists_and_left, true_and, and_true, Bool.false_eq_true, if_false, if_true, reduceIte, Bool.not_true, Bool.not_false, reduceCtorEq]
  refine ⟨small_of (by decide), small_of (by decide), small_of (by decide), small_of (by decide), ⟨by decide, by decide, by decide⟩, small_of (by decide), pickS_lst (by simp) (show 11 < 1000 by decide) fun o ho => ?_⟩
  have t : ∀ x : String, some x ≠ none := fun x z => nomatch z
  have h : okV o ∧ isW o = false ∧ isC o = false := by
    simp only [List.mem_cons, List.not_mem_nil, or_false] at ho
    rcases ho with rfl | rfl | rfl | rfl | rfl | rfl | rfl | rfl | rfl | rfl | rfl
    all_goals exact ⟨t _, rfl, rfl⟩
  exact q o h.1 h.2.1 h.2.2
theorem st9 {o : D} (ho : okV o) (h1 : isW o = false) (h2 : isC o = false) (q : E.nx [x0, x1, x2, x3, x4, .dat o]) : rd_law_9 d E [x0, x1, x2, x3, x4, .dat o] := by
  unfold rd_law_9
  simp only [rdVar, rdC, rdShare, rdOp, rdTest, rdAnd, rdOr, rdNot, rdNotV, rdNil, rdCons, rdTup, rdLst, rdCB, rdCF, rdCall, rdCallKw, rdSl, rdNoPart, rdPart, rdNext, rdSeq, rdDrop, rdRet, rdRetN, rdIfS, rgName, rdAsg, rdSetOwn, rdApp, rdFor, rdLc, rdILst, rdITup, rdIStr, rdIRng, rdNeg, rdOrT, rdPar, rdDic0, rdDic1, startG, List.length_cons, List.length_nil, List.map_cons, List.map_nil, List.replicate, List.set, List.getElem?_cons_zero, List.getElem?_cons_succ, List.append, List.cons_append, List.nil_append, List.append_nil, Nat.reduceSub, Nat.reduceAdd, rgTup_e, rgCons_e, rgNil_e, asB_e, asI_e, asL_e, asT_e, asS_e, rngOf_e, rdEq_s, rdEq_i, rdEq_l, rdEq_t, rdEq_b, rdEq_n, rdEq_sn, rdNe_s, rdNe_i, rdNe_l, rdNe_t, rdNe_b, rdNe_n, rdNe_sn, rdIn_l, rdIn_t, rdIn_s, rdI0_e, rdI_e, rdAdd_i, rdAdd_s, rdAdd_l, rdMul_i, rdMul_l, rdIx_l, rdIx_t, rdIx_s, rdSlA_l, rdSlA_s, rdLen_l, rdLen_t, rdLen_f, rdLen_s, rdAll_e, rdAny_e, rdAbs_e, rdInt_i, rdMin2_e, rdList_l, rdListA_l, rdListA_t, rdListA_s, rdTuple_l, rdTuple_t, rdIsi_e, tyN_non, tyN_bl, tyN_int, tyN_str, tyN_lst, tyN_tup, tyN_dic, keyOf_s, keyOf_i, eq_self, decide_true, decide_false, Option.some.injEq, exists_eq_left', exists_eq_left, exists_eq_right, exists_and_left, true_and, and_true, Bool.false_eq_true, if_false, if_true, reduceIte, Bool.not_true, Bool.not_false, reduceCtorEq]
  refine word_ok ho (cname_ok ho ⟨small_of (show 2 ≤ 1000 by decide), ?_⟩)
  rw [h1, h2]
  refine repr_ok _ (.inl ⟨_, rfl⟩) (okR_bb _ _) ⟨small_of (show 2 ≤ 1000 by decide), repr_ok _ (.inl ⟨_, rfl⟩) (okR_bb _ _) ?_⟩
  simp only [rdNe_s, asB_e, ne_same, Bool.false_eq_true, if_false]
  exact q
end
theorem rdl_law (d : Addr) (ns : List Int) (hl : ns.length ≤ 63) : rd_law d { nx := fun _ => False, rt := fun r => r = .bl true } (.dat (.fz ns) :: .dat (.ref d) :: List.replicate 4 .no) := by
  unfold rd_law rd_law_0
  simp only [rdVar, rdC, rdShare, rdOp, rdTest, rdAnd, rdOr, rdNot, rdNotV, rdNil, rdCons, rdTup, rdLst, rdCB, rdCF, rdCall, rdCallKw, rdSl, rdNoPart, rdPart, rdNext, rdSeq, rdDrop, rdRet, rdRetN, rdIfS, rgName, rdAsg, rdSetOwn, rdApp, rdFor, rdLc, rdILst, rdITup, rdIStr, rdIRng, rdNeg, rdOrT, rdPar, rdDic0, rdDic1, startG, List.length_cons, List.length_nil, List.map_cons, List.map_nil, List.replicate, List.set, List.getElem?_cons_zero, List.getElem?_cons_succ, List.append, List.cons_append, List.nil_append, List.append_nil, Nat.reduceSub, Nat.reduceAdd, rgTup_e, rgCons_e, rgNil_e, asB_e, asI_e, asL_e, asT_e, asS_e, rngOf_e, rdEq_s, rdEq_i, rdEq_l, rdEq_t, rdEq_b, rdEq_n, rdEq_sn, rdNe_s, rdNe_i, rdNe_l, rdNe_t, rdNe_b, rdNe_n, rdNe_sn, rdIn_l, rdIn_t, rdIn_s, rdI0_e, rdI_e, rdAdd_i, rdAdd_s, rdAdd_l, rdMul_i, rdMul_l, rdIx_l, rdIx_t, rdIx_s, rdSlA_l, rdSlA_s, rdLen_l, rdLen_t, rdLen_f, rdLen_s, rdAll_e, rdAny_e, rdAbs_e, rdInt_i, rdMin2_e, rdList_l, rdListA_l, rdListA_t, rdListA_s, rdTuple_l, rdTuple_t, rdIsi_e, tyN_non, tyN_bl, tyN_int, tyN_str, tyN_lst, tyN_tup, tyN_dic, keyOf_s, keyOf_i, eq_self, decide_true, decide_false, Option.some.injEq, exists_eq_left', exists_eq_left, exists_eq_right, exists_and_left, true_and, and_true, Bool.false_eq_true, if_false, if_true, reduceIte, Bool.not_true, Bool.not_false, reduceCtorEq]
  refine ⟨by decide, goFor_n (fun _ Γ => ∃ x2 x3 x4 x5, Γ = [.dat (.fz ns), .dat (.ref d), x2, x3, x4, x5]) _ 0 _ ⟨_, _, _, _, rfl⟩ ?_ ?_⟩
  · rintro j e _ hj _ ⟨x2, x3, x4, x5, rfl⟩ N hN
    simp only [rgName, List.set, rdSeq]
    exact st1 fun z hz => st2 (d := d) hz <| st3 (d := d) hz <| st4 (d := d) hz <| st6 (d := d) hz <| st8 fun o h1 h2 h3 => st9 (d := d) h1 h2 h3 <| hN _ ⟨_, _, _, _, rfl⟩
  · rintro _ ⟨x2, x3, x4, x5, rfl⟩
    unfold rd_law_11
    simp only [rdVar, rdC, rdShare, rdOp, rdTest, rdAnd, rdOr, rdNot, rdNotV, rdNil, rdCons, rdTup, rdLst, rdCB, rdCF, rdCall, rdCallKw, rdSl, rdNoPart, rdPart, rdNext, rdSeq, rdDrop, rdRet, rdRetN, rdIfS, rgName, rdAsg, rdSetOwn, rdApp, rdFor, rdLc, rdILst, rdITup, rdIStr, rdIRng, rdNeg, rdOrT, rdPar, rdDic0, rdDic1, startG, List.length_cons, List.length_nil, List.map_cons, List.map_nil, List.replicate, List.set, List.getElem?_cons_zero, List.getElem?_cons_succ, List.append, List.cons_append, List.nil_append, List.append_nil, Nat.reduceSub, Nat.reduceAdd, rgTup_e, rgCons_e, rgNil_e, asB_e, asI_e, asL_e, asT_e, asS_e, rngOf_e, rdEq_s, rdEq_i, rdEq_l, rdEq_t, rdEq_b, rdEq_n, rdEq_sn, rdNe_s, rdNe_i, rdNe_l, rdNe_t, rdNe_b, rdNe_n, rdNe_sn, rdIn_l, rdIn_t, rdIn_s, rdI0_e, rdI_e, rdAdd_i, rdAdd_s, rdAdd_l, rdMul_i, rdMul_l, rdIx_l, rdIx_t, rdIx_s, rdSlA_l, rdSlA_s, rdLen_l, rdLen_t, rdLen_f, rdLen_s, rdAll_e, rdAny_e, rdAbs_e, rdInt_i, rdMin2_e, rdList_l, rdListA_l, rdListA_t, rdListA_s, rdTuple_l, rdTuple_t, rdIsi_e, tyN_non, tyN_bl, tyN_int, tyN_str, tyN_lst, tyN_tup, tyN_dic, keyOf_s, keyOf_i, eq_self, decide_true, decide_false, Option.some.injEq, exists_eq_left', exists_eq_left, exists_eq_right, exists_and_left, true_and, and_true, Bool.false_eq_true, if_false, if_true, reduceIte, Bool.not_true, Bool.not_false, reduceCtorEq]
end K02

set_option Elab.async false
set_option linter.all false
set_option maxRecDepth 100000
set_option maxHeartbeats 4000000
namespace K02
open PySem PySem.Spec L2 VL
open PyProof.Rows hiding St
variable {P : Program} {w : World} {K : PySem.W.Frag} {mg : Str → Option Value} {base : Heap}
theorem ok_is_word (T : Txt K mg) : FnOk P w K mg base CX0 1 T.a_is_word T.fd_is_word ["value"] (spD Vol.no K Fis_word) := by
  refine fn_d Vol.no T.F_is_word sc_is_word (fun ds Q h => len_is_word h) (fun cdv A outer s H E W hJ hr => ?_)
  exact ⟨_, rd_is_word, (dss_one (ds_ret (d_and (d_callB (crK rIsi rfl call_isi) (cd_isi (K := K)) (by rfl) T.n_isinstance (by decide +kernel) (da_cons (d_var (i := 0)) (da_cons (d_bltn (v := .ty "str") (d := .ty "str") (u := .type "str") (by rfl) T.n_str (by decide +kernel) rfl (fun _ => .ty _)) da_nil))) (d_and (d_chain op_le od_le op_le od_le d_int (d_callB (crK rLenA rfl cr_len) (cd_len (K := K)) (by rfl) T.n_len (by decide +kernel) (da_cons (d_var (i := 0)) da_nil)) (d_glob (v := (.int 8)) (d := (.int 8)) (by rfl) T.m_LONGEST ⟨_, rfl⟩ (fun _ => .int _))) (d_one (d_callB (crK rAll rfl (cr_all rfl)) (cd_all (K := K)) (by rfl) T.n_all (by decide +kernel) (da_cons (d_share (d_lc (own := [("sign", 1)]) rfl sc_is_word.nd (di_str (d_var (i := 0))) (blkOk_by (own := [("sign", 1)]) (N := N_is_word) (sc := defScope s_is_word) (by decide +kernel)) (fun _ _ _ _ _ => (dg_name (j := 1) sc_is_word.nd rfl (Or.inl rfl))) (fun _ _ _ _ _ => dts_nil) (fun _ _ _ _ _ => (d_cmp (opK rInA rfl (op_inA (hu65 hr))) (od_in (K := K)) (d_var (i := 1)) (d_glob (v := (.str "abcdefghijklmnopqrstuvwxyz")) (d := (.str "abcdefghijklmnopqrstuvwxyz")) (by rfl) T.m_SMALL ⟨_, rfl⟩ (fun _ => .str _)) (by rfl))) (by decide))) da_nil))))))), fun ds Q h => rdl_is_word h⟩
theorem ok_is_class_name (T : Txt K mg) : FnOk P w K mg base CX0 1 T.a_is_class_name T.fd_is_class_name ["value"] (spD Vol.no K Fis_class_name) := by
  refine fn_d Vol.no T.F_is_class_name sc_is_class_name (fun ds Q h => len_is_class_name h) (fun cdv A outer s H E W hJ hr => ?_)
  exact ⟨_, rd_is_class_name, (dss_cons (ds_if (DW.dt (dw_or (dt_not (dt_val (d_callB (crK rIsi rfl call_isi) (cd_isi (K := K)) (by rfl) T.n_isinstance (by decide +kernel) (da_cons (d_var (i := 0)) (da_cons (d_bltn (v := .ty "str") (d := .ty "str") (u := .type "str") (by rfl) T.n_str (by decide +kernel) rfl (fun _ => .ty _)) da_nil))))) (dw_or (dt_not (dt_chain op_le od_le op_le od_le d_int (d_callB (crK rLenA rfl cr_len) (cd_len (K := K)) (by rfl) T.n_len (by decide +kernel) (da_cons (d_var (i := 0)) da_nil)) (d_glob (v := (.int 8)) (d := (.int 8)) (by rfl) T.m_LONGEST ⟨_, rfl⟩ (fun _ => .int _)))) (dw_or1 (dt_cmp (opK rNotInA rfl (op_notInA (hu65 hr))) (od_notIn (K := K)) (d_ix (ixK rIx rfl ix_seq) (od_ix (K := K)) (d_var (i := 0)) d_int (fun _ _ => rfl)) (d_glob (v := (.str "ABCDEFGHIJKLMNOPQRSTUVWXYZ")) (d := (.str "ABCDEFGHIJKLMNOPQRSTUVWXYZ")) (by rfl) T.m_LARGE ⟨_, rfl⟩ (fun _ => .str _)) (by rfl)))))) (dss_one (ds_ret d_bl)) dss_nil)
      (dss_one (ds_ret (d_callB (crK rAll rfl (cr_all rfl)) (cd_all (K := K)) (by rfl) T.n_all (by decide +kernel) (da_cons (d_share (d_lc (own := [("sign", 1)]) rfl sc_is_class_name.nd (di_str (d_slice (slK rSlA rfl sl_all) (sd_all (K := K)) (d_var (i := 0)) (do_some d_int) do_none)) (blkOk_by (own := [("sign", 1)]) (N := N_is_class_name) (sc := defScope s_is_class_name) (by decide +kernel)) (fun _ _ _ _ _ => (dg_name (j := 1) sc_is_class_name.nd rfl (Or.inl rfl))) (fun _ _ _ _ _ => dts_nil) (fun _ _ _ _ _ => (d_cmp (opK rInA rfl (op_inA (hu65 hr))) (od_in (K := K)) (d_var (i := 1)) (d_glob (v := (.str "abcdefghijklmnopqrstuvwxyz")) (d := (.str "abcdefghijklmnopqrstuvwxyz")) (by rfl) T.m_SMALL ⟨_, rfl⟩ (fun _ => .str _)) (by rfl))) (by decide))) da_nil))))), fun ds Q h => rdl_is_class_name h⟩
theorem ok__law_begin (T : Txt K mg) : FnOk P w K mg base CX0 1 T.a__law_begin T.fd__law_begin ["_law_script"] (spD Vol.no K Fbegin) := by
  refine fn_d Vol.no T.F__law_begin sc__law_begin (fun ds Q h => len__law_begin h) (fun cdv A outer s H E W hJ hr => ?_)
  exact ⟨_, rd__law_begin, (dss_one (ds_ret (d_share (d_lst (da_cons (d_orTK rfl (d_share (d_lc (own := [("_law_cell", 1)]) rfl sc__law_begin.nd (di_listK rfl (d_slice (slK rSlA rfl sl_all) (sd_all (K := K)) (d_var (i := 0)) do_none (do_some d_int))) (blkOk_by (own := [("_law_cell", 1)]) (N := N__law_begin) (sc := defScope s__law_begin) (by decide +kernel)) (fun _ _ _ _ _ => (dg_name (j := 1) sc__law_begin.nd rfl (Or.inl rfl))) (fun _ _ _ _ _ => dts_nil) (fun _ _ _ _ _ => (d_callB call_abs cd_abs (by rfl) T.n_abs (by decide +kernel) (da_cons (d_var (i := 1)) da_nil))) (by decide))) (d_one (d_share (d_lst (da_cons d_int da_nil))))) (da_cons d_int (da_cons d_int (da_cons d_int da_nil)))))))), fun ds Q h => rdl_begin h⟩
theorem ok__law_take (T : Txt K mg) (d c : Addr) : FnOk P w K mg base CX0 1 T.a__law_take T.fd__law_take ["_law_draw", "_law_many"] (spD (drawJ d c) K (Ftake d)) := by
  refine T.F__law_take.ok sc__law_take (fun vs H Q E h => ?_) (fun cdv A outer s H vs Q E hr h => ⟨tTake K, ?_, take_sem (by rfl) h⟩)
  · obtain ⟨Hv, ds, Qd, _, _, _, r, hf, _⟩ := h
    rw [r.length, len_take hf]
    rfl
  · have nd := sc__law_take.nd
    exact pss_cons (ps_set (i := 2) nd rfl (Or.inl rfl) (pe_ix ix_seq (p_var (i := 0)) pe_int (fun _ _ => rfl))) <|
      pss_cons (ps_set (i := 3) nd rfl (Or.inl rfl) (pe_op op_mod (pe_callTy call_int1 (by rfl) T.n_int (by decide +kernel) (pa_cons (pe_ix ix_seq (p_var (i := 0)) pe_int (fun _ _ => rfl)) pa_nil)) (pe_callB cr_len (by rfl) T.n_len (by decide +kernel) (pa_cons (p_var (i := 2)) pa_nil)))) <|
      pss_cons (ps_set (i := 4) nd rfl (Or.inl rfl) (pe_ix ix_seq (p_var (i := 2)) (p_var (i := 3)) (fun _ _ => rfl))) <|
      pss_cons (ps_if (pt_cmpR op_ge (p_var (i := 4)) (pe_op op_pow pe_int pe_int) (nomark _))
        (pss_cons (ps_asg (pe_op op_fdiv (p_var (i := 4)) (p_var (i := 1))) (pg_sub (p_var (i := 2)) (p_var (i := 3)) set_list)) (pss_one (ps_ret (pe_op op_mod (pe_callTy call_int1 (by rfl) T.n_int (by decide +kernel) (pa_cons (p_var (i := 4)) pa_nil)) (p_var (i := 1)))))) pss_nil) <|
      pss_cons (ps_asg (pe_op op_add (pe_ix ix_seq (p_var (i := 0)) pe_int (fun _ _ => rfl)) pe_int) (pg_sub (p_var (i := 0)) pe_int set_list)) <|
      pss_cons (ps_asg (pe_op op_add (pe_ix ix_seq (p_var (i := 0)) pe_int (fun _ _ => rfl)) pe_int) (pg_sub (p_var (i := 0)) pe_int set_list)) <|
      pss_cons (ps_asg (pe_op op_mod (pe_callTy call_int1 (by rfl) T.n_int (by decide +kernel) (pa_cons (pe_op op_add (pe_op op_add (pe_op op_add (pe_op op_mul (pe_ix ix_seq (p_var (i := 0)) pe_int (fun _ _ => rfl)) pe_int) (p_var (i := 4))) (pe_op op_mul pe_int (pe_ix ix_seq (p_var (i := 0)) pe_int (fun _ _ => rfl)))) pe_int) pa_nil)) pe_int) (pg_sub (p_var (i := 0)) pe_int set_list)) <|
      pss_cons (ps_set (i := 5) nd rfl (Or.inl rfl) (pe_op op_mod (pe_callTy call_int1 (by rfl) T.n_int (by decide +kernel) (pa_cons (pe_op op_mul (pe_ix ix_seq (p_var (i := 0)) pe_int (fun _ _ => rfl)) (pe_ix ix_seq (p_var (i := 0)) pe_int (fun _ _ => rfl))) pa_nil)) pe_int)) <|
      pss_one (ps_ret (pe_op op_mod (pe_callTy call_int1 (by rfl) T.n_int (by decide +kernel) (pa_cons (pe_op op_fdiv (p_var (i := 5)) pe_int) pa_nil)) (p_var (i := 1))))
theorem ok__law_pick (T : Txt K mg) (d c : Addr) : FnOk P w K mg base CX0 2 T.a__law_pick T.fd__law_pick ["_law_draw", "_law_some"] (spD (drawJ d c) K (FpickS d)) := by
  refine fn_d (drawJ d c) T.F__law_pick sc__law_pick (fun ds Q h => len__law_pick h) (fun cdv A outer s H E W hJ hr => ?_)
  exact ⟨_, rd__law_pick d, (dss_one (ds_ret (d_ix (ixK rIx rfl ix_seq) (od_ix (K := K)) (d_var (i := 1)) (d_callVK rfl (fnV fun d c => ok__law_take T d c) hJ (hr.mono (by decide)) (by rfl) T.g__law_take T.F__law_take.kp T.b__law_take .nil (fun _ => .nil) pass0 (da_cons (d_var (i := 0)) (da_cons (d_callB (crK rLenA rfl cr_len) (cd_len (K := K)) (by rfl) T.n_len (by decide +kernel) (da_cons (d_var (i := 1)) da_nil)) da_nil))) (fun _ _ => rfl)))), fun ds Q h => rdl_pick h⟩
theorem ok__law_text (T : Txt K mg) (d c : Addr) : FnOk P w K mg base CX0 3 T.a__law_text T.fd__law_text ["_law_draw"] (spD (drawJ d c) K (Ftext d)) := by
  refine fn_d (drawJ d c) T.F__law_text sc__law_text (fun ds Q h => len__law_text h) (fun cdv A outer s H E W hJ hr => ?_)
  exact ⟨_, rd__law_text d, (dss_cons (ds_asg (d_tup (da_cons d_str (da_cons d_str da_nil))) (dg_tupK rfl rfl (dgs_cons (dg_name (j := 1) sc__law_text.nd rfl (Or.inl rfl)) (dgs_cons (dg_name (j := 2) sc__law_text.nd rfl (Or.inl rfl)) dgs_nil))))
      (dss_cons (ds_set (j := 3) sc__law_text.nd rfl (Or.inl rfl) (d_callVK rfl (fnV fun d c => ok__law_pick T d c) hJ (hr.mono (by decide)) (by rfl) T.g__law_pick T.F__law_pick.kp T.b__law_pick .nil (fun _ => .nil) pass0 (da_cons (d_var (i := 0)) (da_cons (d_share (d_lst (da_cons d_str (da_cons (d_callVK rfl (fnV fun d c => ok__law_pick T d c) hJ (hr.mono (by decide)) (by rfl) T.g__law_pick T.F__law_pick.kp T.b__law_pick .nil (fun _ => .nil) pass0 (da_cons (d_var (i := 0)) (da_cons (d_var (i := 2)) da_nil))) (da_cons (d_callVK rfl (fnV fun d c => ok__law_pick T d c) hJ (hr.mono (by decide)) (by rfl) T.g__law_pick T.F__law_pick.kp T.b__law_pick .nil (fun _ => .nil) pass0 (da_cons (d_var (i := 0)) (da_cons (d_var (i := 1)) da_nil))) da_nil))))) da_nil))))
      (dss_cons (ds_for PassesOwn.never rfl (di_range (by rfl) T.n_range (da_cons (d_callVK rfl (fnV fun d c => ok__law_take T d c) hJ (hr.mono (by decide)) (by rfl) T.g__law_take T.F__law_take.kp T.b__law_take .nil (fun _ => .nil) pass0 (da_cons (d_var (i := 0)) (da_cons d_int da_nil))) da_nil)) (dg_name (j := 4) sc__law_text.nd rfl (Or.inl rfl)) (dss_cons (ds_set (j := 5) sc__law_text.nd rfl (Or.inl rfl) (d_callVK rfl (fnV fun d c => ok__law_pick T d c) hJ (hr.mono (by decide)) (by rfl) T.g__law_pick T.F__law_pick.kp T.b__law_pick .nil (fun _ => .nil) pass0 (da_cons (d_var (i := 0)) (da_cons (d_share (d_lst (da_cons (d_callVK rfl (fnV fun d c => ok__law_pick T d c) hJ (hr.mono (by decide)) (by rfl) T.g__law_pick T.F__law_pick.kp T.b__law_pick .nil (fun _ => .nil) pass0 (da_cons (d_var (i := 0)) (da_cons (d_var (i := 2)) da_nil))) (da_cons d_str (da_cons d_str (da_cons d_str (da_cons d_str (da_cons d_str da_nil)))))))) da_nil))))
      (dss_one (ds_set (j := 3) sc__law_text.nd rfl (Or.inl rfl) (d_op (opK rAddA rfl op_addA) (od_add (K := K)) (d_var (i := 3)) (d_callVK rfl (fnV fun d c => ok__law_pick T d c) hJ (hr.mono (by decide)) (by rfl) T.g__law_pick T.F__law_pick.kp T.b__law_pick .nil (fun _ => .nil) pass0 (da_cons (d_var (i := 0)) (da_cons (d_op (opK rAddA rfl op_addA) (od_add (K := K)) (d_op op_mulA od_mul (d_share (d_lst (da_cons (d_callVK rfl (fnV fun d c => ok__law_pick T d c) hJ (hr.mono (by decide)) (by rfl) T.g__law_pick T.F__law_pick.kp T.b__law_pick .nil (fun _ => .nil) pass0 (da_cons (d_var (i := 0)) (da_cons (d_var (i := 1)) da_nil))) da_nil))) d_int) (d_share (d_lst (da_cons (d_var (i := 5)) da_nil)))) da_nil))))))))
      (dss_one (ds_ret (d_var (i := 3))))))), fun ds Q h => rdl__law_text h⟩
theorem ok__law_is_small (T : Txt K mg) : FnOk P w K mg base CX0 1 T.a__law_is_small T.fd__law_is_small ["_law_note"] (spD Vol.no K Fsmall) := by
  refine fn_d Vol.no T.F__law_is_small sc__law_is_small (fun ds Q h => len__law_is_small h) (fun cdv A outer s H E W hJ hr => ?_)
  exact ⟨_, rd__law_is_small, (dss_one (ds_ret (d_cmp (opK rEqA rfl (op_eqA (hu64 hr))) (od_eq (K := K)) (d_share (d_lc (own := [("_law_sign", 1)]) rfl sc__law_is_small.nd (di_str (d_var (i := 0))) (blkOk_by (own := [("_law_sign", 1)]) (N := N__law_is_small) (sc := defScope s__law_is_small) (by decide +kernel)) (fun _ _ _ _ _ => (dg_name (j := 1) sc__law_is_small.nd rfl (Or.inl rfl))) (fun _ _ _ _ _ => (dts_one (dt_cmp (opK rNotInA rfl (op_notInA (hu65 hr))) (od_notIn (K := K)) (d_var (i := 1)) d_str (by rfl)))) (fun _ _ _ _ _ => (d_var (i := 1))) (by decide))) (d_share (d_lst da_nil)) (nomark _)))), fun ds Q h => rdl__law_is_small h⟩
theorem ok_law (T : Txt K mg) : FnG P w K mg base CX0 4 T.a_law T.fd_law ["_law_script"] (spLaw K) := by
  have F := T.F_law
  generalize T.fd_law = fd at F
  obtain ⟨oc, od, kV, doc, pm, an, cdv, ct, osl, rfl, lk, hcd⟩ := F.ex
  refine fn_ofG lk hcd sc_law (fun vs H Q E h => ?_) (fun A outer s H vs Q E hgd0 hr h => ?_)
  · obtain ⟨a, ns, rfl, _⟩ := h
    rfl
  · have rest : ∃ ts, ∀ (W : Wc) (d c : Addr), W.J = drawJ d c → DSs W (cxOf CX0 P w K mg base N_law "law" (defScope s_law) T.a_law cdv A outer s H E).nox ((defBody s_law).tail) ts (rd_law d) := ⟨_, fun W d c hJ => (dss_cons (ds_for PassesOwn.never rfl (di_range (by rfl) T.n_range (da_cons d_int da_nil)) (dg_name (j := 2) sc_law.nd rfl (Or.inl rfl)) (dss_cons (ds_set (j := 3) sc_law.nd rfl (Or.inl rfl) (d_callVK rfl (fnV fun d c => ok__law_text T d c) hJ (hr.mono (by decide)) (by rfl) T.g__law_text T.F__law_text.kp T.b__law_text .nil (fun _ => .nil) pass0 (da_cons (d_var (i := 1)) da_nil)))
      (dss_cons (ds_setOwn (j := 4) sc_law.nd rfl (Or.inl rfl) (d_lst (da_cons (d_and (d_chain op_le od_le op_le od_le d_int (d_callB (crK rLenA rfl cr_len) (cd_len (K := K)) (by rfl) T.n_len (by decide +kernel) (da_cons (d_var (i := 3)) da_nil)) d_int) (d_one (d_callPK rfl (ok__law_is_small T) (hr.mono (by decide)) (by rfl) T.g__law_is_small T.F__law_is_small.kp T.b__law_is_small .nil (fun _ => .nil) pass0 (da_cons (d_var (i := 3)) da_nil)))) da_nil)))
      (dss_cons (ds_expr (d_append (i := 4) (d_and (d_chain op_le od_le op_le od_le d_int (d_callB (crK rLenA rfl cr_len) (cd_len (K := K)) (by rfl) T.n_len (by decide +kernel) (da_cons (d_var (i := 3)) da_nil)) d_int) (d_and (d_cmp (opK rInA rfl (op_inA (hu65 hr))) (od_in (K := K)) (d_slice (slK rSlA rfl sl_all) (sd_all (K := K)) (d_var (i := 3)) do_none (do_some d_int)) (d_share (df_callTy (crK rListA rfl (cr_list rfl)) (cf_listA (K := K)) (by rfl) T.n_list (by decide +kernel) (da_cons d_str da_nil))) (by rfl)) (d_one (d_callPK rfl (ok__law_is_small T) (hr.mono (by decide)) (by rfl) T.g__law_is_small T.F__law_is_small.kp T.b__law_is_small .nil (fun _ => .nil) pass0 (da_cons (d_slice (slK rSlA rfl sl_all) (sd_all (K := K)) (d_var (i := 3)) (do_some d_int) do_none) da_nil)))))))
      (dss_cons (ds_if (dt_cmp (opK rNeA rfl (op_neA (hu64 hr))) (od_ne (K := K)) (d_callB (crK rRepr rfl (cr_repr hr hgd0)) (cd_repr (K := K)) (by rfl) T.n_repr (by decide +kernel) (da_cons (d_share (d_lst (da_cons (d_callPK rfl (ok_is_word T) (hr.mono (by decide)) (by rfl) T.g_is_word T.F_is_word.kp T.b_is_word .nil (fun _ => .nil) pass0 (da_cons (d_var (i := 3)) da_nil)) (da_cons (d_callPK rfl (ok_is_class_name T) (hr.mono (by decide)) (by rfl) T.g_is_class_name T.F_is_class_name.kp T.b_is_class_name .nil (fun _ => .nil) pass0 (da_cons (d_var (i := 3)) da_nil)) da_nil)))) da_nil)) (d_callB (crK rRepr rfl (cr_repr hr hgd0)) (cd_repr (K := K)) (by rfl) T.n_repr (by decide +kernel) (da_cons (d_var (i := 4)) da_nil)) (nomark _)) (dss_one (ds_ret d_bl)) dss_nil)
      (dss_cons (ds_if (dt_cmp (opK rNeA rfl (op_neA (hu64 hr))) (od_ne (K := K)) (d_callB (crK rRepr rfl (cr_repr hr hgd0)) (cd_repr (K := K)) (by rfl) T.n_repr (by decide +kernel) (da_cons (d_share (d_lst (da_cons (d_callKwPK (ks := ["value"]) rfl (ok_is_word T) (hr.mono (by decide)) (by rfl) T.g_is_word T.F_is_word.kp T.kw_is_word pass0 (dk_cons (d_var (i := 3)) dk_nil)) (da_cons (d_callKwPK (ks := ["value"]) rfl (ok_is_class_name T) (hr.mono (by decide)) (by rfl) T.g_is_class_name T.F_is_class_name.kp T.kw_is_class_name pass0 (dk_cons (d_var (i := 3)) dk_nil)) da_nil)))) da_nil)) (d_callB (crK rRepr rfl (cr_repr hr hgd0)) (cd_repr (K := K)) (by rfl) T.n_repr (by decide +kernel) (da_cons (d_var (i := 4)) da_nil)) (nomark _)) (dss_one (ds_ret d_bl)) dss_nil)
      (dss_cons (ds_set (j := 5) sc_law.nd rfl (Or.inl rfl) (d_callVK rfl (fnV fun d c => ok__law_pick T d c) hJ (hr.mono (by decide)) (by rfl) T.g__law_pick T.F__law_pick.kp T.b__law_pick .nil (fun _ => .nil) pass0 (da_cons (d_var (i := 1)) (da_cons (d_share (d_lst (da_cons d_non (da_cons d_int (da_cons d_bl (da_cons (d_share (d_lst (da_cons (d_var (i := 3)) da_nil))) (da_cons (d_tup (da_cons (d_var (i := 3)) da_nil)) (da_cons d_dic0 (da_cons (d_dic1 (d_var (i := 3)) d_int) (da_cons (d_tup da_nil) (da_cons (d_share (d_lst da_nil)) (da_cons (d_op op_pow od_pow d_int d_int) (da_cons (d_neg d_int) da_nil))))))))))))) da_nil))))
      (dss_one (ds_if (dt_cmp (opK rNeA rfl (op_neA (hu64 hr))) (od_ne (K := K)) (d_callB (crK rRepr rfl (cr_repr hr hgd0)) (cd_repr (K := K)) (by rfl) T.n_repr (by decide +kernel) (da_cons (d_share (d_lst (da_cons (d_callPK rfl (ok_is_word T) (hr.mono (by decide)) (by rfl) T.g_is_word T.F_is_word.kp T.b_is_word .nil (fun _ => .nil) pass0 (da_cons (d_var (i := 5)) da_nil)) (da_cons (d_callPK rfl (ok_is_class_name T) (hr.mono (by decide)) (by rfl) T.g_is_class_name T.F_is_class_name.kp T.b_is_class_name .nil (fun _ => .nil) pass0 (da_cons (d_var (i := 5)) da_nil)) da_nil)))) da_nil)) (d_callB (crK rRepr rfl (cr_repr hr hgd0)) (cd_repr (K := K)) (by rfl) T.n_repr (by decide +kernel) (da_cons (d_share (d_lst (da_cons d_bl (da_cons d_bl da_nil)))) da_nil)) (nomark _)) (dss_one (ds_ret d_bl)) dss_nil)))))))))
      (dss_one (ds_ret d_bl)))⟩
    obtain ⟨ts, hts⟩ := rest
    have first : DS W1 (cxOf CX0 P w K mg base N_law "law" (defScope s_law) T.a_law cdv A outer s H E).nox ((defBody s_law).headD (.Pass ⟨0, 0, 0, 0⟩)) _ _ := (ds_set (j := 1) sc_law.nd rfl (Or.inl rfl) (d_callPK rfl (ok__law_begin T) (hr.mono (by decide)) (by rfl) T.g__law_begin T.F__law_begin.kp T.b__law_begin .nil (fun _ => .nil) pass0 (da_cons (d_var (i := 0)) da_nil)))
    exact ⟨_, (pss_cons first.ps (hts W1 0 1 rfl).ps).nox, law_body (m := 4) rfl (fun W d c hJ => (hts W d c hJ).ad) (fun d ns hl => rdl_law d ns hl) h⟩
theorem txt_mk {K : PySem.W.Frag} {h : Heap} {mg : Str → Option Value} (X : K.In h) (G : h.Ns mainGlobals mg)
    {f0 : Addr} {od0 an0 : Option Addr} {sl0 : Array (Option Value)} {oc0 kV0 dc0 pm0 cd0 ct0 : Value}
    {f1 : Addr} {od1 an1 : Option Addr} {sl1 : Array (Option Value)} {oc1 kV1 dc1 pm1 cd1 ct1 : Value}
    {f2 : Addr} {od2 an2 : Option Addr} {sl2 : Array (Option Value)} {oc2 kV2 dc2 pm2 cd2 ct2 : Value}
    {f3 : Addr} {od3 an3 : Option Addr} {sl3 : Array (Option Value)} {oc3 kV3 dc3 pm3 cd3 ct3 : Value}
    {f4 : Addr} {od4 an4 : Option Addr} {sl4 : Array (Option Value)} {oc4 kV4 dc4 pm4 cd4 ct4 : Value}
    {f5 : Addr} {od5 an5 : Option Addr} {sl5 : Array (Option Value)} {oc5 kV5 dc5 pm5 cd5 ct5 : Value}
    {f6 : Addr} {od6 an6 : Option Addr} {sl6 : Array (Option Value)} {oc6 kV6 dc6 pm6 cd6 ct6 : Value}
    {f7 : Addr} {od7 an7 : Option Addr} {sl7 : Array (Option Value)} {oc7 kV7 dc7 pm7 cd7 ct7 : Value}
    {t_LARGE : Tok}
    {t_LONGEST : Tok}
    {t_SMALL : Tok}
    (a0 : PySem.W.nsIn K mainGlobals "is_word" = some (some (.ref f0)))
    (l0 : K.lookup f0 = some ⟨oc0, od0, .func (PySem.W.fnOf "is_word" "is_word" (defArgs s_is_word) (defBody s_is_word) (defScope s_is_word) .none kV0 dc0 pm0 an0 cd0 ct0), sl0⟩)
    (c0 : PySem.W.codeIn K cd0 "is_word" = true) (k0 : PySem.W.keepIn K (.ref f0) = true)
    (a1 : PySem.W.nsIn K mainGlobals "is_class_name" = some (some (.ref f1)))
    (l1 : K.lookup f1 = some ⟨oc1, od1, .func (PySem.W.fnOf "is_class_name" "is_class_name" (defArgs s_is_class_name) (defBody s_is_class_name) (defScope s_is_class_name) .none kV1 dc1 pm1 an1 cd1 ct1), sl1⟩)
    (c1 : PySem.W.codeIn K cd1 "is_class_name" = true) (k1 : PySem.W.keepIn K (.ref f1) = true)
    (a2 : PySem.W.nsIn K mainGlobals "_law_begin" = some (some (.ref f2)))
    (l2 : K.lookup f2 = some ⟨oc2, od2, .func (PySem.W.fnOf "_law_begin" "_law_begin" (defArgs s__law_begin) (defBody s__law_begin) (defScope s__law_begin) .none kV2 dc2 pm2 an2 cd2 ct2), sl2⟩)
    (c2 : PySem.W.codeIn K cd2 "_law_begin" = true) (k2 : PySem.W.keepIn K (.ref f2) = true)
    (a3 : PySem.W.nsIn K mainGlobals "_law_take" = some (some (.ref f3)))
    (l3 : K.lookup f3 = some ⟨oc3, od3, .func (PySem.W.fnOf "_law_take" "_law_take" (defArgs s__law_take) (defBody s__law_take) (defScope s__law_take) .none kV3 dc3 pm3 an3 cd3 ct3), sl3⟩)
    (c3 : PySem.W.codeIn K cd3 "_law_take" = true) (k3 : PySem.W.keepIn K (.ref f3) = true)
    (a4 : PySem.W.nsIn K mainGlobals "_law_pick" = some (some (.ref f4)))
    (l4 : K.lookup f4 = some ⟨oc4, od4, .func (PySem.W.fnOf "_law_pick" "_law_pick" (defArgs s__law_pick) (defBody s__law_pick) (defScope s__law_pick) .none kV4 dc4 pm4 an4 cd4 ct4), sl4⟩)
    (c4 : PySem.W.codeIn K cd4 "_law_pick" = true) (k4 : PySem.W.keepIn K (.ref f4) = true)
    (a5 : PySem.W.nsIn K mainGlobals "_law_text" = some (some (.ref f5)))
    (l5 : K.lookup f5 = some ⟨oc5, od5, .func (PySem.W.fnOf "_law_text" "_law_text" (defArgs s__law_text) (defBody s__law_text) (defScope s__law_text) .none kV5 dc5 pm5 an5 cd5 ct5), sl5⟩)
    (c5 : PySem.W.codeIn K cd5 "_law_text" = true) (k5 : PySem.W.keepIn K (.ref f5) = true)
    (a6 : PySem.W.nsIn K mainGlobals "_law_is_small" = some (some (.ref f6)))
    (l6 : K.lookup f6 = some ⟨oc6, od6, .func (PySem.W.fnOf "_law_is_small" "_law_is_small" (defArgs s__law_is_small) (defBody s__law_is_small) (defScope s__law_is_small) .none kV6 dc6 pm6 an6 cd6 ct6), sl6⟩)
    (c6 : PySem.W.codeIn K cd6 "_law_is_small" = true) (k6 : PySem.W.keepIn K (.ref f6) = true)
    (a7 : PySem.W.nsIn K mainGlobals "law" = some (some (.ref f7)))
    (l7 : K.lookup f7 = some ⟨oc7, od7, .func (PySem.W.fnOf "law" "law" (defArgs s_law) (defBody s_law) (defScope s_law) .none kV7 dc7 pm7 an7 cd7 ct7), sl7⟩)
    (c7 : PySem.W.codeIn K cd7 "law" = true) (k7 : PySem.W.keepIn K (.ref f7) = true)
    (m_LARGE : PySem.W.nsIn K mainGlobals "LARGE" = some (some (.str "ABCDEFGHIJKLMNOPQRSTUVWXYZ" t_LARGE)))
    (m_LONGEST : PySem.W.nsIn K mainGlobals "LONGEST" = some (some (.int 8 t_LONGEST)))
    (m_SMALL : PySem.W.nsIn K mainGlobals "SMALL" = some (some (.str "abcdefghijklmnopqrstuvwxyz" t_SMALL)))
    (n_abs : PySem.W.nsIn K mainGlobals "abs" = some none)
    (n_all : PySem.W.nsIn K mainGlobals "all" = some none)
    (n_int : PySem.W.nsIn K mainGlobals "int" = some none)
    (n_isinstance : PySem.W.nsIn K mainGlobals "isinstance" = some none)
    (n_len : PySem.W.nsIn K mainGlobals "len" = some none)
    (n_list : PySem.W.nsIn K mainGlobals "list" = some none)
    (n_range : PySem.W.nsIn K mainGlobals "range" = some none)
    (n_repr : PySem.W.nsIn K mainGlobals "repr" = some none)
    (n_str : PySem.W.nsIn K mainGlobals "str" = some none)
    : ∃ T : Txt K mg, T.a_law = f7 ∧ ∀ (s : Shared) (v : Value), BindsTo s T.fd_law ⟨[v], []⟩ [("_law_script", v)] := by
  have F0 := fun_mk (st := s_is_word) l0 c0 k0
  have b0 := F0.binds (ps := ["value"]) fun _ _ _ _ _ _ us hl => match us, hl with | [_], _ => rfl
  have F1 := fun_mk (st := s_is_class_name) l1 c1 k1
  have b1 := F1.binds (ps := ["value"]) fun _ _ _ _ _ _ us hl => match us, hl with | [_], _ => rfl
  have F2 := fun_mk (st := s__law_begin) l2 c2 k2
  have b2 := F2.binds (ps := ["_law_script"]) fun _ _ _ _ _ _ us hl => match us, hl with | [_], _ => rfl
  have F3 := fun_mk (st := s__law_take) l3 c3 k3
  have b3 := F3.binds (ps := ["_law_draw", "_law_many"]) fun _ _ _ _ _ _ us hl => match us, hl with | [_, _], _ => rfl
  have F4 := fun_mk (st := s__law_pick) l4 c4 k4
  have b4 := F4.binds (ps := ["_law_draw", "_law_some"]) fun _ _ _ _ _ _ us hl => match us, hl with | [_, _], _ => rfl
  have F5 := fun_mk (st := s__law_text) l5 c5 k5
  have b5 := F5.binds (ps := ["_law_draw"]) fun _ _ _ _ _ _ us hl => match us, hl with | [_], _ => rfl
  have F6 := fun_mk (st := s__law_is_small) l6 c6 k6
  have b6 := F6.binds (ps := ["_law_note"]) fun _ _ _ _ _ _ us hl => match us, hl with | [_], _ => rfl
  have F7 := fun_mk (st := s_law) l7 c7 k7
  have b7 := F7.binds (ps := ["_law_script"]) fun _ _ _ _ _ _ us hl => match us, hl with | [_], _ => rfl
  exact ⟨{ a_is_word := f0, fd_is_word := (_), F_is_word := F0, g_is_word := PySem.W.mg_of X G a0, b_is_word := b0, kw_is_word := ⟨fun s us ws _ l1 l2 => (match us, ws, l1, l2 with | [], [_], _, _ => .of_eq rfl), fun _ r => r⟩, a_is_class_name := f1, fd_is_class_name := (_), F_is_class_name := F1, g_is_class_name := PySem.W.mg_of X G a1, b_is_class_name := b1, kw_is_class_name := ⟨fun s us ws _ l1 l2 => (match us, ws, l1, l2 with | [], [_], _, _ => .of_eq rfl), fun _ r => r⟩, a__law_begin := f2, fd__law_begin := (_), F__law_begin := F2, g__law_begin := PySem.W.mg_of X G a2, b__law_begin := b2, a__law_take := f3, fd__law_take := (_), F__law_take := F3, g__law_take := PySem.W.mg_of X G a3, b__law_take := b3, a__law_pick := f4, fd__law_pick := (_), F__law_pick := F4, g__law_pick := PySem.W.mg_of X G a4, b__law_pick := b4, a__law_text := f5, fd__law_text := (_), F__law_text := F5, g__law_text := PySem.W.mg_of X G a5, b__law_text := b5, a__law_is_small := f6, fd__law_is_small := (_), F__law_is_small := F6, g__law_is_small := PySem.W.mg_of X G a6, b__law_is_small := b6, a_law := f7, fd_law := (_), F_law := F7, g_law := PySem.W.mg_of X G a7, b_law := b7, t_LARGE := t_LARGE, m_LARGE := PySem.W.mg_of X G m_LARGE, t_LONGEST := t_LONGEST, m_LONGEST := PySem.W.mg_of X G m_LONGEST, t_SMALL := t_SMALL, m_SMALL := PySem.W.mg_of X G m_SMALL, n_abs := PySem.W.mg_none_of X G n_abs, n_all := PySem.W.mg_none_of X G n_all, n_int := PySem.W.mg_none_of X G n_int, n_isinstance := PySem.W.mg_none_of X G n_isinstance, n_len := PySem.W.mg_none_of X G n_len, n_list := PySem.W.mg_none_of X G n_list, n_range := PySem.W.mg_none_of X G n_range, n_repr := PySem.W.mg_none_of X G n_repr, n_str := PySem.W.mg_none_of X G n_str }, rfl, fun s v => .of_eq rfl⟩
theorem law_mk {P : Program} {w : World} {fa : Addr} {K : PySem.W.Frag} {h : Heap} {mg : Str → Option Value} (X : K.In h) (G : h.Ns mainGlobals mg) (hmg : mg "law" = some (.ref fa))
    {f0 : Addr} {od0 an0 : Option Addr} {sl0 : Array (Option Value)} {oc0 kV0 dc0 pm0 cd0 ct0 : Value}
    {f1 : Addr} {od1 an1 : Option Addr} {sl1 : Array (Option Value)} {oc1 kV1 dc1 pm1 cd1 ct1 : Value}
    {f2 : Addr} {od2 an2 : Option Addr} {sl2 : Array (Option Value)} {oc2 kV2 dc2 pm2 cd2 ct2 : Value}
    {f3 : Addr} {od3 an3 : Option Addr} {sl3 : Array (Option Value)} {oc3 kV3 dc3 pm3 cd3 ct3 : Value}
    {f4 : Addr} {od4 an4 : Option Addr} {sl4 : Array (Option Value)} {oc4 kV4 dc4 pm4 cd4 ct4 : Value}
    {f5 : Addr} {od5 an5 : Option Addr} {sl5 : Array (Option Value)} {oc5 kV5 dc5 pm5 cd5 ct5 : Value}
    {f6 : Addr} {od6 an6 : Option Addr} {sl6 : Array (Option Value)} {oc6 kV6 dc6 pm6 cd6 ct6 : Value}
    {f7 : Addr} {od7 an7 : Option Addr} {sl7 : Array (Option Value)} {oc7 kV7 dc7 pm7 cd7 ct7 : Value}
    {t_LARGE : Tok}
    {t_LONGEST : Tok}
    {t_SMALL : Tok}
    (a0 : PySem.W.nsIn K mainGlobals "is_word" = some (some (.ref f0)))
    (l0 : K.lookup f0 = some ⟨oc0, od0, .func (PySem.W.fnOf "is_word" "is_word" (defArgs s_is_word) (defBody s_is_word) (defScope s_is_word) .none kV0 dc0 pm0 an0 cd0 ct0), sl0⟩)
    (c0 : PySem.W.codeIn K cd0 "is_word" = true) (k0 : PySem.W.keepIn K (.ref f0) = true)
    (a1 : PySem.W.nsIn K mainGlobals "is_class_name" = some (some (.ref f1)))
    (l1 : K.lookup f1 = some ⟨oc1, od1, .func (PySem.W.fnOf "is_class_name" "is_class_name" (defArgs s_is_class_name) (defBody s_is_class_name) (defScope s_is_class_name) .none kV1 dc1 pm1 an1 cd1 ct1), sl1⟩)
    (c1 : PySem.W.codeIn K cd1 "is_class_name" = true) (k1 : PySem.W.keepIn K (.ref f1) = true)
    (a2 : PySem.W.nsIn K mainGlobals "_law_begin" = some (some (.ref f2)))
    (l2 : K.lookup f2 = some ⟨oc2, od2, .func (PySem.W.fnOf "_law_begin" "_law_begin" (defArgs s__law_begin) (defBody s__law_begin) (defScope s__law_begin) .none kV2 dc2 pm2 an2 cd2 ct2), sl2⟩)
    (c2 : PySem.W.codeIn K cd2 "_law_begin" = true) (k2 : PySem.W.keepIn K (.ref f2) = true)
    (a3 : PySem.W.nsIn K mainGlobals "_law_take" = some (some (.ref f3)))
    (l3 : K.lookup f3 = some ⟨oc3, od3, .func (PySem.W.fnOf "_law_take" "_law_take" (defArgs s__law_take) (defBody s__law_take) (defScope s__law_take) .none kV3 dc3 pm3 an3 cd3 ct3), sl3⟩)
    (c3 : PySem.W.codeIn K cd3 "_law_take" = true) (k3 : PySem.W.keepIn K (.ref f3) = true)
    (a4 : PySem.W.nsIn K mainGlobals "_law_pick" = some (some (.ref f4)))
    (l4 : K.lookup f4 = some ⟨oc4, od4, .func (PySem.W.fnOf "_law_pick" "_law_pick" (defArgs s__law_pick) (defBody s__law_pick) (defScope s__law_pick) .none kV4 dc4 pm4 an4 cd4 ct4), sl4⟩)
    (c4 : PySem.W.codeIn K cd4 "_law_pick" = true) (k4 : PySem.W.keepIn K (.ref f4) = true)
    (a5 : PySem.W.nsIn K mainGlobals "_law_text" = some (some (.ref f5)))
    (l5 : K.lookup f5 = some ⟨oc5, od5, .func (PySem.W.fnOf "_law_text" "_law_text" (defArgs s__law_text) (defBody s__law_text) (defScope s__law_text) .none kV5 dc5 pm5 an5 cd5 ct5), sl5⟩)
    (c5 : PySem.W.codeIn K cd5 "_law_text" = true) (k5 : PySem.W.keepIn K (.ref f5) = true)
    (a6 : PySem.W.nsIn K mainGlobals "_law_is_small" = some (some (.ref f6)))
    (l6 : K.lookup f6 = some ⟨oc6, od6, .func (PySem.W.fnOf "_law_is_small" "_law_is_small" (defArgs s__law_is_small) (defBody s__law_is_small) (defScope s__law_is_small) .none kV6 dc6 pm6 an6 cd6 ct6), sl6⟩)
    (c6 : PySem.W.codeIn K cd6 "_law_is_small" = true) (k6 : PySem.W.keepIn K (.ref f6) = true)
    (a7 : PySem.W.nsIn K mainGlobals "law" = some (some (.ref f7)))
    (l7 : K.lookup f7 = some ⟨oc7, od7, .func (PySem.W.fnOf "law" "law" (defArgs s_law) (defBody s_law) (defScope s_law) .none kV7 dc7 pm7 an7 cd7 ct7), sl7⟩)
    (c7 : PySem.W.codeIn K cd7 "law" = true) (k7 : PySem.W.keepIn K (.ref f7) = true)
    (m_LARGE : PySem.W.nsIn K mainGlobals "LARGE" = some (some (.str "ABCDEFGHIJKLMNOPQRSTUVWXYZ" t_LARGE)))
    (m_LONGEST : PySem.W.nsIn K mainGlobals "LONGEST" = some (some (.int 8 t_LONGEST)))
    (m_SMALL : PySem.W.nsIn K mainGlobals "SMALL" = some (some (.str "abcdefghijklmnopqrstuvwxyz" t_SMALL)))
    (n_abs : PySem.W.nsIn K mainGlobals "abs" = some none)
    (n_all : PySem.W.nsIn K mainGlobals "all" = some none)
    (n_int : PySem.W.nsIn K mainGlobals "int" = some none)
    (n_isinstance : PySem.W.nsIn K mainGlobals "isinstance" = some none)
    (n_len : PySem.W.nsIn K mainGlobals "len" = some none)
    (n_list : PySem.W.nsIn K mainGlobals "list" = some none)
    (n_range : PySem.W.nsIn K mainGlobals "range" = some none)
    (n_repr : PySem.W.nsIn K mainGlobals "repr" = some none)
    (n_str : PySem.W.nsIn K mainGlobals "str" = some none)
    : ∃ fd : FuncData, (∀ (s : Shared) (u : Value), BindsTo s fd ⟨[u], []⟩ [("_law_script", u)]) ∧ ∀ base : Heap, K.In base → base.Ns mainGlobals mg → FnG P w K mg base CX0 4 fa fd ["_law_script"] (spLaw K) := by
  obtain ⟨T, e, hb⟩ := txt_mk X G a0 l0 c0 k0 a1 l1 c1 k1 a2 l2 c2 k2 a3 l3 c3 k3 a4 l4 c4 k4 a5 l5 c5 k5 a6 l6 c6 k6 a7 l7 c7 k7 m_LARGE m_LONGEST m_SMALL n_abs n_all n_int n_isinstance n_len n_list n_range n_repr n_str
  have e2 : some (Value.ref fa) = some (.ref f7) := hmg.symm.trans (PySem.W.mg_of X G a7)
  cases e2
  subst e
  exact ⟨_, hb, fun base _ _ => ok_law T⟩
end K02
open PySem PySem.W PyProof.Rows
set_option maxRecDepth 100000 in
set_option maxHeartbeats 0 in
theorem PySem.Challenge.cw_guardlots_k02_words_and_class_names_holds : PySem.Challenge.rw_guardlots_k02_words_and_class_names.Holds := by
  w_on; o_law; k_head; (case hw => w_witness2)
  k_fill
  refine VL.walk_g (l := PySem.Challenge.rw_guardlots_k02_words_and_class_names) (n := 63) (k := 4) (x := "_law_script") (sp := fun w => VL.spLaw _) rfl (by decide) rfl ⟨rfl, by decide, by decide⟩ (fun w h Y => PySem.W.kIn_of Y) ?F (fun _ H a ns hl hO hS => VL.law_start hl hO hS)
  case F =>
    intro w mg fa h KX G hmg
    refine' K02.law_mk KX G hmg ?a0 ?l0 ?c0 ?k0 ?a1 ?l1 ?c1 ?k1 ?a2 ?l2 ?c2 ?k2 ?a3 ?l3 ?c3 ?k3 ?a4 ?l4 ?c4 ?k4 ?a5 ?l5 ?c5 ?k5 ?a6 ?l6 ?c6 ?k6 ?a7 ?l7 ?c7 ?k7 ?m_LARGE ?m_LONGEST ?m_SMALL ?n_abs ?n_all ?n_int ?n_isinstance ?n_len ?n_list ?n_range ?n_repr ?n_str
    (case a0 => k_is); (case l0 => k_is); (case c0 => k_is); (case k0 => k_is); (case a1 => k_is); (case l1 => k_is); (case c1 => k_is); (case k1 => k_is); (case a2 => k_is); (case l2 => k_is); (case c2 => k_is); (case k2 => k_is); (case a3 => k_is); (case l3 => k_is); (case c3 => k_is); (case k3 => k_is); (case a4 => k_is); (case l4 => k_is); (case c4 => k_is); (case k4 => k_is); (case a5 => k_is); (case l5 => k_is); (case c5 => k_is); (case k5 => k_is); (case a6 => k_is); (case l6 => k_is); (case c6 => k_is); (case k6 => k_is); (case a7 => k_is); (case l7 => k_is); (case c7 => k_is); (case k7 => k_is); (case m_LARGE => k_is); (case m_LONGEST => k_is); (case m_SMALL => k_is); (case n_abs => k_is); (case n_all => k_is); (case n_int => k_is); (case n_isinstance => k_is); (case n_len => k_is); (case n_list => k_is); (case n_range => k_is); (case n_repr => k_is); (case n_str => k_is)
