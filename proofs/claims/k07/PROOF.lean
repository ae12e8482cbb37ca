import PyProof.Rows.All
import HandS.ForMost
import HandS.Exc
import HandS.WordsExc
import HandS.IsInst
import HandS.Wide
import HandS.Flow
import HandS.Deep
import HandS.Iter
import HandS.Dict
import HandS.EndBits
import HandS.Defaults
import HandS.Style
import PyProof.ListStr
import HandS.More
import HandS.TupAny
import HandS.DictComp
import HandS.Property
import PyProof.SumAny
import PyProof.ListOps
import PyProof.WalksS
import PyProof.SumWalk
import HandS.OwnEq
import HandS.Star
import HandS.SetFor
import KE.SortData
import HandS.Strs
import KE.GoesMore
import PySem.Challenge.RW_guardlots_k07_whole_orders
set_option Elab.async false
set_option linter.all false
set_option maxRecDepth 100000
set_option maxHeartbeats 4000000
/-! VL1: a value layer over HandS: data D, its standing Rp in the abstract heap, the state Ev, judgements with readings over data alone. -/
namespace VL
open PySem PySem.Spec L2
open PyProof.Rows hiding St

/-! ### data -/
inductive D where
  | non | bl (b : Bool) | int (i : Int) | str (x : Str) | ty (n : String) | ref (a : Addr)
  | tup (ds : List D) | lst (ds : List D) | dic (ks : List Key) (ds : List D) | obj (cn : Str) (fs : List Str) (ds : List D) | fz (ns : List Int)

/-- the value heap within the heap; a dict may be locked there -/
def Sub (Hv H : Hp) : Prop := ∀ a o, Hv a = some o → H a = some o ∨ ∃ kvs ob, o = .dK kvs ∧ H a = some (.frz ob (.dK kvs))
theorem Sub.of {H H' : Hp} (e : Same H H') : Sub H H' := fun a o h => .inl (e a o h)
theorem Sub.refl (H : Hp) : Sub H H := fun _ _ h => .inl h
theorem Sub.trans {H H' H'' : Hp} (e : Sub H H') (e' : Sub H' H'') : Sub H H'' := fun a o h => by
  rcases e a o h with q | ⟨kvs, ob, rfl, q⟩
  · exact e' a o q
  · rcases e' a _ q with z | ⟨_, _, z, _⟩
    · exact .inr ⟨kvs, ob, rfl, z⟩
    · cases z
theorem Sub.at {H H' : Hp} (e : Sub H H') {a : Addr} {o : HO} (h : H a = some o) (n : ∀ kvs, o ≠ .dK kvs) : H' a = some o := by
  rcases e a o h with q | ⟨kvs, ob, rfl, _⟩
  · exact q
  · exact absurd rfl (n kvs)
theorem Sub.lst {H H' : Hp} (e : Sub H H') {a : Addr} {xs : List V} (h : H a = some (.lst xs)) : H' a = some (.lst xs) := e.at h (fun _ z => nomatch z)
theorem Sub.tup {H H' : Hp} (e : Sub H H') {a : Addr} {xs : List V} (h : H a = some (.tup xs)) : H' a = some (.tup xs) := e.at h (fun _ z => nomatch z)
theorem Sub.ins {H H' : Hp} (e : Sub H H') {a C dx : Addr} {fs : List (Str × V)} (h : H a = some (.ins C dx fs)) : H' a = some (.ins C dx fs) := e.at h (fun _ z => nomatch z)
theorem Sub.dk {H H' : Hp} (e : Sub H H') {a : Addr} {kvs : List (Key × V)} (h : Rd H a (.dK kvs)) : Rd H' a (.dK kvs) := by
  rcases h with h | ⟨o, h⟩
  · rcases e a _ h with q | ⟨k2, ob, z, q⟩
    · exact .inl q
    · cases z; exact .inr ⟨ob, q⟩
  · exact .inr ⟨o, e.at h (fun _ z => nomatch z)⟩
theorem Sub.none {H H' : Hp} (e : Sub H H') {a : Addr} (h : H' a = none) : H a = none := by
  cases q : H a with
  | none => rfl
  | some o =>
    rcases e a o q with z | ⟨_, _, _, z⟩
    · rw [h] at z; cases z
    · rw [h] at z; cases z
theorem Sub.seq {K : PySem.W.Frag} {H H' : Hp} (e : Sub H H') {a : Addr} {xs : List V} (h : SqL K H a xs) : SqL K H' a xs := by
  rcases h with (h | ⟨o, h⟩) | h
  · exact .inl (.inl (e.lst h))
  · exact .inl (.inr ⟨o, e.at h (fun _ z => nomatch z)⟩)
  · exact .inr h
theorem seqT {K : PySem.W.Frag} {H H' : Hp} {a : Addr} {xs : List V} (e : Sub H H') (h : SqT K H a xs) : SqT K H' a xs := by
  rcases h with (h | ⟨o, h⟩) | h
  · exact .inl (.inl (e.tup h))
  · exact .inl (.inr ⟨o, e.at h (fun _ z => nomatch z)⟩)
  · exact .inr h

mutual
inductive Rp (K : PySem.W.Frag) (H : Hp) : V → D → Prop
  | non : Rp K H .non .non
  | bl (b : Bool) : Rp K H (.bl b) (.bl b)
  | int (i : Int) : Rp K H (.int i) (.int i)
  | str (x : Str) : Rp K H (.str x) (.str x)
  | ty (n : String) : Rp K H (.ty n) (.ty n)
  | ref (a : Addr) : Rp K H (.ref a) (.ref a)
  | tup {a : Addr} {xs : List V} {ds : List D} : SqT K H a xs → RpAll K H xs ds → Rp K H (.ref a) (.tup ds)
  | lst {a : Addr} {xs : List V} {ds : List D} : H a = some (.lst xs) → RpAll K H xs ds → Rp K H (.ref a) (.lst ds)
  | fz {a : Addr} {ns : List Int} : SqL K H a (ns.map V.int) → Rp K H (.ref a) (.fz ns)
  | dic {a : Addr} {kvs : List (Key × V)} {ks : List Key} {ds : List D} : Rd H a (.dK kvs) → ks = kvs.map (·.1) → RpAll K H (kvs.map (·.2)) ds → Rp K H (.ref a) (.dic ks ds)
  | obj {a C dx : Addr} {cn : Str} {fs : List (Str × V)} {ns : List Str} {ds : List D} : H a = some (.ins C dx fs) → PySem.W.nsIn K mainGlobals cn = some (some (.ref C)) → ns = fs.map (·.1) → RpAll K H (fs.map (·.2)) ds → Rp K H (.ref a) (.obj cn ns ds)
inductive RpAll (K : PySem.W.Frag) (H : Hp) : List V → List D → Prop
  | nil : RpAll K H [] []
  | cons {v : V} {vs : List V} {d : D} {ds : List D} : Rp K H v d → RpAll K H vs ds → RpAll K H (v :: vs) (d :: ds)
end
section
variable {K : PySem.W.Frag} {H H' : Hp}
mutual
theorem Rp.monoS (e : Sub H H') : ∀ (d : D) (v : V), Rp K H v d → Rp K H' v d
  | .non, _, .non => .non
  | .bl _, _, .bl b => .bl b
  | .int _, _, .int b => .int b
  | .str _, _, .str b => .str b
  | .ty _, _, .ty b => .ty b
  | .ref _, _, .ref b => .ref b
  | .tup ds, _, .tup h hs => .tup (seqT e h) (RpAll.monoS e ds _ hs)
  | .lst ds, _, .lst h hs => .lst (e.lst h) (RpAll.monoS e ds _ hs)
  | .fz ns, _, .fz h => .fz (e.seq h)
  | .dic ks ds, _, .dic h hk hs => .dic (e.dk h) hk (RpAll.monoS e ds _ hs)
  | .obj C ns ds, _, .obj h hc hk hs => .obj (e.ins h) hc hk (RpAll.monoS e ds _ hs)
theorem RpAll.monoS (e : Sub H H') : ∀ (ds : List D) (vs : List V), RpAll K H vs ds → RpAll K H' vs ds
  | [], _, .nil => .nil
  | d :: ds, _, .cons h hs => .cons (Rp.monoS e d _ h) (RpAll.monoS e ds _ hs)
end
theorem Rp.mono (e : Sub H H') (d : D) (v : V) (h : Rp K H v d) : Rp K H' v d := Rp.monoS e d v h
theorem RpAll.mono (e : Sub H H') (ds : List D) (vs : List V) (h : RpAll K H vs ds) : RpAll K H' vs ds := RpAll.monoS e ds vs h
/-- an object stands for data, its parts in the value heap -/
def ObD (K : PySem.W.Frag) (H : Hp) : D → HO → Prop
  | .lst ds, u => ∃ vs, u = .lst vs ∧ RpAll K H vs ds
  | .dic ks ds, u => ∃ kvs, u = .dK kvs ∧ ks = kvs.map (·.1) ∧ RpAll K H (kvs.map (·.2)) ds
  | .obj cn ns ds, u => ∃ C dx fs, u = .ins C dx fs ∧ PySem.W.nsIn K mainGlobals cn = some (some (.ref C)) ∧ ns = fs.map (·.1) ∧ RpAll K H (fs.map (·.2)) ds
  | _, _ => False
theorem ObD.monoS (e : Sub H H') {d : D} {u : HO} (h : ObD K H d u) : ObD K H' d u := by
  cases d <;> first | exact h.elim | skip
  · obtain ⟨vs, h1, h2⟩ := h; exact ⟨vs, h1, RpAll.monoS e _ _ h2⟩
  · obtain ⟨kvs, h1, h2, h3⟩ := h; exact ⟨kvs, h1, h2, RpAll.monoS e _ _ h3⟩
  · obtain ⟨C, dx, fs, h1, h2, h3, h4⟩ := h; exact ⟨C, dx, fs, h1, h2, h3, RpAll.monoS e _ _ h4⟩
theorem ObD.mono (e : Sub H H') {d : D} {u : HO} (h : ObD K H d u) : ObD K H' d u := ObD.monoS e h
theorem ObD.rp {d : D} {u : HO} {a : Addr} (h : ObD K H d u) (e : H a = some u) : Rp K H (.ref a) d := by
  cases d <;> first | exact h.elim | skip
  · obtain ⟨vs, rfl, h2⟩ := h; exact .lst e h2
  · obtain ⟨kvs, rfl, h2, h3⟩ := h; exact .dic (.inl e) h2 h3
  · obtain ⟨C, dx, fs, rfl, h2, h3, h4⟩ := h; exact .obj e h2 h3 h4
theorem RpAll.length : ∀ {vs : List V} {ds : List D}, RpAll K H vs ds → vs.length = ds.length
  | _, _, .nil => rfl
  | _, _, .cons _ h => by rw [List.length_cons, List.length_cons, h.length]
theorem RpAll.append : ∀ {vs ws : List V} {ds es : List D}, RpAll K H vs ds → RpAll K H ws es → RpAll K H (vs ++ ws) (ds ++ es)
  | _, _, _, _, .nil, h => h
  | _, _, _, _, .cons a h, h2 => .cons a (h.append h2)
theorem RpAll.get : ∀ {vs : List V} {ds : List D} {i : Nat} {d : D}, RpAll K H vs ds → ds[i]? = some d → ∃ v, vs[i]? = some v ∧ Rp K H v d
  | _, _, 0, _, .cons a _, e => by simp at e; subst e; exact ⟨_, rfl, a⟩
  | _, _, i + 1, _, .cons _ h, e => by simpa using h.get (i := i) (by simpa using e)
  | _, _, _, _, .nil, e => by simp at e
theorem RpAll.getV : ∀ {vs : List V} {ds : List D} {i : Nat} {v : V}, RpAll K H vs ds → vs[i]? = some v → ∃ d, ds[i]? = some d ∧ Rp K H v d
  | _, _, 0, _, .cons a _, e => by simp at e; subst e; exact ⟨_, rfl, a⟩
  | _, _, i + 1, _, .cons _ h, e => by simpa using h.getV (i := i) (by simpa using e)
  | _, _, _, _, .nil, e => by simp at e
theorem RpAll.take : ∀ {vs : List V} {ds : List D} (n : Nat), RpAll K H vs ds → RpAll K H (vs.take n) (ds.take n)
  | _, _, 0, _ => .nil
  | _, _, _ + 1, .nil => .nil
  | _, _, n + 1, .cons a h => .cons a (h.take n)
theorem RpAll.drop : ∀ {vs : List V} {ds : List D} (n : Nat), RpAll K H vs ds → RpAll K H (vs.drop n) (ds.drop n)
  | _, _, 0, h => h
  | _, _, _ + 1, .nil => .nil
  | _, _, n + 1, .cons _ h => h.drop n
theorem RpAll.erase : ∀ {vs : List V} {ds : List D} (n : Nat), RpAll K H vs ds → RpAll K H (vs.eraseIdx n) (ds.eraseIdx n)
  | _, _, _, .nil => .nil
  | _, _, 0, .cons _ h => h
  | _, _, n + 1, .cons a h => .cons a (h.erase n)
theorem RpAll.reverse : ∀ {vs : List V} {ds : List D}, RpAll K H vs ds → RpAll K H vs.reverse ds.reverse
  | _, _, .nil => .nil
  | _, _, .cons a h => by
    rw [List.reverse_cons, List.reverse_cons]
    exact h.reverse.append (.cons a .nil)
theorem RpAll.rep {vs : List V} {ds : List D} (h : RpAll K H vs ds) : ∀ k : Nat, RpAll K H (List.replicate k vs).flatten (List.replicate k ds).flatten
  | 0 => .nil
  | k + 1 => by
    rw [List.replicate_succ, List.replicate_succ, List.flatten_cons, List.flatten_cons]
    exact h.append (h.rep k)
theorem RpAll.one {vs : List V} {d : D} (h : RpAll K H vs [d]) : ∃ v, vs = [v] ∧ Rp K H v d := by
  cases h with
  | cons a h => cases h; exact ⟨_, rfl, a⟩
theorem RpAll.two {vs : List V} {d e : D} (h : RpAll K H vs [d, e]) : ∃ v w, vs = [v, w] ∧ Rp K H v d ∧ Rp K H w e := by
  cases h with
  | cons a h => obtain ⟨w, rfl, b⟩ := h.one; exact ⟨_, _, rfl, a, b⟩
end

/-! ### the state -/
/-- what a slot holds: nothing known; data; data of an object that this slot alone holds (its place told: slf); data of an object that the caller alone holds -/
inductive Sl where
  | no | dat (d : D) | own (d : D) | bor (d : D) | slf (y : Addr) (d : D)
abbrev Gm := List Sl

/-- what code did: the value heap grew; all that stood beside it, but the volatile, stands -/
structure Ret (vol : Addr → Prop) (inv : Hp → Prop) (Hv H Hv' H' : Hp) : Prop where
  sv : Sub Hv Hv'
  sub : Sub Hv' H'
  old : ∀ a o, H a = some o → Hv a = none → ¬ vol a → H' a = some o
  inv : inv H'
  nv : ∀ a, vol a → Hv' a = none
  grow : ∀ a, Hv a = none → H a ≠ none → Hv' a = none

structure Vol where
  vol : Addr → Prop
  inv : Hp → Prop
  there : ∀ H a, inv H → vol a → H a ≠ none
  keep : ∀ H H', inv H → (∀ a, vol a → H' a = H a) → inv H'
def Vol.no : Vol := ⟨fun _ => False, fun _ => True, fun _ _ _ h => h.elim, fun _ _ _ _ => True.intro⟩

structure Wc where
  J : Vol
  H0 : Hp
  Hv0 : Hp
  inv0 : J.inv H0
  sub0 : Sub Hv0 H0
  nv0 : ∀ a, J.vol a → Hv0 a = none

def Sl.isOwn : Sl → Bool
  | .own _ => true
  | .slf _ _ => true
  | _ => false

def SlOk (K : PySem.W.Frag) (W : Wc) (Hv H : Hp) : Sl → Option V → Prop
  | .no, _ => True
  | .dat d, o => ∃ v, o = some v ∧ Rp K Hv v d
  | .own d, o => ∃ a u, o = some (.ref a) ∧ H a = some u ∧ ObD K Hv d u ∧ Hv a = none ∧ W.H0 a = none
  | .slf y d, o => ∃ u, o = some (.ref y) ∧ H y = some u ∧ ObD K Hv d u ∧ Hv y = none ∧ W.H0 y = none
  | .bor d, o => ∃ a u, o = some (.ref a) ∧ W.H0 a = some u ∧ ObD K Hv d u ∧ W.Hv0 a = none ∧ ¬ W.J.vol a

structure Ev (K : PySem.W.Frag) (W : Wc) (Γ : Gm) (σ : St) (Hv H : Hp) : Prop where
  ret : Ret W.J.vol W.J.inv W.Hv0 W.H0 Hv H
  len : σ.length = Γ.length
  slots : ∀ (i : Nat) (sl : Sl), Γ[i]? = some sl → SlOk K W Hv H sl (σ[i]?.join)
  apart : ∀ (i j : Nat) (sl sl' : Sl) (a : Addr), i ≠ j → Γ[i]? = some sl → Γ[j]? = some sl' → sl.isOwn = true → sl'.isOwn = true → σ[i]? = some (some (V.ref a)) → σ[j]? ≠ some (some (V.ref a))

/-- a new object that no slot holds -/
structure Fresh (W : Wc) (Γ : Gm) (σ : St) (Hv : Hp) (p : Addr) : Prop where
  hv : Hv p = none
  h0 : W.H0 p = none
  sl : ∀ (i : Nat) (s : Sl), Γ[i]? = some s → s.isOwn = true → σ[i]? ≠ some (some (V.ref p))

section
variable {K : PySem.W.Frag} {W : Wc} {Γ : Gm} {σ : St} {Hv H Hv' H' : Hp}
theorem SlOk.own_at {sl : Sl} {o : Option V} (h : SlOk K W Hv H sl o) (ho : sl.isOwn = true) : ∃ a u, o = some (.ref a) ∧ H a = some u ∧ Hv a = none ∧ W.H0 a = none := by
  cases sl with
  | no => cases ho
  | dat d => cases ho
  | bor d => cases ho
  | own d => obtain ⟨a, u, h1, h2, _, h4, h5⟩ := h; exact ⟨a, u, h1, h2, h4, h5⟩
  | slf y d => obtain ⟨u, h1, h2, _, h4, h5⟩ := h; exact ⟨y, u, h1, h2, h4, h5⟩
/-- a slot stays when its own object stays and the value heap grows -/
theorem SlOk.stay {sl : Sl} {o : Option V} (h : SlOk K W Hv H sl o) (sv : Sub Hv Hv') (k : ∀ a u, sl.isOwn = true → o = some (.ref a) → H a = some u → Hv a = none → H' a = some u ∧ Hv' a = none) : SlOk K W Hv' H' sl o := by
  cases sl with
  | no => trivial
  | dat d => obtain ⟨v, e, r⟩ := h; exact ⟨v, e, Rp.mono sv _ _ r⟩
  | bor d => obtain ⟨a, u, e, h2, r, h3⟩ := h; exact ⟨a, u, e, h2, r.mono sv, h3⟩
  | own d =>
    obtain ⟨a, u, h1, h2, h3, h4, h5⟩ := h
    obtain ⟨k1, k2⟩ := k a _ rfl h1 h2 h4
    exact ⟨a, u, h1, k1, h3.mono sv, k2, h5⟩
  | slf y d =>
    obtain ⟨u, h1, h2, h3, h4, h5⟩ := h
    obtain ⟨k1, k2⟩ := k y _ rfl h1 h2 h4
    exact ⟨u, h1, k1, h3.mono sv, k2, h5⟩
theorem Ev.noneHv (E : Ev K W Γ σ Hv H) {p : Addr} (h : H p = none) : Hv p = none := E.ret.sub.none h
theorem Ev.noneH0 (E : Ev K W Γ σ Hv H) {p : Addr} (h : H p = none) : W.H0 p = none := by
  cases q : W.H0 p with
  | none => rfl
  | some o =>
    by_cases hv : W.J.vol p
    · exact absurd h (W.J.there _ _ E.ret.inv hv)
    · cases z : W.Hv0 p with
      | none => rw [E.ret.old _ _ q z hv] at h; cases h
      | some u =>
        have := E.ret.sv.none (E.noneHv h)
        rw [z] at this
        cases this
theorem Ev.novol (E : Ev K W Γ σ Hv H) {p : Addr} (h : W.H0 p = none) : ¬ W.J.vol p := fun v => W.J.there _ _ W.inv0 v h
/-- an object that the caller alone holds, as it stands -/
theorem Ev.getBor (E : Ev K W Γ σ Hv H) {i : Nat} {d : D} (e : Γ[i]? = some (.bor d)) : ∃ a u, σ[i]? = some (some (.ref a)) ∧ H a = some u ∧ ObD K Hv d u ∧ Hv a = none ∧ ¬ W.J.vol a := by
  obtain ⟨a, u, h, h2, r, h3, h4⟩ := E.slots i _ e
  refine ⟨a, u, ?_, E.ret.old _ _ h2 h3 h4, r, ?_, h4⟩
  · cases q : σ[i]? with
    | none => rw [q] at h; cases h
    | some y => rw [q] at h; exact congrArg some h
  · exact E.ret.grow a h3 (by rw [h2]; simp)
theorem same_upd {H : Hp} {p : Addr} {o : HO} (h : H p = none) : Sub H (upd H p o) := fun b x e => by
  rw [upd_ne (ne_of_none e h)]
  exact .inl e
theorem same_upd2 {Hv H : Hp} {p : Addr} {o : HO} (s : Sub Hv H) : Sub (upd Hv p o) (upd H p o) := fun b x e => by
  by_cases hb : b = p
  · subst hb; rw [upd_same] at e ⊢; exact .inl e
  · rw [upd_ne hb] at e ⊢; exact s _ _ e
theorem same_left {Hv H : Hp} {p : Addr} {o : HO} (s : Sub Hv H) (h : Hv p = none) : Sub Hv (upd H p o) := fun b x e => by
  rw [upd_ne (ne_of_none e h)]; exact s _ _ e
theorem same_share {Hv H : Hp} {p : Addr} {o : HO} (s : Sub Hv H) (h : H p = some o) : Sub (upd Hv p o) H := fun b x e => by
  by_cases hb : b = p
  · subst hb; rw [upd_same] at e; cases e; exact .inl h
  · rw [upd_ne hb] at e; exact s _ _ e
/-- a new object, of the value heap -/
theorem Ev.alloc (E : Ev K W Γ σ Hv H) {p : Addr} (o : HO) (h : H p = none) : Ev K W Γ σ (upd Hv p o) (upd H p o) := by
  have h0 := E.noneH0 h
  have hv := E.noneHv h
  have nv := E.novol h0
  refine ⟨⟨E.ret.sv.trans (same_upd hv), same_upd2 E.ret.sub, fun a u e z n => ?_, W.J.keep _ _ E.ret.inv fun a v => ?_, fun a v => ?_, fun a z e => ?_⟩, E.len, fun i sl e => (E.slots i sl e).stay (same_upd hv) fun a u _ _ ea na => ?_, E.apart⟩
  · rw [upd_ne (ne_of_none e h0)]; exact E.ret.old a u e z n
  · exact upd_ne (fun z => nv (by rw [← z]; exact v))
  · rw [upd_ne (show a ≠ p from fun z => nv (by rw [← z]; exact v))]; exact E.ret.nv a v
  · rw [upd_ne (show a ≠ p from fun q => e (by rw [q]; exact h0))]
    exact E.ret.grow a z e
  · have ne := ne_of_none ea h
    rw [upd_ne ne, upd_ne ne]; exact ⟨ea, na⟩
/-- a new object, of no one yet -/
theorem Ev.alloc0 (E : Ev K W Γ σ Hv H) {p : Addr} (o : HO) (h : H p = none) : Ev K W Γ σ Hv (upd H p o) ∧ Fresh W Γ σ Hv p := by
  have h0 := E.noneH0 h
  have hv := E.noneHv h
  have nv := E.novol h0
  refine ⟨⟨⟨E.ret.sv, same_left E.ret.sub hv, fun a u e z n => ?_, W.J.keep _ _ E.ret.inv fun a v => ?_, E.ret.nv, E.ret.grow⟩, E.len, fun i sl e => (E.slots i sl e).stay (Sub.refl _) fun a u _ _ ea na => ?_, E.apart⟩, hv, h0, fun i s e ow z => ?_⟩
  · rw [upd_ne (ne_of_none e h0)]; exact E.ret.old a u e z n
  · exact upd_ne (fun z => nv (by rw [← z]; exact v))
  · rw [upd_ne (ne_of_none ea h)]; exact ⟨ea, na⟩
  · obtain ⟨a, u, e1, e2, _⟩ := (E.slots i s e).own_at ow
    rw [z] at e1
    cases e1
    rw [h] at e2; cases e2
/-- an object of no one is of the value heap from now on -/
theorem Ev.share (E : Ev K W Γ σ Hv H) {p : Addr} {o : HO} (F : Fresh W Γ σ Hv p) (h : H p = some o) : Ev K W Γ σ (upd Hv p o) H := by
  refine ⟨⟨E.ret.sv.trans (same_upd F.hv), same_share E.ret.sub h, E.ret.old, E.ret.inv, fun a v => ?_, fun a z e => ?_⟩, E.len, fun i sl e => (E.slots i sl e).stay (same_upd F.hv) fun a u ow eo ea na => ?_, E.apart⟩
  · rw [upd_ne (show a ≠ p from fun z => E.novol F.h0 (by rw [← z]; exact v))]; exact E.ret.nv a v
  · rw [upd_ne (show a ≠ p from fun q => e (by rw [q]; exact F.h0))]
    exact E.ret.grow a z e
  · refine ⟨ea, ?_⟩
    rw [upd_ne]
    · exact na
    · intro z
      subst z
      cases q : σ[i]? with
      | none => rw [q] at eo; cases eo
      | some y =>
        rw [q] at eo
        have : y = some (.ref a) := eo
        subst this
        exact F.sl i sl e ow q
/-- an object of no one is changed -/
theorem Ev.turn (E : Ev K W Γ σ Hv H) {p : Addr} (o : HO) (F : Fresh W Γ σ Hv p) (hp : H p ≠ none) : Ev K W Γ σ Hv (upd H p o) := by
  refine ⟨⟨E.ret.sv, same_left E.ret.sub F.hv, fun a u e z n => ?_, W.J.keep _ _ E.ret.inv fun a v => ?_, E.ret.nv, E.ret.grow⟩, E.len, fun i sl e => (E.slots i sl e).stay (Sub.refl _) fun a u ow eo ea na => ?_, E.apart⟩
  · rw [upd_ne (ne_of_none e F.h0)]; exact E.ret.old a u e z n
  · exact upd_ne (fun z => E.novol F.h0 (by rw [← z]; exact v))
  · refine ⟨?_, na⟩
    rw [upd_ne]
    · exact ea
    · intro z
      subst z
      cases q : σ[i]? with
      | none => rw [q] at eo; cases eo
      | some y =>
        rw [q] at eo
        have : y = some (.ref a) := eo
        subst this
        exact F.sl i sl e ow q
theorem sub_lock {H : Hp} {p : Addr} {kvs : List (Key × V)} (h : H p = some (.dK kvs)) (ob : Obj) : Sub H (upd H p (.frz ob (.dK kvs))) := fun a o e => by
  by_cases hb : a = p
  · subst hb; rw [h] at e; cases e; exact .inr ⟨kvs, ob, rfl, upd_same⟩
  · rw [upd_ne hb]; exact .inl e
/-- a dict of the value heap is locked -/
theorem Ev.lock (E : Ev K W Γ σ Hv H) {p : Addr} {kvs : List (Key × V)} (hv : Hv p = some (.dK kvs)) (ob : Obj) : Ev K W Γ σ (upd Hv p (.frz ob (.dK kvs))) (upd H p (.frz ob (.dK kvs))) := by
  have nv : ¬ W.J.vol p := fun v => by rw [E.ret.nv p v] at hv; cases hv
  have nb : ∀ a, W.Hv0 a = none → W.H0 a ≠ none → a ≠ p := fun a z e q => by
    have := E.ret.grow a z e
    rw [q, hv] at this
    cases this
  refine ⟨⟨E.ret.sv.trans (sub_lock hv ob), same_upd2 E.ret.sub, fun a u e z n => ?_, W.J.keep _ _ E.ret.inv fun a v => ?_, fun a v => ?_, fun a z e => ?_⟩, E.len, fun i sl e => (E.slots i sl e).stay (sub_lock hv ob) fun a u ow eo ea na => ?_, E.apart⟩
  · rw [upd_ne (nb a z (by rw [e]; simp))]; exact E.ret.old a u e z n
  · exact upd_ne (fun z => nv (by rw [← z]; exact v))
  · rw [upd_ne (show a ≠ p from fun z => nv (by rw [← z]; exact v))]; exact E.ret.nv a v
  · rw [upd_ne (nb a z e)]; exact E.ret.grow a z e
  · have ne : a ≠ p := by rintro rfl; rw [hv] at na; cases na
    rw [upd_ne ne, upd_ne ne]
    exact ⟨ea, na⟩
/-- behind a call -/
theorem Ev.after (E : Ev K W Γ σ Hv H) (R : Ret W.J.vol W.J.inv Hv H Hv' H') : Ev K W Γ σ Hv' H' := by
  refine ⟨⟨E.ret.sv.trans R.sv, R.sub, fun a u e z n => ?_, R.inv, R.nv, fun a z e => ?_⟩, E.len, fun i sl e => (E.slots i sl e).stay R.sv fun a u ow eo ea na => ?_, E.apart⟩
  · exact R.old a u (E.ret.old a u e z n) (E.ret.grow a z (by rw [e]; simp)) n
  · exact R.grow a (E.ret.grow a z e) (fun q => e (E.noneH0 q))
  · obtain ⟨b, u', e1, e2, e3, e4⟩ := (E.slots i sl e).own_at ow
    rw [eo] at e1
    cases e1
    exact ⟨R.old a u ea na (E.novol e4), R.grow a na (by rw [ea]; simp)⟩
/-- what a pure callee did -/
theorem Ev.pure (E : Ev K W Γ σ Hv H) (R : Ret Vol.no.vol Vol.no.inv Hv H Hv' H') : Ret W.J.vol W.J.inv Hv H Hv' H' := by
  refine ⟨R.sv, R.sub, fun a u e z _ => R.old a u e z fun z => z, W.J.keep _ _ E.ret.inv fun a v => ?_, fun a v => ?_, R.grow⟩
  · cases q : H a with
    | none => exact absurd q (W.J.there _ _ E.ret.inv v)
    | some u => exact R.old a u q (E.ret.nv a v) fun z => z
  · exact R.grow a (E.ret.nv a v) (W.J.there _ _ E.ret.inv v)
/-- a slot is given: data, or nothing known -/
theorem Ev.setS (E : Ev K W Γ σ Hv H) {i : Nat} {v : Option V} {s : Sl} (ho : s.isOwn = false) (r : SlOk K W Hv H s v) : Ev K W (Γ.set i s) (σ.set i v) Hv H := by
  have hl := E.len
  have own : ∀ {j : Nat} {sl : Sl}, (Γ.set i s)[j]? = some sl → sl.isOwn = true → i ≠ j := fun {j sl} e o hj => by
    subst hj
    have hi : i < Γ.length := by
      have := (List.getElem?_eq_some_iff.mp e).1
      rw [List.length_set] at this; exact this
    rw [List.getElem?_set_self hi] at e
    cases e
    rw [ho] at o; cases o
  refine ⟨E.ret, by rw [List.length_set, List.length_set, hl], fun j sl e => ?_, fun j k sl sl' a ne e1 e2 o1 o2 q => ?_⟩
  · by_cases hj : i = j
    · subst hj
      have hi : i < Γ.length := by
        have := (List.getElem?_eq_some_iff.mp e).1
        rw [List.length_set] at this; exact this
      rw [List.getElem?_set_self hi] at e
      cases e
      rw [List.getElem?_set_self (by omega)]
      exact r
    · rw [List.getElem?_set_ne hj] at e ⊢
      exact E.slots j sl e
  · have hj := own e1 o1
    have hk := own e2 o2
    rw [List.getElem?_set_ne hj] at e1 q
    rw [List.getElem?_set_ne hk] at e2 ⊢
    exact E.apart j k sl sl' a ne e1 e2 o1 o2 q
theorem Ev.set (E : Ev K W Γ σ Hv H) {i : Nat} {v : V} {d : D} (r : Rp K Hv v d) : Ev K W (Γ.set i (.dat d)) (σ.set i (some v)) Hv H := E.setS rfl ⟨v, rfl, r⟩
theorem Ev.get (E : Ev K W Γ σ Hv H) {i : Nat} {d : D} (e : Γ[i]? = some (.dat d)) : ∃ v, σ[i]? = some (some v) ∧ Rp K Hv v d := by
  obtain ⟨v, h, r⟩ := E.slots i _ e
  refine ⟨v, ?_, r⟩
  cases q : σ[i]? with
  | none => rw [q] at h; cases h
  | some y => rw [q] at h; exact congrArg some h
theorem Ev.getOwn (E : Ev K W Γ σ Hv H) {i : Nat} {d : D} (e : Γ[i]? = some (.own d)) : ∃ a u, σ[i]? = some (some (.ref a)) ∧ H a = some u ∧ ObD K Hv d u ∧ Hv a = none ∧ W.H0 a = none := by
  obtain ⟨a, u, h, r⟩ := E.slots i _ e
  refine ⟨a, u, ?_, r⟩
  cases q : σ[i]? with
  | none => rw [q] at h; cases h
  | some y => rw [q] at h; exact congrArg some h
/-- an own object changed in its slot -/
theorem Ev.mutG (E : Ev K W Γ σ Hv H) {i : Nat} {s s' : Sl} {a : Addr} {u' : HO} (e : Γ[i]? = some s) (ho : s.isOwn = true) (es : σ[i]? = some (some (.ref a))) (ok : s'.isOwn = true) (r : SlOk K W Hv (upd H a u') s' (some (.ref a))) : Ev K W (Γ.set i s') σ Hv (upd H a u') := by
  have own : ∃ u, H a = some u ∧ Hv a = none ∧ W.H0 a = none := by
    have h := E.slots i _ e
    rw [es] at h
    obtain ⟨b, u, e1, e2, e3, e4⟩ := h.own_at ho
    cases e1
    exact ⟨u, e2, e3, e4⟩
  obtain ⟨u, h2, h4, h5⟩ := own
  have hi : i < Γ.length := (List.getElem?_eq_some_iff.mp e).1
  have nva := E.novol h5
  refine ⟨⟨E.ret.sv, same_left E.ret.sub h4, fun b u q z n => ?_, W.J.keep _ _ E.ret.inv fun b v => ?_, E.ret.nv, E.ret.grow⟩, by rw [List.length_set]; exact E.len, fun j sl q => ?_, fun j k sl sl' b ne e1 e2 o1 o2 q => ?_⟩
  · rw [upd_ne (ne_of_none q h5)]; exact E.ret.old b u q z n
  · exact upd_ne (fun z => nva (by rw [← z]; exact v))
  · by_cases hj : i = j
    · subst hj
      rw [List.getElem?_set_self hi] at q
      cases q
      rw [es]
      exact r
    · rw [List.getElem?_set_ne hj] at q
      refine (E.slots j sl q).stay (Sub.refl _) fun b u ow eo eb nb => ⟨?_, nb⟩
      rw [upd_ne]
      · exact eb
      · intro z
        subst z
        have q2 : σ[j]? = some (some (.ref b)) := by
          cases w : σ[j]? with
          | none => rw [w] at eo; cases eo
          | some y => rw [w] at eo; exact congrArg some eo
        exact E.apart i j _ _ b hj e q ho ow es q2
  · have fix : ∀ (j : Nat) (sl : Sl), (Γ.set i s')[j]? = some sl → sl.isOwn = true → ∃ sl2, Γ[j]? = some sl2 ∧ sl2.isOwn = true := fun j sl q o => by
      by_cases hj : i = j
      · subst hj; exact ⟨_, e, ho⟩
      · rw [List.getElem?_set_ne hj] at q; exact ⟨sl, q, o⟩
    obtain ⟨s1, f1, p1⟩ := fix j sl e1 o1
    obtain ⟨s2, f2, p2⟩ := fix k sl' e2 o2
    exact E.apart j k s1 s2 b ne f1 f2 p1 p2 q
theorem Ev.mut (E : Ev K W Γ σ Hv H) {i : Nat} {d d' : D} {a : Addr} {u' : HO} (e : Γ[i]? = some (.own d)) (es : σ[i]? = some (some (.ref a))) (r : ObD K Hv d' u') : Ev K W (Γ.set i (.own d')) σ Hv (upd H a u') := by
  obtain ⟨b, u, h1, h2, h3, h4, h5⟩ := E.getOwn e
  rw [es] at h1
  cases h1
  exact E.mutG e rfl es rfl ⟨a, u', rfl, upd_same, r, h4, h5⟩
theorem Ev.getSlf (E : Ev K W Γ σ Hv H) {i : Nat} {y : Addr} {d : D} (e : Γ[i]? = some (.slf y d)) : ∃ u, σ[i]? = some (some (.ref y)) ∧ H y = some u ∧ ObD K Hv d u ∧ Hv y = none ∧ W.H0 y = none := by
  obtain ⟨u, h, r⟩ := E.slots i _ e
  refine ⟨u, ?_, r⟩
  cases q : σ[i]? with
  | none => rw [q] at h; cases h
  | some y => rw [q] at h; exact congrArg some h
theorem Ev.mutS (E : Ev K W Γ σ Hv H) {i : Nat} {y : Addr} {d d' : D} {u' : HO} (e : Γ[i]? = some (.slf y d)) (r : ObD K Hv d' u') : Ev K W (Γ.set i (.slf y d')) σ Hv (upd H y u') := by
  obtain ⟨u, h1, h2, h3, h4, h5⟩ := E.getSlf e
  exact E.mutG e rfl h1 rfl ⟨u', rfl, upd_same, r, h4, h5⟩
/-- an own object is shared -/
theorem Ev.let (E : Ev K W Γ σ Hv H) {i : Nat} {d : D} (e : Γ[i]? = some (.own d)) : ∃ a u, σ[i]? = some (some (.ref a)) ∧ H a = some u ∧ Hv a = none ∧ Ev K W (Γ.set i (.dat d)) σ (upd Hv a u) H ∧ Rp K (upd Hv a u) (.ref a) d := by
  obtain ⟨a, u, h1, h2, h3, h4, h5⟩ := E.getOwn e
  have hi : i < Γ.length := (List.getElem?_eq_some_iff.mp e).1
  have r : Rp K (upd Hv a u) (.ref a) d := (h3.mono (same_upd h4)).rp upd_same
  refine ⟨a, u, h1, h2, h4, ⟨⟨E.ret.sv.trans (same_upd h4), same_share E.ret.sub h2, E.ret.old, E.ret.inv, fun b v => ?_, fun b z q => ?_⟩, by rw [List.length_set]; exact E.len, fun j sl q => ?_, fun j k sl sl' b ne e1 e2 o1 o2 q => ?_⟩, r⟩
  · rw [upd_ne (show b ≠ a from fun z => E.novol h5 (by rw [← z]; exact v))]; exact E.ret.nv b v
  · rw [upd_ne (show b ≠ a from fun w => q (by rw [w]; exact h5))]
    exact E.ret.grow b z q
  · by_cases hj : i = j
    · subst hj
      rw [List.getElem?_set_self hi] at q
      cases q
      rw [h1]
      exact ⟨_, rfl, r⟩
    · rw [List.getElem?_set_ne hj] at q
      refine (E.slots j sl q).stay (same_upd h4) fun b u ow eo eb nb => ⟨eb, ?_⟩
      rw [upd_ne]
      · exact nb
      · intro z
        subst z
        have q2 : σ[j]? = some (some (.ref b)) := by
          cases w : σ[j]? with
          | none => rw [w] at eo; cases eo
          | some y => rw [w] at eo; exact congrArg some eo
        exact E.apart i j _ _ b hj e q rfl ow h1 q2
  · have fix : ∀ (j : Nat) (sl : Sl), (Γ.set i (.dat d))[j]? = some sl → sl.isOwn = true → Γ[j]? = some sl := fun j sl q o => by
      by_cases hj : i = j
      · subst hj
        rw [List.getElem?_set_self hi] at q
        cases q; cases o
      · rw [List.getElem?_set_ne hj] at q; exact q
    exact E.apart j k sl sl' b ne (fix j sl e1 o1) (fix k sl' e2 o2) o1 o2 q
/-- an object of no one goes to a slot -/
theorem Ev.keepOwn (E : Ev K W Γ σ Hv H) {i : Nat} {p : Addr} {u : HO} {d : D} (F : Fresh W Γ σ Hv p) (h : H p = some u) (r : ObD K Hv d u) : Ev K W (Γ.set i (.own d)) (σ.set i (some (.ref p))) Hv H := by
  have hl := E.len
  have atI : ∀ {sl : Sl}, (Γ.set i (.own d))[i]? = some sl → i < Γ.length := fun e => by
    have := (List.getElem?_eq_some_iff.mp e).1
    rw [List.length_set] at this; exact this
  refine ⟨E.ret, by rw [List.length_set, List.length_set, hl], fun j sl e => ?_, fun j k sl sl' a ne e1 e2 o1 o2 q => ?_⟩
  · by_cases hj : i = j
    · subst hj
      have hi := atI e
      rw [List.getElem?_set_self hi] at e
      cases e
      rw [List.getElem?_set_self (by omega)]
      exact ⟨p, u, rfl, h, r, F.hv, F.h0⟩
    · rw [List.getElem?_set_ne hj] at e ⊢
      exact E.slots j sl e
  · by_cases hj : i = j
    · subst hj
      have hi := atI e1
      rw [List.getElem?_set_self (by omega)] at q
      cases q
      have hk : i ≠ k := ne
      rw [List.getElem?_set_ne hk] at e2 ⊢
      exact F.sl k sl' e2 o2
    · by_cases hk : i = k
      · subst hk
        have hi := atI e2
        rw [List.getElem?_set_ne hj] at e1 q
        rw [List.getElem?_set_self (by omega)]
        intro z
        have z' : V.ref p = V.ref a := Option.some.inj (Option.some.inj z)
        cases z'
        exact F.sl j sl e1 o1 q
      · rw [List.getElem?_set_ne hj] at e1 q
        rw [List.getElem?_set_ne hk] at e2 ⊢
        exact E.apart j k sl sl' a ne e1 e2 o1 o2 q
theorem Fresh.at {Hv'' : Hp} {p : Addr} (F : Fresh W Γ σ Hv p) (h : Hv'' p = none) : Fresh W Γ σ Hv'' p := ⟨h, F.h0, F.sl⟩
end
end VL

set_option Elab.async false
set_option linter.all false
set_option maxRecDepth 100000
set_option maxHeartbeats 4000000
/-! VL2: steps, judgements with readings over data, the base rules. -/
namespace VL
open PySem PySem.Spec L2
open PyProof.Rows hiding St

/-- a step: the value heap grew, the state is held, what was of no one is untouched -/
structure Stp (K : PySem.W.Frag) (W : Wc) (Γ : Gm) (σ : St) (Hv H : Hp) (Γ' : Gm) (σ' : St) (Hv' H' : Hp) : Prop where
  sv : Sub Hv Hv'
  ev : Ev K W Γ' σ' Hv' H'
  fr : ∀ a, Fresh W Γ σ Hv a → H a ≠ none → H' a = H a ∧ Fresh W Γ' σ' Hv' a
  st : ∀ a, H a ≠ none → H' a ≠ none
section
variable {K : PySem.W.Frag} {W : Wc} {Γ Γ' Γ'' : Gm} {σ σ' σ'' : St} {Hv H Hv' H' Hv'' H'' : Hp}
theorem Ev.stp (E : Ev K W Γ σ Hv H) : Stp K W Γ σ Hv H Γ σ Hv H := ⟨.refl _, E, fun _ F _ => ⟨rfl, F⟩, fun _ n => n⟩
theorem Stp.trans (a : Stp K W Γ σ Hv H Γ' σ' Hv' H') (b : Stp K W Γ' σ' Hv' H' Γ'' σ'' Hv'' H'') : Stp K W Γ σ Hv H Γ'' σ'' Hv'' H'' :=
  ⟨a.sv.trans b.sv, b.ev, fun x F n => by
    obtain ⟨e1, F1⟩ := a.fr x F n
    obtain ⟨e2, F2⟩ := b.fr x F1 (by rw [e1]; exact n)
    exact ⟨e2.trans e1, F2⟩, fun x n => b.st x (a.st x n)⟩
theorem upd_st {H : Hp} {p : Addr} {o : HO} : ∀ a, H a ≠ none → upd H p o a ≠ none := fun a n => by
  by_cases h : a = p
  · subst h; rw [upd_same]; simp
  · rw [upd_ne h]; exact n
theorem Stp.alloc (a : Stp K W Γ σ Hv H Γ' σ' Hv' H') {p : Addr} (o : HO) (h : H' p = none) : Stp K W Γ σ Hv H Γ' σ' (upd Hv' p o) (upd H' p o) :=
  a.trans ⟨same_upd (a.ev.noneHv h), a.ev.alloc o h, fun x F n => by
    have ne : x ≠ p := fun z => n (by rw [z]; exact h)
    rw [upd_ne ne]
    exact ⟨rfl, F.at (by rw [upd_ne ne]; exact F.hv)⟩, upd_st⟩
theorem Stp.alloc0 (a : Stp K W Γ σ Hv H Γ' σ' Hv' H') {p : Addr} (o : HO) (h : H' p = none) : Stp K W Γ σ Hv H Γ' σ' Hv' (upd H' p o) ∧ Fresh W Γ' σ' Hv' p := by
  obtain ⟨e, F⟩ := a.ev.alloc0 o h
  exact ⟨a.trans ⟨.refl _, e, fun x F n => ⟨upd_ne (show x ≠ p from fun z => n (by rw [z]; exact h)), F⟩, upd_st⟩, F⟩
/-- what is none now was none at the start of a step -/
theorem Stp.was (a : Stp K W Γ σ Hv H Γ' σ' Hv' H') {p : Addr} (h : H' p = none) : H p = none := by
  cases q : H p with
  | none => rfl
  | some o => exact absurd h (a.st p (by rw [q]; simp))
theorem Stp.share (a : Stp K W Γ σ Hv H Γ' σ' Hv' H') {p : Addr} {o : HO} (F : Fresh W Γ' σ' Hv' p) (h : H' p = some o) (hn : H p = none) : Stp K W Γ σ Hv H Γ' σ' (upd Hv' p o) H' := by
  refine ⟨a.sv.trans (same_upd F.hv), a.ev.share F h, fun x G n => ?_, a.st⟩
  obtain ⟨e, G'⟩ := a.fr x G n
  have ne : x ≠ p := fun z => n (by rw [z]; exact hn)
  exact ⟨e, G'.at (by rw [upd_ne ne]; exact G'.hv)⟩
theorem Stp.turn (a : Stp K W Γ σ Hv H Γ' σ' Hv' H') {p : Addr} (o : HO) (F : Fresh W Γ' σ' Hv' p) (hp : H' p ≠ none) (hn : H p = none) : Stp K W Γ σ Hv H Γ' σ' Hv' (upd H' p o) := by
  refine ⟨a.sv, a.ev.turn o F hp, fun x G n => ?_, fun x n => upd_st x (a.st x n)⟩
  obtain ⟨e, G'⟩ := a.fr x G n
  have ne : x ≠ p := fun z => n (by rw [z]; exact hn)
  exact ⟨by rw [upd_ne ne]; exact e, G'⟩
theorem Stp.lock (a : Stp K W Γ σ Hv H Γ' σ' Hv' H') {p : Addr} {kvs : List (Key × V)} (hv : Hv' p = some (.dK kvs)) (ob : Obj) : Stp K W Γ σ Hv H Γ' σ' (upd Hv' p (.frz ob (.dK kvs))) (upd H' p (.frz ob (.dK kvs))) :=
  a.trans ⟨sub_lock hv ob, a.ev.lock hv ob, fun x F n => by
    have ne : x ≠ p := by rintro rfl; rw [F.hv] at hv; cases hv
    exact ⟨upd_ne ne, F.at (by rw [upd_ne ne]; exact F.hv)⟩, upd_st⟩
theorem Stp.after (a : Stp K W Γ σ Hv H Γ' σ' Hv' H') (R : Ret W.J.vol W.J.inv Hv' H' Hv'' H'') : Stp K W Γ σ Hv H Γ' σ' Hv'' H'' :=
  a.trans ⟨R.sv, a.ev.after R, fun x F n => by
    cases q : H' x with
    | none => exact absurd q n
    | some o =>
      exact ⟨(R.old x o q F.hv (a.ev.novol F.h0)), F.at (R.grow x F.hv n)⟩, fun x n => by
    by_cases v : W.J.vol x
    · exact W.J.there _ _ R.inv v
    · cases z : Hv' x with
      | none =>
        cases q : H' x with
        | none => exact absurd q n
        | some o => rw [R.old x o q z v]; simp
      | some u =>
        intro q
        have := R.sv.none (R.sub.none q)
        rw [z] at this
        cases this⟩
theorem Fresh.set {i : Nat} {s : Sl} {v : Option V} {a : Addr} (F : Fresh W Γ σ Hv a) (hl : σ.length = Γ.length) (h : s.isOwn = true → v ≠ some (.ref a)) : Fresh W (Γ.set i s) (σ.set i v) Hv a := by
  refine ⟨F.hv, F.h0, fun j t e o => ?_⟩
  by_cases hj : i = j
  · subst hj
    have hi : i < Γ.length := by
      have := (List.getElem?_eq_some_iff.mp e).1
      rw [List.length_set] at this; exact this
    rw [List.getElem?_set_self hi] at e
    cases e
    rw [List.getElem?_set_self (by omega)]
    intro z
    exact h o (Option.some.inj z)
  · rw [List.getElem?_set_ne hj] at e ⊢
    exact F.sl j t e o
theorem Stp.setS (a : Stp K W Γ σ Hv H Γ' σ' Hv' H') {i : Nat} {v : Option V} {s : Sl} (ho : s.isOwn = false) (r : SlOk K W Hv' H' s v) : Stp K W Γ σ Hv H (Γ'.set i s) (σ'.set i v) Hv' H' :=
  a.trans ⟨.refl _, a.ev.setS ho r, fun x F n => ⟨rfl, F.set a.ev.len (fun z => by rw [ho] at z; cases z)⟩, fun _ n => n⟩
theorem Stp.set (a : Stp K W Γ σ Hv H Γ' σ' Hv' H') {i : Nat} {v : V} {d : D} (r : Rp K Hv' v d) : Stp K W Γ σ Hv H (Γ'.set i (.dat d)) (σ'.set i (some v)) Hv' H' :=
  a.trans ⟨.refl _, a.ev.set r, fun x F n => ⟨rfl, F.set a.ev.len (fun z => by cases z)⟩, fun _ n => n⟩
theorem Stp.keepOwn (a : Stp K W Γ σ Hv H Γ' σ' Hv' H') {i : Nat} {p : Addr} {u : HO} {d : D} (F : Fresh W Γ' σ' Hv' p) (h : H' p = some u) (r : ObD K Hv' d u) (hn : H p = Option.none) :
    Stp K W Γ σ Hv H (Γ'.set i (.own d)) (σ'.set i (some (.ref p))) Hv' H' := by
  refine ⟨a.sv, a.ev.keepOwn F h r, fun x G n => ?_, a.st⟩
  obtain ⟨e, G'⟩ := a.fr x G n
  have ne : x ≠ p := fun z => n (by rw [z]; exact hn)
  exact ⟨e, G'.set a.ev.len (fun _ z => ne (by injection z with z; injection z with z; exact z.symm))⟩
theorem Fresh.set1 {i : Nat} {s s' : Sl} {a : Addr} (F : Fresh W Γ σ Hv a) (e : Γ[i]? = some s) (h : s'.isOwn = true → s.isOwn = true) : Fresh W (Γ.set i s') σ Hv a := by
  refine ⟨F.hv, F.h0, fun j t q o => ?_⟩
  by_cases hj : i = j
  · subst hj
    have hi := (List.getElem?_eq_some_iff.mp e).1
    rw [List.getElem?_set_self hi] at q
    cases q
    exact F.sl i s e (h o)
  · rw [List.getElem?_set_ne hj] at q
    exact F.sl j t q o
theorem Fresh.ne_own {i : Nat} {s : Sl} {a p : Addr} (F : Fresh W Γ σ Hv a) (e : Γ[i]? = some s) (o : s.isOwn = true) (es : σ[i]? = some (some (.ref p))) : a ≠ p := fun z => F.sl i s e o (by rw [z]; exact es)
theorem Stp.mut (a : Stp K W Γ σ Hv H Γ' σ' Hv' H') {i : Nat} {d d' : D} {p : Addr} {u' : HO} (e : Γ'[i]? = some (.own d)) (es : σ'[i]? = some (some (.ref p))) (r : ObD K Hv' d' u') :
    Stp K W Γ σ Hv H (Γ'.set i (.own d')) σ' Hv' (upd H' p u') :=
  a.trans ⟨.refl _, a.ev.mut e es r, fun x F n => ⟨upd_ne (F.ne_own e rfl es), F.set1 e fun _ => rfl⟩, upd_st⟩
theorem Stp.mutS (a : Stp K W Γ σ Hv H Γ' σ' Hv' H') {i : Nat} {y : Addr} {d d' : D} {u' : HO} (e : Γ'[i]? = some (.slf y d)) (r : ObD K Hv' d' u') :
    Stp K W Γ σ Hv H (Γ'.set i (.slf y d')) σ' Hv' (upd H' y u') := by
  obtain ⟨u, es, _⟩ := a.ev.getSlf e
  exact a.trans ⟨.refl _, a.ev.mutS e r, fun x F n => ⟨upd_ne (F.ne_own e rfl es), F.set1 e fun _ => rfl⟩, upd_st⟩
theorem Stp.let (a : Stp K W Γ σ Hv H Γ' σ' Hv' H') {i : Nat} {d : D} (e : Γ'[i]? = some (.own d)) :
    ∃ p u, σ'[i]? = some (some (.ref p)) ∧ Stp K W Γ σ Hv H (Γ'.set i (.dat d)) σ' (upd Hv' p u) H' ∧ Rp K (upd Hv' p u) (.ref p) d := by
  obtain ⟨p, u, h1, _, h2, h3, h4⟩ := a.ev.let e
  refine ⟨p, u, h1, a.trans ⟨same_upd h2, h3, fun x F n => ⟨rfl, ?_⟩, fun _ n => n⟩, h4⟩
  have ne := F.ne_own e rfl h1
  exact (F.set1 e fun z => by cases z).at (by rw [upd_ne ne]; exact F.hv)
end

/-! ### judgements -/
abbrev TDE := Gm → (D → Gm → Prop) → Prop
abbrev TDF := Gm → (List D → Gm → Prop) → Prop
abbrev TDT := Gm → (Bool → Gm → Prop) → Prop
abbrev TDG := D → Gm → (Gm → Prop) → Prop
def Ad (K : PySem.W.Frag) (W : Wc) (te : TE) (td : TDE) : Prop := ∀ Γ σ Hv H (Q : D → Gm → Prop) (Q' : VK), Ev K W Γ σ Hv H → td Γ Q →
  (∀ v d Γ' Hv' H', Stp K W Γ σ Hv H Γ' σ Hv' H' → Rp K Hv' v d → Q d Γ' → Q' v H') → te σ H Q'
/-- a new object -/
def AdF (K : PySem.W.Frag) (W : Wc) (te : TE) (td : TDE) : Prop := ∀ Γ σ Hv H (Q : D → Gm → Prop) (Q' : VK), Ev K W Γ σ Hv H → td Γ Q →
  (∀ p u d Γ' Hv' H', Stp K W Γ σ Hv H Γ' σ Hv' H' → H p = none → H' p = some u → ObD K Hv' d u → Fresh W Γ' σ Hv' p → Q d Γ' → Q' (.ref p) H') → te σ H Q'
def AdA (K : PySem.W.Frag) (W : Wc) (ta : TA) (td : TDF) : Prop := ∀ Γ σ Hv H (Q : List D → Gm → Prop) (Q' : List V → Hp → Prop), Ev K W Γ σ Hv H → td Γ Q →
  (∀ vs ds Γ' Hv' H', Stp K W Γ σ Hv H Γ' σ Hv' H' → RpAll K Hv' vs ds → Q ds Γ' → Q' vs H') → ta σ H Q'
def AdT (K : PySem.W.Frag) (W : Wc) (tt : TT) (td : TDT) : Prop := ∀ Γ σ Hv H (Q : Bool → Gm → Prop) (Q' : Bool → Hp → Prop), Ev K W Γ σ Hv H → td Γ Q →
  (∀ b Γ' Hv' H', Stp K W Γ σ Hv H Γ' σ Hv' H' → Q b Γ' → Q' b H') → tt σ H Q'
structure EndsD where
  nx : Gm → Prop
  rt : D → Prop
  bk : Gm → Prop := fun _ => False
  ct : Gm → Prop := fun _ => False
abbrev TDS := EndsD → Gm → Prop
structure LkE (K : PySem.W.Frag) (W : Wc) (E : EndsD) (E' : Ends) (Γ : Gm) (σ : St) (Hv H : Hp) : Prop where
  nx : ∀ Γ' σ' Hv' H', Stp K W Γ σ Hv H Γ' σ' Hv' H' → E.nx Γ' → E'.nx σ' H'
  rt : ∀ v d Γ' σ' Hv' H', Stp K W Γ σ Hv H Γ' σ' Hv' H' → Rp K Hv' v d → E.rt d → E'.rt v H'
  bk : ∀ Γ' σ' Hv' H', Stp K W Γ σ Hv H Γ' σ' Hv' H' → E.bk Γ' → E'.bk σ' H'
  ct : ∀ Γ' σ' Hv' H', Stp K W Γ σ Hv H Γ' σ' Hv' H' → E.ct Γ' → E'.ct σ' H'
def AdS (K : PySem.W.Frag) (W : Wc) (ts : TS) (td : TDS) : Prop := ∀ Γ σ Hv H (E : EndsD) (E' : Ends), Ev K W Γ σ Hv H → td E Γ → LkE K W E E' Γ σ Hv H → ts E' σ H
theorem LkE.step {K W E E' Γ σ Hv H Γ1 σ1 Hv1 H1} (l : LkE K W E E' Γ σ Hv H) (s : Stp K W Γ σ Hv H Γ1 σ1 Hv1 H1) : LkE K W E E' Γ1 σ1 Hv1 H1 :=
  ⟨fun _ _ _ _ t q => l.nx _ _ _ _ (s.trans t) q, fun _ _ _ _ _ _ t r q => l.rt _ _ _ _ _ _ (s.trans t) r q, fun _ _ _ _ t q => l.bk _ _ _ _ (s.trans t) q, fun _ _ _ _ t q => l.ct _ _ _ _ (s.trans t) q⟩

structure DE (W : Wc) (X : Cx) (e : Expr) (te : TE) (td : TDE) : Prop where
  pe : PE X e te
  ad : Ad X.K W te td
structure DF (W : Wc) (X : Cx) (e : Expr) (te : TE) (td : TDE) : Prop where
  pe : PE X e te
  ad : AdF X.K W te td
structure DA (W : Wc) (X : Cx) (es : List Expr) (ta : TA) (td : TDF) : Prop where
  pa : PA X es ta
  ad : AdA X.K W ta td
structure DT (W : Wc) (X : Cx) (e : Expr) (tt : TT) (td : TDT) : Prop where
  pt : PT X e tt
  ad : AdT X.K W tt td
structure DW (W : Wc) (X : Cx) (e : Expr) (tt : TT) (td : TDT) : Prop where
  pw : PW X e tt
  ad : AdT X.K W tt td
structure DTs (W : Wc) (X : Cx) (es : List Expr) (tt : TT) (td : TDT) : Prop where
  pt : PTs X es tt
  ad : AdT X.K W tt td
structure DS (W : Wc) (X : Cx) (s : Stmt) (ts : TS) (td : TDS) : Prop where
  ps : PS X s ts
  ad : AdS X.K W ts td
structure DSs (W : Wc) (X : Cx) (s : List Stmt) (ts : TS) (td : TDS) : Prop where
  ps : PSs X s ts
  ad : AdS X.K W ts td
structure DG (W : Wc) (X : Cx) (tg : Expr) (g : TG) (gd : TDG) (is : List Nat) : Prop where
  pg : PG X tg g
  ad : ∀ Γ σ Hv H v d (Q : Gm → Prop) (Q' : St → Hp → Prop), Ev X.K W Γ σ Hv H → Rp X.K Hv v d → gd d Γ Q →
    (∀ Γ' σ' Hv' H', Stp X.K W Γ σ Hv H Γ' σ' Hv' H' → σ'.length = σ.length → (∀ j, j ∉ is → σ'[j]? = σ[j]?) → Q Γ' → Q' σ' H') → g v σ H Q'
structure DGs (W : Wc) (X : Cx) (tg : List Expr) (g : TGs) (gd : List D → Gm → (Gm → Prop) → Prop) (is : List Nat) : Prop where
  pg : PGs X tg g
  ad : ∀ Γ σ Hv H vs ds (Q : Gm → Prop) (Q' : St → Hp → Prop), Ev X.K W Γ σ Hv H → RpAll X.K Hv vs ds → gd ds Γ Q →
    (∀ Γ' σ' Hv' H', Stp X.K W Γ σ Hv H Γ' σ' Hv' H' → σ'.length = σ.length → (∀ j, j ∉ is → σ'[j]? = σ[j]?) → Q Γ' → Q' σ' H') → g vs σ H Q'
/-- an iterator yields the data L -/
def ItD (K : PySem.W.Frag) (W : Wc) (J : It) (L : List D) (Hs : Hp) : Prop := ∀ Γ σ Hv H, Sub Hs Hv → Ev K W Γ σ Hv H → ∀ i, (L.length ≤ i → J.stop i H) ∧
  ∀ d, L[i]? = some d → J.go i H ∧ ∀ x H', J.yld i H x H' → ∃ Hv', Stp K W Γ σ Hv H Γ σ Hv' H' ∧ Rp K Hv' x d
structure DI (W : Wc) (X : Cx) (tg iter : Expr) (wi : TI) (di : TDF) : Prop where
  pi : PI X tg iter wi
  ad : ∀ Γ σ Hv H (Q : List D → Gm → Prop) (R : It → Hp → Prop), Ev X.K W Γ σ Hv H → di Γ Q →
    (∀ J L Γ' Hv' H', Stp X.K W Γ σ Hv H Γ' σ Hv' H' → ItD X.K W J L Hv' → Q L Γ' → R J H') → wi σ H R

/-! ### names, constants -/
section
variable {W : Wc} {X : Cx}
def rdVar (i : Nat) : TDE := fun Γ Q => match Γ[i]? with
  | some (.dat d) => Q d Γ
  | some (.own d) => Q d (Γ.set i (.dat d))
  | _ => False
theorem d_var {i : Nat} {x : Str} {pos : Pos} (hN : X.N[i]? = some x := by rfl) (hv : Vis X.env.scope x := by first | exact Or.inl rfl | exact Or.inr (Or.inl rfl) | exact Or.inr (Or.inr rfl)) (hd : (x == ("__debug__" : Str)) = false := by decide)
    (hcd : (x == ("__classdict__" : Str)) = false := by decide) : DE W X (.Name x pos) (tVar i) (rdVar i) := by
  refine ⟨pe_var hN hv hd hcd, fun Γ σ Hv H Q Q' E h k => ?_⟩
  unfold rdVar at h
  cases q : Γ[i]? with
  | none => rw [q] at h; exact h.elim
  | some s =>
    rw [q] at h
    cases s with
    | no => exact h.elim
    | bor d => exact h.elim
    | slf y d => exact h.elim
    | dat d =>
      obtain ⟨v, e, r⟩ := E.get q
      exact ⟨v, e, k v d Γ Hv H E.stp r h⟩
    | own ds =>
      obtain ⟨p, vs, e, s1, r⟩ := E.stp.let q
      exact ⟨_, e, k _ _ _ _ _ s1 r h⟩
def rdC (d : D) : TDE := fun Γ Q => Q d Γ
theorem ad_c {K : PySem.W.Frag} {v : V} {d : D} (r : ∀ H, Rp K H v d) : Ad K W (tC v) (rdC d) := fun Γ σ Hv H Q Q' E h k => k v d Γ Hv H E.stp (r Hv) h
theorem d_int {i j pos} : DE W X (.Constant (.int i) j pos) (tC (.int i)) (rdC (.int i)) := ⟨pe_int, ad_c fun _ => .int _⟩
theorem d_bl {i j pos} : DE W X (.Constant (.bool i) j pos) (tC (.bl i)) (rdC (.bl i)) := ⟨pe_bl, ad_c fun _ => .bl _⟩
theorem d_non {j pos} : DE W X (.Constant .none j pos) (tC .non) (rdC .non) := ⟨pe_non, ad_c fun _ => .non⟩
theorem d_str {i j pos} : DE W X (.Constant (.str i) j pos) (tC (.str i)) (rdC (.str i)) := ⟨pe_str, ad_c fun _ => .str _⟩
theorem d_glob {x : Str} {v : V} {d : D} {u : Value} {pos : Pos} (hg : Gl X x) (hm : X.mg x = some u) (r : RelV v u) (rd : ∀ H, Rp X.K H v d) (hd : (x == ("__debug__" : Str)) = false := by decide) : DE W X (.Name x pos) (tC v) (rdC d) :=
  ⟨pe_glob hg hm r hd, ad_c rd⟩
theorem d_bltn {x : Str} {v : V} {d : D} {u : Value} {pos : Pos} (hg : Gl X x) (hm : X.mg x = none) (hv : bootBuiltins x = some u) (r : RelV v u) (rd : ∀ H, Rp X.K H v d) (hn : x ≠ "__name__" := by decide) (hd : (x == ("__debug__" : Str)) = false := by decide) : DE W X (.Name x pos) (tC v) (rdC d) :=
  ⟨pe_bltn hg hm hv r hn hd, ad_c rd⟩

/-! ### sharing a new object -/
def rdShare (td : TDE) : TDE := td
theorem d_share {e : Expr} {te : TE} {td : TDE} (h : DF W X e te td) : DE W X e te (rdShare td) := by
  refine ⟨h.pe, fun Γ σ Hv H Q Q' E hw k => ?_⟩
  refine h.ad Γ σ Hv H _ Q' E hw fun p u d Γ' Hv' H' s hn hp r F q => ?_
  exact k _ d _ _ _ (s.share F hp hn) ((r.mono (same_upd F.hv)).rp upd_same) q

/-! ### operators by data -/
abbrev RD2 := D → D → (D → Prop) → Prop
def OpD (K : PySem.W.Frag) (W : Wc) (r : R2) (rd : RD2) : Prop := ∀ Γ σ Hv H x y dx dy (Q : D → Prop) (Q' : VK), Ev K W Γ σ Hv H → Rp K Hv x dx → Rp K Hv y dy → rd dx dy Q →
  (∀ v d Hv' H', Stp K W Γ σ Hv H Γ σ Hv' H' → Rp K Hv' v d → Q d → Q' v H') → r x y H Q'
def rdOp (rd : RD2) (ta tb : TDE) : TDE := fun Γ Q => ta Γ fun dx Γ1 => tb Γ1 fun dy Γ2 => rd dx dy fun d => Q d Γ2
variable {a b c : Expr} {ta tb tc : TE} {da db dc : TDE} {pos : Pos}
theorem ad_op {r : R2} {rd : RD2} {K : PySem.W.Frag} (hd : OpD K W r rd) (ha : Ad K W ta da) (hb : Ad K W tb db) : Ad K W (tOp r ta tb) (rdOp rd da db) := fun Γ σ Hv H Q Q' E h k =>
  ha Γ σ Hv H _ _ E h fun x dx Γ1 Hv1 H1 s1 r1 h1 => hb Γ1 σ Hv1 H1 _ _ s1.ev h1 fun y dy Γ2 Hv2 H2 s2 r2 h2 =>
    hd Γ2 σ Hv2 H2 x y dx dy _ _ s2.ev (Rp.mono s2.sv _ _ r1) r2 h2 fun v d Hv3 H3 s3 r3 q => k v d Γ2 Hv3 H3 ((s1.trans s2).trans s3) r3 q
theorem d_op {op : Operator} {r : R2} {rd : RD2} (ho : OpR X (binaryOp op) r) (hd : OpD X.K W r rd) (ha : DE W X a ta da) (hb : DE W X b tb db) : DE W X (.BinOp a op b pos) (tOp r ta tb) (rdOp rd da db) :=
  ⟨pe_op ho ha.pe hb.pe, ad_op hd ha.ad hb.ad⟩
theorem d_cmp {op : CmpOp} {r : R2} {rd : RD2} (ho : OpR X (compareOp op) r) (hd : OpD X.K W r rd) (ha : DE W X a ta da) (hb : DE W X b tb db) (hm : behindInMarks op b = false) : DE W X (.Compare a [op] [b] pos) (tOp r ta tb) (rdOp rd da db) :=
  ⟨pe_cmpR ho ha.pe hb.pe hm, ad_op hd ha.ad hb.ad⟩
def asB (d : D) (k : Bool → Prop) : Prop := match d with | .bl c => k c | _ => False
theorem asB_of {K : PySem.W.Frag} {H : Hp} {v : V} {d : D} {k : Bool → Prop} (r : Rp K H v d) (h : asB d k) : ∃ c, v = .bl c ∧ k c := by
  cases d <;> first | exact h.elim | skip
  cases r
  exact ⟨_, rfl, h⟩
def rdTest (da : TDE) : TDT := fun Γ Q => da Γ fun d Γ1 => asB d fun c => Q c Γ1
theorem ad_test {K : PySem.W.Frag} (ha : Ad K W ta da) : AdT K W (tTest ta) (rdTest da) := fun Γ σ Hv H Q Q' E h k =>
  ha Γ σ Hv H _ _ E h fun x dx Γ1 Hv1 H1 s1 r1 h1 => by
    obtain ⟨c, e, q⟩ := asB_of r1 h1
    exact ⟨c, e, k c Γ1 Hv1 H1 s1 q⟩
theorem ad_testB {K : PySem.W.Frag} (ha : Ad K W ta da) : AdT K W (tB ta) (rdTest da) := ad_test ha
theorem dt_cmp {op : CmpOp} {r : R2} {rd : RD2} (ho : OpR X (compareOp op) r) (hd : OpD X.K W r rd) (ha : DE W X a ta da) (hb : DE W X b tb db) (hm : behindInMarks op b = false) : DT W X (.Compare a [op] [b] pos) (tTest (tOp r ta tb)) (rdTest (rdOp rd da db)) :=
  ⟨pt_cmpR ho ha.pe hb.pe hm, ad_test (ad_op hd ha.ad hb.ad)⟩
theorem dt_val {e : Expr} {te : TE} {de : TDE} (h : DE W X e te de) (he : ∀ whole, isTrue e X.env whole = (do let v ← whole; standAt e.pos; holding [v] (truthy v)) := by intro _; rfl) : DT W X e (tB te) (rdTest de) :=
  ⟨pt_val h.pe he, ad_testB h.ad⟩
/-- a < b < c -/
def rdChain (r1 r2 : RD2) (da db dc : TDE) : TDE := fun Γ Q => da Γ fun dx Γ1 => db Γ1 fun dy Γ2 => r1 dx dy fun d => asB d fun k => if k = true then dc Γ2 fun dz Γ3 => r2 dy dz fun e => Q e Γ3 else Q (.bl false) Γ2
theorem ad_chain {r r' : R2} {rd rd' : RD2} {K : PySem.W.Frag} (hd : OpD K W r rd) (hd' : OpD K W r' rd') (ha : Ad K W ta da) (hb : Ad K W tb db) (hc : Ad K W tc dc) : Ad K W (tChain r r' ta tb tc) (rdChain rd rd' da db dc) := fun Γ σ Hv H Q Q' E h k =>
  ha Γ σ Hv H _ _ E h fun x dx Γ1 Hv1 H1 s1 r1 h1 => hb Γ1 σ Hv1 H1 _ _ s1.ev h1 fun y dy Γ2 Hv2 H2 s2 r2 h2 =>
    hd Γ2 σ Hv2 H2 x y dx dy _ _ s2.ev (Rp.mono s2.sv _ _ r1) r2 h2 fun v d Hv3 H3 s3 r3 q => by
      obtain ⟨c, e, q⟩ := asB_of r3 q
      refine ⟨c, e, ?_⟩
      cases c with
      | false =>
        rw [if_neg Bool.false_ne_true] at q ⊢
        exact k _ _ Γ2 Hv3 H3 ((s1.trans s2).trans s3) (.bl _) q
      | true =>
        rw [if_pos rfl] at q ⊢
        refine hc Γ2 σ Hv3 H3 _ _ s3.ev q fun z dz Γ3 Hv4 H4 s4 r4 q4 => ?_
        exact hd' Γ3 σ Hv4 H4 y z dy dz _ _ s4.ev (Rp.mono s4.sv _ _ (Rp.mono s3.sv _ _ r2)) r4 q4 fun v d Hv5 H5 s5 r5 q5 => k v d Γ3 Hv5 H5 (((s1.trans s2).trans (s3.trans s4)).trans s5) r5 q5
theorem d_chain {op op' : CmpOp} {r r' : R2} {rd rd' : RD2} (ho : OpR X (compareOp op) r) (hd : OpD X.K W r rd) (ho' : OpR X (compareOp op') r') (hd' : OpD X.K W r' rd') (ha : DE W X a ta da) (hb : DE W X b tb db) (hc : DE W X c tc dc) (hm : lastMarks [op, op'] [b, c] = false := by with_unfolding_all rfl) :
    DE W X (.Compare a [op, op'] [b, c] pos) (tChain r r' ta tb tc) (rdChain rd rd' da db dc) := ⟨pe_chain ho ho' ha.pe hb.pe hc.pe hm, ad_chain hd hd' ha.ad hb.ad hc.ad⟩
theorem dt_chain {op op' : CmpOp} {r r' : R2} {rd rd' : RD2} (ho : OpR X (compareOp op) r) (hd : OpD X.K W r rd) (ho' : OpR X (compareOp op') r') (hd' : OpD X.K W r' rd') (ha : DE W X a ta da) (hb : DE W X b tb db) (hc : DE W X c tc dc) (hm : lastMarks [op, op'] [b, c] = false := by with_unfolding_all rfl) :
    DT W X (.Compare a [op, op'] [b, c] pos) (tTest (tChain r r' ta tb tc)) (rdTest (rdChain rd rd' da db dc)) := ⟨pt_chain ho ho' ha.pe hb.pe hc.pe hm, ad_test (ad_chain hd hd' ha.ad hb.ad hc.ad)⟩

/-! ### and, or, not, if -/
variable {tA tB' : TT} {dA dB : TDT} {rest : List Expr}
def rdAnd (t u : TDT) : TDT := fun Γ Q => t Γ fun c Γ1 => if c = true then u Γ1 Q else Q false Γ1
def rdOr (t u : TDT) : TDT := fun Γ Q => t Γ fun c Γ1 => if c = true then Q true Γ1 else u Γ1 Q
def rdNot (t : TDT) : TDT := fun Γ Q => t Γ fun c Γ1 => Q (!c) Γ1
theorem DW.dt (h : DW W X a tA dA) : DT W X a tA dA := ⟨h.pw.pt, h.ad⟩
theorem dw_and1 (ha : DT W X a tA dA) : DW W X (.BoolOp .And [a] pos) tA dA := ⟨pw_and1 ha.pt, ha.ad⟩
theorem dw_or1 (ha : DT W X a tA dA) : DW W X (.BoolOp .Or [a] pos) tA dA := ⟨pw_or1 ha.pt, ha.ad⟩
theorem ad_and {K : PySem.W.Frag} (ha : AdT K W tA dA) (hb : AdT K W tB' dB) : AdT K W (tAnd tA tB') (rdAnd dA dB) := fun Γ σ Hv H Q Q' E h k =>
  ha Γ σ Hv H _ _ E h fun c Γ1 Hv1 H1 s1 q => by
    cases c with
    | true =>
      rw [if_pos rfl] at q ⊢
      exact hb Γ1 σ Hv1 H1 _ _ s1.ev q fun b Γ2 Hv2 H2 s2 q2 => k b Γ2 Hv2 H2 (s1.trans s2) q2
    | false =>
      rw [if_neg Bool.false_ne_true] at q ⊢
      exact k false Γ1 Hv1 H1 s1 q
theorem ad_or {K : PySem.W.Frag} (ha : AdT K W tA dA) (hb : AdT K W tB' dB) : AdT K W (tOr tA tB') (rdOr dA dB) := fun Γ σ Hv H Q Q' E h k =>
  ha Γ σ Hv H _ _ E h fun c Γ1 Hv1 H1 s1 q => by
    cases c with
    | false =>
      rw [if_neg Bool.false_ne_true] at q ⊢
      exact hb Γ1 σ Hv1 H1 _ _ s1.ev q fun b Γ2 Hv2 H2 s2 q2 => k b Γ2 Hv2 H2 (s1.trans s2) q2
    | true =>
      rw [if_pos rfl] at q ⊢
      exact k true Γ1 Hv1 H1 s1 q
theorem dw_and (ha : DT W X a tA dA) (hb : DW W X (.BoolOp .And (b :: rest) pos) tB' dB) : DW W X (.BoolOp .And (a :: b :: rest) pos) (tAnd tA tB') (rdAnd dA dB) := ⟨pw_and ha.pt hb.pw, ad_and ha.ad hb.ad⟩
theorem dw_or (ha : DT W X a tA dA) (hb : DW W X (.BoolOp .Or (b :: rest) pos) tB' dB) : DW W X (.BoolOp .Or (a :: b :: rest) pos) (tOr tA tB') (rdOr dA dB) := ⟨pw_or ha.pt hb.pw, ad_or ha.ad hb.ad⟩
theorem dt_not (ha : DT W X a tA dA) : DT W X (.UnaryOp .Not a pos) (tNot tA) (rdNot dA) := ⟨pt_not ha.pt, fun Γ σ Hv H Q Q' E h k => ha.ad Γ σ Hv H _ _ E h fun c Γ1 Hv1 H1 s1 q => k _ Γ1 Hv1 H1 s1 q⟩
def rdAndV (da db : TDE) : TDE := fun Γ Q => da Γ fun d Γ1 => asB d fun c => if c = true then db Γ1 Q else Q (.bl false) Γ1
def rdOrV (da db : TDE) : TDE := fun Γ Q => da Γ fun d Γ1 => asB d fun c => if c = true then Q (.bl true) Γ1 else db Γ1 Q
theorem d_one {op} (h : DE W X a ta da) : DE W X (.BoolOp op [a] pos) ta da := ⟨pe_one h.pe, h.ad⟩
theorem d_and (ha : DE W X a ta da) (hb : DE W X (.BoolOp .And (b :: rest) pos) tb db) : DE W X (.BoolOp .And (a :: b :: rest) pos) (tAndV ta tb) (rdAndV da db) := by
  refine ⟨pe_and ha.pe hb.pe, fun Γ σ Hv H Q Q' E h k => ?_⟩
  refine ha.ad Γ σ Hv H _ _ E h fun x d Γ1 Hv1 H1 s1 r1 q => ?_
  obtain ⟨c, e, q⟩ := asB_of r1 q
  refine ⟨c, e, ?_⟩
  cases c with
  | true =>
    rw [if_pos rfl] at q ⊢
    exact hb.ad Γ1 σ Hv1 H1 _ _ s1.ev q fun v d Γ2 Hv2 H2 s2 r2 q2 => k v d Γ2 Hv2 H2 (s1.trans s2) r2 q2
  | false =>
    rw [if_neg Bool.false_ne_true] at q ⊢
    exact k _ _ Γ1 Hv1 H1 s1 (.bl _) q
theorem d_or (ha : DE W X a ta da) (hb : DE W X (.BoolOp .Or (b :: rest) pos) tb db) : DE W X (.BoolOp .Or (a :: b :: rest) pos) (tOrV ta tb) (rdOrV da db) := by
  refine ⟨pe_or ha.pe hb.pe, fun Γ σ Hv H Q Q' E h k => ?_⟩
  refine ha.ad Γ σ Hv H _ _ E h fun x d Γ1 Hv1 H1 s1 r1 q => ?_
  obtain ⟨c, e, q⟩ := asB_of r1 q
  refine ⟨c, e, ?_⟩
  cases c with
  | false =>
    rw [if_neg Bool.false_ne_true] at q ⊢
    exact hb.ad Γ1 σ Hv1 H1 _ _ s1.ev q fun v d Γ2 Hv2 H2 s2 r2 q2 => k v d Γ2 Hv2 H2 (s1.trans s2) r2 q2
  | true =>
    rw [if_pos rfl] at q ⊢
    exact k _ _ Γ1 Hv1 H1 s1 (.bl _) q
def rdNotV (da : TDE) : TDE := fun Γ Q => da Γ fun d Γ1 => asB d fun c => Q (.bl (!c)) Γ1
theorem d_not (ha : DE W X a ta da) : DE W X (.UnaryOp .Not a pos) (tNotV ta) (rdNotV da) := by
  refine ⟨pe_not ha.pe, fun Γ σ Hv H Q Q' E h k => ?_⟩
  refine ha.ad Γ σ Hv H _ _ E h fun x d Γ1 Hv1 H1 s1 r1 q => ?_
  obtain ⟨c, e, q⟩ := asB_of r1 q
  exact ⟨c, e, k _ _ Γ1 Hv1 H1 s1 (.bl _) q⟩
def rdIf (t : TDT) (da db : TDE) : TDE := fun Γ Q => t Γ fun c Γ1 => if c = true then da Γ1 Q else db Γ1 Q
theorem d_ifExp (hc : DT W X c tA dA) (ha : DE W X a ta da) (hb : DE W X b tb db) : DE W X (.IfExp c a b pos) (tIf tA ta tb) (rdIf dA da db) := by
  refine ⟨pe_ifExp hc.pt ha.pe hb.pe, fun Γ σ Hv H Q Q' E h k => ?_⟩
  refine hc.ad Γ σ Hv H _ _ E h fun c Γ1 Hv1 H1 s1 q => ?_
  cases c with
  | true =>
    rw [if_pos rfl] at q ⊢
    exact ha.ad Γ1 σ Hv1 H1 _ _ s1.ev q fun v d Γ2 Hv2 H2 s2 r2 q2 => k v d Γ2 Hv2 H2 (s1.trans s2) r2 q2
  | false =>
    rw [if_neg Bool.false_ne_true] at q ⊢
    exact hb.ad Γ1 σ Hv1 H1 _ _ s1.ev q fun v d Γ2 Hv2 H2 s2 r2 q2 => k v d Γ2 Hv2 H2 (s1.trans s2) r2 q2

/-! ### arguments, displays -/
def rdNil : TDF := fun Γ Q => Q [] Γ
def rdCons (da : TDE) (dr : TDF) : TDF := fun Γ Q => da Γ fun d Γ1 => dr Γ1 fun ds Γ2 => Q (d :: ds) Γ2
variable {e : Expr} {es : List Expr} {te : TE} {t : TA} {de : TDE} {dt : TDF}
theorem da_nil : DA W X [] tNil rdNil := ⟨pa_nil, fun Γ σ Hv H Q Q' E h k => k [] [] Γ Hv H E.stp .nil h⟩
theorem da_cons (ha : DE W X e te de) (hr : DA W X es t dt) (hs : starEach (e :: es) X.env = (false, eval e X.env) :: starEach es X.env := by rfl) : DA W X (e :: es) (tCons te t) (rdCons de dt) := by
  refine ⟨pa_cons ha.pe hr.pa hs, fun Γ σ Hv H Q Q' E h k => ?_⟩
  refine ha.ad Γ σ Hv H _ _ E h fun x d Γ1 Hv1 H1 s1 r1 q => ?_
  exact hr.ad Γ1 σ Hv1 H1 _ _ s1.ev q fun vs ds Γ2 Hv2 H2 s2 r2 q2 => k _ _ Γ2 Hv2 H2 (s1.trans s2) (.cons (Rp.mono s2.sv _ _ r1) r2) q2
def small (n : Nat) : Prop := n ≤ sizeLine
def rdTup (dt : TDF) : TDE := fun Γ Q => dt Γ fun ds Γ1 => small ds.length ∧ Q (.tup ds) Γ1
theorem d_tup {x1} (h : DA W X es t dt) : DE W X (.Tuple es x1 pos) (tTup t) (rdTup dt) := by
  refine ⟨pe_tup h.pa, fun Γ σ Hv H Q Q' E hw k => ?_⟩
  refine h.ad Γ σ Hv H _ _ E hw fun vs ds Γ1 Hv1 H1 s1 r1 q => ?_
  refine ⟨by rw [r1.length]; exact q.1, fun p hp => ?_⟩
  exact k _ (.tup ds) Γ1 _ _ (s1.alloc _ hp) (.tup (.of upd_same) (RpAll.mono (same_upd (s1.ev.noneHv hp)) _ _ r1)) q.2
def rdLst (dt : TDF) : TDE := fun Γ Q => dt Γ fun ds Γ1 => small ds.length ∧ Q (.lst ds) Γ1
theorem d_lst (h : DA W X es t dt) : DF W X (.List es pos) (tLst t) (rdLst dt) := by
  refine ⟨pe_lst h.pa, fun Γ σ Hv H Q Q' E hw k => ?_⟩
  refine h.ad Γ σ Hv H _ _ E hw fun vs ds Γ1 Hv1 H1 s1 r1 q => ?_
  refine ⟨by rw [r1.length]; exact q.1, fun p hp => ?_⟩
  obtain ⟨s2, F⟩ := s1.alloc0 (.lst vs) hp
  exact k p _ (.lst ds) Γ1 _ _ s2 (s1.was hp) upd_same ⟨vs, rfl, r1⟩ F q.2
end
end VL

set_option Elab.async false
set_option linter.all false
set_option maxRecDepth 100000
set_option maxHeartbeats 4000000
/-! VL3: calls, subscripts, methods, comprehensions, statements, loops, a def's promise. -/
namespace VL
open PySem PySem.Spec L2
open PyProof.Rows hiding St
section
variable {W : Wc} {X : Cx} {a b c e o i : Expr} {es : List Expr} {ta tb tc te to ti : TE} {da db dc de do' di : TDE} {t : TA} {dt : TDF} {p pos apos : Pos}

/-! ### built-ins by name -/
def CallD (K : PySem.W.Frag) (W : Wc) (r : List V → Hp → VK → Prop) (rd : List D → (D → Prop) → Prop) : Prop := ∀ Γ σ Hv H vs ds (Q : D → Prop) (Q' : VK), Ev K W Γ σ Hv H → RpAll K Hv vs ds → rd ds Q →
  (∀ v d Hv' H', Stp K W Γ σ Hv H Γ σ Hv' H' → Rp K Hv' v d → Q d → Q' v H') → r vs H Q'
/-- the result is a new object -/
def CallF (K : PySem.W.Frag) (W : Wc) (r : List V → Hp → VK → Prop) (rd : List D → (D → Prop) → Prop) : Prop := ∀ Γ σ Hv H vs ds (Q : D → Prop) (Q' : VK), Ev K W Γ σ Hv H → RpAll K Hv vs ds → rd ds Q →
  (∀ q u d Hv' H', Stp K W Γ σ Hv H Γ σ Hv' H' → H q = none → H' q = some u → ObD K Hv' d u → Fresh W Γ σ Hv' q → Q d → Q' (.ref q) H') → r vs H Q'
def rdCB (rd : List D → (D → Prop) → Prop) (dt : TDF) : TDE := fun Γ Q => dt Γ fun ds Γ1 => rd ds fun d => Q d Γ1
def rdCF (rd : List D → (D → Prop) → Prop) (dt : TDF) : TDE := fun Γ Q => dt Γ fun ds Γ1 => rd ds fun d => Q d Γ1
theorem ad_cb {K : PySem.W.Frag} {r rd} (hd : CallD K W r rd) (h : AdA K W t dt) : Ad K W (tCB r t) (rdCB rd dt) := fun Γ σ Hv H Q Q' E hw k =>
  h Γ σ Hv H _ _ E hw fun vs ds Γ1 Hv1 H1 s1 r1 q => hd Γ1 σ Hv1 H1 vs ds _ _ s1.ev r1 q fun v d Hv2 H2 s2 r2 q2 => k v d Γ1 Hv2 H2 (s1.trans s2) r2 q2
theorem ad_cf {K : PySem.W.Frag} {r rd} (hd : CallF K W r rd) (h : AdA K W t dt) : AdF K W (tCB r t) (rdCF rd dt) := fun Γ σ Hv H Q Q' E hw k =>
  h Γ σ Hv H _ _ E hw fun vs ds Γ1 Hv1 H1 s1 r1 q => hd Γ1 σ Hv1 H1 vs ds _ _ s1.ev r1 q fun q' u d Hv2 H2 s2 hn hq r2 F q2 => k q' u d Γ1 Hv2 H2 (s1.trans s2) (s1.was hn) hq r2 F q2
variable {x : Str} {id T : String}
theorem d_callB {r rd} (hc : CallR X (.builtin id) r) (hd : CallD X.K W r rd) (hg : Gl X x) (hm : X.mg x = none) (hv : bootBuiltins x = some (.builtin id)) (ha : DA W X (e :: es) t dt) (hn : x ≠ "__name__" := by decide) (hdb : (x == ("__debug__" : Str)) = false := by decide)
    (he : starEach (e :: es) X.env = (false, eval e X.env) :: starEach es X.env := by rfl) (hpl : (backTo pos (starEach es X.env)).any (·.1) = false := by rfl) : DE W X (.Call (.Name x p) (e :: es) [] pos) (tCB r t) (rdCB rd dt) :=
  ⟨pe_callB hc hg hm hv ha.pa hn hdb he hpl, ad_cb hd ha.ad⟩
theorem d_callTy {r rd} (hc : CallR X (.type T) r) (hd : CallD X.K W r rd) (hg : Gl X x) (hm : X.mg x = none) (hv : bootBuiltins x = some (.type T)) (ha : DA W X (e :: es) t dt) (hn : x ≠ "__name__" := by decide) (hdb : (x == ("__debug__" : Str)) = false := by decide)
    (he : starEach (e :: es) X.env = (false, eval e X.env) :: starEach es X.env := by rfl) (hpl : (backTo pos (starEach es X.env)).any (·.1) = false := by rfl) : DE W X (.Call (.Name x p) (e :: es) [] pos) (tCB r t) (rdCB rd dt) :=
  ⟨pe_callTy hc hg hm hv ha.pa hn hdb he hpl, ad_cb hd ha.ad⟩
theorem df_callB {r rd} (hc : CallR X (.builtin id) r) (hd : CallF X.K W r rd) (hg : Gl X x) (hm : X.mg x = none) (hv : bootBuiltins x = some (.builtin id)) (ha : DA W X (e :: es) t dt) (hn : x ≠ "__name__" := by decide) (hdb : (x == ("__debug__" : Str)) = false := by decide)
    (he : starEach (e :: es) X.env = (false, eval e X.env) :: starEach es X.env := by rfl) (hpl : (backTo pos (starEach es X.env)).any (·.1) = false := by rfl) : DF W X (.Call (.Name x p) (e :: es) [] pos) (tCB r t) (rdCF rd dt) :=
  ⟨pe_callB hc hg hm hv ha.pa hn hdb he hpl, ad_cf hd ha.ad⟩
theorem df_callTy {r rd} (hc : CallR X (.type T) r) (hd : CallF X.K W r rd) (hg : Gl X x) (hm : X.mg x = none) (hv : bootBuiltins x = some (.type T)) (ha : DA W X (e :: es) t dt) (hn : x ≠ "__name__" := by decide) (hdb : (x == ("__debug__" : Str)) = false := by decide)
    (he : starEach (e :: es) X.env = (false, eval e X.env) :: starEach es X.env := by rfl) (hpl : (backTo pos (starEach es X.env)).any (·.1) = false := by rfl) : DF W X (.Call (.Name x p) (e :: es) [] pos) (tCB r t) (rdCF rd dt) :=
  ⟨pe_callTy hc hg hm hv ha.pa hn hdb he hpl, ad_cf hd ha.ad⟩

/-! ### a def's promise, by data -/
abbrev FD := List D → (D → Prop) → Prop
def spD (J : Vol) (K : PySem.W.Frag) (F : FD) : Sp := fun vs H Q _ => ∃ Hv ds Qd, Sub Hv H ∧ J.inv H ∧ (∀ a, J.vol a → Hv a = none) ∧ RpAll K Hv vs ds ∧ F ds Qd ∧
  ∀ v d Hv' H', Ret J.vol J.inv Hv H Hv' H' → Rp K Hv' v d → Qd d → Q v H'
def rdCall (F : FD) (dds : List D) (dt : TDF) : TDE := fun Γ Q => dt Γ fun ds Γ1 => F (ds ++ dds) fun d => Q d Γ1
theorem ad_call {K : PySem.W.Frag} {F : FD} {dvs : List V} {dds : List D} {E : XK} (hdd : ∀ H, RpAll K H dvs dds) (h : AdA K W t dt) : Ad K W (tCall (spD W.J K F) dvs E t) (rdCall F dds dt) := fun Γ σ Hv H Q Q' E hw k =>
  h Γ σ Hv H _ _ E hw fun vs ds Γ1 Hv1 H1 s1 r1 q => ⟨Hv1, ds ++ dds, _, s1.ev.ret.sub, s1.ev.ret.inv, s1.ev.ret.nv, r1.append (hdd _), q, fun v d Hv2 H2 R r2 q2 => k v d Γ1 Hv2 H2 (s1.after R) r2 q2⟩
theorem ad_callP {K : PySem.W.Frag} {F : FD} {dvs : List V} {dds : List D} {E : XK} (hdd : ∀ H, RpAll K H dvs dds) (h : AdA K W t dt) : Ad K W (tCall (spD Vol.no K F) dvs E t) (rdCall F dds dt) := fun Γ σ Hv H Q Q' E hw k =>
  h Γ σ Hv H _ _ E hw fun vs ds Γ1 Hv1 H1 s1 r1 q => ⟨Hv1, ds ++ dds, _, s1.ev.ret.sub, True.intro, fun _ z => z.elim, r1.append (hdd _), q, fun v d Hv2 H2 R r2 q2 => k v d Γ1 Hv2 H2 (s1.after (s1.ev.pure R)) r2 q2⟩
variable {CX : CXT} {k : Nat} {f : Addr} {fd : FuncData} {ps : List Str} {F : FD} {dvs : List V} {dds : List D} {ds : List Value} {E : XK}
/-- f(e, ..), of the same volatile part -/
theorem d_call {J : Vol} (G : FnOk X.prog X.w X.K X.mg X.base CX k f fd ps (spD J X.K F)) (hJ : J = W.J) (hr : Room k X.A) (hg : Gl X x) (hm : X.mg x = some (.ref f)) (hk : PySem.W.keepIn X.K (.ref f) = true) (hb : Binds X.K fd ps ds) (hd : Vals dvs ds) (hdd : ∀ H, RpAll X.K H dvs dds) (hx : Passes CX X E)
    (ha : DA W X (e :: es) t dt) (hdb : (x == ("__debug__" : Str)) = false := by decide) (he : starEach (e :: es) X.env = (false, eval e X.env) :: starEach es X.env := by rfl) (hpl : (backTo pos (starEach es X.env)).any (·.1) = false := by rfl) :
    DE W X (.Call (.Name x p) (e :: es) [] pos) (tCall (spD J X.K F) dvs E t) (rdCall F dds dt) := by
  subst hJ
  exact ⟨pe_call G hr hg hm hk hb hd hx ha.pa hdb he hpl, ad_call hdd ha.ad⟩
/-- f(e, ..), f pure -/
theorem d_callP (G : FnOk X.prog X.w X.K X.mg X.base CX k f fd ps (spD Vol.no X.K F)) (hr : Room k X.A) (hg : Gl X x) (hm : X.mg x = some (.ref f)) (hk : PySem.W.keepIn X.K (.ref f) = true) (hb : Binds X.K fd ps ds) (hd : Vals dvs ds) (hdd : ∀ H, RpAll X.K H dvs dds) (hx : Passes CX X E)
    (ha : DA W X (e :: es) t dt) (hdb : (x == ("__debug__" : Str)) = false := by decide) (he : starEach (e :: es) X.env = (false, eval e X.env) :: starEach es X.env := by rfl) (hpl : (backTo pos (starEach es X.env)).any (·.1) = false := by rfl) :
    DE W X (.Call (.Name x p) (e :: es) [] pos) (tCall (spD Vol.no X.K F) dvs E t) (rdCall F dds dt) :=
  ⟨pe_call G hr hg hm hk hb hd hx ha.pa hdb he hpl, ad_callP hdd ha.ad⟩

/-! ### subscripts, slices -/
theorem d_ix {r : R2} {rd : RD2} (hr : IxR X r) (hd : OpD X.K W r rd) (ha : DE W X a ta da) (hb : DE W X b tb db) (hs : PlainIx b) : DE W X (.Subscript a b pos) (tOp r ta tb) (rdOp rd da db) := ⟨pe_ix hr ha.pe hb.pe hs, ad_op hd ha.ad hb.ad⟩
abbrev TDO := Gm → (Option Int → Gm → Prop) → Prop
def AdO (K : PySem.W.Frag) (W : Wc) (t : TO) (td : TDO) : Prop := ∀ Γ σ Hv H (Q : Option Int → Gm → Prop) (Q' : Option Int → Hp → Prop), Ev K W Γ σ Hv H → td Γ Q →
  (∀ o Γ' Hv' H', Stp K W Γ σ Hv H Γ' σ Hv' H' → Q o Γ' → Q' o H') → t σ H Q'
structure DO (W : Wc) (X : Cx) (e : Option Expr) (t : TO) (td : TDO) : Prop where
  po : PO X e t
  ad : AdO X.K W t td
def rdNoPart : TDO := fun Γ Q => Q none Γ
def asI (d : D) (k : Int → Prop) : Prop := match d with | .int c => k c | _ => False
theorem asI_of {K : PySem.W.Frag} {H : Hp} {v : V} {d : D} {k : Int → Prop} (r : Rp K H v d) (h : asI d k) : ∃ c, v = .int c ∧ k c := by
  cases d <;> first | exact h.elim | skip
  cases r
  exact ⟨_, rfl, h⟩
def rdPart (de : TDE) : TDO := fun Γ Q => de Γ fun d Γ1 => asI d fun j => Q (some j) Γ1
theorem do_none : DO W X none tNoPart rdNoPart := ⟨po_none, fun Γ σ Hv H Q Q' E h k => k none Γ Hv H E.stp h⟩
theorem do_some (h : DE W X e te de) : DO W X (some e) (tPart te) (rdPart de) := ⟨po_some h.pe, fun Γ σ Hv H Q Q' E hw k => h.ad Γ σ Hv H _ _ E hw fun v d Γ1 Hv1 H1 s1 r1 q => by
  obtain ⟨j, e1, q⟩ := asI_of r1 q
  exact ⟨j, e1, k _ Γ1 Hv1 H1 s1 q⟩⟩
def SlD (K : PySem.W.Frag) (W : Wc) (r : V → Option Int → Option Int → Hp → VK → Prop) (rd : D → Option Int → Option Int → (D → Prop) → Prop) : Prop := ∀ Γ σ Hv H x lo hi dx (Q : D → Prop) (Q' : VK), Ev K W Γ σ Hv H → Rp K Hv x dx → rd dx lo hi Q →
  (∀ v d Hv' H', Stp K W Γ σ Hv H Γ σ Hv' H' → Rp K Hv' v d → Q d → Q' v H') → r x lo hi H Q'
def rdSl (rd : D → Option Int → Option Int → (D → Prop) → Prop) (de : TDE) (dl dh : TDO) : TDE := fun Γ Q => de Γ fun d Γ1 => dl Γ1 fun lo Γ2 => dh Γ2 fun hi Γ3 => rd d lo hi fun d => Q d Γ3
theorem d_slice {r rd} {lo hi : Option Expr} {tl th : TO} {dl dh : TDO} {p2 : Pos} (hr : SlR X r) (hd : SlD X.K W r rd) (he : DE W X e te de) (hl : DO W X lo tl dl) (hu : DO W X hi th dh) : DE W X (.Subscript e (.Slice lo hi none p2) pos) (tSl r te tl th) (rdSl rd de dl dh) := by
  refine ⟨pe_slice hr he.pe hl.po hu.po, fun Γ σ Hv H Q Q' E h k => ?_⟩
  refine he.ad Γ σ Hv H _ _ E h fun x d Γ1 Hv1 H1 s1 r1 q => ?_
  refine hl.ad Γ1 σ Hv1 H1 _ _ s1.ev q fun l Γ2 Hv2 H2 s2 q2 => ?_
  refine hu.ad Γ2 σ Hv2 H2 _ _ s2.ev q2 fun u Γ3 Hv3 H3 s3 q3 => ?_
  exact hd Γ3 σ Hv3 H3 x l u d _ _ s3.ev (Rp.mono s3.sv _ _ (Rp.mono s2.sv _ _ r1)) q3 fun v d' Hv4 H4 s4 r4 q4 => k v d' Γ3 Hv4 H4 ((s1.trans (s2.trans s3)).trans s4) r4 q4

/-! ### methods of built-in types -/
def MtD (K : PySem.W.Frag) (W : Wc) (T : String) (r : V → List V → Hp → VK → Prop) (rd : D → List D → (D → Prop) → Prop) : Prop := ∀ Γ σ Hv H x dx vs ds (Q : D → Prop) (Q' : VK), Ev K W Γ σ Hv H → Rp K Hv x dx → RpAll K Hv vs ds → rd dx ds Q →
  (∀ v d Hv' H', Stp K W Γ σ Hv H Γ σ Hv' H' → Rp K Hv' v d → Q d → Q' v H') → r x vs H Q'
/-- the receiver's type, by data -/
def TyD (T : String) : D → Prop
  | .str _ => T = "str"
  | .lst _ => T = "list"
  | .tup _ => T = "tuple"
  | .dic _ _ => T = "dict"
  | _ => False

/-! ### statements -/
variable {s : Stmt} {rest sts bs : List Stmt} {tS uS : TS} {dS uD : TDS} {tT : TT} {dT : TDT}
def rdNext : TDS := fun E Γ => E.nx Γ
def rdSeq (t u : TDS) : TDS := fun E Γ => t { E with nx := u E } Γ
theorem dss_nil : DSs W X [] tNext rdNext := ⟨pss_nil, fun Γ σ Hv H E E' Z h l => l.nx _ _ _ _ Z.stp h⟩
theorem ad_seq {K : PySem.W.Frag} (h1 : AdS K W tS dS) (h2 : AdS K W uS uD) : AdS K W (tSeq tS uS) (rdSeq dS uD) := fun Γ σ Hv H E E' Z h l =>
  h1 Γ σ Hv H { E with nx := uD E } { E' with nx := uS E' } Z h ⟨fun Γ' σ' Hv' H' s q => h2 Γ' σ' Hv' H' E E' s.ev q (l.step s), l.rt, l.bk, l.ct⟩
theorem dss_cons (h1 : DS W X s tS dS) (h2 : DSs W X rest uS uD) : DSs W X (s :: rest) (tSeq tS uS) (rdSeq dS uD) := ⟨pss_cons h1.ps h2.ps, ad_seq h1.ad h2.ad⟩
theorem dss_one (h1 : DS W X s tS dS) : DSs W X [s] tS dS := ⟨pss_one h1.ps, h1.ad⟩
def rdBreak : TDS := fun E Γ => E.bk Γ
def rdCont : TDS := fun E Γ => E.ct Γ
theorem ds_pass : DS W X (.Pass pos) tNext rdNext := ⟨ps_pass, fun Γ σ Hv H E E' Z h l => l.nx _ _ _ _ Z.stp h⟩
theorem ds_break : DS W X (.Break pos) tBreak rdBreak := ⟨ps_break, fun Γ σ Hv H E E' Z h l => l.bk _ _ _ _ Z.stp h⟩
theorem ds_continue : DS W X (.Continue pos) tCont rdCont := ⟨ps_continue, fun Γ σ Hv H E E' Z h l => l.ct _ _ _ _ Z.stp h⟩
theorem ds_doc {y : Str} {j pos'} : DS W X (.Expr (.Constant (.str y) j pos) pos') tNext rdNext := ⟨ps_doc, fun Γ σ Hv H E E' Z h l => l.nx _ _ _ _ Z.stp h⟩
def rdDrop (de : TDE) : TDS := fun E Γ => de Γ fun _ Γ1 => E.nx Γ1
theorem ds_expr (he : DE W X e te de) (hs : swapsWith e none pos.line X.env = pure false := by rfl) : DS W X (.Expr e pos) (tDrop te) (rdDrop de) := ⟨ps_expr he.pe hs, fun Γ σ Hv H E E' Z h l => he.ad Γ σ Hv H _ _ Z h fun v d Γ1 Hv1 H1 s1 r1 q => l.nx _ _ _ _ s1 q⟩
def rdRet (de : TDE) : TDS := fun E Γ => de Γ fun d _ => E.rt d
theorem ds_ret (he : DE W X e te de) : DS W X (.Return (some e) pos) (tRet te) (rdRet de) := ⟨ps_ret he.pe, fun Γ σ Hv H E E' Z h l => he.ad Γ σ Hv H _ _ Z h fun v d Γ1 Hv1 H1 s1 r1 q => l.rt _ _ _ _ _ _ s1 r1 q⟩
def rdRetN : TDS := fun E _ => E.rt .non
theorem ds_retN : DS W X (.Return none pos) tRetN rdRetN := ⟨ps_retN, fun Γ σ Hv H E E' Z h l => l.rt _ _ _ _ _ _ Z.stp .non h⟩
def rdIfS (c : TDT) (t u : TDS) : TDS := fun E Γ => c Γ fun b Γ1 => if b = true then t E Γ1 else u E Γ1
theorem ds_if {as : List Stmt} (hc : DT W X c tT dT) (ha : DSs W X as tS dS) (hb : DSs W X bs uS uD) : DS W X (.If c as bs pos) (tIfS tT tS uS) (rdIfS dT dS uD) := by
  refine ⟨ps_if hc.pt ha.ps hb.ps, fun Γ σ Hv H E E' Z h l => hc.ad Γ σ Hv H _ _ Z h fun b Γ1 Hv1 H1 s1 q => ?_⟩
  cases b with
  | true =>
    rw [if_pos rfl] at q ⊢
    exact ha.ad Γ1 σ Hv1 H1 E E' s1.ev q (l.step s1)
  | false =>
    rw [if_neg Bool.false_ne_true] at q ⊢
    exact hb.ad Γ1 σ Hv1 H1 E E' s1.ev q (l.step s1)
theorem ds_never : DS W X s tNever (fun _ _ => False) := ⟨ps_never, fun Γ σ Hv H E E' Z h l => h.elim⟩
theorem dss_never : DSs W X sts tNever (fun _ _ => False) := ⟨pss_never, fun Γ σ Hv H E E' Z h l => h.elim⟩

/-! ### targets -/
def rgName (j : Nat) : TDG := fun d Γ Q => Q (Γ.set j (.dat d))
theorem dg_name {j : Nat} (hN : X.N.Nodup) (hi : X.N[j]? = some x) (hx : Loc X.env.scope x) (hf : X.fn x = true ∨ X.env.scope.names.lookup x = some .local := by first | exact .inl rfl | exact .inr rfl | assumption) : DG W X (.Name x pos) (gName j) (rgName j) [j] :=
  ⟨pg_name hN hi hx hf, fun Γ σ Hv H v d Q Q' Z r h k => k _ _ Hv H (Z.stp.set r) (by rw [List.length_set]) (fun l hl => List.getElem?_set_ne (fun z => hl (by simp [z]))) h⟩
def rgNil : List D → Gm → (Gm → Prop) → Prop := fun ds Γ Q => ds = [] ∧ Q Γ
def rgCons (t : TDG) (u : List D → Gm → (Gm → Prop) → Prop) : List D → Gm → (Gm → Prop) → Prop := fun ds Γ Q => match ds with
  | d :: r => t d Γ fun Γ1 => u r Γ1 Q
  | [] => False
theorem dgs_nil : DGs W X [] gNil rgNil [] := ⟨pgs_nil, fun Γ σ Hv H vs ds Q Q' Z r h k => by
  obtain ⟨rfl, h⟩ := h
  cases r
  exact ⟨rfl, k _ _ _ _ Z.stp rfl (fun _ _ => rfl) h⟩⟩
theorem dgs_cons {tg : Expr} {tgs : List Expr} {g : TG} {u : TGs} {gd : TDG} {ud} {is js : List Nat} (h1 : DG W X tg g gd is) (h2 : DGs W X tgs u ud js)
    (hs : (assignEach (tg :: tgs) X.env).map (·.2) = assign tg X.env :: (assignEach tgs X.env).map (·.2) := by rfl) : DGs W X (tg :: tgs) (gCons g u) (rgCons gd ud) (is ++ js) := by
  refine ⟨pgs_cons h1.pg h2.pg hs, fun Γ σ Hv H vs ds Q Q' Z r h k => ?_⟩
  cases r with
  | nil => exact h.elim
  | cons ra rr =>
    refine ⟨_, _, rfl, h1.ad Γ σ Hv H _ _ _ _ Z ra h fun Γ1 σ1 Hv1 H1 s1 l1 n1 q1 => ?_⟩
    refine h2.ad Γ1 σ1 Hv1 H1 _ _ _ _ s1.ev (RpAll.mono s1.sv _ _ rr) q1 fun Γ2 σ2 Hv2 H2 s2 l2 n2 q2 => ?_
    refine k Γ2 σ2 Hv2 H2 (s1.trans s2) (l2.trans l1) (fun j hj => ?_) q2
    rw [List.mem_append, not_or] at hj
    rw [n2 j hj.2, n1 j hj.1]
def rgTup (n : Nat) (u : List D → Gm → (Gm → Prop) → Prop) : TDG := fun d Γ Q => match d with
  | .tup ds => ds.length = n ∧ u ds Γ Q
  | _ => False
theorem dg_tup {tgs : List Expr} {kk : Nat} {u : TGs} {ud} {is : List Nat} {n : Nat} (hc : X.calm = true) (h : DGs W X tgs u ud is)
    (hn : (assignEach tgs X.env).length = n := by rfl) (hst : (assignEach tgs X.env).findIdx? (·.1) = none := by rfl) : DG W X (.Tuple tgs kk pos) (gTup X.K n u) (rgTup n ud) is := by
  refine ⟨pg_tup hc h.pg hn hst, fun Γ σ Hv H v d Q Q' Z r hw k => ?_⟩
  cases d <;> first | exact hw.elim | skip
  obtain ⟨hl, hw⟩ := hw
  cases r with
  | tup hs ra => exact ⟨_, _, rfl, seqT Z.ret.sub hs, by rw [ra.length]; exact hl, h.ad Γ σ Hv H _ _ _ _ Z ra hw k⟩
/-- target = value -/
def rdAsg (de : TDE) (gd : TDG) : TDS := fun E Γ => de Γ fun d Γ1 => gd d Γ1 E.nx
theorem ds_asg {tg : Expr} {g : TG} {gd : TDG} {is : List Nat} (he : DE W X e te de) (hg : DG W X tg g gd is) (hs : swapsWithSole [tg] e pos.line X.env = pure false := by rfl) (hw : swappedStores [tg] e X.env = pure none := by rfl)
    (h1 : (assignEach [tg] X.env).map (·.2) = [assign tg X.env] := by rfl) : DS W X (.Assign [tg] e pos) (tAsg te g) (rdAsg de gd) :=
  ⟨ps_asg he.pe hg.pg hs hw h1, fun Γ σ Hv H E E' Z h l => he.ad Γ σ Hv H _ _ Z h fun v d Γ1 Hv1 H1 s1 r1 q => hg.ad Γ1 σ Hv1 H1 _ _ _ _ s1.ev r1 q fun Γ2 σ2 Hv2 H2 s2 _ _ q2 => l.nx _ _ _ _ (s1.trans s2) q2⟩
theorem ds_set {j : Nat} {pos' : Pos} (hN : X.N.Nodup) (hi : X.N[j]? = some x) (hx : Loc X.env.scope x) (he : DE W X e te de) (hs : swapsWith e (some (.Name x pos')) pos.line X.env = pure false := by rfl) (hf : X.fn x = true ∨ X.env.scope.names.lookup x = some .local := by first | exact .inl rfl | exact .inr rfl | assumption) :
    DS W X (.Assign [.Name x pos'] e pos) (tAsg te (gName j)) (rdAsg de (rgName j)) :=
  ⟨ps_set hN hi hx he.pe hs hf, fun Γ σ Hv H E E' Z h l => he.ad Γ σ Hv H _ _ Z h fun v d Γ1 Hv1 H1 s1 r1 q => l.nx _ _ _ _ (s1.set r1) q⟩
/-- name = a new list: the slot's own -/
def rdSetOwn (de : TDE) (j : Nat) : TDS := fun E Γ => de Γ fun d Γ1 => E.nx (Γ1.set j (.own d))
theorem ds_setOwn {j : Nat} {pos' : Pos} {de : TDE} (hN : X.N.Nodup) (hi : X.N[j]? = some x) (hx : Loc X.env.scope x) (he : DF W X e te de) (hs : swapsWith e (some (.Name x pos')) pos.line X.env = pure false := by rfl) (hf : X.fn x = true ∨ X.env.scope.names.lookup x = some .local := by first | exact .inl rfl | exact .inr rfl | assumption) :
    DS W X (.Assign [.Name x pos'] e pos) (tAsg te (gName j)) (rdSetOwn de j) :=
  ⟨ps_set hN hi hx he.pe hs hf, fun Γ σ Hv H E E' Z h l => he.ad Γ σ Hv H _ _ Z h fun p u d Γ1 Hv1 H1 s1 hn hp r1 F q => l.nx _ _ _ _ (s1.keepOwn F hp r1 hn) q⟩
/-- x.append(e), x an own list's slot -/
def rdApp (j : Nat) (de : TDE) : TDE := fun Γ Q => (∃ ds, Γ[j]? = some (.own (.lst ds))) ∧ de Γ fun d Γ1 => match Γ1[j]? with
  | some (.own (.lst ds)) => ds.length < sizeLine ∧ Q .non (Γ1.set j (.own (.lst (ds ++ [d]))))
  | _ => False
theorem ad_app {K : PySem.W.Frag} {j : Nat} (he : Ad K W te de) : Ad K W (tBM K "list" rAppend (tVar j) (tCons te tNil)) (rdApp j de) := fun Γ σ Hv H Q Q' Z h k => by
  obtain ⟨⟨ds0, e0⟩, h⟩ := h
  obtain ⟨p, u0, es, hp, ⟨vs0, rfl, _⟩, _⟩ := Z.getOwn e0
  refine ⟨_, es, .inl ⟨rfl, _, .of hp⟩, he Γ σ Hv H _ _ Z h fun v d Γ1 Hv1 H1 s1 r1 q => ?_⟩
  split at q
  · rename_i ds e1
    obtain ⟨p1, u1, es1, hp1, ⟨vs1, rfl, ra⟩, _⟩ := s1.ev.getOwn e1
    rw [es] at es1
    cases es1
    refine ⟨p, vs1, v, rfl, rfl, hp1, by rw [ra.length]; exact q.1, ?_⟩
    exact k _ _ _ _ _ (s1.mut (d' := .lst (ds ++ [d])) e1 es ⟨_, rfl, ra.append (.cons r1 .nil)⟩) .non q.2
  · exact q.elim

/-! ### for, while -/
def goFor (gd : TDG) (tb : TDS) (E : EndsD) : List D → Gm → Prop
  | [], Γ => E.nx Γ
  | d :: r, Γ => gd d Γ fun Γ2 => tb { E with nx := goFor gd tb E r, ct := goFor gd tb E r, bk := E.nx } Γ2
def rdFor (di : TDF) (gd : TDG) (tb : TDS) : TDS := fun E Γ => di Γ fun L Γ1 => goFor gd tb E L Γ1
theorem ds_for {tg iter : Expr} {body : List Stmt} {wi : TI} {di : TDF} {g : TG} {gd : TDG} {is : List Nat} (hp : PassesOwn (model X.prog X.w) X.A X.env X.xe) (hc : X.calm = true) (hi : DI W X tg iter wi di) (hg : DG W X tg g gd is) (hb : DSs W X body tS dS)
    (hs : ∀ x, foldedSetIterable iter X.env x = pure x := by intro _; rfl) : DS W X (.For tg iter body [] pos) (tFor wi g tS) (rdFor di gd dS) := by
  refine ⟨ps_for hp hc hi.pi hg.pg hb.ps hs, fun Γ σ Hv H E E' Z h l => ?_⟩
  refine hi.ad Γ σ Hv H _ _ Z h fun J L Γ1 Hv1 H1 s1 it q => ?_
  refine ⟨fun i m σ' H' => m = L.length - i ∧ i ≤ L.length ∧ ∃ Γ' Hv', Stp X.K W Γ σ Hv H Γ' σ' Hv' H' ∧ Sub Hv1 Hv' ∧ goFor gd dS E (L.drop i) Γ', ⟨L.length, by simp, Nat.zero_le _, Γ1, Hv1, s1, .refl _, q⟩, ?_⟩
  rintro i m σ2 H2 ⟨rfl, hi2, Γ2, Hv2, s2, sm2, q2⟩
  obtain ⟨st, go⟩ := it Γ2 σ2 Hv2 H2 sm2 s2.ev i
  by_cases hlt : i < L.length
  · have e : L[i]? = some L[i] := List.getElem?_eq_getElem hlt
    obtain ⟨g1, g2⟩ := go _ e
    rw [List.drop_eq_getElem_cons hlt] at q2
    refine .inr ⟨g1, fun σ' H' => ∃ Γ' Hv', Stp X.K W Γ σ Hv H Γ' σ' Hv' H' ∧ Sub Hv1 Hv' ∧ goFor gd dS E (L.drop (i + 1)) Γ', fun σ' H' n => ⟨L.length - (i + 1), by omega, rfl, hlt, n⟩, fun x H3 y => ?_⟩
    obtain ⟨Hv3, s3, r3⟩ := g2 x H3 y
    refine hg.ad Γ2 σ2 Hv3 H3 x _ _ _ s3.ev r3 q2 fun Γ4 σ4 Hv4 H4 s4 _ _ q4 => ?_
    have s24 := s2.trans (s3.trans s4)
    have sm4 : Sub Hv1 Hv4 := sm2.trans (s3.sv.trans s4.sv)
    refine hb.ad Γ4 σ4 Hv4 H4 _ _ s4.ev q4 ⟨fun Γ' σ' Hv' H' s q => ⟨Γ', Hv', s24.trans s, sm4.trans s.sv, q⟩, fun v d Γ' σ' Hv' H' s r q => l.rt _ _ _ _ _ _ (s24.trans s) r q, fun Γ' σ' Hv' H' s q => l.nx _ _ _ _ (s24.trans s) q, fun Γ' σ' Hv' H' s q => ⟨Γ', Hv', s24.trans s, sm4.trans s.sv, q⟩⟩
  · have e : i = L.length := by omega
    subst e
    rw [List.drop_length] at q2
    exact .inl ⟨st (Nat.le_refl _), l.nx _ _ _ _ s2 q2⟩
def goW (c : TDT) (tb : TDS) (E : EndsD) : Nat → Gm → Prop
  | 0, _ => False
  | n + 1, Γ => c Γ fun b Γ1 => if b = true then tb { E with nx := goW c tb E n, ct := goW c tb E n, bk := E.nx } Γ1 else E.nx Γ1
def rdWhile (c : TDT) (tb : TDS) : TDS := fun E Γ => ∃ n, goW c tb E n Γ
theorem ds_while {body : List Stmt} (hp : PassesOwn (model X.prog X.w) X.A X.env X.xe) (hc : DT W X c tT dT) (hb : DSs W X body tS dS) : DS W X (.While c body [] pos) (tWhile tT tS) (rdWhile dT dS) := by
  refine ⟨ps_while hp hc.pt hb.ps, fun Γ σ Hv H E E' Z h l => ?_⟩
  obtain ⟨n, h⟩ := h
  refine ⟨fun m σ' H' => ∃ Γ' Hv', Stp X.K W Γ σ Hv H Γ' σ' Hv' H' ∧ goW dT dS E m Γ', ⟨n, Γ, Hv, Z.stp, h⟩, ?_⟩
  rintro m σ1 H1 ⟨Γ1, Hv1, s1, q1⟩
  cases m with
  | zero => exact q1.elim
  | succ m =>
    refine hc.ad Γ1 σ1 Hv1 H1 _ _ s1.ev q1 fun b Γ2 Hv2 H2 s2 q2 => ?_
    have s12 := s1.trans s2
    cases b with
    | true =>
      rw [if_pos rfl] at q2 ⊢
      refine ⟨fun σ' H' => ∃ Γ' Hv', Stp X.K W Γ σ Hv H Γ' σ' Hv' H' ∧ goW dT dS E m Γ', fun σ' H' n => ⟨m, Nat.lt_succ_self m, n⟩, ?_⟩
      exact hb.ad Γ2 σ1 Hv2 H2 _ _ s2.ev q2 ⟨fun Γ' σ' Hv' H' s q => ⟨Γ', Hv', s12.trans s, q⟩, fun v d Γ' σ' Hv' H' s r q => l.rt _ _ _ _ _ _ (s12.trans s) r q, fun Γ' σ' Hv' H' s q => l.nx _ _ _ _ (s12.trans s) q, fun Γ' σ' Hv' H' s q => ⟨Γ', Hv', s12.trans s, q⟩⟩
    | false =>
      rw [if_neg Bool.false_ne_true] at q2 ⊢
      exact l.nx _ _ _ _ s12 q2
end

/-! ### comprehensions -/
def wipeG (Γ : Gm) : List Nat → Gm
  | [] => Γ
  | v :: vs => (wipeG Γ vs).set v .no
def backG (Γ Γ' : Gm) : List Nat → Gm
  | [] => Γ'
  | v :: vs => (backG Γ Γ' vs).set v ((Γ[v]?).getD .no)
def noOwn (Γ : Gm) (vs : List Nat) : Prop := ∀ v ∈ vs, ∀ s, Γ[v]? = some s → s.isOwn = false
theorem wipeG_len (Γ : Gm) : ∀ vs, (wipeG Γ vs).length = Γ.length
  | [] => rfl
  | v :: vs => by unfold wipeG; rw [List.length_set, wipeG_len Γ vs]
theorem backG_len (Γ Γ' : Gm) : ∀ vs, (backG Γ Γ' vs).length = Γ'.length
  | [] => rfl
  | v :: vs => by unfold backG; rw [List.length_set, backG_len Γ Γ' vs]
theorem wipeG_get (Γ : Gm) : ∀ (vs : List Nat) (i : Nat), (wipeG Γ vs)[i]? = if i ∈ vs ∧ i < Γ.length then some .no else Γ[i]?
  | [], i => by simp [wipeG]
  | v :: vs, i => by
    unfold wipeG
    by_cases hv : v = i
    · subst hv
      by_cases hl : v < Γ.length
      · rw [List.getElem?_set_self (by rw [wipeG_len]; exact hl), if_pos ⟨by simp, hl⟩]
      · rw [List.getElem?_eq_none (by rw [List.length_set, wipeG_len]; omega), if_neg (fun z => hl z.2), List.getElem?_eq_none (by omega)]
    · rw [List.getElem?_set_ne hv, wipeG_get Γ vs i]
      have e : (i ∈ v :: vs ∧ i < Γ.length) ↔ (i ∈ vs ∧ i < Γ.length) := by
        rw [List.mem_cons]
        exact ⟨fun z => ⟨z.1.resolve_left (fun q => hv q.symm), z.2⟩, fun z => ⟨.inr z.1, z.2⟩⟩
      by_cases q : i ∈ vs ∧ i < Γ.length
      · rw [if_pos q, if_pos (e.mpr q)]
      · rw [if_neg q, if_neg (fun z => q (e.mp z))]
theorem wipe_get (σ : L2.St) : ∀ (vs : List Nat) (i : Nat), (wipe σ vs)[i]? = if i ∈ vs ∧ i < σ.length then some none else σ[i]?
  | [], i => by simp [wipe]
  | v :: vs, i => by
    unfold wipe
    by_cases hv : v = i
    · subst hv
      by_cases hl : v < σ.length
      · rw [List.getElem?_set_self (by rw [wipe_length]; exact hl), if_pos ⟨by simp, hl⟩]
      · rw [List.getElem?_eq_none (by rw [List.length_set, wipe_length]; omega), if_neg (fun z => hl z.2), List.getElem?_eq_none (by omega)]
    · rw [List.getElem?_set_ne hv, wipe_get σ vs i]
      have e : (i ∈ v :: vs ∧ i < σ.length) ↔ (i ∈ vs ∧ i < σ.length) := by
        rw [List.mem_cons]
        exact ⟨fun z => ⟨z.1.resolve_left (fun q => hv q.symm), z.2⟩, fun z => ⟨.inr z.1, z.2⟩⟩
      by_cases q : i ∈ vs ∧ i < σ.length
      · rw [if_pos q, if_pos (e.mpr q)]
      · rw [if_neg q, if_neg (fun z => q (e.mp z))]
theorem backG_get (Γ Γ' : Gm) : ∀ (vs : List Nat) (i : Nat), (backG Γ Γ' vs)[i]? = if i ∈ vs ∧ i < Γ'.length then some ((Γ[i]?).getD .no) else Γ'[i]?
  | [], i => by simp [backG]
  | v :: vs, i => by
    unfold backG
    by_cases hv : v = i
    · subst hv
      by_cases hl : v < Γ'.length
      · rw [List.getElem?_set_self (by rw [backG_len]; exact hl), if_pos ⟨by simp, hl⟩]
      · rw [List.getElem?_eq_none (by rw [List.length_set, backG_len]; omega), if_neg (fun z => hl z.2), List.getElem?_eq_none (by omega)]
    · rw [List.getElem?_set_ne hv, backG_get Γ Γ' vs i]
      have e : (i ∈ v :: vs ∧ i < Γ'.length) ↔ (i ∈ vs ∧ i < Γ'.length) := by
        rw [List.mem_cons]
        exact ⟨fun z => ⟨z.1.resolve_left (fun q => hv q.symm), z.2⟩, fun z => ⟨.inr z.1, z.2⟩⟩
      by_cases q : i ∈ vs ∧ i < Γ'.length
      · rw [if_pos q, if_pos (e.mpr q)]
      · rw [if_neg q, if_neg (fun z => q (e.mp z))]
section
variable {K : PySem.W.Frag} {W : Wc} {Γ Γ' : Gm} {σ σ' : L2.St} {Hv H Hv' H' : Hp} {vs : List Nat}
theorem Ev.wipe (E : Ev K W Γ σ Hv H) (vs : List Nat) : Stp K W Γ σ Hv H (wipeG Γ vs) (L2.wipe σ vs) Hv H := by
  have hl := E.len
  have at_ : ∀ {i : Nat} {sl : Sl}, (wipeG Γ vs)[i]? = some sl → sl.isOwn = true → Γ[i]? = some sl ∧ (L2.wipe σ vs)[i]? = σ[i]? := fun {i sl} e o => by
    rw [wipeG_get] at e
    rw [wipe_get]
    by_cases q : i ∈ vs ∧ i < Γ.length
    · rw [if_pos q] at e
      cases e; cases o
    · rw [if_neg q] at e
      exact ⟨e, if_neg fun z => q ⟨z.1, by omega⟩⟩
  refine ⟨.refl _, ⟨E.ret, by rw [wipe_length, wipeG_len, hl], fun i sl e => ?_, fun i j sl sl' a ne e1 e2 o1 o2 q => ?_⟩, fun x F n => ⟨rfl, F.hv, F.h0, fun i s e o => ?_⟩, fun _ n => n⟩
  · rw [wipeG_get] at e
    rw [wipe_get]
    by_cases q : i ∈ vs ∧ i < Γ.length
    · rw [if_pos q] at e
      cases e
      trivial
    · rw [if_neg q] at e
      rw [if_neg fun z => q ⟨z.1, by omega⟩]
      exact E.slots i sl e
  · obtain ⟨f1, g1⟩ := at_ e1 o1
    obtain ⟨f2, g2⟩ := at_ e2 o2
    rw [g1] at q
    rw [g2]
    exact E.apart i j sl sl' a ne f1 f2 o1 o2 q
  · obtain ⟨f1, g1⟩ := at_ e o
    rw [g1]
    exact F.sl i s f1 o
theorem Ev.back (E : Ev K W Γ σ Hv H) (n0 : noOwn Γ vs) {σ2 : L2.St} (s : Stp K W (wipeG Γ vs) (L2.wipe σ vs) Hv H Γ' σ2 Hv' H') (hl : σ2.length = σ.length) (hn : ∀ j, j ∉ vs → σ2[j]? = σ[j]?) :
    Stp K W Γ σ Hv H (backG Γ Γ' vs) σ Hv' H' := by
  have l1 := E.len
  have l2 := s.ev.len
  have at_ : ∀ {i : Nat} {sl : Sl}, (backG Γ Γ' vs)[i]? = some sl → sl.isOwn = true → Γ'[i]? = some sl ∧ σ2[i]? = σ[i]? := fun {i sl} e o => by
    rw [backG_get] at e
    by_cases q : i ∈ vs ∧ i < Γ'.length
    · rw [if_pos q] at e
      cases g : Γ[i]? with
      | none => rw [g] at e; cases e; cases o
      | some sl2 =>
        rw [g] at e
        have z : sl2 = sl := Option.some.inj e
        subst z
        rw [n0 i q.1 _ g] at o; cases o
    · rw [if_neg q] at e
      refine ⟨e, hn i fun z => q ⟨z, (List.getElem?_eq_some_iff.mp e).1⟩⟩
  refine ⟨s.sv, ⟨s.ev.ret, by rw [backG_len]; omega, fun i sl e => ?_, fun i j sl sl' a ne e1 e2 o1 o2 q => ?_⟩, fun x F n => ?_, fun x n => s.st x n⟩
  · rw [backG_get] at e
    by_cases q : i ∈ vs ∧ i < Γ'.length
    · rw [if_pos q] at e
      have hi : i < Γ.length := by omega
      have g : Γ[i]? = some Γ[i] := List.getElem?_eq_getElem hi
      rw [g] at e
      have z : Γ[i] = sl := Option.some.inj e
      have o := n0 i q.1 _ g
      rw [z] at g o
      refine (E.slots i sl g).stay s.sv fun a u ow _ _ _ => ?_
      rw [ow] at o; cases o
    · rw [if_neg q] at e
      have hx := s.ev.slots i sl e
      rw [hn i fun z => q ⟨z, (List.getElem?_eq_some_iff.mp e).1⟩] at hx
      exact hx
  · obtain ⟨f1, g1⟩ := at_ e1 o1
    obtain ⟨f2, g2⟩ := at_ e2 o2
    rw [← g1] at q
    rw [← g2]
    exact s.ev.apart i j sl sl' a ne f1 f2 o1 o2 q
  · have w := (E.wipe vs).fr x F n
    obtain ⟨e1, F1⟩ := s.fr x w.2 n
    refine ⟨e1, F1.hv, F1.h0, fun i sl e o => ?_⟩
    obtain ⟨f1, g1⟩ := at_ e o
    rw [← g1]
    exact F1.sl i sl f1 o
theorem noOwn.back (n0 : noOwn Γ vs) : noOwn (backG Γ Γ' vs) vs := fun v hv s e => by
  rw [backG_get] at e
  by_cases q : v ∈ vs ∧ v < Γ'.length
  · rw [if_pos q] at e
    cases g : Γ[v]? with
    | none => rw [g] at e; cases e; rfl
    | some sl => rw [g] at e; cases e; exact n0 v hv _ g
  · rw [if_neg q] at e
    exact absurd ⟨hv, (List.getElem?_eq_some_iff.mp e).1⟩ q
theorem wipe_same {σ σ2 : L2.St} {vs : List Nat} (hl : σ2.length = σ.length) (hn : ∀ j, j ∉ vs → σ2[j]? = σ[j]?) : L2.wipe σ2 vs = L2.wipe σ vs := by
  apply List.ext_getElem?
  intro i
  rw [wipe_get, wipe_get, hl]
  by_cases q : i ∈ vs ∧ i < σ.length
  · rw [if_pos q, if_pos q]
  · rw [if_neg q, if_neg q]
    by_cases hi : i ∈ vs
    · have : ¬ i < σ.length := fun z => q ⟨hi, z⟩
      rw [List.getElem?_eq_none (by omega), List.getElem?_eq_none (by omega)]
    · exact hn i hi
end
def goLc (gd : TDG) (tt : TDT) (te : TDE) (vs : List Nat) (Q : D → Gm → Prop) : List D → List D → Gm → Prop
  | [], acc, Γ => Q (.lst acc) Γ
  | d :: r, acc, Γ => gd d (wipeG Γ vs) fun Γ2 => tt Γ2 fun b Γ3 => if b = true then te Γ3 fun y Γ4 => acc.length < sizeLine ∧ goLc gd tt te vs Q r (acc ++ [y]) (backG Γ Γ4 vs) else goLc gd tt te vs Q r acc (backG Γ Γ3 vs)
def rdLc (di : TDF) (gd : TDG) (tt : TDT) (te : TDE) (vs : List Nat) : TDE := fun Γ Q => di Γ fun L Γ1 => noOwn Γ1 vs ∧ goLc gd tt te vs Q L [] Γ1
section
variable {W : Wc} {X : Cx}
theorem dts_nil : DTs W X [] tYes (fun Γ Q => Q true Γ) := ⟨pts_nil, fun Γ σ Hv H Q Q' E h k => k true Γ Hv H E.stp h⟩
theorem dts_one {c : Expr} {t : TT} {d : TDT} (h : DT W X c t d) : DTs W X [c] t d := ⟨pts_one h.pt, h.ad⟩
theorem ad_lc {K : PySem.W.Frag} {tg iter : Expr} {wi : TI} {di : TDF} {g : TG} {gd : TDG} {tt : TT} {td : TDT} {te : TE} {de : TDE} {is vs : List Nat}
    (hi : ∀ Γ σ Hv H (Q : List D → Gm → Prop) (R : It → Hp → Prop), Ev K W Γ σ Hv H → di Γ Q → (∀ J L Γ' Hv' H', Stp K W Γ σ Hv H Γ' σ Hv' H' → ItD K W J L Hv' → Q L Γ' → R J H') → wi σ H R)
    (hg : ∀ Γ σ Hv H v d (Q : Gm → Prop) (Q' : L2.St → Hp → Prop), Ev K W Γ σ Hv H → Rp K Hv v d → gd d Γ Q → (∀ Γ' σ' Hv' H', Stp K W Γ σ Hv H Γ' σ' Hv' H' → σ'.length = σ.length → (∀ j, j ∉ is → σ'[j]? = σ[j]?) → Q Γ' → Q' σ' H') → g v σ H Q')
    (ht : AdT K W tt td) (he : Ad K W te de) (hv : ∀ j ∈ is, j ∈ vs) : AdF K W (tLc wi g tt te vs) (rdLc di gd td de vs) := by
  intro Γ σ Hv H Q Q' E h k
  refine hi Γ σ Hv H _ _ E h fun J L Γ1 Hv1 H1 s1 it q => ?_
  obtain ⟨n1, q⟩ := q
  intro A hA
  obtain ⟨s2, F2⟩ := s1.alloc0 (.lst []) hA
  refine ⟨fun i m H' => m = L.length - i ∧ i ≤ L.length ∧ ∃ Γ' Hv' av acc, Stp K W Γ σ Hv H Γ' σ Hv' H' ∧ Sub Hv1 Hv' ∧ noOwn Γ' vs ∧ H' A = some (.lst av) ∧ RpAll K Hv' av acc ∧ Fresh W Γ' σ Hv' A ∧ goLc gd td de vs Q (L.drop i) acc Γ',
    ⟨L.length, by simp, Nat.zero_le _, Γ1, Hv1, [], [], s2, .refl _, n1, upd_same, .nil, F2, q⟩, ?_⟩
  rintro i m H2 ⟨rfl, hi2, Γ2, Hv2, av, acc, s2, sm2, n2, hA2, ra2, F2, q2⟩
  obtain ⟨st, go⟩ := it Γ2 σ Hv2 H2 sm2 s2.ev i
  by_cases hlt : i < L.length
  · have e : L[i]? = some L[i] := List.getElem?_eq_getElem hlt
    obtain ⟨g1, g2⟩ := go _ e
    rw [List.drop_eq_getElem_cons hlt] at q2
    refine .inr ⟨g1, fun H' => ∃ Γ' Hv' av acc, Stp K W Γ σ Hv H Γ' σ Hv' H' ∧ Sub Hv1 Hv' ∧ noOwn Γ' vs ∧ H' A = some (.lst av) ∧ RpAll K Hv' av acc ∧ Fresh W Γ' σ Hv' A ∧ goLc gd td de vs Q (L.drop (i + 1)) acc Γ', fun H' n => ⟨L.length - (i + 1), by omega, rfl, hlt, n⟩, fun x H3 y => ?_⟩
    obtain ⟨Hv3, s3, r3⟩ := g2 x H3 y
    have w3 := s3.ev.wipe vs
    refine hg (wipeG Γ2 vs) (L2.wipe σ vs) Hv3 H3 x _ _ _ w3.ev r3 q2 fun Γ4 σ4 Hv4 H4 s4 l4 n4 q4 => ?_
    have l4' : σ4.length = σ.length := by rw [l4, wipe_length]
    have n4' : ∀ j, j ∉ vs → σ4[j]? = σ[j]? := fun j hj => by
      rw [n4 j fun z => hj (hv j z), wipe_get, if_neg fun z => hj z.1]
    refine ⟨wipe_same l4' n4', ?_⟩
    refine ht Γ4 σ4 Hv4 H4 _ _ s4.ev q4 fun b Γ5 Hv5 H5 s5 q5 => ?_
    have A0 : H A = none := by
      cases z : H A with
      | none => rfl
      | some u => exact absurd (s1.st A (by rw [z]; simp)) (by rw [hA]; simp)
    cases b with
    | false =>
      rw [if_neg Bool.false_ne_true] at q5 ⊢
      have sb := s3.ev.back n2 (s4.trans s5) l4' n4'
      have sAll := s2.trans (s3.trans sb)
      obtain ⟨e5, F5⟩ := (s3.trans sb).fr A F2 (by rw [hA2]; simp)
      exact ⟨_, Hv5, av, acc, sAll, sm2.trans (s3.trans sb).sv, n2.back, e5.trans hA2, RpAll.mono (s3.trans sb).sv _ _ ra2, F5, q5⟩
    | true =>
      rw [if_pos rfl] at q5 ⊢
      refine he Γ5 σ4 Hv5 H5 _ _ s5.ev q5 fun y d Γ6 Hv6 H6 s6 r6 q6 => ?_
      have sb := s3.ev.back n2 (s4.trans (s5.trans s6)) l4' n4'
      have sAll := s2.trans (s3.trans sb)
      obtain ⟨e6, F6⟩ := (s3.trans sb).fr A F2 (by rw [hA2]; simp)
      refine ⟨av, e6.trans hA2, by rw [ra2.length]; exact q6.1, _, Hv6, av ++ [y], acc ++ [d], sAll.turn _ F6 (by rw [e6, hA2]; simp) A0, sm2.trans (s3.trans sb).sv, n2.back, upd_same, (RpAll.mono (s3.trans sb).sv _ _ ra2).append (.cons r6 .nil), F6, q6.2⟩
  · have e : i = L.length := by omega
    subst e
    rw [List.drop_length] at q2
    exact .inl ⟨st (Nat.le_refl _), k A (.lst av) (.lst acc) Γ2 Hv2 H2 s2 (s1.was hA) hA2 ⟨av, rfl, ra2⟩ F2 q2⟩
theorem d_lc {elt tg iter : Expr} {ifs : List Expr} {scope : Scope} {own : List (Str × Nat)} {pos : Pos} {wi : TI} {di : TDF} {g : TG} {gd : TDG} {tt : TT} {td : TDT} {te : TE} {de : TDE} {is : List Nat} (hc : X.calm = true) (hN : X.N.Nodup) (hi : DI W X tg iter wi di) (ok : BlkOk X.N X.env.scope scope own)
    (hg : ∀ (s : Shared) (H : Hp) (C : Addr) (cl : List (Str × Addr)) (fp : List Addr), DG W (X.blk s H scope (compEnvC scope cl C X.env) fp) tg g gd is) (ht : ∀ (s : Shared) (H : Hp) (C : Addr) (cl : List (Str × Addr)) (fp : List Addr), DTs W (X.blk s H scope (compEnvC scope cl C X.env) fp) ifs tt td)
    (he : ∀ (s : Shared) (H : Hp) (C : Addr) (cl : List (Str × Addr)) (fp : List Addr), DE W (X.blk s H scope (compEnvC scope cl C X.env) fp) elt te de) (hv : ∀ j ∈ is, j ∈ own.map (·.2)) (hs : ∀ x, foldedSetIterable iter X.env x = pure x := by intro _; rfl) :
    DF W X (.ListComp elt [⟨tg, iter, ifs, 0⟩] scope pos) (tLc wi g tt te (own.map (·.2))) (rdLc di gd td de (own.map (·.2))) :=
  ⟨pe_lc hc hN hi.pi ok (fun s H C cl fp => (hg s H C cl fp).pg) (fun s H C cl fp => (ht s H C cl fp).pt) (fun s H C cl fp => (he s H C cl fp).pe) hs,
    ad_lc (tg := tg) (iter := iter) hi.ad (hg X.s_0 (fun _ => none) 0 [] []).ad (ht X.s_0 (fun _ => none) 0 [] []).ad (he X.s_0 (fun _ => none) 0 [] []).ad hv⟩
/-- name = [..] on one line -/
theorem ds_setLc {j : Nat} {y : Str} {py : Pos} {elt tg iter : Expr} {ifs : List Expr} {scope : Scope} {own : List (Str × Nat)} {pos spos : Pos} {wi : TI} {di : TDF} {g : TG} {gd : TDG} {tt : TT} {td : TDT} {te : TE} {de : TDE} {is : List Nat} (hc : X.calm = true) (hN : X.N.Nodup) (hy : X.N[j]? = some y) (hyl : X.env.scope.names.lookup y = some .local)
    (hsw : swapsWith (.ListComp elt [⟨tg, iter, ifs, 0⟩] scope pos) (some (.Name y py)) spos.line X.env = pure true) (hi : DI W X tg iter wi di) (ok : BlkOk X.N X.env.scope scope own)
    (hg : ∀ (s : Shared) (H : Hp) (C : Addr) (cl : List (Str × Addr)) (fp : List Addr), DG W (X.blk s H scope (compEnvC scope cl C X.env) fp) tg g gd is) (ht : ∀ (s : Shared) (H : Hp) (C : Addr) (cl : List (Str × Addr)) (fp : List Addr), DTs W (X.blk s H scope (compEnvC scope cl C X.env) fp) ifs tt td)
    (he : ∀ (s : Shared) (H : Hp) (C : Addr) (cl : List (Str × Addr)) (fp : List Addr), DE W (X.blk s H scope (compEnvC scope cl C X.env) fp) elt te de) (hv : ∀ j ∈ is, j ∈ own.map (·.2)) (hs : ∀ x, foldedSetIterable iter X.env x = pure x := by intro _; rfl) :
    DS W X (.Assign [.Name y py] (.ListComp elt [⟨tg, iter, ifs, 0⟩] scope pos) spos) (tAsg (tLc wi g tt te (own.map (·.2))) (gName j)) (rdSetOwn (rdLc di gd td de (own.map (·.2))) j) :=
  ⟨ps_setLc hc hN hy hyl hsw hi.pi ok (fun s H C cl fp => (hg s H C cl fp).pg) (fun s H C cl fp => (ht s H C cl fp).pt) (fun s H C cl fp => (he s H C cl fp).pe) hs, fun Γ σ Hv H E E' Z h l =>
    ad_lc (tg := tg) (iter := iter) hi.ad (hg X.s_0 (fun _ => none) 0 [] []).ad (ht X.s_0 (fun _ => none) 0 [] []).ad (he X.s_0 (fun _ => none) 0 [] []).ad hv Γ σ Hv H _ _ Z h fun p u d Γ1 Hv1 H1 s1 hn hp r1 F q => l.nx _ _ _ _ (s1.keepOwn F hp r1 hn) q⟩

/-! ### a def, by its body's reading -/
def startG (N : List Str) (ds : List D) : Gm := ds.map .dat ++ List.replicate (N.length - ds.length) .no
theorem start_slots {K : PySem.W.Frag} {W : Wc} {Hv H : Hp} {N : List Str} {vs : List V} {ds : List D} (r : RpAll K Hv vs ds) (R : Ret W.J.vol W.J.inv W.Hv0 W.H0 Hv H) : Ev K W (startG N ds) (L2.start N vs) Hv H := by
  have hl := r.length
  have key : ∀ (i : Nat) (sl : Sl), (startG N ds)[i]? = some sl → sl = .no ∨ ∃ d v, sl = .dat d ∧ (L2.start N vs)[i]? = some (some v) ∧ Rp K Hv v d := fun i sl e => by
    unfold startG at e
    by_cases hi : i < ds.length
    · rw [List.getElem?_append_left (by rw [List.length_map]; exact hi), List.getElem?_map, List.getElem?_eq_getElem hi] at e
      obtain ⟨v, ev, rv⟩ := r.get (List.getElem?_eq_getElem hi)
      refine .inr ⟨_, v, (Option.some.inj e).symm, ?_, rv⟩
      unfold L2.start
      rw [List.getElem?_append_left (by rw [List.length_map]; omega), List.getElem?_map, ev]
      rfl
    · rw [List.getElem?_append_right (by rw [List.length_map]; omega)] at e
      obtain ⟨_, e2⟩ := List.getElem?_eq_some_iff.mp e
      rw [List.getElem_replicate] at e2
      exact .inl e2.symm
  refine ⟨R, ?_, fun i sl e => ?_, fun i j sl sl' a ne e1 e2 o1 o2 q => ?_⟩
  · unfold L2.start startG
    rw [List.length_append, List.length_append, List.length_map, List.length_map, List.length_replicate, List.length_replicate, hl]
  · rcases key i sl e with rfl | ⟨d, v, rfl, ev, rv⟩
    · trivial
    · rw [ev]; exact ⟨v, rfl, rv⟩
  · rcases key i sl e1 with rfl | ⟨d, v, rfl, _⟩ <;> cases o1
variable {P : Program} {w : World} {K : PySem.W.Frag} {mg : Str → Option Value} {base : Heap}
/-- THE RULE for a def -/
theorem fn_d {x qual : Str} {st : Stmt} {f : Addr} {fd : FuncData} {N ps : List Str} {k : Nat} (J : Vol) {Fd : FD} (F : Fun K x qual st f fd) (S : FnScope N ps (defScope st)) (len : ∀ ds Q, Fd ds Q → ds.length = ps.length)
    (hbody : ∀ (cdv : Value) (A : Around) (outer : List Env) (s : Shared) (H : Hp) (E : XK) (W : Wc), W.J = J → Room k (A.deeper (envOfC qual (defScope st) s.heap.objs.size f cdv)) →
      ∃ t td, DSs W (cxOf CX0 P w K mg base N qual (defScope st) f cdv A outer s H E).nox (defBody st) t td ∧ ∀ ds Q, Fd ds Q → td { nx := fun _ => Q .non, rt := Q } (startG N ds)) :
    FnOk P w K mg base CX0 (k + 1) f fd ps (spD J K Fd) := by
  refine F.ok S (fun vs H Q E h => ?_) (fun cdv A outer s H vs Q E hr h => ?_)
  · obtain ⟨Hv, ds, Qd, _, _, _, r, hf, _⟩ := h
    rw [r.length, len _ _ hf]
  · obtain ⟨Hv, ds, Qd, sub, inv, nv, r, hf, out⟩ := h
    let W : Wc := ⟨J, H, Hv, inv, sub, nv⟩
    obtain ⟨t, td, hb, hq⟩ := hbody cdv A outer s H E W rfl hr
    refine ⟨t, hb.ps, ?_⟩
    have Z : Ev K W (startG N ds) (L2.start N vs) Hv H := start_slots r ⟨.refl _, sub, fun _ _ e _ _ => e, inv, nv, fun _ z _ => z⟩
    refine hb.ad _ _ Hv H _ _ Z (hq ds Qd hf) ⟨fun Γ' σ' Hv' H' s q => ?_, fun v d Γ' σ' Hv' H' s rv q => ?_, fun _ _ _ _ _ q => q.elim, fun _ _ _ _ _ q => q.elim⟩
    · exact out .non .non Hv' H' s.ev.ret .non q
    · exact out v d Hv' H' s.ev.ret rv q
end
end VL

set_option Elab.async false
set_option linter.all false
set_option maxRecDepth 100000
set_option maxHeartbeats 4000000
/-! VLG: defs that are run where no repr is under way (the guards are known to be empty): their promise, call, body, and the law's end. -/
namespace VL
open PySem PySem.Spec L2
open PyProof.Rows hiding St

/-- a def's promise where no guard is up -/
structure FnG (P : Program) (w : World) (K : PySem.W.Frag) (mg : Str → Option Value) (base : Heap) (CX : CXT) (k : Nat) (f : Addr) (fd : FuncData)
    (ps : List Str) (sp : Sp) : Prop where
  len : ∀ vs H Q E, sp vs H Q E → vs.length = ps.length
  go : ∀ (A : Around) (outer : List Env) (s : Shared) (H : Hp) (args : Args) (us : List Value) (vs : List V) (Q : VK) (E : XK), A.guards = some [] →
    Room k A → Env0 P w K mg base A outer s H → BindsTo s fd args (ps.zip us) → Vals vs us →
    sp vs H Q E → codeAny (model P w) A (.call (.ref f) args) (CR CX outer P w H s Q E) s
theorem FnG.of {P : Program} {w : World} {K : PySem.W.Frag} {mg : Str → Option Value} {base : Heap} {CX : CXT} {k : Nat} {f : Addr} {fd : FuncData} {ps : List Str} {sp : Sp}
    (F : FnOk P w K mg base CX k f fd ps sp) : FnG P w K mg base CX k f fd ps sp :=
  ⟨F.len, fun A o s H a us vs Q E _ => F.run A o s H a us vs Q E⟩

section
variable {X : Cx} {CX : CXT} {k : Nat} {f : Addr} {fd : FuncData} {ps ks : List Str} {sp : Sp} {dvs : List V} {ds : List Value} {E : XK} {x : Str} {p pos : Pos} {e : Expr} {es : List Expr} {ta : TE} {t : TA}
/-- what comes of a callee -/
theorem call_back {pins : List (Addr × Obj)} {σ : L2.St} {H : Hp} {s s' : Shared} {Q : VK} {r : Result} (hx : Passes CX X E)
    (I : Inv X pins σ H s) (h : CR CX X.stack X.prog X.w H s Q E r s') :
    match r with
    | .ok (.ret u) => EP X pins σ Q u s'
    | .ok _ => False
    | .error e => X.xe e s' := by
  cases r with
  | ok fl =>
    cases fl with
    | ret u => exact I.after h
    | next => exact h
    | brk => exact h
    | cont => exact h
  | error e => exact hx pins σ H s e s' I h
theorem run_g {pins : List (Addr × Obj)} {σ : L2.St} {H : Hp} {s : Shared} {Q : VK} {us : List Value} {vs : List V} (F : FnG X.prog X.w X.K X.mg X.base CX k f fd ps sp) (hgd : X.A.guards = some [])
    (hr : Room k X.A) (hb : Binds X.K fd ps ds) (hd : Vals dvs ds) (hx : Passes CX X E) (I : Inv X pins σ H s) (r : Vals vs us)
    (h : sp (vs ++ dvs) H Q E) :
    wpAny (model X.prog X.w) X.A (call (.ref f) us) (EP X pins σ Q) X.xe s := by
  have ra : Vals (vs ++ dvs) (us ++ ds) := r.append hd
  have la := (ra.length).symm.trans (F.len _ _ _ _ h)
  have go := F.go X.A X.stack s H ⟨us, []⟩ (us ++ ds) (vs ++ dvs) Q E hgd hr I.env0 (hb s us I.kIn la) ra h
  refine wpAny_call (codeAny_mono go fun res s' q => ?_)
  have cb := call_back hx I q
  cases res with
  | ok fl => cases fl <;> first | exact cb | exact cb.elim
  | error e => exact cb
/-- f(e, ..) -/
theorem pe_callG (F : FnG X.prog X.w X.K X.mg X.base CX k f fd ps sp) (hgd : X.A.guards = some []) (hr : Room k X.A) (hg : Gl X x) (hm : X.mg x = some (.ref f))
    (hk : PySem.W.keepIn X.K (.ref f) = true) (hb : Binds X.K fd ps ds) (hd : Vals dvs ds) (hx : Passes CX X E) (ha : PA X (e :: es) t) (hdb : (x == ("__debug__" : Str)) = false := by decide)
    (he : starEach (e :: es) X.env = (false, eval e X.env) :: starEach es X.env := by rfl) (hpl : (backTo pos (starEach es X.env)).any (·.1) = false := by rfl) :
    PE X (.Call (.Name x p) (e :: es) [] pos) (tCall sp dvs E t) := by
  constructor
  intro pins s σ H Q I h
  refine wpAny_Call_Name_kw (ld_glob I hg hm (PySem.W.callWith_K (h₀ := X.base) I.ok.mod.kin hk ?_ he hpl) hdb)
  refine thn (ha.run pos pins s σ H _ I h) ?_
  rintro us s1 ⟨vs, H1, I1, r, q⟩
  exact ⟨I1.kIn, run_g F hgd hr hb hd hx I1 r q⟩
/-- f() -/
theorem pe_callG0 (F : FnG X.prog X.w X.K X.mg X.base CX k f fd ps sp) (hgd : X.A.guards = some []) (hr : Room k X.A) (hg : Gl X x) (hm : X.mg x = some (.ref f))
    (hk : PySem.W.keepIn X.K (.ref f) = true) (hb : Binds X.K fd ps ds) (hd : Vals dvs ds) (hx : Passes CX X E) (hdb : (x == ("__debug__" : Str)) = false := by decide) :
    PE X (.Call (.Name x p) [] [] pos) (tCall sp dvs E tNil) := by
  constructor
  intro pins s σ H Q I h
  exact wpAny_Call_Name_kw (ld_glob I hg hm (PySem.W.callWith_K0 I.kIn hk (run_g (us := []) F hgd hr hb hd hx I .nil h)) hdb)
/-- f(k = v, ..), keywords alone (a def without guards) -/
def tCallKw (n : Nat) (sp : Sp) (gV : List V → List V → List V) (E : XK) (tk : TA) : TE := fun σ H Q => tk σ H fun zs H2 => zs.length = n ∧ sp (gV [] zs) H2 Q E
theorem pe_callKw {g : List Value → List Value → List Value} {gV : List V → List V → List V} {kws : List Keyword} {tk : TA} (F : FnOk X.prog X.w X.K X.mg X.base CX k f fd ps sp) (hr : Room k X.A) (hg : Gl X x) (hm : X.mg x = some (.ref f))
    (hk : PySem.W.keepIn X.K (.ref f) = true) (hb : KBn X.K fd ps 0 ks g gV) (hx : Passes CX X E) (hkw : PK X kws tk) (hall : (backToKw pos (keywordEach kws X.env)).all (·.1.isSome) = true := by rfl)
    (hks : (backToKw pos (keywordEach kws X.env)).filterMap (·.1) = ks := by rfl) (hdb : (x == ("__debug__" : Str)) = false := by decide)
    (hpl : ((backTo pos (starEach [] X.env)).any (·.1) || (backToKw pos (keywordEach kws X.env)).any (·.1.isNone)) = false := by rfl) :
    PE X (.Call (.Name x p) [] kws pos) (tCallKw ks.length sp gV E tk) := by
  constructor
  intro pins s σ H Q I h
  refine wpAny_Call_Name_kw (ld_glob I hg hm (PySem.W.callWith_KW0 (h₀ := X.base) I.ok.mod.kin hk hall ?_ hpl) hdb)
  refine thn (hkw.run pos pins s σ H _ I h) ?_
  rintro ws s2 ⟨zs, H2, I2, rz, l2, q2⟩
  refine ⟨I2.kIn, ?_⟩
  rw [hks]
  exact run_fnN F hr hb hx I2 (us := []) (vs := []) .nil rz rfl l2 q2
end

/-- the rule for a def, where no guard is up -/
theorem fn_ofG {CX : CXT} {P : Program} {w : World} {K : PySem.W.Frag} {mg : Str → Option Value} {base : Heap} {k : Nat} {f : Addr} {name qual : Str} {params : Arguments} {body : List Stmt} {scope : Scope}
    {dV kV doc pm cdv ct oc : Value} {an od : Option Addr} {osl : Array (Option Value)} {N ps : List Str} {sp : Sp}
    (lk : K.lookup f = some ⟨oc, od, .func (PySem.W.fnOf name qual params body scope dV kV doc pm an cdv ct), osl⟩)
    (hcd : PySem.W.codeIn K cdv qual = true) (S : FnScope N ps scope) (len : ∀ vs H Q E, sp vs H Q E → vs.length = ps.length)
    (hbody : ∀ (A : Around) (outer : List Env) (s : Shared) (H : Hp) (vs : List V) (Q : VK) (E : XK), A.guards = some [] →
      Room k (A.deeper (envOfC qual scope s.heap.objs.size f cdv)) → sp vs H Q E →
      ∃ t, PSs (cxOf CX P w K mg base N qual scope f cdv A outer s H E) body t ∧ t { nx := fun _ H' => Q .non H', rt := Q } (L2.start N vs) H) :
    FnG P w K mg base CX (k + 1) f (PySem.W.fnOf name qual params body scope dV kV doc pm an cdv ct) ps sp := by
  refine ⟨len, ?_⟩
  intro A outer s H args us vs Q E hgd hr e0 hb r hsp
  have ln := len _ _ _ _ hsp
  have kin : K.In s.heap := e0.mod.kin.keeps (fun b o e => (e0.bs b o e).1)
  have nol : s.heap.NoLimit := e0.mod.nolimit.keeps (fun b o e => (e0.bs b o e).1)
  obtain ⟨t, ht, hq⟩ := hbody A outer s H vs Q E hgd (hr.deeper _) hsp
  refine codeAny_call_function hr.depth (kin _ _ lk) rfl S.co S.gen rfl (PySem.W.codeRec_of kin hcd) (hb _ _ _ _ ?_)
  refine wpAny_newFunctionEnv_cells S.kind ?_ ?_
  · rintro ⟨n, v⟩ hy
    rcases S.par n (List.of_mem_zip hy).1 with q | q
    · exact .inl q
    · exact .inr ⟨q, PySem.W.cellsFrom_some _ _ _ (.inl q)⟩
  · intro env he s1 x
    subst he
    refine ⟨nol.keeps x.toInCall.keep, codeAny_func ?_⟩
    have I : Inv (cxOf CX P w K mg base N qual scope f cdv A outer s H E) [] (L2.start N vs) H s1 := inv_start S hr.hd e0 ln r x
    refine wpAny_mono (ht.run [] s1 (L2.start N vs) H _ I hq) ?_ (fun e s' hs => hs)
    intro fl s' hs
    cases fl with
    | next =>
      obtain ⟨_, H', J, q⟩ := hs
      exact ⟨V.non, H', J.os, J.bare, J.base, J.hok, rfl, q⟩
    | ret u =>
      obtain ⟨v, _, H', J, rv, q⟩ := hs
      exact ⟨v, H', J.os, J.bare, J.base, J.hok, rv, q⟩
    | brk =>
      obtain ⟨_, _, _, q⟩ := hs
      exact q.elim
    | cont =>
      obtain ⟨_, _, _, q⟩ := hs
      exact q.elim

section
variable {W : Wc} {X : Cx} {e : Expr} {es : List Expr} {t : TA} {dt : TDF} {p pos : Pos} {x : Str} {CX : CXT} {k : Nat} {f : Addr} {fd : FuncData} {ps : List Str} {F : FD} {dvs : List V} {dds : List D} {ds : List Value} {E : XK}
theorem d_callG {J : Vol} (G : FnG X.prog X.w X.K X.mg X.base CX k f fd ps (spD J X.K F)) (hJ : J = W.J) (hgd : X.A.guards = some []) (hr : Room k X.A) (hg : Gl X x) (hm : X.mg x = some (.ref f)) (hk : PySem.W.keepIn X.K (.ref f) = true)
    (hb : Binds X.K fd ps ds) (hd : Vals dvs ds) (hdd : ∀ H, RpAll X.K H dvs dds) (hx : Passes CX X E) (ha : DA W X (e :: es) t dt) (hdb : (x == ("__debug__" : Str)) = false := by decide)
    (he : starEach (e :: es) X.env = (false, eval e X.env) :: starEach es X.env := by rfl) (hpl : (backTo pos (starEach es X.env)).any (·.1) = false := by rfl) :
    DE W X (.Call (.Name x p) (e :: es) [] pos) (tCall (spD J X.K F) dvs E t) (rdCall F dds dt) := by
  subst hJ
  exact ⟨pe_callG G hgd hr hg hm hk hb hd hx ha.pa hdb he hpl, ad_call hdd ha.ad⟩
theorem d_callGP (G : FnG X.prog X.w X.K X.mg X.base CX k f fd ps (spD Vol.no X.K F)) (hgd : X.A.guards = some []) (hr : Room k X.A) (hg : Gl X x) (hm : X.mg x = some (.ref f)) (hk : PySem.W.keepIn X.K (.ref f) = true)
    (hb : Binds X.K fd ps ds) (hd : Vals dvs ds) (hdd : ∀ H, RpAll X.K H dvs dds) (hx : Passes CX X E) (ha : DA W X (e :: es) t dt) (hdb : (x == ("__debug__" : Str)) = false := by decide)
    (he : starEach (e :: es) X.env = (false, eval e X.env) :: starEach es X.env := by rfl) (hpl : (backTo pos (starEach es X.env)).any (·.1) = false := by rfl) :
    DE W X (.Call (.Name x p) (e :: es) [] pos) (tCall (spD Vol.no X.K F) dvs E t) (rdCall F dds dt) :=
  ⟨pe_callG G hgd hr hg hm hk hb hd hx ha.pa hdb he hpl, ad_callP hdd ha.ad⟩
/-- keywords -/
structure DK (W : Wc) (X : Cx) (kws : List Keyword) (ta : TA) (td : TDF) : Prop where
  pk : PK X kws ta
  ad : AdA X.K W ta td
theorem dk_nil : DK W X [] tNil rdNil := ⟨pk_nil, fun Γ σ Hv H Q Q' E h k => k [] [] Γ Hv H E.stp .nil h⟩
theorem dk_cons {kws : List Keyword} {te : TE} {de : TDE} {nm : Option Str} {kpos : Pos} (ha : DE W X e te de) (hr : DK W X kws t dt) : DK W X (⟨nm, e, kpos⟩ :: kws) (tCons te t) (rdCons de dt) := by
  refine ⟨pk_cons ha.pe hr.pk, fun Γ σ Hv H Q Q' E h k => ?_⟩
  refine ha.ad Γ σ Hv H _ _ E h fun x d Γ1 Hv1 H1 s1 r1 q => ?_
  exact hr.ad Γ1 σ Hv1 H1 _ _ s1.ev q fun vs ds Γ2 Hv2 H2 s2 r2 q2 => k _ _ Γ2 Hv2 H2 (s1.trans s2) (.cons (Rp.mono s2.sv _ _ r1) r2) q2
def rdCallKw (n : Nat) (F : FD) (dt : TDF) : TDE := fun Γ Q => dt Γ fun ds Γ1 => ds.length = n ∧ F ds fun d => Q d Γ1
/-- f(k = v, ..), f pure, the keywords in the parameters' order -/
theorem d_callKwP {ks : List Str} {g : List Value → List Value → List Value} {kws : List Keyword} (G : FnOk X.prog X.w X.K X.mg X.base CX k f fd ps (spD Vol.no X.K F)) (hr : Room k X.A) (hg : Gl X x) (hm : X.mg x = some (.ref f))
    (hk : PySem.W.keepIn X.K (.ref f) = true) (hb : KBn X.K fd ps 0 ks g (fun _ zs => zs)) (hx : Passes CX X E) (hkw : DK W X kws t dt) (hall : (backToKw pos (keywordEach kws X.env)).all (·.1.isSome) = true := by rfl)
    (hks : (backToKw pos (keywordEach kws X.env)).filterMap (·.1) = ks := by rfl) (hdb : (x == ("__debug__" : Str)) = false := by decide)
    (hpl : ((backTo pos (starEach [] X.env)).any (·.1) || (backToKw pos (keywordEach kws X.env)).any (·.1.isNone)) = false := by rfl) :
    DE W X (.Call (.Name x p) [] kws pos) (tCallKw ks.length (spD Vol.no X.K F) (fun _ zs => zs) E t) (rdCallKw ks.length F dt) := by
  refine ⟨pe_callKw G hr hg hm hk hb hx hkw.pk hall hks hdb hpl, fun Γ σ Hv H Q Q' Z h k => ?_⟩
  refine hkw.ad Γ σ Hv H _ _ Z h fun vs ds Γ1 Hv1 H1 s1 r1 q => ⟨by rw [r1.length]; exact q.1, ?_⟩
  exact ⟨Hv1, ds, _, s1.ev.ret.sub, True.intro, fun _ z => z.elim, r1, q.2, fun v d Hv2 H2 R r2 q2 => k v d Γ1 Hv2 H2 (s1.after (s1.ev.pure R)) r2 q2⟩
variable {P : Program} {w : World} {K : PySem.W.Frag} {mg : Str → Option Value} {base : Heap}
theorem fn_dG {x qual : Str} {st : Stmt} {f : Addr} {fd : FuncData} {N ps : List Str} {k : Nat} (J : Vol) {Fd : FD} (F : Fun K x qual st f fd) (S : FnScope N ps (defScope st)) (len : ∀ ds Q, Fd ds Q → ds.length = ps.length)
    (hbody : ∀ (cdv : Value) (A : Around) (outer : List Env) (s : Shared) (H : Hp) (E : XK) (W : Wc), W.J = J → A.guards = some [] → Room k (A.deeper (envOfC qual (defScope st) s.heap.objs.size f cdv)) →
      ∃ t td, DSs W (cxOf CX0 P w K mg base N qual (defScope st) f cdv A outer s H E).nox (defBody st) t td ∧ ∀ ds Q, Fd ds Q → td { nx := fun _ => Q .non, rt := Q } (startG N ds)) :
    FnG P w K mg base CX0 (k + 1) f fd ps (spD J K Fd) := by
  obtain ⟨oc, od, kV, doc, pm, an, cdv, ct, osl, rfl, lk, hcd⟩ := F.ex
  refine fn_ofG lk hcd S (fun vs H Q E h => ?_) fun A outer s H vs Q E hgd hr h => ?_
  · obtain ⟨Hv, ds, Qd, _, _, _, r, hf, _⟩ := h
    rw [r.length, len _ _ hf]
  · obtain ⟨Hv, ds, Qd, sub, inv, nv, r, hf, out⟩ := h
    let W : Wc := ⟨J, H, Hv, inv, sub, nv⟩
    obtain ⟨t, td, hb, hq⟩ := hbody cdv A outer s H E W rfl hgd hr
    refine ⟨t, hb.ps.nox, ?_⟩
    have Z : Ev K W (startG N ds) (L2.start N vs) Hv H := start_slots r ⟨.refl _, sub, fun _ _ e _ _ => e, inv, nv, fun _ z _ => z⟩
    refine hb.ad _ _ Hv H _ _ Z (hq ds Qd hf) ⟨fun Γ' σ' Hv' H' s q => ?_, fun v d Γ' σ' Hv' H' s rv q => ?_, fun _ _ _ _ _ q => q.elim, fun _ _ _ _ _ q => q.elim⟩
    · exact out .non .non Hv' H' s.ev.ret .non q
    · exact out v d Hv' H' s.ev.ret rv q
end

/-! ### the law's end -/
theorem law_goes {P : Program} {w : World} {K : PySem.W.Frag} {mg mb : Str → Option Value} {k : Nat} {fa a : Addr} {fd : FuncData} {x : Str} {sp : Sp} {s₁ : Shared} {vs : List Value} {ns : List Int}
    (kin : K.In s₁.heap) (hns : s₁.heap.Ns mainGlobals mg) (hb : s₁.heap.Ns builtinsNs mb) (hbb : ∀ x : Str, x ≠ "__name__" → mb x = bootBuiltins x)
    (hlim : s₁.heap.NoLimit) (hg : s₁.gens = #[]) (ha : s₁.heap.get? a = some { cls := .type "list", data := .seq vs.toArray }) (hi : IntsAre vs ns)
    (hl : ns.length ≤ sizeLine) (hr : Room k callerA)
    (F : ∀ base : Heap, K.In base → base.Ns mainGlobals mg → FnG P w K mg base CX0 k fa fd [x] sp)
    (hbind : ∀ (s : Shared) (u : Value), BindsTo s fd ⟨[u], []⟩ [(x, u)])
    (hsp : ∀ H : Hp, Only H → SqL K H a (ns.map V.int) → sp [.ref a] H (fun v _ => v = .bl true) fun _ _ _ => False) :
    codeAny (model P w) callerA (.call (.ref fa) ⟨[.ref a], []⟩)
      (fun r s' => r = .ok (.ret (.bool true)) ∧ OldK s₁.heap s'.heap ∧ s'.os = s₁.os ∧ AllBare s'.gens) s₁ := by
  have rv : Vals (ns.map V.int) vs := vals_ints hi
  have lv := hi.length
  -- over an abstract heap that tracks at most the script
  have main : ∀ H : Hp, Only H → SqL K H a (ns.map V.int) → HOk P w H s₁.heap → (∀ b u, H b = some u → b = a ∧ K.lookup a = none) →
      codeAny (model P w) callerA (.call (.ref fa) ⟨[.ref a], []⟩)
        (fun r s' => r = .ok (.ret (.bool true)) ∧ OldK s₁.heap s'.heap ∧ s'.os = s₁.os ∧ AllBare s'.gens) s₁ := by
    intro H only sq hok just
    have free : ∀ {b : Addr}, (b ≠ a ∨ K.lookup a ≠ none) → H b = none := by
      intro b hn
      cases q : H b with
      | none => rfl
      | some u =>
        obtain ⟨e1, e2⟩ := just b u q
        rcases hn with n | n
        · exact absurd e1 n
        · exact absurd e2 n
    have nsOf : ∀ {b : Addr} {m : Str → Option Value}, s₁.heap.Ns b m → (hidT s₁.heap H).Ns b m := by
      rintro b m ⟨o, es, ep, e, d, rest⟩
      refine ⟨o, es, ep, hidT_get e (free (.inl ?_)), d, rest⟩
      rintro rfl
      rw [ha] at e
      cases e
      cases (show Data.seq vs.toArray _ = Data.dict es ep from d)
    have kinB : K.In (hidT s₁.heap H) := by
      intro b o e
      refine hidT_get (kin b o e) ?_
      by_cases hab : b = a
      · subst hab
        exact free (.inr (by rw [e]; simp))
      · exact free (.inl hab)
    obtain ⟨mc, hc1, hc2⟩ := hlim
    have M : Mod K mg (hidT s₁.heap H) := ⟨kinB, nsOf hns, ⟨mb, nsOf hb, hbb⟩, ⟨mc, nsOf hc1, hc2⟩⟩
    have Z : Env0 P w K mg (hidT s₁.heap H) callerA [] s₁ H :=
      ⟨rfl, M, fun b o e => of_hidT e, Nat.le_of_eq (hidT_size _ _), trivial, fun b hb => (List.not_mem_nil hb).elim, hok, .of_eq hg⟩
    have run := (F _ kinB (nsOf hns)).go callerA [] s₁ H ⟨[.ref a], []⟩ [.ref a] [.ref a] _ _ rfl hr Z (hbind s₁ (.ref a)) (.cons rfl .nil) (hsp H only sq)
    refine codeAny_mono run ?_
    intro r s' q
    match r, q with
    | .error e, q => exact q.elim
    | .ok .next, q => exact q.elim
    | .ok .brk, q => exact q.elim
    | .ok .cont, q => exact q.elim
    | .ok (.ret u), q =>
      obtain ⟨v, H', os, bare, un, hok', ru, ev⟩ := q
      obtain rfl : v = .bl true := ev
      obtain rfl : u = Value.bool true := ru
      refine ⟨rfl, OldK.of_keep ?_, os, bare⟩
      intro b o e
      rcases only b with z | ⟨ob, xs, z⟩
      · exact un.keep b o e z (fun m => (List.not_mem_nil m).elim) List.not_mem_nil
      · obtain ⟨e1, _⟩ := hok b _ z
        obtain ⟨e2, _⟩ := hok' b _ (un.frzs b ob _ z)
        rw [e] at e1
        cases e1
        exact e2
  by_cases hk : ∃ o, K.lookup a = some o
  · obtain ⟨o, hk⟩ := hk
    have e := kin a o hk
    rw [ha] at e
    cases e
    refine main (fun _ => none) (fun _ => .inl rfl) (.inr ⟨_, vs.toArray, _, hk, rfl, rfl, rfl, ?_, ?_⟩) ?_ ?_
    · rw [List.size_toArray, lv]; exact hl
    · simpa using rv
    · intro b u z; cases z
    · intro b u z; cases z
  · have hk' : K.lookup a = none := by
      cases q : K.lookup a with
      | none => rfl
      | some o => exact absurd ⟨o, q⟩ hk
    let S : HO := .frz { cls := .type "list", data := .seq vs.toArray } (.lst (ns.map V.int))
    refine main (fun b => if b = a then some S else none) ?_ (.inl (.inr ⟨{ cls := .type "list", data := .seq vs.toArray }, if_pos rfl⟩)) ?_ ?_
    · intro b
      by_cases hb : b = a
      · exact .inr ⟨_, _, if_pos hb⟩
      · exact .inl (if_neg hb)
    · intro b u z
      have z : (if b = a then some S else none) = some u := z
      by_cases hb : b = a
      · subst hb
        rw [if_pos rfl] at z
        cases z
        exact ⟨ha, by rw [List.length_map]; exact hl, vs, _, rv, ha⟩
      · rw [if_neg hb] at z
        cases z
    · intro b u z
      have z : (if b = a then some S else none) = some u := z
      by_cases hb : b = a
      · exact ⟨hb, hk'⟩
      · rw [if_neg hb] at z
        cases z
theorem walk_g {l : PySem.W.OpenLaw} {n k : Nat} {q : Program} {loose : List Str} {XP : (Str → Option Value) → Heap → Prop} {YP : World → Heap → Prop} {d : DefRec} {K : Params → PySem.W.Frag} {sp : World → Sp} {x : Str}
    (hn : l.most = some n) (hn2 : n ≤ sizeLine) (hdf : d.params.defaults = []) (hr : Room k callerA) (hY : ∀ (w : World) (h : Heap), YP w h → (K w.params).In h)
    (F : ∀ (w : World) (mg : Str → Option Value) (fa : Addr) (h : Heap), (K w.params).In h → h.Ns mainGlobals mg → mg d.name = some (.ref fa) →
      ∃ fd : FuncData, (∀ (s : Shared) (u : Value), BindsTo s fd ⟨[u], []⟩ [(x, u)]) ∧
        ∀ base : Heap, (K w.params).In base → base.Ns mainGlobals mg → FnG l.prog w (K w.params) mg base CX0 k fa fd [x] (sp w))
    (hsp : ∀ (w : World) (H : Hp) (a : Addr) (ns : List Int), ns.length ≤ n → Only H → SqL (K w.params) H a (ns.map V.int) →
      sp w [.ref a] H (fun v _ => v = .bl true) fun _ _ _ => False) :
    PySem.W.WalkO q loose XP YP l.row.toRowW d [] (fun f vs => PySem.call f vs) := by
  refine Att.attach_call hn hdf ?_
  intro w s₀ s₁ mg mb fa o pm cd doc a vs ns G Y ho hd hcd hmg hobj hints hlen hg
  obtain ⟨fd, hb, hF⟩ := F w mg fa _ (hY w _ Y) G.T.g hmg
  exact law_goes (hY w _ Y) G.T.g G.T.b G.T.builtins G.T.nolimit hg hobj hints (Nat.le_trans hlen hn2) hr hF hb (fun H hO hS => hsp w H a ns hlen hO hS)
end VL

set_option Elab.async false
set_option linter.all false
set_option maxRecDepth 100000
set_option maxHeartbeats 4000000
/-! VL4: operations by data. -/
namespace VL
open PySem PySem.Spec L2
open PyProof.Rows hiding St

/-! ### data as the library's -/
def kD : Key → PyData
  | .inl i => .int i
  | .inr x => .str x
mutual
def py : D → PyData
  | .non => .none
  | .bl b => .bool b
  | .int i => .int i
  | .str x => .str x
  | .tup ds => .tuple (pyAll ds)
  | .lst ds => .list (pyAll ds)
  | .dic ks ds => .dict ((ks.map kD).zip (pyAll ds))
  | _ => .none
def pyAll : List D → List PyData
  | [] => []
  | d :: ds => py d :: pyAll ds
end
mutual
/-- plain: none, bools, ints, texts, lists and tuples of such -/
def pl : D → Bool
  | .non => true
  | .bl _ => true
  | .int _ => true
  | .str _ => true
  | .tup ds => plAll ds
  | .lst ds => plAll ds
  | _ => false
def plAll : List D → Bool
  | [] => true
  | d :: ds => pl d && plAll ds
end
mutual
/-- the same with dicts -/
def pq : D → Bool
  | .non => true
  | .bl _ => true
  | .int _ => true
  | .str _ => true
  | .tup ds => pqAll ds
  | .lst ds => pqAll ds
  | .dic _ ds => pqAll ds
  | _ => false
def pqAll : List D → Bool
  | [] => true
  | d :: ds => pq d && pqAll ds
end
section
variable {K : PySem.W.Frag} {H : Hp}
mutual
theorem Rp.dp : ∀ (d : D) (v : V), Rp K H v d → pl d = true → Dp K H v (py d)
  | .non, _, .non, _ => by unfold py; exact .non
  | .bl _, _, .bl b, _ => by unfold py; exact .bl b
  | .int _, _, .int b, _ => by unfold py; exact .int b
  | .str _, _, .str b, _ => by unfold py; exact .str b
  | .tup ds, _, .tup h hs, q => by unfold py; exact .tup h (RpAll.dp ds _ hs (by unfold pl at q; exact q))
  | .lst ds, _, .lst h hs, q => by unfold py; exact .lst (.of h) (RpAll.dp ds _ hs (by unfold pl at q; exact q))
  | .dic _ _, _, _, q => by unfold pl at q; cases q
  | .obj _ _ _, _, _, q => by unfold pl at q; cases q
  | .fz _, _, _, q => by unfold pl at q; cases q
  | .ty _, _, _, q => by unfold pl at q; cases q
  | .ref _, _, _, q => by unfold pl at q; cases q
theorem RpAll.dp : ∀ (ds : List D) (vs : List V), RpAll K H vs ds → plAll ds = true → DpAll K H vs (pyAll ds)
  | [], _, .nil, _ => by unfold pyAll; exact .nil
  | d :: ds, _, .cons h hs, q => by
    unfold plAll at q
    rw [Bool.and_eq_true] at q
    unfold pyAll
    exact .cons (Rp.dp d _ h q.1) (RpAll.dp ds _ hs q.2)
end
end
theorem Inv.noSys {X : Cx} {pins : List (Addr × Obj)} {σ : L2.St} {H : Hp} {s : Shared} {a : Addr} {xs : List V} (I : Inv X pins σ H s) (h : H a = some (.lst xs)) (hs : ∃ o es ep, s.heap.get? sysModules = some o ∧ o.data = .dict es ep) : sysModules ≠ a := by
  rintro rfl
  obtain ⟨o, es, ep, e, d⟩ := hs
  obtain ⟨_, its, n, _, e2⟩ := I.hok _ _ h
  rw [e] at e2
  cases e2
  have : Data.dict es ep = Data.seq its.toArray n := d.symm
  cases this

/-- two data alike for == -/
def eqD (x y : D) : Bool := PyData.eqv (py x) (py y)
/-- data that == may look at -/
def okE (d : D) : Prop := pl d = true ∧ SeqAt.shaped (py d) = true

/-! ### ==, !=, in, not in -/
section
variable {W : Wc} {X : Cx}
def rdEq : RD2 := fun x y Q => match x, y with
  | .str a, .str b => Q (.bl (decide (a = b)))
  | .int a, .int b => Q (.bl (decide (a = b)))
  | x, y => okE x ∧ okE y ∧ Q (.bl (eqD x y))
def rdNe : RD2 := fun x y Q => match x, y with
  | .str a, .str b => Q (.bl (!decide (a = b)))
  | .int a, .int b => Q (.bl (!decide (a = b)))
  | x, y => okE x ∧ okE y ∧ Q (.bl (!eqD x y))
def rEqA (K : PySem.W.Frag) : R2 := fun x y H Q => rEq x y H Q ∨ rEqD K x y H Q
def rNeA (K : PySem.W.Frag) : R2 := fun x y H Q => rNe x y H Q ∨ rNeD K x y H Q
theorem op_eqA (hu : X.A.units + 64 < cLine) : OpR X (compareOp .Eq) (rEqA X.K) := op_eq.or (op_eqD hu)
theorem op_neA (hu : X.A.units + 64 < cLine) : OpR X (compareOp .NotEq) (rNeA X.K) := op_ne.or (op_neD hu)
theorem od_eq {K : PySem.W.Frag} : OpD K W (rEqA K) rdEq := by
  intro Γ σ Hv H x y dx dy Q Q' E rx ry h k
  have gen : okE dx ∧ okE dy ∧ Q (.bl (eqD dx dy)) → rEqA K x y H Q' := fun ⟨o1, o2, q⟩ =>
    .inr ⟨_, _, Rp.dp _ _ (Rp.monoS E.ret.sub _ _ rx) o1.1, Rp.dp _ _ (Rp.monoS E.ret.sub _ _ ry) o2.1, o1.2, o2.2, k _ _ Hv H E.stp (.bl _) q⟩
  unfold rdEq at h
  split at h
  · cases rx; cases ry
    exact .inl ⟨rfl, k _ _ Hv H E.stp (.bl _) (by simpa using h)⟩
  · cases rx; cases ry
    exact .inl ⟨rfl, k _ _ Hv H E.stp (.bl _) (by simpa using h)⟩
  · exact gen h
theorem od_ne {K : PySem.W.Frag} : OpD K W (rNeA K) rdNe := by
  intro Γ σ Hv H x y dx dy Q Q' E rx ry h k
  have gen : okE dx ∧ okE dy ∧ Q (.bl (!eqD dx dy)) → rNeA K x y H Q' := fun ⟨o1, o2, q⟩ =>
    .inr ⟨_, _, Rp.dp _ _ (Rp.monoS E.ret.sub _ _ rx) o1.1, Rp.dp _ _ (Rp.monoS E.ret.sub _ _ ry) o2.1, o1.2, o2.2, k _ _ Hv H E.stp (.bl _) q⟩
  unfold rdNe at h
  split at h
  · cases rx; cases ry
    exact .inl ⟨rfl, k _ _ Hv H E.stp (.bl _) (by simpa using h)⟩
  · cases rx; cases ry
    exact .inl ⟨rfl, k _ _ Hv H E.stp (.bl _) (by simpa using h)⟩
  · exact gen h
/-- x in a list, a tuple, or one sign in a text -/
def rInT (K : PySem.W.Frag) (neg : Bool) : R2 := fun x y H Q => ∃ d ds, Dp K H x d ∧ Dp K H y (.tuple ds) ∧ SeqAt.shaped d = true ∧ SeqAt.shaped (.tuple ds) = true ∧ Q (.bl (neg ^^ ds.any fun z => PyData.eqv z d)) H
theorem op_inT (hu : X.A.units + 65 < cLine) : OpR X (compareOp .In) (rInT X.K false) := by
  intro pins s σ H x y v u Q I rx ry h
  obtain ⟨d, ds, hd, he, sd, se, q⟩ := h
  obtain ⟨as, r1⟩ := Dp.reads I d x v hd rx
  obtain ⟨bs, r2⟩ := Dp.reads I (.tuple ds) y u he ry
  rw [Bool.false_xor] at q
  exact SeqAt.in_tuple_reads r2 r1 (SeqAt.canLay_of_shaped se) (SeqAt.canLay_of_shaped sd) (room_in_shaped sd hu) ⟨.bl _, H, I, rfl, q⟩
theorem op_notInT (hu : X.A.units + 65 < cLine) : OpR X (compareOp .NotIn) (rInT X.K true) := by
  intro pins s σ H x y v u Q I rx ry h
  obtain ⟨d, ds, hd, he, sd, se, q⟩ := h
  obtain ⟨as, r1⟩ := Dp.reads I d x v hd rx
  obtain ⟨bs, r2⟩ := Dp.reads I (.tuple ds) y u he ry
  rw [Bool.true_xor] at q
  exact SeqAt.notIn_tuple_reads r2 r1 (SeqAt.canLay_of_shaped se) (SeqAt.canLay_of_shaped sd) (room_in_shaped sd hu) ⟨.bl _, H, I, rfl, q⟩
def rInSg (neg : Bool) : R2 := fun x y H Q => ∃ (c : Nat) (z : Str), x = .str ⟨#[c]⟩ ∧ y = .str z ∧ Q (.bl (neg ^^ decide (c ∈ z.cps.toList))) H
theorem op_inSg : OpR X (compareOp .In) (rInSg false) := fun pins s σ H x y v u Q I rx ry ⟨c, z, e1, e2, q⟩ => op_in_sign pins s σ H x y v u Q I rx ry ⟨c, z, e1, e2, by rw [Bool.false_xor] at q; exact q⟩
theorem op_notInSg : OpR X (compareOp .NotIn) (rInSg true) := fun pins s σ H x y v u Q I rx ry ⟨c, z, e1, e2, q⟩ => op_notIn_sign pins s σ H x y v u Q I rx ry ⟨c, z, e1, e2, by rw [Bool.true_xor] at q; exact q⟩
def rInA (K : PySem.W.Frag) : R2 := fun x y H Q => rInSg false x y H Q ∨ rInD K x y H Q ∨ rInT K false x y H Q
def rNotInA (K : PySem.W.Frag) : R2 := fun x y H Q => rInSg true x y H Q ∨ rNotInD K x y H Q ∨ rInT K true x y H Q
theorem op_inA (hu : X.A.units + 65 < cLine) : OpR X (compareOp .In) (rInA X.K) := op_inSg.or ((op_inD hu).or (op_inT hu))
theorem op_notInA (hu : X.A.units + 65 < cLine) : OpR X (compareOp .NotIn) (rNotInA X.K) := op_notInSg.or ((op_notInD hu).or (op_notInT hu))
/-- the sign that a text of one sign is -/
def signOf (x : Str) : Option Nat := match x.cps.toList with | [c] => some c | _ => none
theorem signOf_eq {x : Str} {c : Nat} (h : signOf x = some c) : x = ⟨#[c]⟩ := by
  obtain ⟨⟨l⟩⟩ := x
  unfold signOf at h
  split at h
  · rename_i d e
    cases h
    have e' : l = [c] := e
    subst e'
    rfl
  · cases h
def isIn (x : D) (ds : List D) : Bool := ds.any fun z => eqD z x
theorem isIn_py (x : D) : ∀ ds : List D, isIn x ds = (pyAll ds).any fun z => PyData.eqv z (py x)
  | [] => by unfold isIn pyAll; rfl
  | d :: ds => by
    unfold pyAll
    show (eqD d x || isIn x ds) = _
    rw [isIn_py x ds]
    rfl
def rdIn (neg : Bool) : RD2 := fun x y Q => match x, y with
  | .str a, .str z => ∃ c, signOf a = some c ∧ Q (.bl (neg ^^ decide (c ∈ z.cps.toList)))
  | x, .lst ds => okE x ∧ okE (.lst ds) ∧ Q (.bl (neg ^^ isIn x ds))
  | x, .tup ds => okE x ∧ okE (.tup ds) ∧ Q (.bl (neg ^^ isIn x ds))
  | _, _ => False
theorem od_in {K : PySem.W.Frag} : OpD K W (rInA K) (rdIn false) := by
  intro Γ σ Hv H x y dx dy Q Q' E rx ry h k
  unfold rdIn at h
  split at h
  · obtain ⟨c, e, q⟩ := h
    cases rx; cases ry
    exact .inl ⟨c, _, by rw [signOf_eq e], rfl, k _ _ Hv H E.stp (.bl _) q⟩
  · obtain ⟨o1, o2, q⟩ := h
    have d2 := Rp.dp _ _ (Rp.monoS E.ret.sub _ _ ry) o2.1
    have s2 := o2.2
    unfold py at d2 s2
    rw [Bool.false_xor, isIn_py] at q
    exact .inr (.inl ⟨_, _, Rp.dp _ _ (Rp.monoS E.ret.sub _ _ rx) o1.1, d2, o1.2, s2, k _ _ Hv H E.stp (.bl _) q⟩)
  · obtain ⟨o1, o2, q⟩ := h
    have d2 := Rp.dp _ _ (Rp.monoS E.ret.sub _ _ ry) o2.1
    have s2 := o2.2
    unfold py at d2 s2
    rw [isIn_py] at q
    exact .inr (.inr ⟨_, _, Rp.dp _ _ (Rp.monoS E.ret.sub _ _ rx) o1.1, d2, o1.2, s2, k _ _ Hv H E.stp (.bl _) q⟩)
  · exact h.elim
theorem od_notIn {K : PySem.W.Frag} : OpD K W (rNotInA K) (rdIn true) := by
  intro Γ σ Hv H x y dx dy Q Q' E rx ry h k
  unfold rdIn at h
  split at h
  · obtain ⟨c, e, q⟩ := h
    cases rx; cases ry
    exact .inl ⟨c, _, by rw [signOf_eq e], rfl, k _ _ Hv H E.stp (.bl _) q⟩
  · obtain ⟨o1, o2, q⟩ := h
    have d2 := Rp.dp _ _ (Rp.monoS E.ret.sub _ _ ry) o2.1
    have s2 := o2.2
    unfold py at d2 s2
    rw [Bool.true_xor, isIn_py] at q
    exact .inr (.inl ⟨_, _, Rp.dp _ _ (Rp.monoS E.ret.sub _ _ rx) o1.1, d2, o1.2, s2, k _ _ Hv H E.stp (.bl _) q⟩)
  · obtain ⟨o1, o2, q⟩ := h
    have d2 := Rp.dp _ _ (Rp.monoS E.ret.sub _ _ ry) o2.1
    have s2 := o2.2
    unfold py at d2 s2
    rw [isIn_py] at q
    exact .inr (.inr ⟨_, _, Rp.dp _ _ (Rp.monoS E.ret.sub _ _ rx) o1.1, d2, o1.2, s2, k _ _ Hv H E.stp (.bl _) q⟩)
  · exact h.elim

/-! ### ints -/
def rdI0 (g : Int → Int → D) : RD2 := fun x y Q => match x, y with | .int i, .int j => Q (g i j) | _, _ => False
def rdI (C : Int → Int → Prop) (g : Int → Int → D) : RD2 := fun x y Q => match x, y with | .int i, .int j => C i j ∧ Q (g i j) | _, _ => False
theorem od_i0 {K : PySem.W.Frag} {f : Int → Int → V} {g : Int → Int → D} (hr : ∀ i j H, Rp K H (f i j) (g i j)) : OpD K W (rI0 f) (rdI0 g) := by
  intro Γ σ Hv H x y dx dy Q Q' E rx ry h k
  unfold rdI0 at h
  split at h
  · cases rx; cases ry
    exact ⟨_, _, rfl, rfl, k _ _ Hv H E.stp (hr _ _ _) h⟩
  · exact h.elim
theorem od_iC {K : PySem.W.Frag} {C : Int → Int → Prop} {f : Int → Int → V} {g : Int → Int → D} (hr : ∀ i j H, Rp K H (f i j) (g i j)) : OpD K W (rI C f) (rdI C g) := by
  intro Γ σ Hv H x y dx dy Q Q' E rx ry h k
  unfold rdI at h
  split at h
  · cases rx; cases ry
    exact ⟨_, _, rfl, rfl, h.1, k _ _ Hv H E.stp (hr _ _ _) h.2⟩
  · exact h.elim
theorem od_lt {K : PySem.W.Frag} : OpD K W (rI0 fun i j => .bl (decide (i < j))) (rdI0 fun i j => .bl (decide (i < j))) := od_i0 fun _ _ _ => .bl _
theorem od_le {K : PySem.W.Frag} : OpD K W (rI0 fun i j => .bl (decide (i ≤ j))) (rdI0 fun i j => .bl (decide (i ≤ j))) := od_i0 fun _ _ _ => .bl _
theorem od_gt {K : PySem.W.Frag} : OpD K W (rI0 fun i j => .bl (decide (j < i))) (rdI0 fun i j => .bl (decide (j < i))) := od_i0 fun _ _ _ => .bl _
theorem od_ge {K : PySem.W.Frag} : OpD K W (rI0 fun i j => .bl (decide (j ≤ i))) (rdI0 fun i j => .bl (decide (j ≤ i))) := od_i0 fun _ _ _ => .bl _
theorem od_sub {K : PySem.W.Frag} : OpD K W (rI0 fun i j => .int (i - j)) (rdI0 fun i j => .int (i - j)) := od_i0 fun _ _ _ => .int _
theorem od_mod {K : PySem.W.Frag} : OpD K W (rI (fun _ j => 0 < j) fun i j => .int (i % j)) (rdI (fun _ j => 0 < j) fun i j => .int (i % j)) := od_iC fun _ _ _ => .int _
theorem od_fdiv {K : PySem.W.Frag} : OpD K W (rI CDiv fun i j => .int (i / j)) (rdI CDiv fun i j => .int (i / j)) := od_iC fun _ _ _ => .int _
theorem od_pow {K : PySem.W.Frag} : OpD K W (rI CPow fun i j => .int (i ^ j.toNat)) (rdI CPow fun i j => .int (i ^ j.toNat)) := od_iC fun _ _ _ => .int _
/-- +: ints, texts, lists, tuples -/
def rAddA (K : PySem.W.Frag) : R2 := fun x y H Q => (rI0 fun i j => .int (i + j)) x y H Q ∨ (fun x y H Q => ∃ i j, x = .str i ∧ y = .str j ∧ i.length + j.length ≤ sizeLine ∧ Q (.str (i ++ j)) H) x y H Q ∨ rCat x y H Q
theorem op_addA : OpR X (binaryOp .Add) (rAddA X.K) := op_add.or (op_add_str.or op_cat)
def rdAdd : RD2 := fun x y Q => match x, y with
  | .int i, .int j => Q (.int (i + j))
  | .str a, .str b => a.length + b.length ≤ sizeLine ∧ Q (.str (a ++ b))
  | .lst a, .lst b => a.length + b.length ≤ sizeLine ∧ Q (.lst (a ++ b))
  | _, _ => False
theorem od_add {K : PySem.W.Frag} : OpD K W (rAddA K) rdAdd := by
  intro Γ σ Hv H x y dx dy Q Q' E rx ry h k
  unfold rdAdd at h
  split at h
  · cases rx; cases ry
    exact .inl ⟨_, _, rfl, rfl, k _ _ Hv H E.stp (.int _) h⟩
  · cases rx; cases ry
    exact .inr (.inl ⟨_, _, rfl, rfl, h.1, k _ _ Hv H E.stp (.str _) h.2⟩)
  · cases rx with
    | lst h1 r1 =>
      cases ry with
      | lst h2 r2 =>
        refine .inr (.inr ⟨_, _, _, _, rfl, rfl, E.ret.sub.lst h1, E.ret.sub.lst h2, by rw [r1.length, r2.length]; exact h.1, fun p hp => ?_⟩)
        exact k _ _ _ _ (E.stp.alloc _ hp) (.lst upd_same (RpAll.mono (same_upd (E.noneHv hp)) _ _ (r1.append r2))) h.2
  · exact h.elim
/-- *: ints, a list times an int -/
def rMulA : R2 := fun x y H Q => rI CMul (fun i j => .int (i * j)) x y H Q ∨ rRep x y H Q
theorem op_mulA : OpR X (binaryOp .Mult) rMulA := op_mul.or op_rep
def rdMul : RD2 := fun x y Q => match x, y with
  | .int i, .int j => CMul i j ∧ Q (.int (i * j))
  | .lst a, .int j => (-(2 ^ 63) ≤ j ∧ j < 2 ^ 63) ∧ a.length * j.toNat ≤ sizeLine ∧ Q (.lst (List.replicate j.toNat a).flatten)
  | _, _ => False
theorem od_mul {K : PySem.W.Frag} : OpD K W rMulA rdMul := by
  intro Γ σ Hv H x y dx dy Q Q' E rx ry h k
  unfold rdMul at h
  split at h
  · cases rx; cases ry
    exact .inl ⟨_, _, rfl, rfl, h.1, k _ _ Hv H E.stp (.int _) h.2⟩
  · cases rx with
    | lst h1 r1 =>
      cases ry
      refine .inr ⟨_, _, _, rfl, rfl, E.ret.sub.lst h1, h.1.1, h.1.2, by rw [r1.length]; exact h.2.1, fun p hp => ?_⟩
      exact k _ _ _ _ (E.stp.alloc _ hp) (.lst upd_same (RpAll.mono (same_upd (E.noneHv hp)) _ _ (r1.rep _))) h.2.2
  · exact h.elim

/-! ### subscripts -/
def rdIx : RD2 := fun x y Q => match x, y with
  | .lst ds, .int i => ∃ d, atI ds i = some d ∧ Q d
  | .tup ds, .int i => ∃ d, atI ds i = some d ∧ Q d
  | .str z, .int i => z.length ≤ sizeLine ∧ ∃ c, atI z.cps.toList i = some c ∧ Q (.str ⟨#[c]⟩)
  | _, _ => False
theorem RpAll.at {K : PySem.W.Frag} {H : Hp} {vs : List V} {ds : List D} {i : Int} {d : D} (r : RpAll K H vs ds) (h : atI ds i = some d) : ∃ v, atI vs i = some v ∧ Rp K H v d := by
  unfold atI at h ⊢
  rw [r.length]
  cases q : ixN ds.length i with
  | none => rw [q] at h; cases h
  | some j =>
    rw [q] at h
    exact r.get h
theorem od_ix {K : PySem.W.Frag} : OpD K W (rIx K) rdIx := by
  intro Γ σ Hv H x y dx dy Q Q' E rx ry h k
  unfold rdIx at h
  split at h
  · obtain ⟨d, e, q⟩ := h
    cases rx with
    | lst h1 r1 =>
      cases ry
      obtain ⟨v, e2, r2⟩ := r1.at e
      exact .inl ⟨_, _, _, v, rfl, rfl, .of (E.ret.sub.lst h1), e2, k v d Hv H E.stp r2 q⟩
  · obtain ⟨d, e, q⟩ := h
    cases rx with
    | tup h1 r1 =>
      cases ry
      obtain ⟨v, e2, r2⟩ := r1.at e
      exact .inr (.inl ⟨_, _, _, v, rfl, rfl, seqT E.ret.sub h1, e2, k v d Hv H E.stp r2 q⟩)
  · obtain ⟨hz, c, e, q⟩ := h
    cases rx; cases ry
    exact .inr (.inr ⟨_, _, c, rfl, rfl, hz, e, k _ _ Hv H E.stp (.str _) q⟩)
  · exact h.elim
/-- x[lo:hi] of a list, a text -/
def rCutA (K : PySem.W.Frag) : V → Option Int → Option Int → Hp → VK → Prop := fun x lo hi H Q => rSlL K x lo hi H Q ∨ rSlS x lo hi H Q
theorem sl_all : SlR X (rCutA X.K) := sl_list.or sl_str
def cutD (xs : List D) (lo hi : Option Int) : List D := (xs.drop (HT.sIx xs.length 0 lo)).take (HT.sIx xs.length xs.length hi - HT.sIx xs.length 0 lo)
def rdSlA : D → Option Int → Option Int → (D → Prop) → Prop := fun x lo hi Q => match x with
  | .lst ds => Q (.lst (cutD ds lo hi))
  | .fz ns => Q (.lst ((cutD (ns.map D.int) lo hi)))
  | .str z => z.length ≤ sizeLine ∧ Q (.str (cutS z lo hi))
  | _ => False
theorem rp_ints {K : PySem.W.Frag} {H : Hp} : ∀ ns : List Int, RpAll K H (ns.map V.int) (ns.map D.int)
  | [] => .nil
  | n :: ns => .cons (.int n) (rp_ints ns)
theorem RpAll.cut {K : PySem.W.Frag} {H : Hp} {vs : List V} {ds : List D} (r : RpAll K H vs ds) (lo hi : Option Int) : RpAll K H (cutV vs lo hi) (cutD ds lo hi) := by
  unfold cutV cutD
  rw [r.length]
  exact (r.drop _).take _
theorem sd_all {K : PySem.W.Frag} : SlD K W (rCutA K) rdSlA := by
  intro Γ σ Hv H x lo hi dx Q Q' E rx h k
  unfold rdSlA at h
  split at h
  · cases rx with
    | lst h1 r1 =>
      refine .inl ⟨_, _, rfl, .of (E.ret.sub.lst h1), fun p hp => ?_⟩
      exact k _ _ _ _ (E.stp.alloc _ hp) (.lst upd_same (RpAll.mono (same_upd (E.noneHv hp)) _ _ (r1.cut lo hi))) h
  · cases rx with
    | fz h1 =>
      rename_i ns _
      refine .inl ⟨_, _, rfl, E.ret.sub.seq h1, fun p hp => ?_⟩
      exact k _ _ _ _ (E.stp.alloc _ hp) (.lst upd_same (RpAll.mono (same_upd (E.noneHv hp)) _ _ ((rp_ints ns).cut lo hi))) h
  · cases rx
    exact .inr ⟨_, rfl, h.1, k _ _ Hv H E.stp (.str _) h.2⟩
  · exact h.elim

/-! ### built-ins -/
def rdLen : List D → (D → Prop) → Prop := fun ds Q => match ds with
  | [.lst xs] => Q (.int xs.length)
  | [.tup xs] => Q (.int xs.length)
  | [.fz xs] => Q (.int xs.length)
  | [.str z] => z.length ≤ sizeLine ∧ Q (.int z.length)
  | _ => False
def rLenA (K : PySem.W.Frag) : List V → Hp → VK → Prop := fun xs H Q => (fun xs H Q => ∃ p ys, xs = [.ref p] ∧ (SqL K H p ys ∨ SqT K H p ys) ∧ Q (.int ys.length) H) xs H Q ∨ (fun xs H Q => ∃ z, xs = [.str z] ∧ z.length ≤ sizeLine ∧ Q (.int z.length) H) xs H Q
theorem cr_len : CallR X (.builtin "len") (rLenA X.K) := call_len_seq.or call_len_str
theorem cd_len {K : PySem.W.Frag} : CallD K W (rLenA K) rdLen := by
  intro Γ σ Hv H vs ds Q Q' E r h k
  unfold rdLen at h
  split at h
  · obtain ⟨v, rfl, rv⟩ := r.one
    cases rv with
    | lst h1 r1 => exact .inl ⟨_, _, rfl, .inl (.of (E.ret.sub.lst h1)), k _ _ Hv H E.stp (.int _) (by rw [r1.length]; exact h)⟩
  · obtain ⟨v, rfl, rv⟩ := r.one
    cases rv with
    | tup h1 r1 => exact .inl ⟨_, _, rfl, .inr (seqT E.ret.sub h1), k _ _ Hv H E.stp (.int _) (by rw [r1.length]; exact h)⟩
  · obtain ⟨v, rfl, rv⟩ := r.one
    cases rv with
    | fz h1 => exact .inl ⟨_, _, rfl, .inl (E.ret.sub.seq h1), k _ _ Hv H E.stp (.int _) (by rw [List.length_map]; exact h)⟩
  · obtain ⟨v, rfl, rv⟩ := r.one
    cases rv
    exact .inr ⟨_, rfl, h.1, k _ _ Hv H E.stp (.int _) h.2⟩
  · exact h.elim
/-- a list of bools -/
def asBs : List D → Option (List Bool)
  | [] => some []
  | .bl b :: r => (asBs r).map (b :: ·)
  | _ :: _ => none
theorem asBs_of {K : PySem.W.Frag} {H : Hp} : ∀ {ds : List D} {vs : List V} {bs : List Bool}, RpAll K H vs ds → asBs ds = some bs → vs = bs.map V.bl
  | [], _, _, r, e => by cases r; cases e; rfl
  | .bl b :: ds, _, _, r, e => by
    cases r with
    | cons a r =>
      cases a
      unfold asBs at e
      cases q : asBs ds with
      | none => rw [q] at e; cases e
      | some bs =>
        rw [q] at e
        cases e
        rw [asBs_of r q]
        rfl
  | .non :: _, _, _, _, e => by cases e
  | .int _ :: _, _, _, _, e => by cases e
  | .str _ :: _, _, _, _, e => by cases e
  | .ty _ :: _, _, _, _, e => by cases e
  | .ref _ :: _, _, _, _, e => by cases e
  | .tup _ :: _, _, _, _, e => by cases e
  | .lst _ :: _, _, _, _, e => by cases e
  | .dic _ _ :: _, _, _, _, e => by cases e
  | .obj _ _ _ :: _, _, _, _, e => by cases e
  | .fz _ :: _, _, _, _, e => by cases e
theorem asBs_map (bs : List Bool) : asBs (bs.map D.bl) = some bs := by
  induction bs with
  | nil => rfl
  | cons b r ih => show (asBs (r.map D.bl)).map (b :: ·) = _; rw [ih]; rfl
def rdAll : List D → (D → Prop) → Prop := fun ds Q => match ds with
  | [.lst xs] => ∃ bs, asBs xs = some bs ∧ Q (.bl (bs.all id))
  | _ => False
def rdAny : List D → (D → Prop) → Prop := fun ds Q => match ds with
  | [.lst xs] => ∃ bs, asBs xs = some bs ∧ Q (.bl (bs.any id))
  | _ => False
theorem cd_all {K : PySem.W.Frag} : CallD K W (rAll K) rdAll := by
  intro Γ σ Hv H vs ds Q Q' E r h k
  unfold rdAll at h
  split at h
  · obtain ⟨bs, e, q⟩ := h
    obtain ⟨v, rfl, rv⟩ := r.one
    cases rv with
    | lst h1 r1 =>
      have ev := asBs_of r1 e
      subst ev
      exact ⟨_, bs, rfl, .of (E.ret.sub.lst h1), k _ _ Hv H E.stp (.bl _) q⟩
  · exact h.elim
theorem cd_any {K : PySem.W.Frag} : CallD K W (rAny K) rdAny := by
  intro Γ σ Hv H vs ds Q Q' E r h k
  unfold rdAny at h
  split at h
  · obtain ⟨bs, e, q⟩ := h
    obtain ⟨v, rfl, rv⟩ := r.one
    cases rv with
    | lst h1 r1 =>
      have ev := asBs_of r1 e
      subst ev
      exact ⟨_, bs, rfl, .of (E.ret.sub.lst h1), k _ _ Hv H E.stp (.bl _) q⟩
  · exact h.elim
def rdAbs : List D → (D → Prop) → Prop := fun ds Q => match ds with | [.int i] => Q (.int (if i < 0 then -i else i)) | _ => False
theorem cd_abs {K : PySem.W.Frag} : CallD K W (fun xs H Q => ∃ i, xs = [.int i] ∧ Q (.int (if i < 0 then -i else i)) H) rdAbs := by
  intro Γ σ Hv H vs ds Q Q' E r h k
  unfold rdAbs at h
  split at h
  · obtain ⟨v, rfl, rv⟩ := r.one
    cases rv
    exact ⟨_, rfl, k _ _ Hv H E.stp (.int _) h⟩
  · exact h.elim
def rdInt : List D → (D → Prop) → Prop := fun ds Q => match ds with | [.int i] => Q (.int i) | [.bl b] => Q (.int (if b then 1 else 0)) | _ => False
theorem cd_int {K : PySem.W.Frag} : CallD K W (fun xs H Q => (∃ i, xs = [.int i] ∧ Q (.int i) H) ∨ ∃ k, xs = [.bl k] ∧ Q (.int (if k then 1 else 0)) H) rdInt := by
  intro Γ σ Hv H vs ds Q Q' E r h k
  unfold rdInt at h
  split at h
  · obtain ⟨v, rfl, rv⟩ := r.one
    cases rv
    exact .inl ⟨_, rfl, k _ _ Hv H E.stp (.int _) h⟩
  · obtain ⟨v, rfl, rv⟩ := r.one
    cases rv
    exact .inr ⟨_, rfl, k _ _ Hv H E.stp (.int _) h⟩
  · exact h.elim
def rdMin2 : List D → (D → Prop) → Prop := fun ds Q => match ds with | [.int i, .int j] => Q (.int (if j < i then j else i)) | _ => False
theorem cd_min2 {K : PySem.W.Frag} : CallD K W (fun xs H Q => ∃ i j, xs = [.int i, .int j] ∧ Q (.int (if j < i then j else i)) H) rdMin2 := by
  intro Γ σ Hv H vs ds Q Q' E r h k
  unfold rdMin2 at h
  split at h
  · obtain ⟨v, w, rfl, rv, rw'⟩ := r.two
    cases rv; cases rw'
    exact ⟨_, _, rfl, k _ _ Hv H E.stp (.int _) h⟩
  · exact h.elim
/-- list(x) of a list or a tuple -/
def rdList : List D → (D → Prop) → Prop := fun ds Q => match ds with | [.lst xs] => Q (.lst xs) | [.tup xs] => Q (.lst xs) | _ => False
theorem cf_list {K : PySem.W.Frag} : CallF K W (fun xs H Q => ∃ p ys, xs = [.ref p] ∧ (SqL K H p ys ∨ SqT K H p ys) ∧ ∀ l, H l = none → Q (.ref l) (upd H l (.lst ys))) rdList := by
  intro Γ σ Hv H vs ds Q Q' E r h k
  unfold rdList at h
  split at h
  · obtain ⟨v, rfl, rv⟩ := r.one
    cases rv with
    | lst h1 r1 =>
      refine ⟨_, _, rfl, .inl (.of (E.ret.sub.lst h1)), fun l hl => ?_⟩
      obtain ⟨s, F⟩ := E.stp.alloc0 (.lst _) hl
      exact k l _ (.lst _) Hv _ s hl upd_same ⟨_, rfl, r1⟩ F h
  · obtain ⟨v, rfl, rv⟩ := r.one
    cases rv with
    | tup h1 r1 =>
      refine ⟨_, _, rfl, .inr (seqT E.ret.sub h1), fun l hl => ?_⟩
      obtain ⟨s, F⟩ := E.stp.alloc0 (.lst _) hl
      exact k l _ (.lst _) Hv _ s hl upd_same ⟨_, rfl, r1⟩ F h
  · exact h.elim
/-- tuple(x) -/
def rdTuple : List D → (D → Prop) → Prop := fun ds Q => match ds with | [.lst xs] => Q (.tup xs) | [.tup xs] => Q (.tup xs) | _ => False
theorem cd_tuple {K : PySem.W.Frag} : CallD K W (fun xs H Q => ∃ p ys, xs = [.ref p] ∧ ((SqL K H p ys ∧ ∀ l, H l = none → Q (.ref l) (upd H l (.tup ys))) ∨ (SqT K H p ys ∧ Q (.ref p) H))) rdTuple := by
  intro Γ σ Hv H vs ds Q Q' E r h k
  unfold rdTuple at h
  split at h
  · obtain ⟨v, rfl, rv⟩ := r.one
    cases rv with
    | lst h1 r1 =>
      refine ⟨_, _, rfl, .inl ⟨.of (E.ret.sub.lst h1), fun l hl => ?_⟩⟩
      exact k _ _ _ _ (E.stp.alloc _ hl) (.tup (.of upd_same) (RpAll.mono (same_upd (E.noneHv hl)) _ _ r1)) h
  · obtain ⟨v, rfl, rv⟩ := r.one
    cases rv with
    | tup h1 r1 => exact ⟨_, _, rfl, .inr ⟨seqT E.ret.sub h1, k _ _ Hv H E.stp (.tup h1 r1) h⟩⟩
  · exact h.elim

/-! ### isinstance against built-in types -/
def tyName : D → Option String
  | .non => some "NoneType"
  | .bl _ => some "bool"
  | .int _ => some "int"
  | .str _ => some "str"
  | .lst _ => some "list"
  | .tup _ => some "tuple"
  | .dic _ _ => some "dict"
  | _ => none
theorem tyX_of {K : PySem.W.Frag} {H : Hp} {v : V} {d : D} {n : String} (r : Rp K H v d) (h : tyName d = some n) : TyX K H v (.type n) := by
  cases d <;> cases h
  · cases r; exact .base .non
  · cases r; exact .base (.bl _)
  · cases r; exact .base (.int _)
  · cases r; exact .base (.str _)
  · cases r with
    | tup h1 r1 =>
      rcases h1 with (h1 | ⟨o, h1⟩) | ⟨o, its, k, h1, h2, h3⟩
      · exact .base (.tup h1)
      · exact .fTuple h1
      · exact .kTuple h1 h2
  · cases r with
    | lst h1 r1 => exact .base (.lst h1)
  · cases r with
    | dic h1 hk r1 => (rcases h1 with h1 | ⟨o, h1⟩; exact .base (.dK h1); exact .fDict h1)
def rdIsi : List D → (D → Prop) → Prop := fun ds Q => match ds with
  | [x, .ty T] => ∃ n b, tyName x = some n ∧ kitB n T = some b ∧ Q (.bl b)
  | _ => False
theorem cd_isi {K : PySem.W.Frag} : CallD K W (rIsi K) rdIsi := by
  intro Γ σ Hv H vs ds Q Q' E r h k
  unfold rdIsi at h
  split at h
  · obtain ⟨n, b, e1, e2, q⟩ := h
    obtain ⟨v, w, rfl, rv, rw'⟩ := r.two
    cases rw'
    exact ⟨v, _, _, _, b, rfl, .ty _, tyX_of (Rp.monoS E.ret.sub _ _ rv) e1, kit_ty e2, k _ _ Hv H E.stp (.bl _) q⟩
  · exact h.elim

/-! ### what is walked -/
variable {tg e : Expr} {te : TE} {de : TDE} {es : List Expr} {t : TA} {dt : TDF} {p pos : Pos}
def asL (d : D) (k : List D → Prop) : Prop := match d with | .lst ds => k ds | _ => False
def asT (d : D) (k : List D → Prop) : Prop := match d with | .tup ds => k ds | _ => False
def asS (d : D) (k : Str → Prop) : Prop := match d with | .str ds => k ds | _ => False
def rdILst (de : TDE) : TDF := fun Γ Q => de Γ fun d Γ1 => asL d fun ds => Q ds Γ1
def rdITup (de : TDE) : TDF := fun Γ Q => de Γ fun d Γ1 => asT d fun ds => Q ds Γ1
def rdIStr (de : TDE) : TDF := fun Γ Q => de Γ fun d Γ1 => asS d fun z => Q (z.cps.toList.map fun c => D.str ⟨#[c]⟩) Γ1
theorem itd_list {K : PySem.W.Frag} {a : Addr} {vs : List V} {ds : List D} {Hs : Hp} (h : Hs a = some (.lst vs)) (r : RpAll K Hs vs ds) : ItD K W (Itl K a) ds Hs := by
  intro Γ σ Hv H sm E i
  have ha : SqL K H a vs := .of (E.ret.sub.lst (sm.lst h))
  refine ⟨fun hi => ⟨vs, ha, by rw [r.length]; exact hi⟩, fun d e => ?_⟩
  obtain ⟨v, ev, rv⟩ := r.get e
  refine ⟨⟨vs, v, ha, ev⟩, fun x H' y => ?_⟩
  obtain ⟨rfl, y⟩ := y
  have ex := y vs ha
  rw [ev] at ex
  cases ex
  exact ⟨Hv, E.stp, Rp.mono sm _ _ rv⟩
theorem itd_tup {K : PySem.W.Frag} {a : Addr} {vs : List V} {ds : List D} {Hs : Hp} (h : SqT K Hs a vs) (r : RpAll K Hs vs ds) : ItD K W (Itt K a) ds Hs := by
  intro Γ σ Hv H sm E i
  have ha : SqT K H a vs := seqT E.ret.sub (seqT sm h)
  refine ⟨fun hi => ⟨vs, ha, by rw [r.length]; exact hi⟩, fun d e => ?_⟩
  obtain ⟨v, ev, rv⟩ := r.get e
  refine ⟨⟨vs, v, ha, ev⟩, fun x H' y => ?_⟩
  obtain ⟨rfl, y⟩ := y
  have ex := y vs ha
  rw [ev] at ex
  cases ex
  exact ⟨Hv, E.stp, Rp.mono sm _ _ rv⟩
theorem di_list (he : DE W X e te de) : DI W X tg e (iList X.K te) (rdILst de) := by
  refine ⟨pi_list he.pe, fun Γ σ Hv H Q R E h k => he.ad Γ σ Hv H _ _ E h fun v d Γ1 Hv1 H1 s1 r1 q => ?_⟩
  cases d <;> first | exact q.elim | skip
  cases r1 with
  | lst h1 ra => exact ⟨_, rfl, ⟨_, .of (s1.ev.ret.sub.lst h1)⟩, k _ _ Γ1 Hv1 H1 s1 (itd_list h1 ra) q⟩
theorem di_tup (he : DE W X e te de) : DI W X tg e (iTup X.K te) (rdITup de) := by
  refine ⟨pi_tup he.pe, fun Γ σ Hv H Q R E h k => he.ad Γ σ Hv H _ _ E h fun v d Γ1 Hv1 H1 s1 r1 q => ?_⟩
  cases d <;> first | exact q.elim | skip
  cases r1 with
  | tup h1 ra => exact ⟨_, rfl, ⟨_, seqT s1.ev.ret.sub h1⟩, k _ _ Γ1 Hv1 H1 s1 (itd_tup h1 ra) q⟩
theorem di_str (he : DE W X e te de) : DI W X tg e (iStr te) (rdIStr de) := by
  refine ⟨pi_str he.pe, fun Γ σ Hv H Q R E h k => he.ad Γ σ Hv H _ _ E h fun v d Γ1 Hv1 H1 s1 r1 q => ?_⟩
  cases d <;> first | exact q.elim | skip
  cases r1
  rename_i z
  refine ⟨z, rfl, k _ _ Γ1 Hv1 H1 s1 (fun Γ' σ' Hv' H' sm E' i => ⟨fun hi => ?_, fun d e => ?_⟩) q⟩
  · rw [List.length_map, Array.length_toList] at hi
    exact hi
  · rw [List.getElem?_map, Array.getElem?_toList] at e
    cases q2 : z.cps[i]? with
    | none => rw [q2] at e; cases e
    | some c =>
      rw [q2] at e
      cases e
      refine ⟨(Array.getElem?_eq_some_iff.mp q2).1, fun x H2 y => ?_⟩
      obtain ⟨rfl, c', e', rfl⟩ := y
      rw [q2] at e'
      cases e'
      exact ⟨Hv', E'.stp, .str _⟩
/-- range(n) -/
def rangeD (n : Nat) : List D := (List.range n).map fun i => D.int ((i : Nat) : Int)
def rngOf (ds : List D) (k : List D → Prop) : Prop := match ds with
  | [.int j] => (-(2 ^ 62) ≤ j ∧ j < 2 ^ 62) ∧ k (rangeD j.toNat)
  | _ => False
def rdIRng (dt : TDF) : TDF := fun Γ Q => dt Γ fun ds Γ1 => rngOf ds fun L => Q L Γ1
theorem di_range {a : Expr} (hg : Gl X "range") (hm : X.mg "range" = none) (ha : DA W X [a] t dt) (hs : starEach [a] X.env = [(false, eval a X.env)] := by rfl) : DI W X tg (.Call (.Name "range" p) [a] [] pos) (iRng1 t) (rdIRng dt) := by
  refine ⟨pi_range1 hg hm ha.pa hs, fun Γ σ Hv H Q R E h k => ha.ad Γ σ Hv H _ _ E h fun vs ds Γ1 Hv1 H1 s1 r1 q => ?_⟩
  unfold rngOf at q
  split at q
  · obtain ⟨v, rfl, rv⟩ := r1.one
    cases rv
    rename_i j
    refine ⟨j, rfl, q.1.1, q.1.2, k _ _ Γ1 Hv1 H1 s1 (fun Γ' σ' Hv' H' sm E' i => ⟨fun hi => ?_, fun d e => ?_⟩) q.2⟩
    · unfold rangeD at hi
      rw [List.length_map, List.length_range] at hi
      exact hi
    · unfold rangeD at e
      rw [List.getElem?_map] at e
      by_cases hi : i < j.toNat
      · rw [List.getElem?_range hi] at e
        cases e
        refine ⟨hi, fun x H2 y => ?_⟩
        obtain ⟨rfl, rfl⟩ := y
        rw [Int.zero_add]
        exact ⟨Hv', E'.stp, .int _⟩
      · rw [List.getElem?_eq_none (by rw [List.length_range]; omega)] at e
        cases e
  · exact q.elim

/-! ### repr -/
/-- data that repr may look at -/
def okR (d : D) : Prop := pl d = true ∧ (py d).showable = true ∧ (py d).depth ≤ 60 ∧ (PyData.shown (py d)).length ≤ sizeLine
def rdRepr : List D → (D → Prop) → Prop := fun ds Q => match ds with
  | [.int _] => False
  | [.str _] => False
  | [.bl _] => False
  | [.non] => False
  | [d] => okR d ∧ Q (.str (PyData.shown (py d)))
  | _ => False
def rRepr (K : PySem.W.Frag) : List V → Hp → VK → Prop := fun vs H Q => ∃ a d, vs = [.ref a] ∧ Dp K H (.ref a) d ∧ d.showable = true ∧ d.depth ≤ 60 ∧ d.shown.length ≤ sizeLine ∧ Q (.str d.shown) H
mutual
theorem dp_nodict {K : PySem.W.Frag} {H : Hp} : ∀ (d : PyData) (v : V), Dp K H v d → d.hasDict = false
  | .none, _, _ => by simp only [PyData.hasDict]
  | .bool _, _, _ => by simp only [PyData.hasDict]
  | .int _, _, _ => by simp only [PyData.hasDict]
  | .str _, _, _ => by simp only [PyData.hasDict]
  | .list ds, _, h => by
    simp only [PyData.hasDict]
    cases h with
    | lst _ ha => exact dp_nodictAll ds _ ha
  | .tuple ds, _, h => by
    simp only [PyData.hasDict]
    cases h with
    | tup _ ha => exact dp_nodictAll ds _ ha
  | .dict _, _, h => by cases h
theorem dp_nodictAll {K : PySem.W.Frag} {H : Hp} : ∀ (ds : List PyData) (vs : List V), DpAll K H vs ds → PyData.hasDictAll ds = false
  | [], _, _ => by simp only [PyData.hasDictAll]
  | d :: ds, _, h => by
    cases h with
    | cons h1 h2 => simp only [PyData.hasDictAll, dp_nodict d _ h1, dp_nodictAll ds _ h2, Bool.or_self]
end
theorem cr_repr {k : Nat} (hr : Room k X.A) (hg : X.A.guards = some []) : CallR X (.builtin "repr") (rRepr X.K) := by
  intro pins s σ H xs us Q I r h
  obtain ⟨a, d, rfl, hd, h1, h2, h3, q⟩ := h
  obtain ⟨u, rfl, ru⟩ := vals1 r
  obtain ⟨as, rr⟩ := Dp.reads I d _ u hd ru
  cases ru
  have hu := hr.units
  refine repr_of_reads' rr h1 (PyData.noDict_hsm (dp_nodict d _ hd)) hg (by omega) (fun _ _ e => e) (fun h' u tk hk => ?_) h3
  exact ⟨.str d.shown, H, I.kept hk, ⟨u, rfl⟩, q⟩
theorem cd_repr {K : PySem.W.Frag} : CallD K W (rRepr K) rdRepr := by
  intro Γ σ Hv H vs ds Q Q' E r h k
  unfold rdRepr at h
  split at h
  · exact h.elim
  · exact h.elim
  · exact h.elim
  · exact h.elim
  · rename_i d n1 n2 n3 n4
    obtain ⟨⟨o1, o2, o3, o4⟩, q⟩ := h
    obtain ⟨v, rfl, rv⟩ := r.one
    have rr := Rp.dp _ _ (Rp.monoS E.ret.sub _ _ rv) o1
    have ea : ∃ a, v = .ref a := by
      cases rv with
      | non => exact absurd rfl (n4 )
      | bl b => exact absurd rfl (n3 b)
      | int b => exact absurd rfl (n1 b)
      | str b => exact absurd rfl (n2 b)
      | ty n => unfold pl at o1; cases o1
      | _ => exact ⟨_, rfl⟩
    obtain ⟨a, rfl⟩ := ea
    exact ⟨a, _, rfl, rr, o2, o3, o4, k _ _ Hv H E.stp (.str _) q⟩
  · exact h.elim
end
end VL

set_option Elab.async false
set_option linter.all false
set_option maxRecDepth 100000
set_option maxHeartbeats 4000000
/-! VL5: more rules; the drawing draw. -/
namespace VL
open PySem PySem.Spec L2
open PyProof.Rows hiding St

theorem hu64 {k : Nat} {A : Around} (r : Room k A) : A.units + 64 < cLine := r.units
theorem hu65 {k : Nat} {A : Around} (r : Room k A) : A.units + 65 < cLine := by have := r.un; omega
theorem small_of {n : Nat} (h : n ≤ 1000) : small n := Nat.le_trans h (by decide)

section
variable {W : Wc} {X : Cx} {a b e : Expr} {es rest : List Expr} {ta tb te : TE} {da db de : TDE} {t : TA} {dt : TDF} {p pos : Pos} {x y : Str}
/-! ### -e, list(a text), x or y by truth -/
def rdNeg (da : TDE) : TDE := fun Γ Q => da Γ fun d Γ1 => asI d fun i => Q (.int (-i)) Γ1
theorem d_neg (ha : DE W X a ta da) : DE W X (.UnaryOp .USub a pos) (tUn (rU fun i => .int (-i)) ta) (rdNeg da) := by
  refine ⟨pe_un un_neg ha.pe, fun Γ σ Hv H Q Q' E h k => ha.ad Γ σ Hv H _ _ E h fun v d Γ1 Hv1 H1 s1 r1 q => ?_⟩
  obtain ⟨i, e1, q⟩ := asI_of r1 q
  exact ⟨i, e1, k _ _ Γ1 Hv1 H1 s1 (.int _) q⟩
def signsV (z : Str) : List V := z.cps.toList.map fun c => V.str ⟨#[c]⟩
def signsD (z : Str) : List D := z.cps.toList.map fun c => D.str ⟨#[c]⟩
theorem rp_signs {K : PySem.W.Frag} {H : Hp} (z : Str) : RpAll K H (signsV z) (signsD z) := by
  unfold signsV signsD
  induction z.cps.toList with
  | nil => exact .nil
  | cons c r ih => exact .cons (.str _) ih
theorem vals_signs : ∀ {its : List Value} {cs : List Nat}, its.length = cs.length → (∀ i (h : i < its.length), ∃ (c : Nat) (u : Tok), cs[i]? = some c ∧ its[i] = .str ⟨#[c]⟩ u) → Vals (cs.map fun c => V.str ⟨#[c]⟩) its
  | [], [], _, _ => .nil
  | [], _ :: _, h, _ => by cases h
  | _ :: _, [], h, _ => by cases h
  | v :: its, c :: cs, h, f => by
    obtain ⟨c', u, e1, e2⟩ := f 0 (Nat.zero_lt_succ _)
    cases e1
    refine .cons ⟨u, e2⟩ (vals_signs (Nat.succ.inj h) fun i hi => ?_)
    obtain ⟨c2, u2, f1, f2⟩ := f (i + 1) (Nat.succ_lt_succ hi)
    exact ⟨c2, u2, by simpa using f1, by simpa using f2⟩
theorem cr_listStr (hc : X.calm = true) : CallR X (.type "list") (fun xs H Q => ∃ z, xs = [.str z] ∧ z.length ≤ sizeLine ∧ ∀ l, H l = none → Q (.ref l) (upd H l (.lst (signsV z)))) := by
  intro pins s σ H xs us Q I r h
  obtain ⟨z, rfl, hz, q⟩ := h
  obtain ⟨u, rfl, tk, rfl⟩ := vals1 r
  refine call_list_str (I.ok.hd hc) z tk (fun h' tk' acc c' kp e hit => ?_) hz
  have rv : Vals (signsV z) acc.toList := by
    refine vals_signs (by rw [Array.length_toList, Array.length_toList, hit.1]) fun i hi => ?_
    rw [Array.length_toList] at hi
    obtain ⟨c, u, e1, e2⟩ := hit.2 i acc[i] (Array.getElem?_eq_getElem hi)
    exact ⟨c, u, by rw [Array.getElem?_toList]; exact e1, by simpa using e2⟩
  refine ⟨.ref s.heap.objs.size, _, I.laid (t' := tk') kp (Nat.le_refl _) (show ObjOk X.prog X.w _ h' _ (.lst (signsV z)) from ⟨?_, acc.toList, c', rv, by rw [e]⟩), rfl, q _ (I.hok.fresh (Nat.le_refl _))⟩
  unfold signsV
  rw [List.length_map, Array.length_toList]
  exact hz
def rListA (K : PySem.W.Frag) : List V → Hp → VK → Prop := fun xs H Q => (fun xs H Q => ∃ p ys, xs = [.ref p] ∧ (SqL K H p ys ∨ SqT K H p ys) ∧ ∀ l, H l = none → Q (.ref l) (upd H l (.lst ys))) xs H Q ∨
  (fun xs H Q => ∃ z, xs = [.str z] ∧ z.length ≤ sizeLine ∧ ∀ l, H l = none → Q (.ref l) (upd H l (.lst (signsV z)))) xs H Q
theorem cr_list (hc : X.calm = true) : CallR X (.type "list") (rListA X.K) := call_list_of.or (cr_listStr hc)
def rdListA : List D → (D → Prop) → Prop := fun ds Q => match ds with | [.lst xs] => Q (.lst xs) | [.tup xs] => Q (.lst xs) | [.str z] => z.length ≤ sizeLine ∧ Q (.lst (signsD z)) | _ => False
theorem cf_listA {K : PySem.W.Frag} : CallF K W (rListA K) rdListA := by
  intro Γ σ Hv H vs ds Q Q' E r h k
  unfold rdListA at h
  split at h
  · exact .inl (cf_list Γ σ Hv H vs _ Q Q' E r h k)
  · exact .inl (cf_list Γ σ Hv H vs _ Q Q' E r h k)
  · obtain ⟨v, rfl, rv⟩ := r.one
    cases rv
    refine .inr ⟨_, rfl, h.1, fun l hl => ?_⟩
    obtain ⟨s, F⟩ := E.stp.alloc0 (.lst _) hl
    exact k l _ (.lst _) Hv _ s hl upd_same ⟨_, rfl, rp_signs _⟩ F h.2
  · exact h.elim
/-- x or y, x a list -/
def rdOrT (da db : TDE) : TDE := fun Γ Q => da Γ fun d Γ1 => asL d fun ds => if ds.isEmpty = true then db Γ1 Q else Q (.lst ds) Γ1
theorem d_orT (ha : DE W X a ta da) (hb : DE W X (.BoolOp .Or (b :: rest) pos) tb db) : DE W X (.BoolOp .Or (a :: b :: rest) pos) (tOrT X.K ta tb) (rdOrT da db) := by
  refine ⟨pe_orT ha.pe hb.pe, fun Γ σ Hv H Q Q' E h k => ha.ad Γ σ Hv H _ _ E h fun v d Γ1 Hv1 H1 s1 r1 q => ?_⟩
  cases d <;> first | exact q.elim | skip
  rename_i ds
  have ra := r1
  cases r1 with
  | lst h1 r1 =>
    refine ⟨!ds.isEmpty, .inl ⟨_, .of (s1.ev.ret.sub.lst h1), ?_⟩, ?_⟩
    · cases r1 <;> rfl
    · cases ds with
      | nil =>
        dsimp only [asL] at q
        rw [if_pos (show ([] : List D).isEmpty = true from rfl)] at q
        rw [if_neg (show ¬ (!([] : List D).isEmpty) = true from by simp)]
        exact hb.ad Γ1 σ Hv1 H1 _ _ s1.ev q fun v d Γ2 Hv2 H2 s2 r2 q2 => k v d Γ2 Hv2 H2 (s1.trans s2) r2 q2
      | cons d0 r0 =>
        dsimp only [asL] at q
        rw [if_neg (show ¬ (d0 :: r0).isEmpty = true from by simp)] at q
        rw [if_pos (show (!(d0 :: r0).isEmpty) = true from rfl)]
        exact k _ _ Γ1 Hv1 H1 s1 ra q

/-! ### a, b = e1, e2 -/
def rdPar (i j : Nat) (dt : TDF) : TDS := fun E Γ => dt Γ fun ds Γ1 => match ds with | [d, e] => E.nx ((Γ1.set i (.dat d)).set j (.dat e)) | _ => False
theorem ds_par {i j : Nat} {px py pt : Pos} {kt k2 pt2} (hc : X.calm = true) (hN : X.N.Nodup) (hi : X.N[i]? = some x) (hj : X.N[j]? = some y) (hij : i ≠ j)
    (hx : X.env.scope.names.lookup x = some .local) (hy : X.env.scope.names.lookup y = some .local) (ha : DA W X [a, b] t dt)
    (hw : swappedStores [.Tuple [.Name x px, .Name y py] kt pt] (.Tuple [a, b] k2 pt2) X.env = pure (some [x, y]))
    (hs : swapsWithSole [.Tuple [.Name x px, .Name y py] kt pt] (.Tuple [a, b] k2 pt2) pos.line X.env = pure false := by rfl) :
    DS W X (.Assign [.Tuple [.Name x px, .Name y py] kt pt] (.Tuple [a, b] k2 pt2) pos) (tPar i j t) (rdPar i j dt) := by
  refine ⟨ps_par hc hN hi hj hij hx hy ha.pa hw hs, fun Γ σ Hv H E E' Z h l => ha.ad Γ σ Hv H _ _ Z h fun vs ds Γ1 Hv1 H1 s1 r1 q => ?_⟩
  split at q
  · obtain ⟨v, w, rfl, rv, rw'⟩ := r1.two
    exact ⟨v, w, rfl, l.nx _ _ _ _ ((s1.set rv).set rw') q⟩
  · exact q.elim

/-! ### dict displays -/
def rdDic0 : TDE := fun Γ Q => Q (.dic [] []) Γ
theorem df_dic0 : DF W X (.Dict [] [] pos) tDNewK rdDic0 := ⟨pe_dnewK, fun Γ σ Hv H Q Q' E h k => fun q hq => by
  obtain ⟨s, F⟩ := E.stp.alloc0 (.dK []) hq
  exact k q _ (.dic [] []) _ _ _ s hq upd_same ⟨[], rfl, rfl, .nil⟩ F h⟩
theorem d_dic0 : DE W X (.Dict [] [] pos) tDNewK rdDic0 := d_share df_dic0
def keyOf : D → Option Key
  | .int i => some (.inl i)
  | .str x => some (.inr x)
  | _ => none
theorem keyOf_rp {K : PySem.W.Frag} {H : Hp} {v : V} {d : D} {k : Key} (r : Rp K H v d) (h : keyOf d = some k) : v = kV k := by
  cases d <;> cases h <;> cases r <;> rfl
/-- {k: v} -/
def rdDic1 (da db : TDE) : TDE := fun Γ Q => da Γ fun dk Γ1 => db Γ1 fun d Γ2 => ∃ k, keyOf dk = some k ∧ Q (.dic [k] [d]) Γ2
theorem d_dic1 (ha : DE W X a ta da) (hb : DE W X b tb db) : DE W X (.Dict [some a] [b] pos) (tDisp [(ta, tb)]) (rdDic1 da db) := by
  refine ⟨pe_disp (pps_cons ha.pe hb.pe pps_nil) rfl rfl (fun z => by cases z) (by show (1 : Nat) ≤ 15; decide), fun Γ σ Hv H Q Q' E h k => fun q hq => ?_⟩
  obtain ⟨s0, F0⟩ := E.stp.alloc0 (.dK []) hq
  refine ha.ad Γ σ Hv _ _ _ s0.ev h fun v dk Γ1 Hv1 H1 s1 r1 h1 => ?_
  refine hb.ad Γ1 σ Hv1 H1 _ _ s1.ev h1 fun w d Γ2 Hv2 H2 s2 r2 h2 => ?_
  obtain ⟨ky, e1, h2⟩ := h2
  have s12 := s1.trans s2
  obtain ⟨e2, F2⟩ := s12.fr q F0 (by rw [upd_same]; simp)
  rw [upd_same] at e2
  have sA := s0.trans s12
  have sT := (sA.turn (.dK [(ky, w)]) F2 (by rw [e2]; simp) hq).share F2 upd_same hq
  refine ⟨e2, [(ky, w)], by rw [keyOf_rp (Rp.mono s2.sv _ _ r1) e1]; rfl, by show (1 : Nat) ≤ 15; decide, ?_⟩
  exact k _ _ _ _ _ sT (.dic (.inl upd_same) rfl (.cons (Rp.mono (same_upd F2.hv) _ _ r2) .nil)) h2
end

/-! ### the drawing draw: its list at d, its cells at c -/
def drawJ (d c : Addr) : Vol where
  vol := fun a => a = d ∨ a = c
  inv := fun H => d ≠ c ∧ ∃ (cells : List Int) (p m t : Int), H d = some (.lst [.ref c, .int p, .int m, .int t]) ∧ H c = some (.lst (cells.map V.int)) ∧ cells ≠ [] ∧ cells.length ≤ 63 ∧ (∀ x ∈ cells, 0 ≤ x) ∧ 0 ≤ p ∧ (0 ≤ m ∧ m < 2147483647) ∧ 0 ≤ t
  there := fun H a h v => by
    obtain ⟨_, cells, p, m, t, h1, h2, _⟩ := h
    rcases v with rfl | rfl
    · rw [h1]; simp
    · rw [h2]; simp
  keep := fun H H' h v => by
    obtain ⟨n, cells, p, m, t, h1, h2, h3⟩ := h
    exact ⟨n, cells, p, m, t, (v d (.inl rfl)).trans h1, (v c (.inr rfl)).trans h2, h3⟩
/-- a promise that holds for some draw -/
def spV (K : PySem.W.Frag) (F : Addr → FD) : Sp := fun vs H Q E => ∃ d c, spD (drawJ d c) K (F d) vs H Q E
theorem fnV {P : Program} {w : World} {K : PySem.W.Frag} {mg : Str → Option Value} {base : Heap} {CX : CXT} {k : Nat} {f : Addr} {fd : FuncData} {ps : List Str} {F : Addr → FD}
    (h : ∀ d c, FnOk P w K mg base CX k f fd ps (spD (drawJ d c) K (F d))) : FnOk P w K mg base CX k f fd ps (spV K F) :=
  ⟨fun vs H Q E ⟨d, c, q⟩ => (h d c).len vs H Q E q, fun A o s H a us vs Q E hr e0 hb r ⟨d, c, q⟩ => (h d c).run A o s H a us vs Q E hr e0 hb r q⟩
theorem fnVG {P : Program} {w : World} {K : PySem.W.Frag} {mg : Str → Option Value} {base : Heap} {CX : CXT} {k : Nat} {f : Addr} {fd : FuncData} {ps : List Str} {F : Addr → FD}
    (h : ∀ d c, FnG P w K mg base CX k f fd ps (spD (drawJ d c) K (F d))) : FnG P w K mg base CX k f fd ps (spV K F) :=
  ⟨fun vs H Q E ⟨d, c, q⟩ => (h d c).len vs H Q E q, fun A o s H a us vs Q E hgd hr e0 hb r ⟨d, c, q⟩ => (h d c).go A o s H a us vs Q E hgd hr e0 hb r q⟩
section
variable {W : Wc} {X : Cx} {e : Expr} {es : List Expr} {t : TA} {dt : TDF} {p pos : Pos} {x : Str} {CX : CXT} {k : Nat} {f : Addr} {fd : FuncData} {ps : List Str} {F : Addr → FD} {dvs : List V} {dds : List D} {ds : List Value} {E : XK} {d c : Addr}
theorem ad_callV {K : PySem.W.Frag} (hJ : W.J = drawJ d c) (hdd : ∀ H, RpAll K H dvs dds) (h : AdA K W t dt) : Ad K W (tCall (spV K F) dvs E t) (rdCall (F d) dds dt) := fun Γ σ Hv H Q Q' Z hw k => by
  have q := ad_call (F := F d) (E := E) hdd h Γ σ Hv H Q Q' Z hw k
  refine h Γ σ Hv H _ _ Z hw fun vs ds Γ1 Hv1 H1 s1 r1 q => ⟨d, c, ?_⟩
  rw [← hJ]
  exact ⟨Hv1, ds ++ dds, _, s1.ev.ret.sub, s1.ev.ret.inv, s1.ev.ret.nv, r1.append (hdd _), q, fun v d Hv2 H2 R r2 q2 => k v d Γ1 Hv2 H2 (s1.after R) r2 q2⟩
theorem d_callV (G : FnOk X.prog X.w X.K X.mg X.base CX k f fd ps (spV X.K F)) (hJ : W.J = drawJ d c) (hr : Room k X.A) (hg : Gl X x) (hm : X.mg x = some (.ref f)) (hk : PySem.W.keepIn X.K (.ref f) = true) (hb : Binds X.K fd ps ds) (hd : Vals dvs ds) (hdd : ∀ H, RpAll X.K H dvs dds) (hx : Passes CX X E)
    (ha : DA W X (e :: es) t dt) (hdb : (x == ("__debug__" : Str)) = false := by decide) (he : starEach (e :: es) X.env = (false, eval e X.env) :: starEach es X.env := by rfl) (hpl : (backTo pos (starEach es X.env)).any (·.1) = false := by rfl) :
    DE W X (.Call (.Name x p) (e :: es) [] pos) (tCall (spV X.K F) dvs E t) (rdCall (F d) dds dt) :=
  ⟨pe_call G hr hg hm hk hb hd hx ha.pa hdb he hpl, ad_callV hJ hdd ha.ad⟩
theorem d_callVG (G : FnG X.prog X.w X.K X.mg X.base CX k f fd ps (spV X.K F)) (hJ : W.J = drawJ d c) (hgd : X.A.guards = some []) (hr : Room k X.A) (hg : Gl X x) (hm : X.mg x = some (.ref f)) (hk : PySem.W.keepIn X.K (.ref f) = true) (hb : Binds X.K fd ps ds) (hd : Vals dvs ds) (hdd : ∀ H, RpAll X.K H dvs dds) (hx : Passes CX X E)
    (ha : DA W X (e :: es) t dt) (hdb : (x == ("__debug__" : Str)) = false := by decide) (he : starEach (e :: es) X.env = (false, eval e X.env) :: starEach es X.env := by rfl) (hpl : (backTo pos (starEach es X.env)).any (·.1) = false := by rfl) :
    DE W X (.Call (.Name x p) (e :: es) [] pos) (tCall (spV X.K F) dvs E t) (rdCall (F d) dds dt) :=
  ⟨pe_callG G hgd hr hg hm hk hb hd hx ha.pa hdb he hpl, ad_callV hJ hdd ha.ad⟩
end
/-- _law_take(draw, many) -/
def Ftake (d : Addr) : FD := fun ds Q => ∃ n : Int, ds = [.ref d, .int n] ∧ (0 < n ∧ n < 1073741824) ∧ ∀ r : Int, 0 ≤ r → r < n → Q (.int r)
/-- _law_pick(draw, some) -/
def Fpick (d : Addr) : FD := fun ds Q => ∃ xs : List D, ds = [.ref d, .lst xs] ∧ xs ≠ [] ∧ xs.length < 1000 ∧ ∀ x ∈ xs, Q x
def FpickS (d : Addr) : FD := fun ds Q => (∃ xs : List D, ds = [.ref d, .lst xs] ∧ xs ≠ [] ∧ xs.length < 1000 ∧ ∀ x ∈ xs, Q x) ∨ ∃ z : Str, ds = [.ref d, .str z] ∧ z.length ≠ 0 ∧ z.length < 1000 ∧ ∀ c ∈ z.cps.toList, Q (.str ⟨#[c]⟩)
/-- the draw's list and cells are changed -/
theorem draw_step {d c : Addr} {H : Hp} {cells : List Int} {p m t : Int} (n : d ≠ c) (h1 : H d = some (.lst [.ref c, .int p, .int m, .int t])) (h2 : H c = some (.lst (cells.map V.int))) (h3 : cells ≠ []) (h4 : cells.length ≤ 63) (h5 : ∀ x ∈ cells, 0 ≤ x) (h6 : 0 ≤ p) (h7 : 0 ≤ m ∧ m < 2147483647) (h8 : 0 ≤ t) : (drawJ d c).inv H :=
  ⟨n, cells, p, m, t, h1, h2, h3, h4, h5, h6, h7, h8⟩
end VL

set_option Elab.async false
set_option linter.all false
set_option maxRecDepth 100000
set_option maxHeartbeats 4000000
/-! VL6: the law's start, the draw's making and taking by their readings. -/
namespace VL
open PySem PySem.Spec L2
open PyProof.Rows hiding St

/-- _law_begin(script) -/
def Fbegin : FD := fun ds Q => ∃ ns : List Int, ds = [.fz ns] ∧ ∀ cells : List Int, cells ≠ [] → cells.length ≤ 63 → (∀ x ∈ cells, 0 ≤ x) → Q (.lst [.lst (cells.map D.int), .int 0, .int 1, .int 0])
theorem len_begin {ds : List D} {Q : D → Prop} (h : Fbegin ds Q) : ds.length = 1 := by
  obtain ⟨ns, rfl, _⟩ := h
  rfl
theorem len_take {d : Addr} {ds : List D} {Q : D → Prop} (h : Ftake d ds Q) : ds.length = 2 := by
  obtain ⟨n, rfl, _⟩ := h
  rfl
theorem len_pick {d : Addr} {ds : List D} {Q : D → Prop} (h : Fpick d ds Q) : ds.length = 2 := by
  obtain ⟨n, rfl, _⟩ := h
  rfl
theorem len_pickS {d : Addr} {ds : List D} {Q : D → Prop} (h : FpickS d ds Q) : ds.length = 2 := by
  rcases h with ⟨n, rfl, _⟩ | ⟨n, rfl, _⟩ <;> rfl
/-- what the script's law is asked -/
def spLaw (K : PySem.W.Frag) : Sp := fun vs H Q _ => ∃ (a : Addr) (ns : List Int), vs = [.ref a] ∧ SqL K H a (ns.map V.int) ∧ ns.length ≤ 63 ∧ Only H ∧ ∀ H', Q (.bl true) H'
theorem law_start {K : PySem.W.Frag} {H : Hp} {a : Addr} {ns : List Int} (hl : ns.length ≤ 63) (hO : Only H) (hS : SqL K H a (ns.map V.int)) : spLaw K [.ref a] H (fun v _ => v = .bl true) fun _ _ _ => False :=
  ⟨a, ns, rfl, hS, hl, hO, fun _ => rfl⟩
/-- some state with a draw -/
def W1 : Wc where
  J := drawJ 0 1
  H0 := fun x => if x = 0 then some (.lst [.ref 1, .int 0, .int 0, .int 0]) else if x = 1 then some (.lst [.int 0]) else none
  Hv0 := fun _ => none
  inv0 := ⟨by decide, [0], 0, 0, 0, rfl, rfl, by decide, by decide, by decide, by decide, by decide, by decide⟩
  sub0 := fun _ _ h => by cases h
  nv0 := fun _ _ => rfl
theorem rp_ints_inv {K : PySem.W.Frag} {H : Hp} : ∀ (ns : List Int) {vs : List V}, RpAll K H vs (ns.map D.int) → vs = ns.map V.int
  | [], _, h => by cases h; rfl
  | n :: ns, _, h => by
    cases h with
    | cons a h =>
      cases a
      rw [rp_ints_inv ns h]
      rfl
/-- the law's body: _law_draw = _law_begin(_law_script), then the rest -/
theorem law_body {K : PySem.W.Frag} {ts : TS} {td : Addr → TDS} {N : List Str} {m : Nat} {E0' : XK} (hN : N.length = m + 2) (had : ∀ W d c, W.J = drawJ d c → AdS K W ts (td d))
    (fin : ∀ d ns, ns.length ≤ 63 → td d { nx := fun _ => False, rt := fun r => r = .bl true } (.dat (.fz ns) :: .dat (.ref d) :: List.replicate m .no))
    {vs : List V} {H : Hp} {Q : VK} {E : XK} (h : spLaw K vs H Q E) :
    tSeq (tAsg (tCall (spD Vol.no K Fbegin) [] E0' (tCons (tVar 0) tNil)) (gName 1)) ts { nx := fun _ H' => Q .non H', rt := Q } (L2.start N vs) H := by
  obtain ⟨a, ns, rfl, hS, hl, hO, out⟩ := h
  refine ⟨.ref a, rfl, ?_⟩
  refine ⟨H, [.fz ns], fun r => ∃ cells : List Int, r = .lst [.lst (cells.map D.int), .int 0, .int 1, .int 0] ∧ cells ≠ [] ∧ cells.length ≤ 63 ∧ ∀ x ∈ cells, 0 ≤ x, .refl _, trivial, fun _ z => z.elim, .cons (.fz hS) .nil, ⟨ns, rfl, fun cells h1 h2 h3 => ⟨cells, rfl, h1, h2, h3⟩⟩, ?_⟩
  rintro v r Hv' H' R rv ⟨cells, rfl, h1, h2, h3⟩
  cases rv with
  | lst hd rs =>
    rename_i d vs
    cases rs with
    | cons rc rs =>
      cases rc with
      | lst hc rcs =>
        rename_i c cvs
        cases rs with
        | cons r0 rs =>
          cases r0
          cases rs with
          | cons r1 rs =>
            cases r1
            cases rs with
            | cons r2 rs =>
              cases r2
              cases rs
              have ec := rp_ints_inv cells rcs
              subst ec
              have Hd : H' d = some (.lst [.ref c, .int 0, .int 1, .int 0]) := R.sub.lst hd
              have Hc : H' c = some (.lst (cells.map V.int)) := R.sub.lst hc
              have stay : ∀ b o, H b = some o → H' b = some o := fun b o e => R.sub.at (R.sv.at e fun kvs z => by
                  rcases hO b with q | ⟨ob, ys, q⟩
                  · rw [q] at e; cases e
                  · rw [q] at e; cases e; cases z) fun kvs z => by
                rcases hO b with q | ⟨ob, ys, q⟩
                · rw [q] at e; cases e
                · rw [q] at e; cases e; cases z
              have dc : d ≠ c := by
                rintro rfl
                rw [hd] at hc
                have z := HO.lst.inj (Option.some.inj hc)
                cases cells with
                | nil => cases z
                | cons x r => cases z
              have free : ∀ b xs, H' b = some (.lst xs) → H b = none := by
                intro b xs e
                rcases hO b with z | ⟨o, ys, z⟩
                · exact z
                · rw [stay b _ z] at e
                  cases e
              let W : Wc :=
                { J := drawJ d c, H0 := H', Hv0 := H, inv0 := draw_step dc Hd Hc h1 h2 h3 (by decide) (by decide) (by decide), sub0 := fun b o e => .inl (stay b o e),
                  nv0 := fun b v => by
                    rcases v with rfl | rfl
                    · exact free _ _ Hd
                    · exact free _ _ Hc }
              have hst : (L2.start N [.ref a]).set 1 (some (.ref d)) = some (.ref a) :: some (.ref d) :: List.replicate m none := by
                unfold L2.start
                rw [hN]
                show (some (V.ref a) :: List.replicate (m + 2 - 1) none).set 1 (some (V.ref d)) = _
                rw [show m + 2 - 1 = m + 1 from rfl, List.replicate_succ]
                rfl
              show ts { nx := fun _ H' => Q .non H', rt := Q } ((L2.start N [.ref a]).set 1 (some (.ref d))) H'
              rw [hst]
              have slots : ∀ (i : Nat) (sl : Sl), (Sl.dat (.fz ns) :: .dat (.ref d) :: List.replicate m .no)[i]? = some sl → sl.isOwn = false ∧ SlOk K W H H' sl (((some (V.ref a) :: some (.ref d) :: List.replicate m none : L2.St))[i]?.join) := by
                intro i sl e
                match i with
                | 0 => cases e; exact ⟨rfl, _, rfl, .fz hS⟩
                | 1 => cases e; exact ⟨rfl, _, rfl, .ref _⟩
                | i + 2 =>
                  have e' : (List.replicate m Sl.no)[i]? = some sl := e
                  obtain ⟨_, e2⟩ := List.getElem?_eq_some_iff.mp e'
                  rw [List.getElem_replicate] at e2
                  subst e2
                  exact ⟨rfl, trivial⟩
              have Z : Ev K W (.dat (.fz ns) :: .dat (.ref d) :: List.replicate m .no) (some (.ref a) :: some (.ref d) :: List.replicate m none) H H' :=
                ⟨⟨.refl _, fun b o e => .inl (stay b o e), fun _ _ e _ _ => e, W.inv0, W.nv0, fun _ z _ => z⟩, by simp, fun i sl e => (slots i sl e).2, fun i j sl sl' b ne e1 e2 o1 => by rw [(slots i sl e1).1] at o1; cases o1⟩
              refine had W d c rfl _ _ H H' _ _ Z (fin d ns hl) ⟨fun _ _ _ _ _ q => q.elim, fun v r Γ' σ' Hv' H' s rv q => ?_, fun _ _ _ _ _ q => q.elim, fun _ _ _ _ _ q => q.elim⟩
              have q' : r = .bl true := q
              subst q'
              cases rv
              exact out _
end VL

set_option Elab.async false
set_option linter.all false
set_option maxRecDepth 100000
set_option maxHeartbeats 4000000
/-! VL7: readings evaluated. -/
namespace VL
open PySem PySem.Spec L2
open PyProof.Rows hiding St

/-- a comprehension with one name, whose test and element are known -/
theorem goLc_1 {tt : TDT} {te : TDE} {i : Nat} {Q : D → Gm → Prop} {Γ : Gm} (f : D → D) (p : D → Bool) (hi : i < Γ.length) : ∀ (L acc : List D), acc.length + L.length ≤ sizeLine →
    (∀ d ∈ L, ∀ k : Bool → Gm → Prop, k (p d) (Γ.set i (.dat d)) → tt (Γ.set i (.dat d)) k) →
    (∀ d ∈ L, p d = true → ∀ k : D → Gm → Prop, k (f d) (Γ.set i (.dat d)) → te (Γ.set i (.dat d)) k) →
    Q (.lst (acc ++ (L.filter p).map f)) Γ → goLc (rgName i) tt te [i] Q L acc Γ
  | [], acc, _, _, _, q => by
    rw [List.filter_nil, List.map_nil, List.append_nil] at q
    exact q
  | d :: L, acc, hl, ht, he, q => by
    have eb : ∀ s : Sl, backG Γ (Γ.set i s) [i] = Γ := fun s => by
      show (Γ.set i s).set i ((Γ[i]?).getD .no) = Γ
      rw [List.set_set, List.getElem?_eq_getElem hi]
      exact List.set_getElem_self hi
    show tt ((Γ.set i .no).set i (.dat d)) _
    rw [List.set_set]
    refine ht d List.mem_cons_self _ ?_
    rw [List.length_cons] at hl
    cases hp : p d with
    | false =>
      rw [if_neg Bool.false_ne_true, eb]
      rw [List.filter_cons_of_neg (by rw [hp]; exact Bool.false_ne_true)] at q
      exact goLc_1 f p hi L acc (by omega) (fun d h => ht d (List.mem_cons_of_mem _ h)) (fun d h => he d (List.mem_cons_of_mem _ h)) q
    | true =>
      rw [if_pos rfl]
      refine he d List.mem_cons_self hp _ ⟨by omega, ?_⟩
      rw [eb]
      rw [List.filter_cons_of_pos hp, List.map_cons] at q
      refine goLc_1 f p hi L (acc ++ [f d]) (by rw [List.length_append]; show acc.length + 1 + L.length ≤ _; omega) (fun d h => ht d (List.mem_cons_of_mem _ h)) (fun d h => he d (List.mem_cons_of_mem _ h)) ?_
      rw [List.append_assoc]
      exact q
/-- the same without a test -/
theorem goLc_m {te : TDE} {i : Nat} {Q : D → Gm → Prop} {Γ : Gm} (f : D → D) (hi : i < Γ.length) (L : List D) (hl : L.length ≤ sizeLine)
    (he : ∀ d ∈ L, ∀ k : D → Gm → Prop, k (f d) (Γ.set i (.dat d)) → te (Γ.set i (.dat d)) k) (q : Q (.lst (L.map f)) Γ) : goLc (rgName i) (fun Γ Q => Q true Γ) te [i] Q L [] Γ := by
  refine goLc_1 f (fun _ => true) hi L [] (by show 0 + L.length ≤ _; omega) (fun _ _ _ h => h) (fun d h _ => he d h) ?_
  rw [List.filter_eq_self.mpr fun _ _ => rfl]
  exact q
theorem noOwn_of {Γ : Gm} {vs : List Nat} (h : (vs.all fun i => !((Γ[i]?.map Sl.isOwn).getD false)) = true) : noOwn Γ vs := fun v hv s e => by
  have := List.all_eq_true.mp h v hv
  rw [e] at this
  simpa using this
/-- a loop by an invariant over what is left -/
theorem goFor_inv {gd : TDG} {tb : TDS} {E : EndsD} (P : Gm → Prop) : ∀ (L : List D) (Γ : Gm), P Γ →
    (∀ d ∈ L, ∀ Γ, P Γ → ∀ N : Gm → Prop, (∀ Γ', P Γ' → N Γ') → gd d Γ fun Γ2 => tb { E with nx := N, ct := N, bk := E.nx } Γ2) → (∀ Γ, P Γ → E.nx Γ) → goFor gd tb E L Γ
  | [], Γ, h, _, q => q Γ h
  | d :: L, Γ, h, hs, q => hs d List.mem_cons_self Γ h _ fun Γ' h' => goFor_inv P L Γ' h' (fun d hd => hs d (List.mem_cons_of_mem _ hd)) q
end VL

set_option Elab.async false
set_option linter.all false
set_option maxRecDepth 100000
set_option maxHeartbeats 4000000
/-! VL8: methods of lists; readings told in short. -/
namespace VL
open PySem PySem.Spec L2
open PyProof.Rows hiding St
section
variable {W : Wc} {X : Cx} {e : Expr} {te : TE} {de : TDE} {x : Str} {p apos cpos : Pos} {i : Nat}
theorem d_append (he : DE W X e te de) (hN : X.N[i]? = some x := by rfl) (hv : Vis X.env.scope x := by first | exact Or.inl rfl | exact Or.inr (Or.inl rfl) | exact Or.inr (Or.inr rfl)) (hd : (x == ("__debug__" : Str)) = false := by decide)
    (hcd : (x == ("__classdict__" : Str)) = false := by decide) (hbase : attributeBase (.Name x p) "append" X.env (eval (.Name x p) X.env) = eval (.Name x p) X.env := by rfl)
    (hfew : ((backTo cpos (starEach [e] X.env)).all (fun x => !x.1) && (backToKw cpos (keywordEach [] X.env)).all (fun x => x.1.isSome)
      && decide ([e].length + ([] : List Keyword).length + (if ([] : List Keyword).isEmpty then 0 else 1) < 30)) = true := by rfl)
    (hline : (apos.endLine == cpos.line) = true := by rfl) (hs : starEach [e] X.env = (false, eval e X.env) :: starEach [] X.env := by rfl) (hplain : (backTo cpos (starEach [] X.env)).any (·.1) = false := by rfl) :
    DE W X (.Call (.Attribute (.Name x p) "append" apos) [e] [] cpos) (tBM X.K "list" rAppend (tVar i) (tCons te tNil)) (rdApp i de) :=
  ⟨pe_bm PySem.F.plainAttrs_list PySem.F.slot_list_append PySem.F.type_list_append mt_append (pe_var hN hv hd hcd) (pa_cons he.pe pa_nil hs) hbase hfew hline hs hplain, ad_app he.ad⟩
end
/-- a comprehension with one name over the data of xs -/
theorem goLc_a {α : Type} {tt : TDT} {te : TDE} {i : Nat} {Q : D → Gm → Prop} {Γ : Gm} (g : α → D) (p : α → Bool) (f : α → D) (hi : i < Γ.length) : ∀ (L : List α) (acc : List D), acc.length + L.length ≤ sizeLine →
    (∀ a ∈ L, ∀ k : Bool → Gm → Prop, k (p a) (Γ.set i (.dat (g a))) → tt (Γ.set i (.dat (g a))) k) →
    (∀ a ∈ L, p a = true → ∀ k : D → Gm → Prop, k (f a) (Γ.set i (.dat (g a))) → te (Γ.set i (.dat (g a))) k) →
    Q (.lst (acc ++ (L.filter p).map f)) Γ → goLc (rgName i) tt te [i] Q (L.map g) acc Γ
  | [], acc, _, _, _, q => by
    rw [List.filter_nil, List.map_nil, List.append_nil] at q
    exact q
  | d :: L, acc, hl, ht, he, q => by
    have eb : ∀ s : Sl, backG Γ (Γ.set i s) [i] = Γ := fun s => by
      show (Γ.set i s).set i ((Γ[i]?).getD .no) = Γ
      rw [List.set_set, List.getElem?_eq_getElem hi]
      exact List.set_getElem_self hi
    show tt ((Γ.set i .no).set i (.dat (g d))) _
    rw [List.set_set]
    refine ht d List.mem_cons_self _ ?_
    rw [List.length_cons] at hl
    cases hp : p d with
    | false =>
      rw [if_neg Bool.false_ne_true, eb]
      rw [List.filter_cons_of_neg (by rw [hp]; exact Bool.false_ne_true)] at q
      exact goLc_a g p f hi L acc (by omega) (fun d h => ht d (List.mem_cons_of_mem _ h)) (fun d h => he d (List.mem_cons_of_mem _ h)) q
    | true =>
      rw [if_pos rfl]
      refine he d List.mem_cons_self hp _ ⟨by omega, ?_⟩
      rw [eb]
      rw [List.filter_cons_of_pos hp, List.map_cons] at q
      refine goLc_a g p f hi L (acc ++ [f d]) (by rw [List.length_append]; show acc.length + 1 + L.length ≤ _; omega) (fun d h => ht d (List.mem_cons_of_mem _ h)) (fun d h => he d (List.mem_cons_of_mem _ h)) ?_
      rw [List.append_assoc]
      exact q
theorem goLc_b {α : Type} {te : TDE} {i : Nat} {Q : D → Gm → Prop} {Γ : Gm} (g : α → D) (f : α → D) (hi : i < Γ.length) (L : List α) (hl : L.length ≤ sizeLine)
    (he : ∀ a ∈ L, ∀ k : D → Gm → Prop, k (f a) (Γ.set i (.dat (g a))) → te (Γ.set i (.dat (g a))) k) (q : Q (.lst (L.map f)) Γ) : goLc (rgName i) (fun Γ Q => Q true Γ) te [i] Q (L.map g) [] Γ := by
  refine goLc_a g (fun _ => true) f hi L [] (by show 0 + L.length ≤ _; omega) (fun _ _ _ h => h) (fun d h _ => he d h) ?_
  rw [List.filter_eq_self.mpr fun _ _ => rfl]
  exact q
/-- in: a sign in a text -/
theorem rdIn_sign {neg : Bool} {c : Nat} {z : Str} {Q : D → Prop} (q : Q (.bl (neg ^^ decide (c ∈ z.cps.toList)))) : rdIn neg (.str ⟨#[c]⟩) (.str z) Q := ⟨c, rfl, q⟩
theorem rdIn_sg0 {c : Nat} {z : Str} {Q : D → Prop} (q : Q (.bl (decide (c ∈ z.cps.toList)))) : rdIn false (.str ⟨#[c]⟩) (.str z) Q := ⟨c, rfl, by rw [Bool.false_xor]; exact q⟩
theorem rdIn_sg1 {c : Nat} {z : Str} {Q : D → Prop} (q : Q (.bl (!decide (c ∈ z.cps.toList)))) : rdIn true (.str ⟨#[c]⟩) (.str z) Q := ⟨c, rfl, by rw [Bool.true_xor]; exact q⟩
theorem asBs_maps {α : Type} (L : List α) (p : α → Bool) : asBs (L.map fun a => D.bl (p a)) = some (L.map p) := by
  induction L with
  | nil => rfl
  | cons b r ih => show (asBs (r.map _)).map (p b :: ·) = _; rw [ih]; rfl
theorem all_id {α : Type} (L : List α) (p : α → Bool) : (L.map p).all id = L.all p := by
  rw [List.all_map]; rfl
theorem any_id {α : Type} (L : List α) (p : α → Bool) : (L.map p).any id = L.any p := by
  rw [List.any_map]; rfl
theorem lenS (z : Str) : z.cps.toList.length = z.length := Array.length_toList
/-! ### slices from or up to a plain place -/
theorem drop_min {α : Type} (xs : List α) (k n : Nat) (h : xs.length = n) : xs.drop (min k n) = xs.drop k := by
  by_cases q : k ≤ n
  · rw [Nat.min_eq_left q]
  · rw [Nat.min_eq_right (by omega), List.drop_of_length_le (by omega), List.drop_of_length_le (by omega)]
theorem take_min {α : Type} (xs : List α) (k n : Nat) (h : xs.length = n) : xs.take (min k n) = xs.take k := by
  by_cases q : k ≤ n
  · rw [Nat.min_eq_left q]
  · rw [Nat.min_eq_right (by omega), List.take_of_length_le (by omega), List.take_of_length_le (by omega)]
theorem cutS_from (z : Str) (k : Nat) : (cutS z (some (k : Int)) none).cps.toList = z.cps.toList.drop k := by
  show ((z.cps.toList.drop (HT.sIx z.length 0 (some (k : Int)))).take (z.length - HT.sIx z.length 0 (some (k : Int)))) = _
  rw [HT.sIx_nat, drop_min _ _ _ (lenS z), List.take_of_length_le]
  rw [List.length_drop, lenS]
  omega
theorem cutS_to (z : Str) (k : Nat) : (cutS z none (some (k : Int))).cps.toList = z.cps.toList.take k := by
  show ((z.cps.toList.drop 0).take (HT.sIx z.length z.length (some (k : Int)) - 0)) = _
  rw [HT.sIx_nat, List.drop_zero, Nat.sub_zero, take_min _ _ _ (lenS z)]
theorem cutD_from (xs : List D) (k : Nat) : cutD xs (some (k : Int)) none = xs.drop k := by
  show ((xs.drop (HT.sIx xs.length 0 (some (k : Int)))).take (xs.length - HT.sIx xs.length 0 (some (k : Int)))) = _
  rw [HT.sIx_nat, drop_min _ _ _ rfl, List.take_of_length_le]
  rw [List.length_drop]
  omega
theorem cutD_to (xs : List D) (k : Nat) : cutD xs none (some (k : Int)) = xs.take k := by
  show ((xs.drop 0).take (HT.sIx xs.length xs.length (some (k : Int)) - 0)) = _
  rw [HT.sIx_nat, List.drop_zero, Nat.sub_zero, take_min _ _ _ rfl]
theorem str_of_list (z : Str) : z = ⟨z.cps.toList.toArray⟩ := by
  obtain ⟨⟨l⟩⟩ := z
  rfl
theorem atI_n {α : Type} (xs : List α) (k : Nat) : atI xs (k : Int) = xs[k]? := by
  unfold atI ixN
  by_cases h : k < xs.length
  · rw [if_pos (Int.natCast_nonneg k), if_pos (by omega)]
    rfl
  · rw [if_pos (Int.natCast_nonneg k), if_neg (by omega), List.getElem?_eq_none (by omega)]
    rfl
/-! ### picks, loops -/
theorem pickS_lst {d : Addr} {xs : List D} {Q : D → Prop} (h1 : xs ≠ []) (h2 : xs.length < 1000) (q : ∀ x ∈ xs, Q x) : FpickS d [.ref d, .lst xs] Q := .inl ⟨xs, rfl, h1, h2, q⟩
theorem pickS_str {d : Addr} {z : Str} {Q : D → Prop} (h1 : z.length ≠ 0) (h2 : z.length < 1000) (q : ∀ c ∈ z.cps.toList, Q (.str ⟨#[c]⟩)) : FpickS d [.ref d, .str z] Q := .inr ⟨z, rfl, h1, h2, q⟩
theorem pick_lst {d : Addr} {xs : List D} {Q : D → Prop} (h1 : xs ≠ []) (h2 : xs.length < 1000) (q : ∀ x ∈ xs, Q x) : Fpick d [.ref d, .lst xs] Q := ⟨xs, rfl, h1, h2, q⟩
theorem take_ok {d : Addr} {n : Int} {Q : D → Prop} (h1 : 0 < n) (h2 : n < 1073741824) (q : ∀ r : Nat, (r : Int) < n → Q (.int r)) : Ftake d [.ref d, .int n] Q := ⟨n, rfl, ⟨h1, h2⟩, fun r h3 h4 => by
  have := q r.toNat (by omega)
  rw [Int.toNat_of_nonneg h3] at this
  exact this⟩
/-- a loop by an invariant that counts -/
theorem goFor_n {gd : TDG} {tb : TDS} {E : EndsD} (P : Nat → Gm → Prop) : ∀ (L : List D) (i : Nat) (Γ : Gm), P i Γ →
    (∀ j d, i ≤ j → L[j - i]? = some d → ∀ Γ, P j Γ → ∀ N : Gm → Prop, (∀ Γ', P (j + 1) Γ' → N Γ') → gd d Γ fun Γ2 => tb { E with nx := N, ct := N, bk := E.nx } Γ2) → (∀ Γ, P (i + L.length) Γ → E.nx Γ) → goFor gd tb E L Γ
  | [], i, Γ, h, _, q => q Γ h
  | d :: L, i, Γ, h, hs, q => hs i d (Nat.le_refl _) (by rw [Nat.sub_self]; rfl) Γ h _ fun Γ' h' => goFor_n P L (i + 1) Γ' h' (fun j e hj he => hs j e (by omega) (by rw [show j - i = (j - (i + 1)) + 1 by omega]; exact he)) (fun Γ hq => q Γ (by rw [List.length_cons, show i + (L.length + 1) = i + 1 + L.length by omega]; exact hq))
theorem len_one (c : Nat) : (⟨#[c]⟩ : Str).length = 1 := rfl
theorem len_app (a b : Str) : (a ++ b).length = a.length + b.length := Array.size_append
/-- the draw's start -/
def rdBegin : TDS :=
    (rdRet (rdShare (rdLst (rdCons (rdOrT (rdShare (rdLc (rdILst (rdSl rdSlA (rdVar 0) rdNoPart (rdPart (rdC (.int 63))))) (rgName 1) (fun Γ Q => Q true Γ) (rdCB rdAbs (rdCons (rdVar 1) rdNil)) [1])) (rdShare (rdLst (rdCons (rdC (.int 7)) rdNil)))) (rdCons (rdC (.int 0)) (rdCons (rdC (.int 1)) (rdCons (rdC (.int 0)) rdNil)))))))
theorem rdl_begin {ds : List D} {Q : D → Prop} (h : Fbegin ds Q) : rdBegin { nx := fun _ => Q .non, rt := Q } (startG ["_law_script", "_law_cell"] ds) := by
  obtain ⟨ns, rfl, q⟩ := h
  refine ⟨noOwn_of (by rfl), ?_⟩
  show goLc _ _ _ _ _ (cutD (ns.map D.int) none (some ((63 : Nat) : Int))) [] _
  rw [cutD_to, ← List.map_take]
  have hl : (ns.take 63).length ≤ 63 := by rw [List.length_take]; omega
  refine goLc_b D.int (fun i => .int (if i < 0 then -i else i)) (show 1 < 2 by decide) _ (Nat.le_trans hl (by decide)) (fun i hi k hk => hk) ?_
  cases e : ns.take 63 with
  | nil => exact ⟨small_of (by decide), small_of (by decide), q [7] (by simp) (by decide) (by intro x hx; simp at hx; omega)⟩
  | cons n r =>
    refine ⟨small_of (show 4 ≤ 1000 by decide), ?_⟩
    have q' := q ((ns.take 63).map fun i => if i < 0 then -i else i) (by rw [e]; simp) (by rw [List.length_map]; exact hl) (fun x hx => by
      obtain ⟨i, _, rfl⟩ := List.mem_map.mp hx
      split <;> omega)
    rw [List.map_map, e] at q'
    exact q'
/-- _law_pick -/
def rdPick (d : Addr) : TDS :=
    (rdRet (rdOp rdIx (rdVar 1) (rdCall (Ftake d) [] (rdCons (rdVar 0) (rdCons (rdCB rdLen (rdCons (rdVar 1) rdNil)) rdNil)))))
theorem rdl_pick {d : Addr} {ds : List D} {Q : D → Prop} (h : FpickS d ds Q) : rdPick d { nx := fun _ => Q .non, rt := Q } (startG ["_law_draw", "_law_some"] ds) := by
  rcases h with ⟨xs, rfl, h1, h2, q⟩ | ⟨z, rfl, h1, h2, q⟩
  · have h0 : 0 < xs.length := List.length_pos_iff.mpr h1
    unfold rdPick
    simp only [rdRet, rdOp, rdVar, rdCall, rdCons, rdNil, rdCB, rdLen, startG, List.map_cons, List.map_nil, List.cons_append, List.nil_append, List.append_nil, List.getElem?_cons_zero, List.getElem?_cons_succ, List.length_cons, List.length_nil, List.replicate]
    refine take_ok (by omega) (by omega) fun r hr => ?_
    have hr' : r < xs.length := by omega
    show ∃ x, atI xs r = some x ∧ Q x
    refine ⟨xs[r], ?_, q _ (List.getElem_mem hr')⟩
    rw [atI_n]
    exact List.getElem?_eq_getElem hr'
  · have hz : z.length ≤ sizeLine := Nat.le_trans (Nat.le_of_lt h2) (by decide)
    unfold rdPick
    simp only [rdRet, rdOp, rdVar, rdCall, rdCons, rdNil, rdCB, rdLen, startG, List.map_cons, List.map_nil, List.cons_append, List.nil_append, List.append_nil, List.getElem?_cons_zero, List.getElem?_cons_succ, List.length_cons, List.length_nil, List.replicate]
    refine ⟨hz, take_ok (by omega) (by omega) fun r hr => ?_⟩
    refine ⟨hz, ?_⟩
    have hr' : r < z.cps.toList.length := by rw [lenS]; omega
    refine ⟨z.cps.toList[r], ?_, q _ (List.getElem_mem hr')⟩
    rw [atI_n]
    exact List.getElem?_eq_getElem hr'
/-! ### data that == and repr may look at -/
def okN (n : Nat) (d : D) : Prop := pl d = true ∧ PyData.canLay0 (py d) = true ∧ PyData.depth (py d) ≤ n
theorem okN.e {n : Nat} {d : D} (h : okN n d) (hn : n ≤ 64) : okE d := ⟨h.1, by
  show (PyData.canLay0 (py d) && decide (PyData.depth (py d) ≤ 64)) = true
  rw [h.2.1, decide_eq_true (Nat.le_trans h.2.2 hn)]
  rfl⟩
theorem okN.up {n m : Nat} {d : D} (h : okN n d) (hn : n ≤ m) : okN m d := ⟨h.1, h.2.1, Nat.le_trans h.2.2 hn⟩
theorem okN_non : okN 0 .non := ⟨rfl, rfl, Nat.le_refl _⟩
theorem okN_bl (b : Bool) : okN 0 (.bl b) := ⟨rfl, rfl, Nat.le_refl _⟩
theorem okN_int (i : Int) : okN 0 (.int i) := ⟨rfl, rfl, Nat.le_refl _⟩
theorem okN_str {z : Str} (h : PyData.strOk z = true) : okN 0 (.str z) := ⟨rfl, h, Nat.le_refl _⟩
theorem okN_all {n : Nat} : ∀ {ds : List D}, (∀ d ∈ ds, okN n d) → plAll ds = true ∧ PyData.canLayAll0 (pyAll ds) = true ∧ PyData.depthAll (pyAll ds) ≤ n
  | [], _ => ⟨rfl, rfl, Nat.zero_le _⟩
  | d :: ds, h => by
    obtain ⟨a1, a2, a3⟩ := h d List.mem_cons_self
    obtain ⟨b1, b2, b3⟩ := okN_all fun d hd => h d (List.mem_cons_of_mem _ hd)
    unfold plAll pyAll
    simp only [PyData.canLayAll0, PyData.depthAll, a1, a2, b1, b2, Bool.and_self, true_and]
    omega
theorem okN_lst {n : Nat} {ds : List D} (h : ∀ d ∈ ds, okN n d) : okN (n + 1) (.lst ds) := by
  obtain ⟨b1, b2, b3⟩ := okN_all h
  refine ⟨b1, ?_, ?_⟩
  · unfold py; simp only [PyData.canLay0]; exact b2
  · unfold py; simp only [PyData.depth]; omega
theorem okN_tup {n : Nat} {ds : List D} (h : ∀ d ∈ ds, okN n d) : okN (n + 1) (.tup ds) := by
  obtain ⟨b1, b2, b3⟩ := okN_all h
  refine ⟨b1, ?_, ?_⟩
  · unfold py; simp only [PyData.canLay0]; exact b2
  · unfold py; simp only [PyData.depth]; omega
theorem eqD_nil (ds : List D) : eqD (.lst ds) (.lst []) = ds.isEmpty := by
  cases ds with
  | nil => rfl
  | cons d r =>
    show PyData.eqv (py (.lst (d :: r))) (py (.lst [])) = false
    unfold py pyAll
    simp only [PyData.eqv, PyData.eqvAll]
theorem strOk_all {z : Str} : PyData.strOk z = true ↔ ∀ c ∈ z.cps.toList, c < 1114112 := by
  unfold PyData.strOk
  rw [Array.all_eq_true']
  simp only [Array.mem_toList_iff, decide_eq_true_eq]
theorem strOk_one {c : Nat} (h : c < 1114112) : PyData.strOk ⟨#[c]⟩ = true := by
  rw [strOk_all]
  intro d hd
  have : d = c := by simpa using hd
  omega
theorem strOk_app {a b : Str} (ha : PyData.strOk a = true) (hb : PyData.strOk b = true) : PyData.strOk (a ++ b) = true := by
  rw [strOk_all] at ha hb ⊢
  intro c hc
  have : c ∈ a.cps.toList ++ b.cps.toList := by
    rw [← Array.toList_append]
    exact hc
  rcases List.mem_append.mp this with h | h
  · exact ha c h
  · exact hb c h
end VL

set_option Elab.async false
set_option linter.all false
set_option maxRecDepth 100000
set_option maxHeartbeats 4000000
/-! VL9: _law_take, by what its walk asks. -/
namespace VL
open PySem PySem.Spec L2
open PyProof.Rows hiding St
def rInt1 : List V → Hp → VK → Prop := fun xs H Q => (∃ i, xs = [.int i] ∧ Q (.int i) H) ∨ ∃ k, xs = [.bl k] ∧ Q (.int (if k then 1 else 0)) H
def rMod : R2 := rI (fun _ j => 0 < j) fun i j => .int (i % j)
def tIt (K : PySem.W.Frag) (t : TE) (i : Int) : TE := tOp (rIx K) t (tC (.int i))
def tI1 (t : TE) : TE := tCB rInt1 (tCons t tNil)
def rAddI : R2 := rI0 fun i j => .int (i + j)
def rMulI : R2 := rI CMul fun i j => .int (i * j)
def tTake (K : PySem.W.Frag) : TS :=
  tSeq (tAsg (tIt K (tVar 0) 0) (gName 2)) <|
  tSeq (tAsg (tOp rMod (tI1 (tIt K (tVar 0) 1)) (tCB (rLenA K) (tCons (tVar 2) tNil))) (gName 3)) <|
  tSeq (tAsg (tOp (rIx K) (tVar 2) (tVar 3)) (gName 4)) <|
  tSeq (tIfS (tTest (tOp (rI0 fun i j => .bl (decide (j ≤ i))) (tVar 4) (tOp (rI CPow fun i j => .int (i ^ j.toNat)) (tC (.int 10)) (tC (.int 18)))))
    (tSeq (tAsg (tOp (rI CDiv fun i j => .int (i / j)) (tVar 4) (tVar 1)) (gSub (tVar 2) (tVar 3) rSetL)) (tRet (tOp rMod (tI1 (tVar 4)) (tVar 1)))) tNext) <|
  tSeq (tAsg (tOp rAddI (tIt K (tVar 0) 1) (tC (.int 1))) (gSub (tVar 0) (tC (.int 1)) rSetL)) <|
  tSeq (tAsg (tOp rAddI (tIt K (tVar 0) 3) (tC (.int 1))) (gSub (tVar 0) (tC (.int 3)) rSetL)) <|
  tSeq (tAsg (tOp rMod (tI1 (tOp rAddI (tOp rAddI (tOp rAddI (tOp rMulI (tIt K (tVar 0) 2) (tC (.int 48271))) (tVar 4)) (tOp rMulI (tC (.int 7919)) (tIt K (tVar 0) 3))) (tC (.int 12345)))) (tC (.int 2147483647))) (gSub (tVar 0) (tC (.int 2)) rSetL)) <|
  tSeq (tAsg (tOp rMod (tI1 (tOp rMulI (tIt K (tVar 0) 2) (tIt K (tVar 0) 2))) (tC (.int 2147483629))) (gName 5)) <|
  tRet (tOp rMod (tI1 (tOp (rI CDiv fun i j => .int (i / j)) (tVar 5) (tC (.int 16)))) (tVar 1))
section
variable {K : PySem.W.Frag}
theorem it_ok {H : Hp} {σ : L2.St} {a : Addr} {xs : List V} {v : V} {Q : VK} {i : Nat} {t : TE} (ht : ∀ Q' : VK, Q' (.ref a) H → t σ H Q') (h : H a = some (.lst xs)) (e : xs[i]? = some v) (q : Q v H) : tIt K t (i : Int) σ H Q :=
  ht _ (.inl ⟨a, xs, _, v, rfl, rfl, .of h, by rw [atI_n]; exact e, q⟩)
theorem var_ok {H : Hp} {σ : L2.St} {v : V} {i : Nat} {Q : VK} (e : σ[i]? = some (some v)) (q : Q v H) : tVar i σ H Q := ⟨v, e, q⟩
theorem draw_ret {d c : Addr} {Hv H H' : Hp} {W : Vol} (hW : W = drawJ d c) (sub : Sub Hv H) (nv : ∀ a, W.vol a → Hv a = none) (same : ∀ a, a ≠ d → a ≠ c → H' a = H a) (inv : W.inv H') : Ret W.vol W.inv Hv H Hv H' := by
  subst hW
  refine ⟨.refl _, fun a u e => ?_, fun a u e _ n => ?_, inv, nv, fun _ z _ => z⟩
  · have n1 : a ≠ d := by rintro rfl; rw [nv _ (.inl rfl)] at e; cases e
    have n2 : a ≠ c := by rintro rfl; rw [nv _ (.inr rfl)] at e; cases e
    rw [same a n1 n2]; exact sub _ _ e
  · rw [same a (fun z => n (.inl z)) (fun z => n (.inr z))]; exact e
theorem mod_ok {H : Hp} {i j : Int} {Q : VK} (h : 0 < j) (q : Q (.int (i % j)) H) : rMod (.int i) (.int j) H Q := ⟨i, j, rfl, rfl, h, q⟩
theorem take_sem {d c : Addr} {N : List Str} (hN : N.length = 6) {vs : List V} {H : Hp} {Q : VK} {E : XK} (h : spD (drawJ d c) K (Ftake d) vs H Q E) : tTake K { nx := fun _ H' => Q .non H', rt := Q } (L2.start N vs) H := by
  obtain ⟨Hv, ds, Qd, sub, ⟨dc, cells, p, m, t, h1, h2, h3, h4, h5, h6, h7, h8⟩, nv, r, hf, out⟩ := h
  obtain ⟨n, rfl, ⟨hn1, hn2⟩, hq⟩ := hf
  obtain ⟨v, w, rfl, rv, rw'⟩ := r.two
  cases rv; cases rw'
  have hst : L2.start N [.ref d, .int n] = [some (.ref d), some (.int n), none, none, none, none] := by
    unfold L2.start
    rw [hN]; rfl
  rw [hst]
  have fin : ∀ (r : Int) (H' : Hp), 0 ≤ r → r < n → (∀ a, a ≠ d → a ≠ c → H' a = H a) → (drawJ d c).inv H' → Q (.int r) H' := fun r H' a1 a2 a3 a4 => out (.int r) (.int r) Hv H' (draw_ret rfl sub nv a3 a4) (.int r) (hq r a1 a2)
  have hcl : 0 < cells.length := List.length_pos_iff.mpr h3
  simp only [tTake, tSeq, tAsg, gName, tOp, tIfS, tTest, gSub, tRet, tI1, tCB, tCons, tNil, tC, List.set]
  refine it_ok (i := 0) (fun Q' q => var_ok rfl q) h1 rfl ?_
  refine it_ok (i := 1) (fun Q' q => var_ok rfl q) h1 rfl ?_
  refine Or.inl ⟨p, rfl, ?_⟩
  refine var_ok (v := .ref c) rfl ?_
  refine Or.inl ⟨c, _, rfl, Or.inl (.of h2), ?_⟩
  rw [List.length_map]
  refine mod_ok (by omega) ?_
  have pl0 : 0 ≤ p % (cells.length : Int) := Int.emod_nonneg _ (by omega)
  have pl1 : p % (cells.length : Int) < cells.length := Int.emod_lt_of_pos _ (by omega)
  obtain ⟨i, hi⟩ : ∃ i : Nat, p % (cells.length : Int) = i := ⟨_, (Int.toNat_of_nonneg pl0).symm⟩
  have hil : i < cells.length := by omega
  rw [hi]
  refine var_ok (v := .ref c) rfl ?_
  refine var_ok (v := .int i) rfl ?_
  refine Or.inl ⟨c, _, _, .int cells[i], rfl, rfl, .of h2, by rw [atI_n, List.getElem?_map, List.getElem?_eq_getElem hil]; rfl, ?_⟩
  have hx0 : 0 ≤ cells[i] := h5 _ (List.getElem_mem hil)
  generalize cells[i] = x at hx0
  refine var_ok (v := .int x) rfl ⟨10, 18, rfl, rfl, ⟨by decide, by decide, by decide⟩, x, _, rfl, rfl, _, rfl, ?_⟩
  split
  · -- the cell is a long one: its own digits are taken
    refine var_ok (v := .int x) rfl ?_
    refine var_ok (v := .int n) rfl ⟨x, n, rfl, rfl, ⟨hn1, hn2⟩, ?_⟩
    refine var_ok (v := .ref c) rfl ?_
    refine var_ok (v := .int i) rfl ⟨c, _, _, i, rfl, rfl, h2, ?_, ?_⟩
    · unfold ixN
      rw [List.length_map, if_pos (Int.natCast_nonneg i), if_pos (by omega)]
      rfl
    · refine var_ok (v := .int x) rfl ?_
      refine Or.inl ⟨x, rfl, ?_⟩
      refine var_ok (v := .int n) rfl ?_
      refine mod_ok hn1 ?_
      refine fin _ _ (Int.emod_nonneg _ (by omega)) (Int.emod_lt_of_pos _ hn1) (fun a n1 n2 => upd_ne n2) ?_
      refine ⟨dc, cells.set i (x / n), p, m, t, ?_, ?_, ?_, ?_, ?_, h6, h7, h8⟩
      · rw [upd_ne dc]; exact h1
      · rw [upd_same, List.map_set]
      · intro z
        have := congrArg List.length z
        rw [List.length_set, List.length_nil] at this
        omega
      · rw [List.length_set]; exact h4
      · intro y hy
        rcases List.mem_or_eq_of_mem_set hy with hy | rfl
        · exact h5 y hy
        · exact Int.ediv_nonneg hx0 (by omega)
  · -- the draw's own counting
    refine it_ok (i := 1) (fun Q' q => var_ok rfl q) h1 rfl ⟨p, 1, rfl, rfl, ?_⟩
    refine var_ok (v := .ref d) rfl ⟨d, _, 1, 1, rfl, rfl, h1, rfl, ?_⟩
    have g1 : upd H d (.lst [.ref c, .int (p + 1), .int m, .int t]) d = some (.lst [.ref c, .int (p + 1), .int m, .int t]) := upd_same
    refine it_ok (i := 3) (fun Q' q => var_ok rfl q) g1 rfl ⟨t, 1, rfl, rfl, ?_⟩
    refine var_ok (v := .ref d) rfl ⟨d, _, 3, 3, rfl, rfl, g1, rfl, ?_⟩
    have g2 : upd (upd H d (.lst [.ref c, .int (p + 1), .int m, .int t])) d (.lst [.ref c, .int (p + 1), .int m, .int (t + 1)]) d = some (.lst [.ref c, .int (p + 1), .int m, .int (t + 1)]) := upd_same
    refine it_ok (i := 2) (fun Q' q => var_ok rfl q) g2 rfl ⟨m, 48271, rfl, rfl, Or.inr ⟨by decide, by decide⟩, ?_⟩
    refine var_ok (v := .int x) rfl ⟨_, x, rfl, rfl, ?_⟩
    refine it_ok (i := 3) (fun Q' q => var_ok rfl q) g2 rfl ⟨7919, t + 1, rfl, rfl, Or.inl ⟨by decide, by decide⟩, _, _, rfl, rfl, ?_⟩
    refine ⟨_, 12345, rfl, rfl, Or.inl ⟨_, rfl, mod_ok (by decide) ?_⟩⟩
    refine var_ok (v := .ref d) rfl ⟨d, _, 2, 2, rfl, rfl, g2, rfl, ?_⟩
    generalize hm : (m * 48271 + x + 7919 * (t + 1) + 12345) % 2147483647 = m2
    have m0 : 0 ≤ m2 ∧ m2 < 2147483647 := by subst hm; exact ⟨Int.emod_nonneg _ (by decide), Int.emod_lt_of_pos _ (by decide)⟩
    have g3 : upd (upd (upd H d (.lst [.ref c, .int (p + 1), .int m, .int t])) d (.lst [.ref c, .int (p + 1), .int m, .int (t + 1)])) d (.lst [.ref c, .int (p + 1), .int m2, .int (t + 1)]) d = some (.lst [.ref c, .int (p + 1), .int m2, .int (t + 1)]) := upd_same
    have big : (2147483647 : Int) < 2 ^ 64 := by decide
    refine it_ok (i := 2) (fun Q' q => var_ok rfl q) g3 rfl ?_
    refine it_ok (i := 2) (fun Q' q => var_ok rfl q) g3 rfl ⟨m2, m2, rfl, rfl, Or.inl ⟨by omega, by omega⟩, Or.inl ⟨_, rfl, mod_ok (by decide) ?_⟩⟩
    simp only [gName, tRet, tOp, tCB, tCons, tC, tNil, List.set]
    refine var_ok (v := .int (m2 * m2 % 2147483629)) rfl ⟨_, 16, rfl, rfl, ⟨by decide, by decide⟩, Or.inl ⟨_, rfl, ?_⟩⟩
    refine var_ok (v := .int n) rfl ?_
    refine mod_ok hn1 ?_
    refine fin _ _ (Int.emod_nonneg _ (by omega)) (Int.emod_lt_of_pos _ hn1) (fun a n1 n2 => by rw [upd_ne n1, upd_ne n1, upd_ne n1]) ?_
    refine ⟨dc, cells, p + 1, m2, t + 1, g3, ?_, h3, h4, h5, by omega, m0, by omega⟩
    rw [upd_ne (Ne.symm dc), upd_ne (Ne.symm dc), upd_ne (Ne.symm dc)]
    exact h2
end
theorem p_var {X : Cx} {i : Nat} {x : Str} {pos : Pos} (hN : X.N[i]? = some x := by rfl) (hv : Vis X.env.scope x := by first | exact Or.inl rfl | exact Or.inr (Or.inl rfl) | exact Or.inr (Or.inr rfl)) (hd : (x == ("__debug__" : Str)) = false := by decide)
    (hcd : (x == ("__classdict__" : Str)) = false := by decide) : PE X (.Name x pos) (tVar i) := pe_var hN hv hd hcd
end VL

set_option Elab.async false
set_option linter.all false
set_option maxRecDepth 100000
set_option maxHeartbeats 4000000
/-! VL10: readings of data, one equation a shape; values that two ways come to. -/
namespace VL
open PySem PySem.Spec L2
open PyProof.Rows hiding St
section
variable {Q : D → Prop} {a b : Str} {i j : Int} {x y : D} {xs ys : List D} {neg : Bool} {k : Bool → Prop}
theorem asB_e {c : Bool} : asB (.bl c) k = k c := rfl
theorem asI_e {k : Int → Prop} : asI (.int i) k = k i := rfl
theorem asL_e {k : List D → Prop} : asL (.lst xs) k = k xs := rfl
theorem asT_e {k : List D → Prop} : asT (.tup xs) k = k xs := rfl
theorem asS_e {k : Str → Prop} : asS (.str a) k = k a := rfl
theorem rngOf_e {k : List D → Prop} : rngOf [.int j] k = ((-(2 ^ 62) ≤ j ∧ j < 2 ^ 62) ∧ k (rangeD j.toNat)) := rfl
theorem rdEq_s : rdEq (.str a) (.str b) Q = Q (.bl (decide (a = b))) := rfl
theorem rdEq_i : rdEq (.int i) (.int j) Q = Q (.bl (decide (i = j))) := rfl
theorem rdEq_l : rdEq (.lst xs) y Q = (okE (.lst xs) ∧ okE y ∧ Q (.bl (eqD (.lst xs) y))) := rfl
theorem rdEq_t : rdEq (.tup xs) y Q = (okE (.tup xs) ∧ okE y ∧ Q (.bl (eqD (.tup xs) y))) := rfl
theorem rdEq_b {c : Bool} : rdEq (.bl c) y Q = (okE (.bl c) ∧ okE y ∧ Q (.bl (eqD (.bl c) y))) := rfl
theorem rdEq_n : rdEq .non y Q = (okE .non ∧ okE y ∧ Q (.bl (eqD .non y))) := rfl
theorem rdEq_sn : rdEq (.str a) .non Q = (okE (.str a) ∧ okE .non ∧ Q (.bl (eqD (.str a) .non))) := rfl
theorem rdNe_s : rdNe (.str a) (.str b) Q = Q (.bl (!decide (a = b))) := rfl
theorem rdNe_i : rdNe (.int i) (.int j) Q = Q (.bl (!decide (i = j))) := rfl
theorem rdNe_l : rdNe (.lst xs) y Q = (okE (.lst xs) ∧ okE y ∧ Q (.bl (!eqD (.lst xs) y))) := rfl
theorem rdNe_t : rdNe (.tup xs) y Q = (okE (.tup xs) ∧ okE y ∧ Q (.bl (!eqD (.tup xs) y))) := rfl
theorem rdNe_b {c : Bool} : rdNe (.bl c) y Q = (okE (.bl c) ∧ okE y ∧ Q (.bl (!eqD (.bl c) y))) := rfl
theorem rdNe_n : rdNe .non y Q = (okE .non ∧ okE y ∧ Q (.bl (!eqD .non y))) := rfl
theorem rdNe_sn : rdNe (.str a) .non Q = (okE (.str a) ∧ okE .non ∧ Q (.bl (!eqD (.str a) .non))) := rfl
theorem rdIn_l : rdIn neg x (.lst ys) Q = (okE x ∧ okE (.lst ys) ∧ Q (.bl (neg ^^ isIn x ys))) := by cases x <;> rfl
theorem rdIn_t : rdIn neg x (.tup ys) Q = (okE x ∧ okE (.tup ys) ∧ Q (.bl (neg ^^ isIn x ys))) := by cases x <;> rfl
theorem rdIn_s {c : Nat} : rdIn neg (.str ⟨#[c]⟩) (.str b) Q = Q (.bl (neg ^^ decide (c ∈ b.cps.toList))) := by
  refine propext ⟨fun h => ?_, fun h => ⟨c, rfl, h⟩⟩
  obtain ⟨c', e, q⟩ := h
  cases e
  exact q
theorem rdI0_e {g : Int → Int → D} : rdI0 g (.int i) (.int j) Q = Q (g i j) := rfl
theorem rdI_e {C : Int → Int → Prop} {g : Int → Int → D} : rdI C g (.int i) (.int j) Q = (C i j ∧ Q (g i j)) := rfl
theorem rdAdd_i : rdAdd (.int i) (.int j) Q = Q (.int (i + j)) := rfl
theorem rdAdd_s : rdAdd (.str a) (.str b) Q = (a.length + b.length ≤ sizeLine ∧ Q (.str (a ++ b))) := rfl
theorem rdAdd_l : rdAdd (.lst xs) (.lst ys) Q = (xs.length + ys.length ≤ sizeLine ∧ Q (.lst (xs ++ ys))) := rfl
theorem rdMul_i : rdMul (.int i) (.int j) Q = (CMul i j ∧ Q (.int (i * j))) := rfl
theorem rdMul_l : rdMul (.lst xs) (.int j) Q = ((-(2 ^ 63) ≤ j ∧ j < 2 ^ 63) ∧ xs.length * j.toNat ≤ sizeLine ∧ Q (.lst (List.replicate j.toNat xs).flatten)) := rfl
theorem rdIx_l : rdIx (.lst xs) (.int i) Q = ∃ d, atI xs i = some d ∧ Q d := rfl
theorem rdIx_t : rdIx (.tup xs) (.int i) Q = ∃ d, atI xs i = some d ∧ Q d := rfl
theorem rdIx_s : rdIx (.str a) (.int i) Q = (a.length ≤ sizeLine ∧ ∃ c, atI a.cps.toList i = some c ∧ Q (.str ⟨#[c]⟩)) := rfl
theorem rdSlA_l {lo hi : Option Int} : rdSlA (.lst xs) lo hi Q = Q (.lst (cutD xs lo hi)) := rfl
theorem rdSlA_s {lo hi : Option Int} : rdSlA (.str a) lo hi Q = (a.length ≤ sizeLine ∧ Q (.str (cutS a lo hi))) := rfl
theorem rdLen_l : rdLen [.lst xs] Q = Q (.int xs.length) := rfl
theorem rdLen_t : rdLen [.tup xs] Q = Q (.int xs.length) := rfl
theorem rdLen_f {ns : List Int} : rdLen [.fz ns] Q = Q (.int ns.length) := rfl
theorem rdLen_s : rdLen [.str a] Q = (a.length ≤ sizeLine ∧ Q (.int a.length)) := rfl
theorem rdAll_e : rdAll [.lst xs] Q = ∃ bs, asBs xs = some bs ∧ Q (.bl (bs.all id)) := rfl
theorem rdAny_e : rdAny [.lst xs] Q = ∃ bs, asBs xs = some bs ∧ Q (.bl (bs.any id)) := rfl
theorem rdAbs_e : rdAbs [.int i] Q = Q (.int (if i < 0 then -i else i)) := rfl
theorem rdInt_i : rdInt [.int i] Q = Q (.int i) := rfl
theorem rdMin2_e : rdMin2 [.int i, .int j] Q = Q (.int (if j < i then j else i)) := rfl
theorem rdList_l : rdList [.lst xs] Q = Q (.lst xs) := rfl
theorem rdListA_l : rdListA [.lst xs] Q = Q (.lst xs) := rfl
theorem rdListA_t : rdListA [.tup xs] Q = Q (.lst xs) := rfl
theorem rdListA_s : rdListA [.str a] Q = (a.length ≤ sizeLine ∧ Q (.lst (signsD a))) := rfl
theorem rdTuple_l : rdTuple [.lst xs] Q = Q (.tup xs) := rfl
theorem rdTuple_t : rdTuple [.tup xs] Q = Q (.tup xs) := rfl
theorem rdIsi_e {T : String} : rdIsi [x, .ty T] Q = ∃ n b, tyName x = some n ∧ kitB n T = some b ∧ Q (.bl b) := rfl
theorem tyN_non : tyName .non = some "NoneType" := rfl
theorem tyN_bl {c : Bool} : tyName (.bl c) = some "bool" := rfl
theorem tyN_int : tyName (.int i) = some "int" := rfl
theorem tyN_str : tyName (.str a) = some "str" := rfl
theorem tyN_lst : tyName (.lst xs) = some "list" := rfl
theorem tyN_tup : tyName (.tup xs) = some "tuple" := rfl
theorem tyN_dic {ks : List Key} : tyName (.dic ks xs) = some "dict" := rfl
theorem keyOf_s : keyOf (.str a) = some (.inr a) := rfl
theorem keyOf_i : keyOf (.int i) = some (.inl i) := rfl
theorem repr_ok (d : D) (h : (∃ xs, d = .lst xs) ∨ ∃ xs, d = .tup xs) (o : okR d) (q : Q (.str (PyData.shown (py d)))) : rdRepr [d] Q := by
  rcases h with ⟨xs, rfl⟩ | ⟨xs, rfl⟩
  · exact ⟨o, q⟩
  · exact ⟨o, q⟩
end
section
variable {da db : TDE} {Γ : Gm} {Q : D → Gm → Prop}
/-- and, or, an if: values known, one way on -/
theorem andV_ok (b1 b2 : Bool) (h1 : ∀ K : D → Gm → Prop, K (.bl b1) Γ → da Γ K) (h2 : b1 = true → ∀ K : D → Gm → Prop, K (.bl b2) Γ → db Γ K) (q : Q (.bl (b1 && b2)) Γ) : rdAndV da db Γ Q := by
  refine h1 _ ?_
  show if b1 = true then db Γ Q else Q (.bl false) Γ
  cases b1 with
  | false => exact q
  | true => exact h2 rfl _ q
theorem orV_ok (b1 b2 : Bool) (h1 : ∀ K : D → Gm → Prop, K (.bl b1) Γ → da Γ K) (h2 : b1 = false → ∀ K : D → Gm → Prop, K (.bl b2) Γ → db Γ K) (q : Q (.bl (b1 || b2)) Γ) : rdOrV da db Γ Q := by
  refine h1 _ ?_
  show if b1 = true then Q (.bl true) Γ else db Γ Q
  cases b1 with
  | true => exact q
  | false => exact h2 rfl _ q
theorem chain_ok {r1 r2 : RD2} {dc : TDE} (b1 b2 : Bool) (x y z : D) (hx : ∀ K : D → Gm → Prop, K x Γ → da Γ K) (hy : ∀ K : D → Gm → Prop, K y Γ → db Γ K) (h1 : ∀ K : D → Prop, K (.bl b1) → r1 x y K)
    (hz : b1 = true → ∀ K : D → Gm → Prop, K z Γ → dc Γ K) (h2 : b1 = true → ∀ K : D → Prop, K (.bl b2) → r2 y z K) (q : Q (.bl (b1 && b2)) Γ) : rdChain r1 r2 da db dc Γ Q := by
  refine hx _ (hy _ (h1 _ ?_))
  show if b1 = true then dc Γ (fun dz Γ3 => r2 y dz fun e => Q e Γ3) else Q (.bl false) Γ
  cases b1 with
  | false => exact q
  | true => exact hz rfl _ (h2 rfl _ q)
end
/-! ### repr's equality of lists of bools -/
end VL

set_option Elab.async false
set_option linter.all false
set_option maxRecDepth 100000
set_option maxHeartbeats 4000000
/-! VL11: the rules with the fragment's name told, for use inside comprehensions. -/
namespace VL
open PySem PySem.Spec L2
open PyProof.Rows hiding St
section
variable {X : Cx} {K : PySem.W.Frag}
theorem opK {op : Value → Value → Sem Value} (r : PySem.W.Frag → R2) (hK : X.K = K) (h : OpR X op (r X.K)) : OpR X op (r K) := by subst hK; exact h
theorem ixK (r : PySem.W.Frag → R2) (hK : X.K = K) (h : IxR X (r X.K)) : IxR X (r K) := by subst hK; exact h
theorem slK (r : PySem.W.Frag → V → Option Int → Option Int → Hp → VK → Prop) (hK : X.K = K) (h : SlR X (r X.K)) : SlR X (r K) := by subst hK; exact h
theorem crK {f : Value} (r : PySem.W.Frag → List V → Hp → VK → Prop) (hK : X.K = K) (h : CallR X f (r X.K)) : CallR X f (r K) := by subst hK; exact h
variable {W : Wc} {tg e : Expr} {es rest : List Expr} {te ta tb : TE} {de da db : TDE} {t : TA} {dt : TDF} {p pos apos cpos : Pos} {x : Str} {CX : CXT} {k : Nat} {f : Addr} {fd : FuncData} {ps : List Str} {F : FD} {FV : Addr → FD} {dvs : List V} {dds : List D} {ds : List Value} {E : XK} {d c : Addr} {a b : Expr} {i : Nat}
theorem di_listK (hK : X.K = K) (he : DE W X e te de) : DI W X tg e (iList K te) (rdILst de) := by subst hK; exact di_list he
theorem di_tupK (hK : X.K = K) (he : DE W X e te de) : DI W X tg e (iTup K te) (rdITup de) := by subst hK; exact di_tup he
theorem dg_tupK {tgs : List Expr} {kk : Nat} {u : TGs} {ud} {is : List Nat} {n : Nat} (hK : X.K = K) (hc : X.calm = true) (h : DGs W X tgs u ud is)
    (hn : (assignEach tgs X.env).length = n := by rfl) (hst : (assignEach tgs X.env).findIdx? (·.1) = none := by rfl) : DG W X (.Tuple tgs kk pos) (gTup K n u) (rgTup n ud) is := by subst hK; exact dg_tup hc h hn hst
theorem d_orTK (hK : X.K = K) (ha : DE W X a ta da) (hb : DE W X (.BoolOp .Or (b :: rest) pos) tb db) : DE W X (.BoolOp .Or (a :: b :: rest) pos) (tOrT K ta tb) (rdOrT da db) := by subst hK; exact d_orT ha hb
theorem d_callPK (hK : X.K = K) (G : FnOk X.prog X.w K X.mg X.base CX k f fd ps (spD Vol.no K F)) (hr : Room k X.A) (hg : Gl X x) (hm : X.mg x = some (.ref f)) (hk : PySem.W.keepIn K (.ref f) = true) (hb : Binds K fd ps ds) (hd : Vals dvs ds) (hdd : ∀ H, RpAll K H dvs dds) (hx : Passes CX X E)
    (ha : DA W X (e :: es) t dt) (hdb : (x == ("__debug__" : Str)) = false := by decide) (he : starEach (e :: es) X.env = (false, eval e X.env) :: starEach es X.env := by rfl) (hpl : (backTo pos (starEach es X.env)).any (·.1) = false := by rfl) :
    DE W X (.Call (.Name x p) (e :: es) [] pos) (tCall (spD Vol.no K F) dvs E t) (rdCall F dds dt) := by subst hK; exact d_callP G hr hg hm hk hb hd hdd hx ha hdb he hpl
theorem d_callVK (hK : X.K = K) (G : FnOk X.prog X.w K X.mg X.base CX k f fd ps (spV K FV)) (hJ : W.J = drawJ d c) (hr : Room k X.A) (hg : Gl X x) (hm : X.mg x = some (.ref f)) (hk : PySem.W.keepIn K (.ref f) = true) (hb : Binds K fd ps ds) (hd : Vals dvs ds) (hdd : ∀ H, RpAll K H dvs dds) (hx : Passes CX X E)
    (ha : DA W X (e :: es) t dt) (hdb : (x == ("__debug__" : Str)) = false := by decide) (he : starEach (e :: es) X.env = (false, eval e X.env) :: starEach es X.env := by rfl) (hpl : (backTo pos (starEach es X.env)).any (·.1) = false := by rfl) :
    DE W X (.Call (.Name x p) (e :: es) [] pos) (tCall (spV K FV) dvs E t) (rdCall (FV d) dds dt) := by subst hK; exact d_callV G hJ hr hg hm hk hb hd hdd hx ha hdb he hpl
theorem d_callGPK (hK : X.K = K) (G : FnG X.prog X.w K X.mg X.base CX k f fd ps (spD Vol.no K F)) (hgd : X.A.guards = some []) (hr : Room k X.A) (hg : Gl X x) (hm : X.mg x = some (.ref f)) (hk : PySem.W.keepIn K (.ref f) = true) (hb : Binds K fd ps ds) (hd : Vals dvs ds) (hdd : ∀ H, RpAll K H dvs dds) (hx : Passes CX X E)
    (ha : DA W X (e :: es) t dt) (hdb : (x == ("__debug__" : Str)) = false := by decide) (he : starEach (e :: es) X.env = (false, eval e X.env) :: starEach es X.env := by rfl) (hpl : (backTo pos (starEach es X.env)).any (·.1) = false := by rfl) :
    DE W X (.Call (.Name x p) (e :: es) [] pos) (tCall (spD Vol.no K F) dvs E t) (rdCall F dds dt) := by subst hK; exact d_callGP G hgd hr hg hm hk hb hd hdd hx ha hdb he hpl
theorem d_callVGK (hK : X.K = K) (G : FnG X.prog X.w K X.mg X.base CX k f fd ps (spV K FV)) (hJ : W.J = drawJ d c) (hgd : X.A.guards = some []) (hr : Room k X.A) (hg : Gl X x) (hm : X.mg x = some (.ref f)) (hk : PySem.W.keepIn K (.ref f) = true) (hb : Binds K fd ps ds) (hd : Vals dvs ds) (hdd : ∀ H, RpAll K H dvs dds) (hx : Passes CX X E)
    (ha : DA W X (e :: es) t dt) (hdb : (x == ("__debug__" : Str)) = false := by decide) (he : starEach (e :: es) X.env = (false, eval e X.env) :: starEach es X.env := by rfl) (hpl : (backTo pos (starEach es X.env)).any (·.1) = false := by rfl) :
    DE W X (.Call (.Name x p) (e :: es) [] pos) (tCall (spV K FV) dvs E t) (rdCall (FV d) dds dt) := by subst hK; exact d_callVG G hJ hgd hr hg hm hk hb hd hdd hx ha hdb he hpl
theorem d_callKwPK {ks : List Str} {g : List Value → List Value → List Value} {kws : List Keyword} (hK : X.K = K) (G : FnOk X.prog X.w K X.mg X.base CX k f fd ps (spD Vol.no K F)) (hr : Room k X.A) (hg : Gl X x) (hm : X.mg x = some (.ref f))
    (hk : PySem.W.keepIn K (.ref f) = true) (hb : KBn K fd ps 0 ks g (fun _ zs => zs)) (hx : Passes CX X E) (hkw : DK W X kws t dt) (hall : (backToKw pos (keywordEach kws X.env)).all (·.1.isSome) = true := by rfl)
    (hks : (backToKw pos (keywordEach kws X.env)).filterMap (·.1) = ks := by rfl) (hdb : (x == ("__debug__" : Str)) = false := by decide)
    (hpl : ((backTo pos (starEach [] X.env)).any (·.1) || (backToKw pos (keywordEach kws X.env)).any (·.1.isNone)) = false := by rfl) :
    DE W X (.Call (.Name x p) [] kws pos) (tCallKw ks.length (spD Vol.no K F) (fun _ zs => zs) E t) (rdCallKw ks.length F dt) := by subst hK; exact d_callKwP G hr hg hm hk hb hx hkw hall hks hdb hpl
end
def rTupOf (K : PySem.W.Frag) : List V → Hp → VK → Prop := fun xs H Q => ∃ p ys, xs = [.ref p] ∧ ((SqL K H p ys ∧ ∀ l, H l = none → Q (.ref l) (upd H l (.tup ys))) ∨ (SqT K H p ys ∧ Q (.ref p) H))
theorem rgTup_e {n : Nat} {u : List D → Gm → (Gm → Prop) → Prop} {ds : List D} {Γ : Gm} {Q : Gm → Prop} : rgTup n u (.tup ds) Γ Q = (ds.length = n ∧ u ds Γ Q) := rfl
theorem rgCons_e {t : TDG} {u : List D → Gm → (Gm → Prop) → Prop} {d : D} {r : List D} {Γ : Gm} {Q : Gm → Prop} : rgCons t u (d :: r) Γ Q = t d Γ fun Γ1 => u r Γ1 Q := rfl
theorem rgNil_e {ds : List D} {Γ : Gm} {Q : Gm → Prop} : rgNil ds Γ Q = (ds = [] ∧ Q Γ) := rfl
end VL

set_option Elab.async false
set_option linter.all false
set_option maxRecDepth 100000
set_option maxHeartbeats 4000000
/-! VL12: dicts (keys ints and texts): reading, writing an own one, walking. -/
namespace VL
open PySem PySem.Spec L2
open PyProof.Rows hiding St
/-! ### dicts as data -/
def valD : List Key → List D → Key → Option D
  | k' :: ks, d :: ds, k => if k' = k then some d else valD ks ds k
  | _, _, _ => none
def setD (ks : List Key) (ds : List D) (k : Key) (d : D) : List D := List.zipWith (fun k' d' => if k' = k then d else d') ks ds
def hasK (ks : List Key) (k : Key) : Bool := ks.any fun k' => decide (k' = k)
def putKs (ks : List Key) (k : Key) : List Key := if hasK ks k = true then ks else ks ++ [k]
def putDs (ks : List Key) (ds : List D) (k : Key) (d : D) : List D := if hasK ks k = true then setD ks ds k d else ds ++ [d]
section
variable {K : PySem.W.Frag} {H : Hp}
theorem valD_rp : ∀ {kvs : List (Key × V)} {ds : List D} {k : Key}, RpAll K H (kvs.map (·.2)) ds → (∀ d, valD (kvs.map (·.1)) ds k = some d → ∃ v, valV kvs k = some v ∧ Rp K H v d) ∧ (valD (kvs.map (·.1)) ds k).isSome = (valV kvs k).isSome
  | [], _, k, h => by
    cases h
    exact ⟨fun d z => (nomatch z), rfl⟩
  | kv :: kvs, _, k, h => by
    cases h with
    | cons a h =>
      rename_i d ds
      obtain ⟨i1, i2⟩ := valD_rp (k := k) h
      show (∀ d', (if kv.1 = k then some d else valD (kvs.map (·.1)) ds k) = some d' → _) ∧ (if kv.1 = k then some d else valD (kvs.map (·.1)) ds k).isSome = _
      unfold valV at i1 i2 ⊢
      rw [List.find?_cons]
      by_cases e : kv.1 = k
      · rw [if_pos e, decide_eq_true e]
        exact ⟨fun d' z => ⟨_, rfl, by cases z; exact a⟩, rfl⟩
      · rw [if_neg e, decide_eq_false e]
        exact ⟨i1, i2⟩
theorem mem_keys {kvs : List (Key × V)} {k : Key} : (kvs.any fun kv => decide (kv.1 = k)) = hasK (kvs.map (·.1)) k := by
  unfold hasK
  rw [List.any_map]
  rfl
theorem setD_rp : ∀ {kvs : List (Key × V)} {ds : List D} {k : Key} {v : V} {d : D}, RpAll K H (kvs.map (·.2)) ds → Rp K H v d → RpAll K H ((kvs.map fun kv => if kv.1 = k then (kv.1, v) else kv).map (·.2)) (setD (kvs.map (·.1)) ds k d)
  | [], _, k, v, d, h, r => by cases h; exact .nil
  | kv :: kvs, _, k, v, d, h, r => by
    cases h with
    | cons a h =>
      have ih := setD_rp (k := k) h r
      unfold setD at ih ⊢
      rw [List.map_cons, List.map_cons, List.map_cons, List.zipWith_cons_cons]
      refine .cons ?_ ih
      by_cases e : kv.1 = k
      · rw [if_pos e, if_pos e]; exact r
      · rw [if_neg e, if_neg e]; exact a
theorem putK_rp {kvs : List (Key × V)} {ds : List D} {k : Key} {v : V} {d : D} (h : RpAll K H (kvs.map (·.2)) ds) (r : Rp K H v d) : (putK kvs k v).map (·.1) = putKs (kvs.map (·.1)) k ∧ RpAll K H ((putK kvs k v).map (·.2)) (putDs (kvs.map (·.1)) ds k d) := by
  unfold putK putKs putDs
  rw [mem_keys]
  by_cases e : hasK (kvs.map (·.1)) k = true
  · rw [if_pos e, if_pos e, if_pos e]
    refine ⟨?_, setD_rp h r⟩
    rw [List.map_map]
    apply List.map_congr_left
    intro kv _
    show (if kv.1 = k then (kv.1, v) else kv).1 = kv.1
    split <;> rfl
  · rw [if_neg e, if_neg e, if_neg e]
    refine ⟨by rw [List.map_append]; rfl, ?_⟩
    rw [List.map_append]
    exact h.append (.cons r .nil)
end
def kD1 : Key → D
  | .inl i => .int i
  | .inr x => .str x
theorem rp_key {K : PySem.W.Frag} {H : Hp} (k : Key) : Rp K H (kV k) (kD1 k) := by cases k; exact .int _; exact .str _
theorem rp_keys {K : PySem.W.Frag} {H : Hp} (kvs : List (Key × V)) : RpAll K H (kvs.map fun kv => kV kv.1) ((kvs.map (·.1)).map kD1) := by
  induction kvs with
  | nil => exact .nil
  | cons a r ih => exact .cons (rp_key _) ih

/-! ### d[k], k in d, len(d) -/
section
variable {W : Wc} {X : Cx}
def rIxD : R2 := fun x y H Q => ∃ a v, x = .ref a ∧ DGet H a y (some v) ∧ Q v H
theorem ix_dict (hu : X.A.units + 1 < cLine) : IxR X rIxD := by
  intro value slice pins s σ H x y v u Q I rx ry h hs
  obtain ⟨a, w, rfl, g, q⟩ := h
  obtain rfl : v = Value.ref a := rx
  exact tail_any (dict_typeIs I g) PySem.F.slot_dict_getitem.lookup (d_getItem hu I g ry fun w' s' I' rw' => ⟨w, H, I', rw', q⟩) hs
def rIxA (K : PySem.W.Frag) : R2 := fun x y H Q => rIx K x y H Q ∨ rIxD x y H Q
theorem ix_any (hu : X.A.units + 1 < cLine) : IxR X (rIxA X.K) := ix_seq.or (ix_dict hu)
def rdIxA : RD2 := fun x y Q => match x with
  | .dic ks ds => ∃ k d, keyOf y = some k ∧ valD ks ds k = some d ∧ Q d
  | _ => rdIx x y Q
theorem od_ixA {K : PySem.W.Frag} : OpD K W (rIxA K) rdIxA := by
  intro Γ σ Hv H x y dx dy Q Q' E rx ry h k
  unfold rdIxA at h
  split at h
  · obtain ⟨ky, d, e1, e2, q⟩ := h
    cases rx with
    | dic h1 h2 h3 =>
      subst h2
      obtain ⟨v, e3, rv⟩ := (valD_rp h3).1 d e2
      exact .inr ⟨_, v, rfl, .inl ⟨_, ky, E.ret.sub.dk h1, keyOf_rp ry e1, e3.symm⟩, k v d Hv H E.stp rv q⟩
  · exact .inl (od_ix Γ σ Hv H x y dx dy Q Q' E rx ry h k)
def rInDc (neg : Bool) : R2 := fun x y H Q => ∃ a o, y = .ref a ∧ DGet H a x o ∧ Q (.bl (neg ^^ o.isSome)) H
theorem op_inDc (hu : X.A.units + 1 < cLine) : OpR X (compareOp .In) (rInDc false) := by
  intro pins s σ H x y v u Q I rx ry h
  obtain ⟨a, o, rfl, g, q⟩ := h
  obtain rfl : u = Value.ref a := ry
  rw [Bool.false_xor] at q
  exact d_in hu I g rx fun s3 I3 => ⟨.bl o.isSome, H, I3, rfl, q⟩
theorem op_notInDc (hu : X.A.units + 1 < cLine) : OpR X (compareOp .NotIn) (rInDc true) := by
  intro pins s σ H x y v u Q I rx ry h
  obtain ⟨a, o, rfl, g, q⟩ := h
  obtain rfl : u = Value.ref a := ry
  rw [Bool.true_xor] at q
  exact d_notIn hu I g rx fun s3 I3 => ⟨.bl (!o.isSome), H, I3, rfl, q⟩
def rInB (K : PySem.W.Frag) : R2 := fun x y H Q => rInA K x y H Q ∨ rInDc false x y H Q
def rNotInB (K : PySem.W.Frag) : R2 := fun x y H Q => rNotInA K x y H Q ∨ rInDc true x y H Q
theorem op_inB (hu : X.A.units + 65 < cLine) : OpR X (compareOp .In) (rInB X.K) := (op_inA hu).or (op_inDc (by omega))
theorem op_notInB (hu : X.A.units + 65 < cLine) : OpR X (compareOp .NotIn) (rNotInB X.K) := (op_notInA hu).or (op_notInDc (by omega))
theorem valD_some : ∀ {ks : List Key} {ds : List D} {k : Key}, ks.length = ds.length → (valD ks ds k).isSome = hasK ks k
  | [], [], k, _ => rfl
  | k' :: ks, d :: ds, k, h => by
    unfold valD hasK
    rw [List.any_cons]
    by_cases e : k' = k
    · rw [if_pos e, decide_eq_true e]; rfl
    · rw [if_neg e, valD_some (by simpa using h), decide_eq_false e]; rfl
def rdInB (neg : Bool) : RD2 := fun x y Q => match y with
  | .dic ks _ => ∃ k, keyOf x = some k ∧ Q (.bl (neg ^^ hasK ks k))
  | _ => rdIn neg x y Q
theorem dget_at {K : PySem.W.Frag} {Hv H : Hp} {x : V} {dx : D} {a : Addr} {ks : List Key} {ds : List D} {k : Key} (su : Sub Hv H) (rx : Rp K Hv x dx) (ry : Rp K Hv (.ref a) (.dic ks ds)) (e : keyOf dx = some k) : ∃ o, DGet H a x o ∧ o.isSome = hasK ks k := by
  cases ry with
  | dic h1 h2 h3 =>
    rename_i kvs
    refine ⟨valV kvs k, .inl ⟨kvs, k, su.dk h1, keyOf_rp rx e, rfl⟩, ?_⟩
    subst h2
    rw [← (valD_rp h3).2, valD_some (by rw [← h3.length, List.length_map, List.length_map])]
theorem od_inB {K : PySem.W.Frag} : OpD K W (rInB K) (rdInB false) := by
  intro Γ σ Hv H x y dx dy Q Q' E rx ry h k
  unfold rdInB at h
  split at h
  · obtain ⟨ky, e1, q⟩ := h
    have ry' := ry
    cases ry with
    | dic h1 h2 h3 =>
      obtain ⟨o, g, e2⟩ := dget_at E.ret.sub rx ry' e1
      exact .inr ⟨_, o, rfl, g, k _ _ Hv H E.stp (.bl _) (by rw [e2]; exact q)⟩
  · exact .inl (od_in Γ σ Hv H x y dx dy Q Q' E rx ry h k)
theorem od_notInB {K : PySem.W.Frag} : OpD K W (rNotInB K) (rdInB true) := by
  intro Γ σ Hv H x y dx dy Q Q' E rx ry h k
  unfold rdInB at h
  split at h
  · obtain ⟨ky, e1, q⟩ := h
    have ry' := ry
    cases ry with
    | dic h1 h2 h3 =>
      obtain ⟨o, g, e2⟩ := dget_at E.ret.sub rx ry' e1
      exact .inr ⟨_, o, rfl, g, k _ _ Hv H E.stp (.bl _) (by rw [e2]; exact q)⟩
  · exact .inl (od_notIn Γ σ Hv H x y dx dy Q Q' E rx ry h k)
def rLenD : List V → Hp → VK → Prop := fun xs H Q => ∃ a kvs, xs = [.ref a] ∧ Rd H a (.dK kvs) ∧ Q (.int kvs.length) H
theorem cr_lenD : CallR X (.builtin "len") rLenD := by
  intro pins s σ H xs us Q I r h
  obtain ⟨a, kvs, rfl, e, q⟩ := h
  obtain ⟨u, rfl, rx⟩ := vals1 r
  obtain rfl : u = Value.ref a := rx
  exact d_len I e fun t s' I' => ⟨.int kvs.length, H, I', ⟨t, rfl⟩, q⟩
def rLenB (K : PySem.W.Frag) : List V → Hp → VK → Prop := fun xs H Q => rLenA K xs H Q ∨ rLenD xs H Q
theorem cr_lenB : CallR X (.builtin "len") (rLenB X.K) := cr_len.or cr_lenD
def rdLenB : List D → (D → Prop) → Prop := fun ds Q => match ds with
  | [.dic ks _] => Q (.int ks.length)
  | ds => rdLen ds Q
theorem cd_lenB {K : PySem.W.Frag} : CallD K W (rLenB K) rdLenB := by
  intro Γ σ Hv H vs ds Q Q' E r h k
  unfold rdLenB at h
  split at h
  · obtain ⟨v, rfl, rv⟩ := r.one
    cases rv with
    | dic h1 h2 h3 => exact .inr ⟨_, _, rfl, E.ret.sub.dk h1, k _ (.int _) Hv H E.stp (.int _) (by rw [h2, List.length_map] at h; exact h)⟩
  · exact .inl (cd_len Γ σ Hv H vs ds Q Q' E r h k)
end
end VL

set_option Elab.async false
set_option linter.all false
set_option maxRecDepth 100000
set_option maxHeartbeats 4000000
/-! VL13: objects that a slot alone holds: looked at without being shared, written. -/
namespace VL
open PySem PySem.Spec L2
open PyProof.Rows hiding St
/-- the data of a slot's own (or borrowed) object -/
def pkG (Γ : Gm) (i : Nat) (k : D → Prop) : Prop := match Γ[i]? with
  | some (.own d) => k d
  | some (.bor d) => k d
  | some (.slf _ d) => k d
  | _ => False
def isPk (Γ : Gm) (i : Nat) : Prop := pkG Γ i fun _ => True
section
variable {K : PySem.W.Frag} {W : Wc} {Γ : Gm} {σ : L2.St} {Hv H : Hp}
theorem Ev.pk (E : Ev K W Γ σ Hv H) {i : Nat} {k : D → Prop} (h : pkG Γ i k) : ∃ a u d, σ[i]? = some (some (.ref a)) ∧ H a = some u ∧ ObD K Hv d u ∧ k d := by
  unfold pkG at h
  split at h
  · rename_i d e
    obtain ⟨a, u, h1, h2, h3, _⟩ := E.getOwn e
    exact ⟨a, u, d, h1, h2, h3, h⟩
  · rename_i d e
    obtain ⟨a, u, h1, h2, h3, _⟩ := E.getBor e
    exact ⟨a, u, d, h1, h2, h3, h⟩
  · rename_i y d e
    obtain ⟨u, h1, h2, h3, _⟩ := E.getSlf e
    exact ⟨y, u, d, h1, h2, h3, h⟩
  · exact h.elim
end
/-- an operation that gives a truth value and looks alone, by the heap -/
def OpH (K : PySem.W.Frag) (r : R2) (rd : RD2) : Prop := ∀ H x y dx dy (Q : D → Prop) (Q' : VK), Rp K H x dx → Rp K H y dy → rd dx dy Q → (∀ b, Q (.bl b) → Q' (.bl b) H) → r x y H Q'
section
variable {K : PySem.W.Frag} {W : Wc}
theorem oh_eq : OpH K (rEqA K) rdEq := by
  intro H x y dx dy Q Q' rx ry h k
  have gen : okE dx ∧ okE dy ∧ Q (.bl (eqD dx dy)) → rEqA K x y H Q' := fun ⟨o1, o2, q⟩ => .inr ⟨_, _, Rp.dp _ _ rx o1.1, Rp.dp _ _ ry o2.1, o1.2, o2.2, k _ q⟩
  unfold rdEq at h
  split at h
  · cases rx; cases ry
    exact .inl ⟨rfl, k _ (by simpa using h)⟩
  · cases rx; cases ry
    exact .inl ⟨rfl, k _ (by simpa using h)⟩
  · exact gen h
theorem oh_ne : OpH K (rNeA K) rdNe := by
  intro H x y dx dy Q Q' rx ry h k
  have gen : okE dx ∧ okE dy ∧ Q (.bl (!eqD dx dy)) → rNeA K x y H Q' := fun ⟨o1, o2, q⟩ => .inr ⟨_, _, Rp.dp _ _ rx o1.1, Rp.dp _ _ ry o2.1, o1.2, o2.2, k _ q⟩
  unfold rdNe at h
  split at h
  · cases rx; cases ry
    exact .inl ⟨rfl, k _ (by simpa using h)⟩
  · cases rx; cases ry
    exact .inl ⟨rfl, k _ (by simpa using h)⟩
  · exact gen h
theorem oh_in : OpH K (rInB K) (rdInB false) := by
  intro H x y dx dy Q Q' rx ry h k
  unfold rdInB at h
  split at h
  · obtain ⟨ky, e1, q⟩ := h
    have ry' := ry
    cases ry with
    | dic h1 h2 h3 =>
      obtain ⟨o, g, e2⟩ := dget_at (.refl _) rx ry' e1
      exact .inr ⟨_, o, rfl, g, k _ (by rw [e2]; exact q)⟩
  · refine .inl ?_
    unfold rdIn at h
    split at h
    · obtain ⟨c, e, q⟩ := h
      cases rx; cases ry
      exact .inl ⟨c, _, by rw [signOf_eq e], rfl, k _ q⟩
    · obtain ⟨o1, o2, q⟩ := h
      have d2 := Rp.dp _ _ ry o2.1
      have s2 := o2.2
      unfold py at d2 s2
      rw [Bool.false_xor, isIn_py] at q
      exact .inr (.inl ⟨_, _, Rp.dp _ _ rx o1.1, d2, o1.2, s2, k _ q⟩)
    · obtain ⟨o1, o2, q⟩ := h
      have d2 := Rp.dp _ _ ry o2.1
      have s2 := o2.2
      unfold py at d2 s2
      rw [isIn_py] at q
      exact .inr (.inr ⟨_, _, Rp.dp _ _ rx o1.1, d2, o1.2, s2, k _ q⟩)
    · exact h.elim
theorem oh_notIn : OpH K (rNotInB K) (rdInB true) := by
  intro H x y dx dy Q Q' rx ry h k
  unfold rdInB at h
  split at h
  · obtain ⟨ky, e1, q⟩ := h
    have ry' := ry
    cases ry with
    | dic h1 h2 h3 =>
      obtain ⟨o, g, e2⟩ := dget_at (.refl _) rx ry' e1
      exact .inr ⟨_, o, rfl, g, k _ (by rw [e2]; exact q)⟩
  · refine .inl ?_
    unfold rdIn at h
    split at h
    · obtain ⟨c, e, q⟩ := h
      cases rx; cases ry
      exact .inl ⟨c, _, by rw [signOf_eq e], rfl, k _ q⟩
    · obtain ⟨o1, o2, q⟩ := h
      have d2 := Rp.dp _ _ ry o2.1
      have s2 := o2.2
      unfold py at d2 s2
      rw [Bool.true_xor, isIn_py] at q
      exact .inr (.inl ⟨_, _, Rp.dp _ _ rx o1.1, d2, o1.2, s2, k _ q⟩)
    · obtain ⟨o1, o2, q⟩ := h
      have d2 := Rp.dp _ _ ry o2.1
      have s2 := o2.2
      unfold py at d2 s2
      rw [isIn_py] at q
      exact .inr (.inr ⟨_, _, Rp.dp _ _ rx o1.1, d2, o1.2, s2, k _ q⟩)
    · exact h.elim

/-! ### x == e, e in x, x[e], len(x), x[a:b]: x a name with an own object -/
def rdPkL (rd : RD2) (i : Nat) (db : TDE) : TDE := fun Γ Q => isPk Γ i ∧ db Γ fun dy Γ1 => pkG Γ1 i fun dx => rd dx dy fun d => asB d fun b => Q (.bl b) Γ1
def rdPkR (rd : RD2) (da : TDE) (i : Nat) : TDE := fun Γ Q => da Γ fun dx Γ1 => pkG Γ1 i fun dy => rd dx dy fun d => asB d fun b => Q (.bl b) Γ1
variable {X : Cx} {a b : Expr} {ta tb : TE} {da db : TDE} {pos p : Pos} {x : Str} {i : Nat}
theorem ad_pkL {r : R2} {rd : RD2} (ho : OpH K r rd) (hb : Ad K W tb db) : Ad K W (tOp r (tVar i) tb) (rdPkL rd i db) := fun Γ σ Hv H Q Q' E h k => by
  obtain ⟨h0, h⟩ := h
  obtain ⟨a0, u0, d0, e0, _⟩ := E.pk h0
  refine ⟨_, e0, hb Γ σ Hv H _ _ E h fun y dy Γ1 Hv1 H1 s1 r1 q => ?_⟩
  obtain ⟨a1, u1, d1, e1, hu, ob, q⟩ := s1.ev.pk q
  rw [e0] at e1
  cases e1
  refine ho H1 _ y d1 dy _ _ ((ob.monoS s1.ev.ret.sub).rp hu) (Rp.monoS s1.ev.ret.sub _ _ r1) q fun c q2 => ?_
  exact k _ _ Γ1 Hv1 H1 s1 (.bl c) q2
theorem ad_pkR {r : R2} {rd : RD2} (ho : OpH K r rd) (ha : Ad K W ta da) : Ad K W (tOp r ta (tVar i)) (rdPkR rd da i) := fun Γ σ Hv H Q Q' E h k => by
  refine ha Γ σ Hv H _ _ E h fun y dy Γ1 Hv1 H1 s1 r1 q => ?_
  obtain ⟨a1, u1, d1, e1, hu, ob, q⟩ := s1.ev.pk q
  refine ⟨_, e1, ho H1 y _ dy d1 _ _ (Rp.monoS s1.ev.ret.sub _ _ r1) ((ob.monoS s1.ev.ret.sub).rp hu) q fun c q2 => ?_⟩
  exact k _ _ Γ1 Hv1 H1 s1 (.bl c) q2
theorem d_cmpPkL {op : CmpOp} {r : R2} {rd : RD2} (ho : OpR X (compareOp op) r) (hd : OpH X.K r rd) (hb : DE W X b tb db) (hm : behindInMarks op b = false) (hN : X.N[i]? = some x := by rfl) (hv : Vis X.env.scope x := by first | exact Or.inl rfl | exact Or.inr (Or.inl rfl) | exact Or.inr (Or.inr rfl))
    (hdb : (x == ("__debug__" : Str)) = false := by decide) (hcd : (x == ("__classdict__" : Str)) = false := by decide) : DE W X (.Compare (.Name x p) [op] [b] pos) (tOp r (tVar i) tb) (rdPkL rd i db) :=
  ⟨pe_cmpR ho (pe_var hN hv hdb hcd) hb.pe hm, ad_pkL hd hb.ad⟩
theorem d_cmpPkR {op : CmpOp} {r : R2} {rd : RD2} (ho : OpR X (compareOp op) r) (hd : OpH X.K r rd) (ha : DE W X a ta da) (hm : behindInMarks op (.Name x p) = false) (hN : X.N[i]? = some x := by rfl) (hv : Vis X.env.scope x := by first | exact Or.inl rfl | exact Or.inr (Or.inl rfl) | exact Or.inr (Or.inr rfl))
    (hdb : (x == ("__debug__" : Str)) = false := by decide) (hcd : (x == ("__classdict__" : Str)) = false := by decide) : DE W X (.Compare a [op] [.Name x p] pos) (tOp r ta (tVar i)) (rdPkR rd da i) :=
  ⟨pe_cmpR ho ha.pe (pe_var hN hv hdb hcd) hm, ad_pkR hd ha.ad⟩
theorem dt_cmpPkL {op : CmpOp} {r : R2} {rd : RD2} (ho : OpR X (compareOp op) r) (hd : OpH X.K r rd) (hb : DE W X b tb db) (hm : behindInMarks op b = false) (hN : X.N[i]? = some x := by rfl) (hv : Vis X.env.scope x := by first | exact Or.inl rfl | exact Or.inr (Or.inl rfl) | exact Or.inr (Or.inr rfl))
    (hdb : (x == ("__debug__" : Str)) = false := by decide) (hcd : (x == ("__classdict__" : Str)) = false := by decide) : DT W X (.Compare (.Name x p) [op] [b] pos) (tTest (tOp r (tVar i) tb)) (rdTest (rdPkL rd i db)) :=
  ⟨pt_cmpR ho (pe_var hN hv hdb hcd) hb.pe hm, ad_test (ad_pkL hd hb.ad)⟩
theorem dt_cmpPkR {op : CmpOp} {r : R2} {rd : RD2} (ho : OpR X (compareOp op) r) (hd : OpH X.K r rd) (ha : DE W X a ta da) (hm : behindInMarks op (.Name x p) = false) (hN : X.N[i]? = some x := by rfl) (hv : Vis X.env.scope x := by first | exact Or.inl rfl | exact Or.inr (Or.inl rfl) | exact Or.inr (Or.inr rfl))
    (hdb : (x == ("__debug__" : Str)) = false := by decide) (hcd : (x == ("__classdict__" : Str)) = false := by decide) : DT W X (.Compare a [op] [.Name x p] pos) (tTest (tOp r ta (tVar i))) (rdTest (rdPkR rd da i)) :=
  ⟨pt_cmpR ho ha.pe (pe_var hN hv hdb hcd) hm, ad_test (ad_pkR hd ha.ad)⟩
/-- x[e] -/
def rdPkIx (i : Nat) (db : TDE) : TDE := fun Γ Q => isPk Γ i ∧ db Γ fun dk Γ1 => pkG Γ1 i fun dx => rdIxA dx dk fun d => Q d Γ1
theorem ad_pkIx (hb : Ad K W tb db) : Ad K W (tOp (rIxA K) (tVar i) tb) (rdPkIx i db) := fun Γ σ Hv H Q Q' E h k => by
  obtain ⟨h0, h⟩ := h
  obtain ⟨a0, u0, d0, e0, _⟩ := E.pk h0
  refine ⟨_, e0, hb Γ σ Hv H _ _ E h fun y dy Γ1 Hv1 H1 s1 r1 q => ?_⟩
  obtain ⟨a1, u1, d1, e1, hu, ob, q⟩ := s1.ev.pk q
  rw [e0] at e1
  cases e1
  cases d1 <;> first | exact ob.elim | skip
  · -- a list
    obtain ⟨vs, rfl, ra⟩ := ob
    rename_i ds
    have q : rdIx (.lst ds) dy _ := q
    cases dy <;> first | exact q.elim | skip
    obtain ⟨d, e, q⟩ := q
    cases r1
    obtain ⟨v, e2, r2⟩ := ra.at e
    exact .inl (.inl ⟨_, _, _, v, rfl, rfl, .of hu, e2, k v d Γ1 Hv1 H1 s1 r2 q⟩)
  · obtain ⟨kvs, rfl, e2, ra⟩ := ob
    obtain ⟨ky, d, e3, e4, q⟩ := q
    subst e2
    obtain ⟨v, e5, rv⟩ := (valD_rp ra).1 d e4
    exact .inr ⟨_, v, rfl, .inl ⟨_, ky, .inl hu, keyOf_rp r1 e3, e5.symm⟩, k v d Γ1 Hv1 H1 s1 rv q⟩
  · exact (show False from by cases dy <;> exact q).elim
theorem d_pkIx (hK : X.K = K) (hu : X.A.units + 1 < cLine) (hb : DE W X b tb db) (hs : PlainIx b) (hN : X.N[i]? = some x := by rfl) (hv : Vis X.env.scope x := by first | exact Or.inl rfl | exact Or.inr (Or.inl rfl) | exact Or.inr (Or.inr rfl))
    (hdb : (x == ("__debug__" : Str)) = false := by decide) (hcd : (x == ("__classdict__" : Str)) = false := by decide) : DE W X (.Subscript (.Name x p) b pos) (tOp (rIxA K) (tVar i) tb) (rdPkIx i db) := by
  subst hK
  exact ⟨pe_ix (ix_any hu) (pe_var hN hv hdb hcd) hb.pe hs, ad_pkIx hb.ad⟩
/-- len(x) -/
def rdPkLen (i : Nat) : TDE := fun Γ Q => pkG Γ i fun dx => rdLenB [dx] fun d => asI d fun n => Q (.int n) Γ
theorem ad_pkLen : Ad K W (tCB (rLenB K) (tCons (tVar i) tNil)) (rdPkLen i) := fun Γ σ Hv H Q Q' E h k => by
  obtain ⟨a1, u1, d1, e1, hu, ob, q⟩ := E.pk h
  refine ⟨_, e1, ?_⟩
  cases d1 <;> first | exact ob.elim | skip
  · obtain ⟨vs, rfl, ra⟩ := ob
    exact .inl (.inl ⟨_, _, rfl, .inl (.of hu), k _ (.int vs.length) Γ Hv H E.stp (.int _) (by rw [ra.length]; exact q)⟩)
  · obtain ⟨kvs, rfl, e2, ra⟩ := ob
    exact .inr ⟨_, _, rfl, .inl hu, k _ (.int kvs.length) Γ Hv H E.stp (.int _) (by rw [e2] at q; have q : Q (.int ((kvs.map (·.1)).length : Nat)) Γ := q; rw [List.length_map] at q; exact q)⟩
  · exact q.elim
theorem d_pkLen {fx : Pos} (hK : X.K = K) (hg : Gl X "len") (hm : X.mg "len" = none) (hN : X.N[i]? = some x := by rfl) (hv : Vis X.env.scope x := by first | exact Or.inl rfl | exact Or.inr (Or.inl rfl) | exact Or.inr (Or.inr rfl))
    (hdb : (x == ("__debug__" : Str)) = false := by decide) (hcd : (x == ("__classdict__" : Str)) = false := by decide) (he : starEach [Expr.Name x p] X.env = (false, eval (.Name x p) X.env) :: starEach [] X.env := by rfl) (hpl : (backTo pos (starEach [] X.env)).any (·.1) = false := by rfl) :
    DE W X (.Call (.Name "len" fx) [.Name x p] [] pos) (tCB (rLenB K) (tCons (tVar i) tNil)) (rdPkLen i) := by
  subst hK
  exact ⟨pe_callB cr_lenB hg hm (by decide +kernel) (pa_cons (pe_var hN hv hdb hcd) pa_nil he) (by decide) (by decide) he hpl, ad_pkLen⟩

/-! ### writing: x[k] = e of an own dict, x.pop(e) of an own list -/
variable {dv dk : TDE} {tv tk : TE} {kx value : Expr} {pos' : Pos}
def rdPut (i : Nat) (dk dv : TDE) : TDS := fun E Γ => dv Γ fun d Γ1 => (∃ d0, Γ1[i]? = some (.own d0)) ∧ dk Γ1 fun kd Γ2 => ∃ ks ds ky, Γ2[i]? = some (.own (.dic ks ds)) ∧ keyOf kd = some ky ∧ ks.length < sizeLine ∧ E.nx (Γ2.set i (.own (.dic (putKs ks ky) (putDs ks ds ky d))))
theorem ds_put (hu : X.A.units + 1 < cLine) (hk : DE W X kx tk dk) (hvv : DE W X value tv dv) (hs : swapsWith value (some (.Subscript (.Name x p) kx pos')) pos.line X.env = pure false := by rfl) (hN : X.N[i]? = some x := by rfl) (hv : Vis X.env.scope x := by first | exact Or.inl rfl | exact Or.inr (Or.inl rfl) | exact Or.inr (Or.inr rfl))
    (hdb : (x == ("__debug__" : Str)) = false := by decide) (hcd : (x == ("__classdict__" : Str)) = false := by decide) : DS W X (.Assign [.Subscript (.Name x p) kx pos'] value pos) (sDPut (tVar i) tk tv) (rdPut i dk dv) := by
  refine ⟨ps_dput hu (pe_var hN hv hdb hcd) hk.pe hvv.pe hs, fun Γ σ Hv H E E' Z h l => ?_⟩
  refine hvv.ad Γ σ Hv H _ _ Z h fun v d Γ1 Hv1 H1 s1 r1 q => ?_
  obtain ⟨⟨d0, e0⟩, q⟩ := q
  obtain ⟨a0, u0, h0, _⟩ := s1.ev.getOwn e0
  refine ⟨_, h0, hk.ad Γ1 σ Hv1 H1 _ _ s1.ev q fun kv kd Γ2 Hv2 H2 s2 r2 q => ?_⟩
  obtain ⟨ks, ds, ky, e2, e3, hl, q⟩ := q
  obtain ⟨a2, u2, h2, hH, ⟨kvs, rfl, rfl, ra⟩, _⟩ := s2.ev.getOwn e2
  rw [h0] at h2
  cases h2
  have r1' := Rp.mono s2.sv _ _ r1
  obtain ⟨p1, p2⟩ := putK_rp (k := ky) ra r1'
  refine ⟨_, _, rfl, .inl ⟨kvs, ky, hH, keyOf_rp r2 e3, by rw [List.length_map] at hl; exact hl, rfl⟩, ?_⟩
  exact l.nx _ _ _ _ ((s1.trans s2).mut (d' := .dic (putKs (kvs.map (·.1)) ky) (putDs (kvs.map (·.1)) ds ky d)) e2 h0 ⟨_, rfl, p1.symm, p2⟩) q
def rdPop (j : Nat) (de : TDE) : TDE := fun Γ Q => (∃ ds, Γ[j]? = some (.own (.lst ds))) ∧ de Γ fun kd Γ1 => asI kd fun n => match Γ1[j]? with
  | some (.own (.lst ds)) => ∃ k d, 0 ≤ n ∧ n < 2 ^ 63 ∧ n.toNat = k ∧ ds[k]? = some d ∧ Q d (Γ1.set j (.own (.lst (ds.eraseIdx k))))
  | _ => False
theorem ad_pop {e : TE} {de : TDE} (he : Ad K W e de) : Ad K W (tBM K "list" rPopAt (tVar i) (tCons e tNil)) (rdPop i de) := fun Γ σ Hv H Q Q' Z h k => by
  obtain ⟨⟨ds0, e0⟩, h⟩ := h
  obtain ⟨p, u0, es, hp, ⟨vs0, rfl, _⟩, _⟩ := Z.getOwn e0
  refine ⟨_, es, .inl ⟨rfl, _, .of hp⟩, he Γ σ Hv H _ _ Z h fun v d Γ1 Hv1 H1 s1 r1 q => ?_⟩
  obtain ⟨n, rfl, q⟩ := asI_of r1 q
  split at q
  · rename_i ds e1
    obtain ⟨p1, u1, es1, hp1, ⟨vs1, rfl, ra⟩, _⟩ := s1.ev.getOwn e1
    rw [es] at es1
    cases es1
    obtain ⟨kk, d, n0, n1, ek, ed, q⟩ := q
    obtain ⟨w, ew, rw'⟩ := ra.get ed
    have hk : kk < vs1.length := (List.getElem?_eq_some_iff.mp ew).1
    refine ⟨_, vs1, n, kk, w, rfl, rfl, hp1, by omega, n1, ?_, ew, ?_⟩
    · rw [seqIndex_of n0 (by omega), ek]
    · exact k _ _ _ _ _ (s1.mut (d' := .lst (ds.eraseIdx kk)) e1 es ⟨_, rfl, ra.erase kk⟩) rw' q
  · exact q.elim
end
end VL

set_option Elab.async false
set_option linter.all false
set_option maxRecDepth 100000
set_option maxHeartbeats 4000000
/-! VL14: dicts walked; tuples joined and cut; sorted texts; list(d), sorted(d). -/
namespace VL
open PySem PySem.Spec L2
open PyProof.Rows hiding St
section
variable {W : Wc} {X : Cx} {K : PySem.W.Frag} {tg e : Expr} {te : TE} {de : TDE}
/-! ### for k in d -/
/-- the value is a dict, locked from now on -/
def tFrz (td : TE) : TE := fun σ H Q => td σ H fun x H1 => ∃ d kvs, x = .ref d ∧ ((∃ o, H1 d = some (.frz o (.dK kvs)) ∧ Q x H1) ∨ (H1 d = some (.dK kvs) ∧ ∀ o, Q x (upd H1 d (.frz o (.dK kvs)))))
theorem pe_frz (he : PE X e te) : PE X e (tFrz te) := by
  refine ⟨fun pins s σ H Q I h => ?_⟩
  refine thn (he.run pins s σ H _ I h) fun u s1 ⟨x, H1, I1, rx, d, kvs, ex, q⟩ => ?_
  rcases q with ⟨o, hd, q⟩ | ⟨hd, q⟩
  · exact ⟨x, H1, I1, rx, q⟩
  · obtain ⟨od, I2⟩ := I1.lock hd trivial
    exact ⟨x, _, I2, rx, q od⟩
def asDk (d : D) (k : List Key → List D → Prop) : Prop := match d with | .dic ks ds => k ks ds | _ => False
def rdIDic (de : TDE) : TDF := fun Γ Q => de Γ fun d Γ1 => asDk d fun ks _ => Q (ks.map kD1) Γ1
theorem itd_keys {a : Addr} {o : Obj} {kvs : List (Key × V)} {Hs : Hp} (h : Hs a = some (.frz o (.dK kvs))) : ItD K W (Itk a o kvs) ((kvs.map (·.1)).map kD1) Hs := by
  intro Γ σ Hv H sm E i
  have ha : H a = some (.frz o (.dK kvs)) := E.ret.sub.at (sm.at h fun _ z => nomatch z) fun _ z => nomatch z
  refine ⟨fun hi => ⟨ha, by rw [List.length_map, List.length_map] at hi; exact hi⟩, fun d ed => ?_⟩
  rw [List.getElem?_map, List.getElem?_map] at ed
  cases q : kvs[i]? with
  | none => rw [q] at ed; cases ed
  | some kv =>
    rw [q] at ed
    cases ed
    refine ⟨⟨ha, (List.getElem?_eq_some_iff.mp q).1⟩, fun x H' y => ?_⟩
    obtain ⟨rfl, k, v, e1, rfl⟩ := y
    rw [q] at e1
    cases e1
    exact ⟨Hv, E.stp, rp_key k⟩
theorem di_dic (he : DE W X e te de) : DI W X tg e (iKeys (tFrz te)) (rdIDic de) := by
  refine ⟨pi_keys (pe_frz he.pe), fun Γ σ Hv H Q R E h k => he.ad Γ σ Hv H _ _ E h fun v d Γ1 Hv1 H1 s1 r1 q => ?_⟩
  cases d <;> first | exact q.elim | skip
  cases r1 with
  | dic h1 h2 h3 =>
    rename_i a kvs
    subst h2
    have lock : (∃ o, H1 a = some (.frz o (.dK kvs)) ∧ Hv1 a = some (.frz o (.dK kvs))) ∨ (∃ o, H1 a = some (.frz o (.dK kvs)) ∧ Hv1 a = some (.dK kvs)) ∨ (H1 a = some (.dK kvs) ∧ Hv1 a = some (.dK kvs)) := by
      rcases h1 with h1 | ⟨o, h1⟩
      · rcases s1.ev.ret.sub a _ h1 with z | ⟨k2, ob, z, z2⟩
        · exact .inr (.inr ⟨z, h1⟩)
        · cases z; exact .inr (.inl ⟨ob, z2, h1⟩)
      · exact .inl ⟨o, s1.ev.ret.sub.at h1 (fun _ z => nomatch z), h1⟩
    rcases lock with ⟨o, l1, l2⟩ | ⟨o, l1, l2⟩ | ⟨l1, l2⟩
    · exact ⟨a, kvs, rfl, .inl ⟨o, l1, a, o, rfl, .inl ⟨kvs, l1, k _ _ Γ1 Hv1 H1 s1 (itd_keys l2) q⟩⟩⟩
    · refine ⟨a, kvs, rfl, .inl ⟨o, l1, a, o, rfl, .inl ⟨kvs, l1, ?_⟩⟩⟩
      have s2 := s1.lock l2 o
      have same : upd H1 a (.frz o (.dK kvs)) = H1 := by
        funext b
        by_cases hb : b = a
        · subst hb; rw [upd_same, l1]
        · rw [upd_ne hb]
      rw [same] at s2
      exact k _ _ Γ1 _ H1 s2 (itd_keys upd_same) q
    · refine ⟨a, kvs, rfl, .inr ⟨l1, fun o => ⟨a, o, rfl, .inl ⟨kvs, upd_same, ?_⟩⟩⟩⟩
      exact k _ _ Γ1 _ _ (s1.lock l2 o) (itd_keys upd_same) q

/-! ### list(d), sorted(d), sorted(texts) -/
def rListD : List V → Hp → VK → Prop := fun xs H Q => ∃ (a : Addr) (kvs : List (Key × V)), xs = [.ref a] ∧ Rd H a (.dK kvs) ∧ ∀ p, H p = none → Q (.ref p) (upd H p (.lst (kvs.map fun kv => kV kv.1)))
def rListB (K : PySem.W.Frag) : List V → Hp → VK → Prop := fun xs H Q => rListA K xs H Q ∨ rListD xs H Q
theorem cr_listB (hc : X.calm = true) : CallR X (.type "list") (rListB X.K) := (cr_list hc).or (call_listD hc)
def rdListB : List D → (D → Prop) → Prop := fun ds Q => match ds with | [.dic ks _] => Q (.lst (ks.map kD1)) | ds => rdListA ds Q
theorem cf_listB : CallF K W (rListB K) rdListB := by
  intro Γ σ Hv H vs ds Q Q' E r h k
  unfold rdListB at h
  split at h
  · obtain ⟨v, rfl, rv⟩ := r.one
    cases rv with
    | dic h1 h2 h3 =>
      refine .inr ⟨_, _, rfl, E.ret.sub.dk h1, fun l hl => ?_⟩
      obtain ⟨s, F⟩ := E.stp.alloc0 (.lst _) hl
      subst h2
      exact k l _ (.lst _) Hv _ s hl upd_same ⟨_, rfl, rp_keys _⟩ F h
  · exact .inl (cf_listA Γ σ Hv H vs ds Q Q' E r h k)
/-- a list of texts -/
def asSs : List D → Option (List Str)
  | [] => some []
  | .str b :: r => (asSs r).map (b :: ·)
  | _ :: _ => none
theorem asSs_of {H : Hp} : ∀ {ds : List D} {vs : List V} {bs : List Str}, RpAll K H vs ds → asSs ds = some bs → vs = bs.map V.str
  | [], _, _, r, e => by cases r; cases e; rfl
  | .str b :: ds, _, _, r, e => by
    cases r with
    | cons a r =>
      cases a
      unfold asSs at e
      cases q : asSs ds with
      | none => rw [q] at e; cases e
      | some bs =>
        rw [q] at e
        cases e
        rw [asSs_of r q]
        rfl
  | .non :: _, _, _, _, e => by cases e
  | .int _ :: _, _, _, _, e => by cases e
  | .bl _ :: _, _, _, _, e => by cases e
  | .ty _ :: _, _, _, _, e => by cases e
  | .ref _ :: _, _, _, _, e => by cases e
  | .tup _ :: _, _, _, _, e => by cases e
  | .lst _ :: _, _, _, _, e => by cases e
  | .dic _ _ :: _, _, _, _, e => by cases e
  | .obj _ _ _ :: _, _, _, _, e => by cases e
  | .fz _ :: _, _, _, _, e => by cases e
theorem asSs_map (bs : List Str) : asSs (bs.map D.str) = some bs := by
  induction bs with
  | nil => rfl
  | cons b r ih => show (asSs (r.map D.str)).map (b :: ·) = _; rw [ih]; rfl
theorem rp_strs {H : Hp} : ∀ ns : List Str, RpAll K H (ns.map V.str) (ns.map D.str)
  | [] => .nil
  | n :: ns => .cons (.str n) (rp_strs ns)
def keyS : Key → Option Str
  | .inr x => some x
  | _ => none
def keysS : List Key → Option (List Str)
  | [] => some []
  | .inr x :: r => (keysS r).map (x :: ·)
  | _ :: _ => none
theorem keysS_eq : ∀ {ks : List Key} {bs : List Str}, keysS ks = some bs → ks = bs.map Sum.inr
  | [], _, e => by cases e; rfl
  | .inr x :: r, _, e => by
    unfold keysS at e
    cases q : keysS r with
    | none => rw [q] at e; cases e
    | some bs => rw [q] at e; cases e; rw [keysS_eq q]; rfl
  | .inl _ :: _, _, e => by cases e
def rSortD : List V → Hp → VK → Prop := fun xs H Q => ∃ (a : Addr) (kvs : List (Key × V)) (ks : List Str), xs = [.ref a] ∧ Rd H a (.dK kvs) ∧ kvs.map (·.1) = ks.map Sum.inr ∧ ks.length < 64 ∧
    ∀ ys p, ys.Perm ks → sortedS ys = true → H p = none → Q (.ref p) (upd H p (.lst (ys.map V.str)))
def rSortB (K : PySem.W.Frag) : List V → Hp → VK → Prop := fun xs H Q => rSortedS K xs H Q ∨ rSortD xs H Q
theorem cr_sortB (hc : X.calm = true) : CallR X (.builtin "sorted") (rSortB X.K) := cr_sortedS.or (call_sortedD hc)
/-- sorted of a list, a tuple of texts, of a dict with text keys -/
def rdSortB : List D → (D → Prop) → Prop := fun ds Q => match ds with
  | [.lst xs] => ∃ bs, asSs xs = some bs ∧ bs.length < 64 ∧ ∀ ys, ys.Perm bs → sortedS ys = true → Q (.lst (ys.map D.str))
  | [.dic ks _] => ∃ bs, keysS ks = some bs ∧ bs.length < 64 ∧ ∀ ys, ys.Perm bs → sortedS ys = true → Q (.lst (ys.map D.str))
  | _ => False
theorem cf_sortB : CallF K W (rSortB K) rdSortB := by
  intro Γ σ Hv H vs ds Q Q' E r h k
  unfold rdSortB at h
  split at h
  · obtain ⟨bs, e1, e2, q⟩ := h
    obtain ⟨v, rfl, rv⟩ := r.one
    cases rv with
    | lst h1 h2 =>
      have ev := asSs_of h2 e1
      subst ev
      refine .inl ⟨_, bs, rfl, .of (E.ret.sub.lst h1), e2, fun ys p h3 h4 hp => ?_⟩
      obtain ⟨s, F⟩ := E.stp.alloc0 (.lst _) hp
      exact k p _ (.lst _) Hv _ s hp upd_same ⟨_, rfl, rp_strs ys⟩ F (q ys h3 h4)
  · obtain ⟨bs, e1, e2, q⟩ := h
    obtain ⟨v, rfl, rv⟩ := r.one
    cases rv with
    | dic h1 h2 h3 =>
      refine .inr ⟨_, _, bs, rfl, E.ret.sub.dk h1, by rw [← h2]; exact keysS_eq e1, e2, fun ys p h3 h4 hp => ?_⟩
      obtain ⟨s, F⟩ := E.stp.alloc0 (.lst _) hp
      exact k p _ (.lst _) Hv _ s hp upd_same ⟨_, rfl, rp_strs ys⟩ F (q ys h3 h4)
  · exact h.elim
end
end VL

set_option Elab.async false
set_option linter.all false
set_option maxRecDepth 100000
set_option maxHeartbeats 4000000
/-! VL15: tuples joined and cut; enumerate. -/
namespace VL
open PySem PySem.Spec L2
open PyProof.Rows hiding St
section
variable {W : Wc} {X : Cx} {K : PySem.W.Frag} {tg e : Expr} {te : TE} {de : TDE}
theorem nil_iff {H : Hp} {vs : List V} {ds : List D} (r : RpAll K H vs ds) : vs = [] ↔ ds = [] := by
  cases r with
  | nil => exact ⟨fun _ => rfl, fun _ => rfl⟩
  | cons _ _ => exact ⟨(fun z => nomatch z), (fun z => nomatch z)⟩
def rAddB (K : PySem.W.Frag) : R2 := fun x y H Q => rAddA K x y H Q ∨ rCatA K x y H Q
theorem op_addB : OpR X (binaryOp .Add) (rAddB X.K) := op_addA.or op_catA
def rdAddB : RD2 := fun x y Q => match x, y with
  | .tup a, .tup b => a.length + b.length ≤ sizeLine ∧ Q (.tup (a ++ b))
  | x, y => rdAdd x y Q
theorem od_addB : OpD K W (rAddB K) rdAddB := by
  intro Γ σ Hv H x y dx dy Q Q' E rx ry h k
  unfold rdAddB at h
  split at h
  · cases rx with
    | tup h1 r1 =>
      cases ry with
      | tup h2 r2 =>
        refine .inr ⟨_, _, _, _, rfl, rfl, seqT E.ret.sub h1, seqT E.ret.sub h2, by rw [r1.length, r2.length]; exact h.1, fun z => ?_, fun z1 z2 => ?_, fun z1 z2 p hp => ?_⟩
        · have e := (nil_iff r1).mp z
          subst e
          exact k _ _ Hv H E.stp (.tup h2 r2) h.2
        · have e := (nil_iff r2).mp z2
          subst e
          rw [List.append_nil] at h
          exact k _ _ Hv H E.stp (.tup h1 r1) h.2
        · exact k _ _ _ _ (E.stp.alloc _ hp) (.tup (.of upd_same) (RpAll.mono (same_upd (E.noneHv hp)) _ _ (r1.append r2))) h.2
  · exact .inl (od_add Γ σ Hv H x y dx dy Q Q' E rx ry h k)
/-- x[lo:hi] of a list, a text, a tuple -/
def rCutB (K : PySem.W.Frag) : V → Option Int → Option Int → Hp → VK → Prop := fun x lo hi H Q => rCutA K x lo hi H Q ∨ L2.rSlA K x lo hi H Q
theorem sl_allB : SlR X (rCutB X.K) := sl_all.or sl_tupA
def rdSlB : D → Option Int → Option Int → (D → Prop) → Prop := fun x lo hi Q => match x with
  | .tup ds => Q (.tup (cutD ds lo hi))
  | x => rdSlA x lo hi Q
theorem cut_whole {ds : List D} {lo hi : Option Int} (h : HT.sIx ds.length 0 lo = 0 ∧ HT.sIx ds.length ds.length hi = ds.length) : cutD ds lo hi = ds := by
  unfold cutD
  rw [h.1, h.2, List.drop_zero, Nat.sub_zero, List.take_length]
theorem sd_allB : SlD K W (rCutB K) rdSlB := by
  intro Γ σ Hv H x lo hi dx Q Q' E rx h k
  unfold rdSlB at h
  split at h
  · cases rx with
    | tup h1 r1 =>
      refine .inr ⟨_, _, rfl, seqT E.ret.sub h1, fun z => ?_, fun z p hp => ?_⟩
      · rw [r1.length] at z
        rw [cut_whole z] at h
        exact k _ _ Hv H E.stp (.tup h1 r1) h
      · exact k _ _ _ _ (E.stp.alloc _ hp) (.tup (.of upd_same) (RpAll.mono (same_upd (E.noneHv hp)) _ _ (r1.cut lo hi))) h
  · exact .inl (sd_all Γ σ Hv H x lo hi dx Q Q' E rx h k)
/-! ### enumerate(a list) -/
def enumD (ds : List D) : List D := (List.range ds.length).zipWith (fun i d => D.tup [.int ((i : Nat) : Int), d]) ds
def rdIEnum (dt : TDF) : TDF := fun Γ Q => dt Γ fun ds Γ1 => match ds with | [.lst xs] => Q (enumD xs) Γ1 | _ => False
theorem enumD_get {ds : List D} {i : Nat} {x : D} (h : (enumD ds)[i]? = some x) : ∃ d, ds[i]? = some d ∧ x = .tup [.int (i : Int), d] := by
  unfold enumD at h
  rw [List.getElem?_zipWith] at h
  cases q : ds[i]? with
  | none => rw [q] at h; cases z : (List.range ds.length)[i]? <;> rw [z] at h <;> cases h
  | some d =>
    have hi : i < ds.length := (List.getElem?_eq_some_iff.mp q).1
    rw [q, List.getElem?_range hi] at h
    cases h
    exact ⟨d, rfl, rfl⟩
theorem di_enum {elts : List Expr} {kk : Nat} {p pos tpos : Pos} {t : TA} {dt : TDF} (hK : X.K = K) (hg : Gl X "enumerate") (hm : X.mg "enumerate" = none) (ha : DA W X [e] t dt) (hs : starEach [e] X.env = [(false, eval e X.env)] := by rfl) :
    DI W X (.Tuple elts kk tpos) (.Call (.Name "enumerate" p) [e] [] pos) (iEnum K t) (rdIEnum dt) := by
  subst hK
  refine ⟨pi_enum hg hm ha.pa hs, fun Γ σ Hv H Q R E h k => ha.ad Γ σ Hv H _ _ E h fun vs ds Γ1 Hv1 H1 s1 r1 q => ?_⟩
  split at q
  · obtain ⟨v, rfl, rv⟩ := r1.one
    cases rv with
    | lst h1 r2 =>
      rename_i xs a vs
      refine ⟨a, vs, rfl, .of (s1.ev.ret.sub.lst h1), k _ _ Γ1 Hv1 H1 s1 (fun Γ' σ' Hv' H' sm E' i => ?_) q⟩
      have ha' : SqL X.K H' a vs := .of (E'.ret.sub.lst (sm.lst h1))
      have hlen : (enumD xs).length = vs.length := by
        unfold enumD
        rw [List.length_zipWith, List.length_range, Nat.min_self, r2.length]
      refine ⟨fun hi => ⟨vs, ha', by rw [← hlen]; exact hi⟩, fun d ed => ?_⟩
      obtain ⟨d', e1, rfl⟩ := enumD_get ed
      obtain ⟨v, ev, rv⟩ := r2.get e1
      refine ⟨⟨vs, v, ha', ev⟩, fun x H2 y => ?_⟩
      obtain ⟨T, x', rfl, hT, rfl, hx⟩ := y
      have ex := hx vs ha'
      rw [ev] at ex
      cases ex
      exact ⟨_, E'.stp.alloc _ hT, .tup (.of upd_same) (.cons (.int _) (.cons (Rp.mono (sm.trans (same_upd (E'.noneHv hT))) _ _ rv) .nil))⟩
  · exact q.elim
end
end VL

set_option Elab.async false
set_option linter.all false
set_option maxRecDepth 100000
set_option maxHeartbeats 4000000
/-! VL16: instances: attributes, methods, making. -/
namespace VL
open PySem PySem.Spec L2
open PyProof.Rows hiding St
/-- the module's name cn stands for the class at C -/
def CN (K : PySem.W.Frag) (cn : Str) (C : Addr) : Prop := PySem.W.nsIn K mainGlobals cn = some (some (.ref C))
theorem CN.same {K : PySem.W.Frag} {cn : Str} {C C' : Addr} (h : CN K cn C) (h' : PySem.W.nsIn K mainGlobals cn = some (some (.ref C'))) : C' = C := by
  have h : PySem.W.nsIn K mainGlobals cn = some (some (.ref C)) := h
  rw [h] at h'
  cases h'
  rfl
def lookF : List Str → List D → Str → Option D
  | n :: ns, d :: ds, f => if f = n then some d else lookF ns ds f
  | _, _, _ => none
def asObj (cn : Str) (d : D) (k : List Str → List D → Prop) : Prop := match d with | .obj c ns es => c = cn ∧ k ns es | _ => False
theorem asObj_of {cn : Str} {d : D} {k : List Str → List D → Prop} (h : asObj cn d k) : ∃ ns es, d = .obj cn ns es ∧ k ns es := by
  cases d <;> first | exact h.elim | skip
  obtain ⟨rfl, h⟩ := h
  exact ⟨_, _, rfl, h⟩
theorem asObj_e {cn : Str} {ns : List Str} {es : List D} {k : List Str → List D → Prop} : asObj cn (.obj cn ns es) k = k ns es := propext ⟨fun h => h.2, fun h => ⟨rfl, h⟩⟩
section
variable {K : PySem.W.Frag} {H : Hp}
theorem lookF_rp : ∀ {fs : List (Str × V)} {ds : List D} {f : Str} {d : D}, RpAll K H (fs.map (·.2)) ds → lookF (fs.map (·.1)) ds f = some d → ∃ v, fs.lookup f = some v ∧ Rp K H v d
  | [], _, _, _, h, e => by cases h; cases e
  | kv :: fs, _, f, d, h, e => by
    cases h with
    | cons a h =>
      obtain ⟨n, v⟩ := kv
      have e : (if f = n then some _ else lookF (fs.map (·.1)) _ f) = some d := e
      rw [List.lookup_cons]
      by_cases q : f = n
      · rw [if_pos q] at e
        cases e
        rw [show (f == n) = true by rw [q]; simp]
        exact ⟨v, rfl, a⟩
      · rw [if_neg q] at e
        rw [show (f == n) = false by simp [q]]
        exact lookF_rp h e
theorem lookup_notin : ∀ {fs : List (Str × V)} {m : Str}, m ∉ fs.map (·.1) → fs.lookup m = none
  | [], _, _ => rfl
  | (n, v) :: fs, m, h => by
    rw [List.map_cons, List.mem_cons, not_or] at h
    rw [List.lookup_cons, show (m == n) = false by simp [h.1]]
    exact lookup_notin h.2
end
section
variable {W : Wc} {X : Cx} {K : PySem.W.Frag} {o e : Expr} {es : List Expr} {to ta tv : TE} {do' da dv : TDE} {t : TA} {dt : TDF} {pos p apos : Pos} {cn f m x : Str} {C : Addr} {i : Nat}
/-- o.f -/
def rdFld (cn f : Str) (do' : TDE) : TDE := fun Γ Q => do' Γ fun d Γ1 => asObj cn d fun ns es => ∃ v, lookF ns es f = some v ∧ Q v Γ1
theorem d_fld (hK : X.K = K) (hc : CN K cn C) (c : Cls K C) (n : NoAttr K C f) (ho : DE W X o to do') (hb : attributeBase o f X.env (eval o X.env) = eval o X.env := by rfl) : DE W X (.Attribute o f pos) (tFld K to f) (rdFld cn f do') := by
  subst hK
  refine ⟨pe_fld ho.pe hb, fun Γ σ Hv H Q Q' E h k => ho.ad Γ σ Hv H _ _ E h fun v d Γ1 Hv1 H1 s1 r1 q => ?_⟩
  obtain ⟨ns, es, ed, d', e1, q2⟩ := asObj_of q
  subst ed
  cases r1 with
  | obj h1 h2 h3 h4 =>
    subst h3
    obtain rfl := hc.same h2
    obtain ⟨w, e2, rw'⟩ := lookF_rp h4 e1
    exact ⟨_, _, _, _, w, rfl, s1.ev.ret.sub.ins h1, c, n, e2, k w d' Γ1 Hv1 H1 s1 rw' q2⟩
/-- x.f, x's object its slot's own -/
def rdPkFld (i : Nat) (cn f : Str) : TDE := fun Γ Q => pkG Γ i fun d => asObj cn d fun ns es => ∃ v, lookF ns es f = some v ∧ Q v Γ
theorem d_pkFld (hK : X.K = K) (hc : CN K cn C) (c : Cls K C) (n : NoAttr K C f) (hN : X.N[i]? = some x := by rfl) (hv : Vis X.env.scope x := by first | exact Or.inl rfl | exact Or.inr (Or.inl rfl) | exact Or.inr (Or.inr rfl))
    (hdb : (x == ("__debug__" : Str)) = false := by decide) (hcd : (x == ("__classdict__" : Str)) = false := by decide) (hb : attributeBase (.Name x p) f X.env (eval (.Name x p) X.env) = eval (.Name x p) X.env := by rfl) : DE W X (.Attribute (.Name x p) f pos) (tFld K (tVar i) f) (rdPkFld i cn f) := by
  subst hK
  refine ⟨pe_fld (pe_var hN hv hdb hcd) hb, fun Γ σ Hv H Q Q' E h k => ?_⟩
  obtain ⟨a, u, d, e1, hu, ob, q⟩ := E.pk h
  obtain ⟨ns, es, ed, d', e2, q2⟩ := asObj_of q
  subst ed
  obtain ⟨C', dx, fs, rfl, h2, rfl, h4⟩ := ob
  obtain rfl := hc.same h2
  obtain ⟨w, e3, rw'⟩ := lookF_rp h4 e2
  exact ⟨_, e1, _, _, _, _, w, rfl, hu, c, n, e3, k w d' Γ Hv H E.stp rw' q2⟩
variable {CX : CXT} {k : Nat} {g : Addr} {fd : FuncData} {ps : List Str} {F : FD} {dvs : List V} {dds : List D} {ds : List Value} {E : XK}
/-- o.m(e, ..), m a pure def of the class -/
def rdMeth (cn m : Str) (F : FD) (dds : List D) (do' : TDE) (dt : TDF) : TDE := fun Γ Q => do' Γ fun d Γ1 => asObj cn d fun ns es => m ∉ ns ∧ dt Γ1 fun ds Γ2 => F (d :: (ds ++ dds)) fun r => Q r Γ2
theorem ad_meth (hc : CN K cn C) (hdd : ∀ H, RpAll K H dvs dds) (ho : Ad K W to do') (ha : AdA K W t dt) : Ad K W (tMeth C m (spD Vol.no K F) dvs E to t) (rdMeth cn m F dds do' dt) := fun Γ σ Hv H Q Q' Z h k => by
  refine ho Γ σ Hv H _ _ Z h fun v d Γ1 Hv1 H1 s1 r1 q => ?_
  obtain ⟨ns, es, rfl, hm, q⟩ := asObj_of q
  have r1' := r1
  cases r1 with
  | obj h1 h2 h3 h4 =>
    subst h3
    obtain rfl := hc.same h2
    refine ⟨_, _, _, rfl, s1.ev.ret.sub.ins h1, lookup_notin hm, ?_⟩
    refine ha Γ1 σ Hv1 H1 _ _ s1.ev q fun vs ds Γ2 Hv2 H2 s2 r2 q => ?_
    exact ⟨Hv2, _, _, s2.ev.ret.sub, True.intro, fun _ z => z.elim, .cons (Rp.mono s2.sv _ _ r1') (r2.append (hdd _)), q, fun v d Hv3 H3 R r3 q3 => k v d Γ2 Hv3 H3 ((s1.trans s2).after (s2.ev.pure R)) r3 q3⟩
/-! ### self.f = e, self's object the slot's own -/
def putNs (ns : List Str) (f : Str) : List Str := match ns with
  | [] => [f]
  | g :: r => if g = f then g :: r else g :: putNs r f
def putEs (ns : List Str) (es : List D) (f : Str) (d : D) : List D := match ns, es with
  | g :: r, x :: xs => if g = f then d :: xs else x :: putEs r xs f d
  | _, _ => [d]
theorem putF_rp {H : Hp} : ∀ {fs : List (Str × V)} {ds : List D} {f : Str} {v : V} {d : D}, RpAll K H (fs.map (·.2)) ds → Rp K H v d → (putF f v fs).map (·.1) = putNs (fs.map (·.1)) f ∧ RpAll K H ((putF f v fs).map (·.2)) (putEs (fs.map (·.1)) ds f d)
  | [], _, f, v, d, h, r => by cases h; exact ⟨rfl, .cons r .nil⟩
  | (g, x) :: fs, _, f, v, d, h, r => by
    cases h with
    | cons a h =>
      obtain ⟨i1, i2⟩ := putF_rp (f := f) h r
      unfold putF putNs putEs
      simp only [List.map_cons]
      by_cases e : g = f
      · rw [if_pos e, if_pos e, if_pos e]
        exact ⟨rfl, .cons r h⟩
      · rw [if_neg e, if_neg e, if_neg e]
        exact ⟨by rw [List.map_cons, i1], .cons a i2⟩
def rdPutF (i : Nat) (cn f : Str) (dv : TDE) : TDS := fun E Γ => dv Γ fun d Γ1 => ∃ y ns es, Γ1[i]? = some (.slf y (.obj cn ns es)) ∧ ns.length < 1000 ∧ E.nx (Γ1.set i (.slf y (.obj cn (putNs ns f) (putEs ns es f d))))
theorem ds_putF {value : Expr} {pos' : Pos} (hK : X.K = K) (hc : CN K cn C) (c : Cls K C) (n : NoAttr K C f) (hvv : DE W X value tv dv) (hs : swapsWith value (some (.Attribute (.Name x p) f pos')) pos.line X.env = pure false := by rfl) (hN : X.N[i]? = some x := by rfl) (hv : Vis X.env.scope x := by first | exact Or.inl rfl | exact Or.inr (Or.inl rfl) | exact Or.inr (Or.inr rfl))
    (hdb : (x == ("__debug__" : Str)) = false := by decide) (hcd : (x == ("__classdict__" : Str)) = false := by decide) : DS W X (.Assign [.Attribute (.Name x p) f pos'] value pos) (sFld K (tVar i) tv f) (rdPutF i cn f dv) := by
  subst hK
  refine ⟨ps_fld (pe_var hN hv hdb hcd) hvv.pe hs, fun Γ σ Hv H E E' Z h l => ?_⟩
  refine hvv.ad Γ σ Hv H _ _ Z h fun v d Γ1 Hv1 H1 s1 r1 q => ?_
  obtain ⟨a, ns, es, e1, hl, q⟩ := q
  obtain ⟨u, h1, hH, ⟨C', dx, fs, rfl, h2, rfl, h4⟩, _⟩ := s1.ev.getSlf e1
  obtain rfl := hc.same h2
  obtain ⟨p1, p2⟩ := putF_rp (f := f) h4 r1
  refine ⟨_, h1, a, _, dx, fs, rfl, hH, c, n, by rw [List.length_map] at hl; exact hl, ?_⟩
  exact l.nx _ _ _ _ (s1.mutS (d' := .obj cn (putNs (fs.map (·.1)) f) (putEs (fs.map (·.1)) es f d)) e1 ⟨_, dx, _, rfl, h2, p1.symm, p2⟩) q

/-! ### making an instance -/
/-- __init__'s promise: the object at the first argument is new; behind it the object is data -/
def spInit (J : Vol) (K : PySem.W.Frag) (C : Addr) (F : FD) : Sp := fun vs H Q _ => ∃ y dx ws H1 Hv ds Qd, vs = .ref y :: ws ∧ H1 y = none ∧ H1 dx = none ∧ dx ≠ y ∧ H = upd (upd H1 dx (.own y)) y (.ins C dx []) ∧
  Sub Hv H1 ∧ J.inv H1 ∧ (∀ a, J.vol a → Hv a = none) ∧ RpAll K Hv ws ds ∧ F ds Qd ∧ ∀ d Hv' H', Ret J.vol J.inv Hv H1 Hv' H' → Rp K Hv' (.ref y) d → Qd d → Q .non H'
theorem ad_make (hdd : ∀ H, RpAll K H dvs dds) (ha : AdA K W t dt) : Ad K W (tMake C (spInit Vol.no K C F) dvs E t) (rdCall F dds dt) := fun Γ σ Hv H Q Q' Z h k => by
  refine ha Γ σ Hv H _ _ Z h fun vs ds Γ1 Hv1 H1 s1 r1 q => ?_
  intro y dx hy hdx hne
  exact ⟨y, dx, _, H1, Hv1, _, _, rfl, hy, hdx, hne, rfl, s1.ev.ret.sub, True.intro, fun _ z => z.elim, r1.append (hdd _), q, fun d Hv2 H2 R r2 q2 => ⟨rfl, k _ d Γ1 Hv2 H2 (s1.after (s1.ev.pure R)) r2 q2⟩⟩
theorem d_makeP (hK : X.K = K) (M : Mk K C g) (G : FnOk X.prog X.w K X.mg X.base CX k g fd ps (spInit Vol.no K C F)) (hr : Room (k + 1) X.A) (hg : Gl X x) (hm : X.mg x = some (.ref C)) (hb : Binds K fd ps ds) (hd : Vals dvs ds) (hdd : ∀ H, RpAll K H dvs dds) (hx : Passes CX X E)
    (ha : DA W X (e :: es) t dt) (hdb : (x == ("__debug__" : Str)) = false := by decide) (he : starEach (e :: es) X.env = (false, eval e X.env) :: starEach es X.env := by rfl) (hpl : (backTo pos (starEach es X.env)).any (·.1) = false := by rfl) :
    DE W X (.Call (.Name x p) (e :: es) [] pos) (tMake C (spInit Vol.no K C F) dvs E t) (rdCall F dds dt) := by
  subst hK
  exact ⟨pe_make M G hr hg hm hb hd hx ha.pa hdb he hpl, ad_make hdd ha.ad⟩
/-- THE RULE for an __init__ -/
theorem fn_init {P : Program} {w : World} {mg : Str → Option Value} {base : Heap} {xn qual : Str} {st : Stmt} {f : Addr} {fd : FuncData} {N ps : List Str} {p0 : Str} {k : Nat} (J : Vol) {Fd : FD} (hc : CN K cn C) (Fn : Fun K xn qual st f fd) (S : FnScope N (p0 :: ps) (defScope st)) (len : ∀ ds Q, Fd ds Q → ds.length = ps.length)
    (hbody : ∀ (cdv : Value) (A : Around) (outer : List Env) (s : Shared) (H : Hp) (E : XK) (W : Wc) (y : Addr), W.J = J → Room k (A.deeper (envOfC qual (defScope st) s.heap.objs.size f cdv)) →
      ∃ t td, DSs W (cxOf CX0 P w K mg base N qual (defScope st) f cdv A outer s H E).nox (defBody st) t td ∧ ∀ ds Q, Fd ds Q → td { nx := fun Γ => ∃ d, Γ[0]? = some (.slf y d) ∧ Q d, rt := fun _ => False } (.slf y (.obj cn [] []) :: startG N.tail ds)) (hN : N ≠ []) :
    FnOk P w K mg base CX0 (k + 1) f fd (p0 :: ps) (spInit J K C Fd) := by
  refine Fn.ok S (fun vs H Q E h => ?_) (fun cdv A outer s H vs Q E hr h => ?_)
  · obtain ⟨y, dx, ws, H1, Hv, ds, Qd, rfl, _, _, _, _, _, _, _, r, hf, _⟩ := h
    rw [List.length_cons, List.length_cons, r.length, len _ _ hf]
  · obtain ⟨y, dx, ws, H1, Hv, ds, Qd, rfl, hy, hdx, hne, rfl, sub, inv, nv, r, hf, out⟩ := h
    let W : Wc := ⟨J, H1, Hv, inv, sub, nv⟩
    obtain ⟨t, td, hb, hq⟩ := hbody cdv A outer s _ E W y rfl hr
    refine ⟨t, hb.ps, ?_⟩
    have hvy : Hv y = none := sub.none hy
    have hvd : Hv dx = none := sub.none hdx
    have nvy : ¬ J.vol y := fun v => J.there _ _ inv v hy
    have nvd : ¬ J.vol dx := fun v => J.there _ _ inv v hdx
    have ret : Ret J.vol J.inv Hv H1 Hv (upd (upd H1 dx (.own y)) y (.ins C dx [])) := by
      refine ⟨.refl _, same_left (same_left sub hvd) hvy, fun a o e _ _ => ?_, J.keep _ _ inv fun a v => ?_, nv, fun _ z _ => z⟩
      · rw [upd_ne (ne_of_none e hy), upd_ne (ne_of_none e hdx)]; exact e
      · rw [upd_ne (fun z => nvy (by rw [← z]; exact v)), upd_ne (fun z => nvd (by rw [← z]; exact v))]
    obtain ⟨n0, N', rfl⟩ : ∃ n0 N', N = n0 :: N' := by
      cases N with
      | nil => exact absurd rfl hN
      | cons a b => exact ⟨a, b, rfl⟩
    have Z0 : Ev K W (startG N' ds) (L2.start N' ws) Hv (upd (upd H1 dx (.own y)) y (.ins C dx [])) := start_slots r ret
    have hst : L2.start (n0 :: N') (.ref y :: ws) = some (.ref y) :: L2.start N' ws := by
      unfold L2.start
      rw [List.length_cons, List.length_cons, Nat.add_sub_add_right]
      rfl
    have nown : ∀ (i : Nat) (sl : Sl), (startG N' ds)[i]? = some sl → sl.isOwn = false := fun i sl e => by
      unfold startG at e
      rcases List.mem_append.mp (List.mem_of_getElem? e) with m | m
      · obtain ⟨d, _, rfl⟩ := List.mem_map.mp m; rfl
      · rw [(List.mem_replicate.mp m).2]; rfl
    have Z : Ev K W (.slf y (.obj cn [] []) :: startG N' ds) (L2.start (n0 :: N') (.ref y :: ws)) Hv (upd (upd H1 dx (.own y)) y (.ins C dx [])) := by
      rw [hst]
      refine ⟨ret, by rw [List.length_cons, List.length_cons, Z0.len], fun i sl e => ?_, fun i j sl sl' a ne e1 e2 o1 o2 q => ?_⟩
      · cases i with
        | zero => cases e; exact ⟨_, rfl, upd_same, ⟨C, dx, [], rfl, hc, rfl, .nil⟩, hvy, hy⟩
        | succ i => exact Z0.slots i sl e
      · cases i with
        | zero =>
          cases j with
          | zero => exact absurd rfl ne
          | succ j => rw [nown j sl' e2] at o2; cases o2
        | succ i => rw [nown i sl e1] at o1; cases o1
    refine hb.ad _ _ Hv _ _ _ Z (hq ds Qd hf) ⟨fun Γ' σ' Hv' H' s q => ?_, fun v d Γ' σ' Hv' H' s rv q => q.elim, fun _ _ _ _ _ q => q.elim, fun _ _ _ _ _ q => q.elim⟩
    obtain ⟨d, e, qd⟩ := q
    obtain ⟨u, h1, h2, h3, h4, h5⟩ := s.ev.getSlf e
    have R := s.ev.ret
    refine out d (upd Hv' y u) H' ⟨R.sv.trans (same_upd h4), same_share R.sub h2, R.old, R.inv, fun a v => ?_, fun a z e => ?_⟩ ((h3.mono (same_upd h4)).rp upd_same) qd
    · rw [upd_ne (fun z => nvy (by rw [← z]; exact v))]; exact R.nv a v
    · rw [upd_ne (show a ≠ y from fun q => e (by rw [q]; exact hy))]; exact R.grow a z e
end
end VL

set_option Elab.async false
set_option linter.all false
set_option maxRecDepth 100000
set_option maxHeartbeats 4000000
/-! VL17: borrowed parameters: a def that only looks at an object that its caller goes on to write. -/
namespace VL
open PySem PySem.Spec L2
open PyProof.Rows hiding St
/-- the arguments: data, or (true) an object that the caller alone holds -/
inductive ArgsR (K : PySem.W.Frag) (vol : Addr → Prop) (Hv H : Hp) : List Bool → List V → List D → Prop
  | nil : ArgsR K vol Hv H [] [] []
  | dat {v : V} {d : D} {bs : List Bool} {vs : List V} {ds : List D} : Rp K Hv v d → ArgsR K vol Hv H bs vs ds → ArgsR K vol Hv H (false :: bs) (v :: vs) (d :: ds)
  | bor {a : Addr} {u : HO} {d : D} {bs : List Bool} {vs : List V} {ds : List D} : H a = some u → ObD K Hv d u → Hv a = none → ¬ vol a → ArgsR K vol Hv H bs vs ds → ArgsR K vol Hv H (true :: bs) (.ref a :: vs) (d :: ds)
theorem ArgsR.length {K : PySem.W.Frag} {vol : Addr → Prop} {Hv H : Hp} : ∀ {bs : List Bool} {vs : List V} {ds : List D}, ArgsR K vol Hv H bs vs ds → vs.length = ds.length
  | _, _, _, .nil => rfl
  | _, _, _, .dat _ h => by rw [List.length_cons, List.length_cons, h.length]
  | _, _, _, .bor _ _ _ _ h => by rw [List.length_cons, List.length_cons, h.length]
theorem ArgsR.to {K : PySem.W.Frag} {vol vol' : Addr → Prop} {Hv H : Hp} (hv : ∀ a, vol' a → vol a) : ∀ {bs : List Bool} {vs : List V} {ds : List D}, ArgsR K vol Hv H bs vs ds → ArgsR K vol' Hv H bs vs ds
  | _, _, _, .nil => .nil
  | _, _, _, .dat r h => .dat r (h.to hv)
  | _, _, _, .bor h1 h2 h3 h4 h => .bor h1 h2 h3 (fun z => h4 (hv _ z)) (h.to hv)
def spB (J : Vol) (K : PySem.W.Frag) (bs : List Bool) (F : FD) : Sp := fun vs H Q _ => ∃ Hv ds Qd, Sub Hv H ∧ J.inv H ∧ (∀ a, J.vol a → Hv a = none) ∧ ArgsR K J.vol Hv H bs vs ds ∧ F ds Qd ∧
  ∀ v d Hv' H', Ret J.vol J.inv Hv H Hv' H' → Rp K Hv' v d → Qd d → Q v H'
def AdB (K : PySem.W.Frag) (W : Wc) (bs : List Bool) (ta : TA) (td : TDF) : Prop := ∀ Γ σ Hv H (Q : List D → Gm → Prop) (Q' : List V → Hp → Prop), Ev K W Γ σ Hv H → td Γ Q →
  (∀ vs ds Γ' Hv' H', Stp K W Γ σ Hv H Γ' σ Hv' H' → ArgsR K W.J.vol Hv' H' bs vs ds → Q ds Γ' → Q' vs H') → ta σ H Q'
structure DB (W : Wc) (X : Cx) (bs : List Bool) (es : List Expr) (ta : TA) (td : TDF) : Prop where
  pa : PA X es ta
  ad : AdB X.K W bs ta td
section
variable {W : Wc} {X : Cx} {K : PySem.W.Frag} {e : Expr} {es : List Expr} {te : TE} {de : TDE} {t : TA} {dt : TDF} {bs : List Bool} {pos p : Pos} {x : Str} {i : Nat}
theorem Ev.pkB {Γ : Gm} {σ : L2.St} {Hv H : Hp} (E : Ev K W Γ σ Hv H) {k : D → Prop} (h : pkG Γ i k) : ∃ a u d, σ[i]? = some (some (.ref a)) ∧ H a = some u ∧ ObD K Hv d u ∧ Hv a = none ∧ ¬ W.J.vol a ∧ k d := by
  unfold pkG at h
  split at h
  · rename_i d e
    obtain ⟨a, u, h1, h2, h3, h4, h5⟩ := E.getOwn e
    exact ⟨a, u, d, h1, h2, h3, h4, E.novol h5, h⟩
  · rename_i d e
    obtain ⟨a, u, h1, h2, h3, h4, h5⟩ := E.getBor e
    exact ⟨a, u, d, h1, h2, h3, h4, h5, h⟩
  · rename_i y d e
    obtain ⟨u, h1, h2, h3, h4, h5⟩ := E.getSlf e
    exact ⟨y, u, d, h1, h2, h3, h4, E.novol h5, h⟩
  · exact h.elim
theorem db_nil : DB W X [] [] tNil rdNil := ⟨pa_nil, fun Γ σ Hv H Q Q' E h k => k [] [] Γ Hv H E.stp .nil h⟩
theorem db_dat (ha : DE W X e te de) (hr : DB W X bs es t dt) (hs : starEach (e :: es) X.env = (false, eval e X.env) :: starEach es X.env := by rfl) : DB W X (false :: bs) (e :: es) (tCons te t) (rdCons de dt) := by
  refine ⟨pa_cons ha.pe hr.pa hs, fun Γ σ Hv H Q Q' E h k => ?_⟩
  refine ha.ad Γ σ Hv H _ _ E h fun x d Γ1 Hv1 H1 s1 r1 q => ?_
  exact hr.ad Γ1 σ Hv1 H1 _ _ s1.ev q fun vs ds Γ2 Hv2 H2 s2 r2 q2 => k _ _ Γ2 Hv2 H2 (s1.trans s2) (.dat (Rp.mono s2.sv _ _ r1) r2) q2
def rdConsB (i : Nat) (dr : TDF) : TDF := fun Γ Q => isPk Γ i ∧ dr Γ fun ds Γ1 => pkG Γ1 i fun d => Q (d :: ds) Γ1
theorem db_bor (hr : DB W X bs es t dt) (hN : X.N[i]? = some x := by rfl) (hv : Vis X.env.scope x := by first | exact Or.inl rfl | exact Or.inr (Or.inl rfl) | exact Or.inr (Or.inr rfl)) (hdb : (x == ("__debug__" : Str)) = false := by decide) (hcd : (x == ("__classdict__" : Str)) = false := by decide)
    (hs : starEach (.Name x p :: es) X.env = (false, eval (.Name x p) X.env) :: starEach es X.env := by rfl) : DB W X (true :: bs) (.Name x p :: es) (tCons (tVar i) t) (rdConsB i dt) := by
  refine ⟨pa_cons (pe_var hN hv hdb hcd) hr.pa hs, fun Γ σ Hv H Q Q' E h k => ?_⟩
  obtain ⟨h0, h⟩ := h
  obtain ⟨a0, u0, d0, e0, _⟩ := E.pk h0
  refine ⟨_, e0, hr.ad Γ σ Hv H _ _ E h fun vs ds Γ1 Hv1 H1 s1 r1 q => ?_⟩
  obtain ⟨a1, u1, d1, e1, hu, ob, hn, hj, q⟩ := s1.ev.pkB q
  rw [e0] at e1
  cases e1
  exact k _ _ Γ1 Hv1 H1 s1 (.bor hu ob hn hj r1) q
variable {CX : CXT} {k : Nat} {f : Addr} {fd : FuncData} {ps : List Str} {F : FD} {E : XK}
/-- f(..), f pure, some of its parameters borrowed -/
theorem d_callB2 (hK : X.K = K) (G : FnOk X.prog X.w K X.mg X.base CX k f fd ps (spB Vol.no K bs F)) (hr : Room k X.A) (hg : Gl X x) (hm : X.mg x = some (.ref f)) (hk : PySem.W.keepIn K (.ref f) = true) (hb : Binds K fd ps []) (hx : Passes CX X E)
    (ha : DB W X bs (e :: es) t dt) (hdb : (x == ("__debug__" : Str)) = false := by decide) (he : starEach (e :: es) X.env = (false, eval e X.env) :: starEach es X.env := by rfl) (hpl : (backTo pos (starEach es X.env)).any (·.1) = false := by rfl) :
    DE W X (.Call (.Name x p) (e :: es) [] pos) (tCall (spB Vol.no K bs F) [] E t) (rdCall F [] dt) := by
  subst hK
  refine ⟨pe_call G hr hg hm hk hb .nil hx ha.pa hdb he hpl, fun Γ σ Hv H Q Q' Z h k => ?_⟩
  refine ha.ad Γ σ Hv H _ _ Z h fun vs ds Γ1 Hv1 H1 s1 r1 q => ?_
  rw [List.append_nil] at q
  exact ⟨Hv1, ds, _, s1.ev.ret.sub, True.intro, fun _ z => z.elim, by rw [List.append_nil]; exact r1.to (fun _ z => z.elim), q, fun v d Hv2 H2 R r2 q2 => k v d Γ1 Hv2 H2 (s1.after (s1.ev.pure R)) r2 q2⟩
/-! ### a def with borrowed parameters -/
def slB : List Bool → List D → List Sl
  | true :: bs, d :: ds => .bor d :: slB bs ds
  | _ :: bs, d :: ds => .dat d :: slB bs ds
  | _, _ => []
def startB (N : List Str) (bs : List Bool) (ds : List D) : Gm := slB bs ds ++ List.replicate (N.length - ds.length) .no
theorem slB_ok {W : Wc} {Hv H : Hp} (h0 : W.H0 = H) (hv0 : W.Hv0 = Hv) : ∀ {bs : List Bool} {vs : List V} {ds : List D}, ArgsR K W.J.vol Hv H bs vs ds → (slB bs ds).length = vs.length ∧ ∀ (i : Nat) (sl : Sl), (slB bs ds)[i]? = some sl → sl.isOwn = false ∧ SlOk K W Hv H sl ((vs.map some)[i]?.join)
  | _, _, _, .nil => ⟨rfl, fun _ _ e => by cases e⟩
  | _, _, _, .dat (bs := bs) (d := d) (ds := ds) r h => by
    obtain ⟨i1, i2⟩ := slB_ok h0 hv0 h
    refine ⟨by show (slB bs ds).length + 1 = _; rw [i1]; rfl, fun i sl e => ?_⟩
    cases i with
    | zero => cases e; exact ⟨rfl, _, rfl, r⟩
    | succ i => exact i2 i sl e
  | _, _, _, .bor (bs := bs) (d := d) (ds := ds) h1 h2 h3 h4 h => by
    obtain ⟨i1, i2⟩ := slB_ok h0 hv0 h
    refine ⟨by show (slB bs ds).length + 1 = _; rw [i1]; rfl, fun i sl e => ?_⟩
    cases i with
    | zero => cases e; exact ⟨rfl, _, _, rfl, by rw [h0]; exact h1, h2, by rw [hv0]; exact h3, h4⟩
    | succ i => exact i2 i sl e
theorem fn_b {P : Program} {w : World} {mg : Str → Option Value} {base : Heap} {xn qual : Str} {st : Stmt} {N : List Str} (J : Vol) (bs : List Bool) {Fd : FD} (Fn : Fun K xn qual st f fd) (S : FnScope N ps (defScope st)) (len : ∀ ds Q, Fd ds Q → ds.length = ps.length)
    (hbody : ∀ (cdv : Value) (A : Around) (outer : List Env) (s : Shared) (H : Hp) (E : XK) (W : Wc), W.J = J → Room k (A.deeper (envOfC qual (defScope st) s.heap.objs.size f cdv)) →
      ∃ t td, DSs W (cxOf CX0 P w K mg base N qual (defScope st) f cdv A outer s H E).nox (defBody st) t td ∧ ∀ ds Q, Fd ds Q → td { nx := fun _ => Q .non, rt := Q } (startB N bs ds)) :
    FnOk P w K mg base CX0 (k + 1) f fd ps (spB J K bs Fd) := by
  refine Fn.ok S (fun vs H Q E h => ?_) (fun cdv A outer s H vs Q E hr h => ?_)
  · obtain ⟨Hv, ds, Qd, _, _, _, r, hf, _⟩ := h
    rw [r.length, len _ _ hf]
  · obtain ⟨Hv, ds, Qd, sub, inv, nv, r, hf, out⟩ := h
    let W : Wc := ⟨J, H, Hv, inv, sub, nv⟩
    obtain ⟨t, td, hb, hq⟩ := hbody cdv A outer s H E W rfl hr
    refine ⟨t, hb.ps, ?_⟩
    obtain ⟨l1, ok⟩ := slB_ok (W := W) rfl rfl r
    have rl := r.length
    have key : ∀ (i : Nat) (sl : Sl), (startB N bs ds)[i]? = some sl → sl.isOwn = false ∧ SlOk K W Hv H sl ((L2.start N vs)[i]?.join) := fun i sl e => by
      unfold startB at e
      by_cases hi : i < (slB bs ds).length
      · rw [List.getElem?_append_left hi] at e
        have := ok i sl e
        unfold L2.start
        rw [List.getElem?_append_left (by rw [List.length_map]; omega)]
        exact this
      · rw [List.getElem?_append_right (by omega)] at e
        obtain ⟨_, e2⟩ := List.getElem?_eq_some_iff.mp e
        rw [List.getElem_replicate] at e2
        subst e2
        exact ⟨rfl, trivial⟩
    have Z : Ev K W (startB N bs ds) (L2.start N vs) Hv H := by
      refine ⟨⟨.refl _, sub, fun _ _ e _ _ => e, inv, nv, fun _ z _ => z⟩, ?_, fun i sl e => (key i sl e).2, fun i j sl sl' a ne e1 e2 o1 => by rw [(key i sl e1).1] at o1; cases o1⟩
      unfold L2.start startB
      rw [List.length_append, List.length_append, List.length_map, List.length_replicate, List.length_replicate, l1, rl]
    refine hb.ad _ _ Hv H _ _ Z (hq ds Qd hf) ⟨fun Γ' σ' Hv' H' s q => ?_, fun v d Γ' σ' Hv' H' s rv q => ?_, fun _ _ _ _ _ q => q.elim, fun _ _ _ _ _ q => q.elim⟩
    · exact out .non .non Hv' H' s.ev.ret .non q
    · exact out v d Hv' H' s.ev.ret rv q
end
end VL

set_option Elab.async false
set_option linter.all false
set_option maxRecDepth 100000
set_option maxHeartbeats 4000000
/-! VL18: sorted(x), list(x) of a name with an own (or borrowed) object; pop. -/
namespace VL
open PySem PySem.Spec L2
open PyProof.Rows hiding St
/-- a built-in that looks at one own object and gives a new one -/
def CallPk (K : PySem.W.Frag) (W : Wc) (r : List V → Hp → VK → Prop) (rd : List D → (D → Prop) → Prop) : Prop := ∀ Γ σ Hv H a u dx (Q : D → Prop) (Q' : VK), Ev K W Γ σ Hv H → H a = some u → ObD K Hv dx u → rd [dx] Q →
  (∀ q u d Hv' H', Stp K W Γ σ Hv H Γ σ Hv' H' → H q = none → H' q = some u → ObD K Hv' d u → Fresh W Γ σ Hv' q → Q d → Q' (.ref q) H') → r [.ref a] H Q'
section
variable {W : Wc} {X : Cx} {K : PySem.W.Frag}
theorem cp_sort : CallPk K W (rSortB K) rdSortB := by
  intro Γ σ Hv H a u dx Q Q' E hu ob h k
  unfold rdSortB at h
  split at h
  · rename_i xs e
    cases e
    obtain ⟨bs, e1, e2, q⟩ := h
    obtain ⟨vs, rfl, h2⟩ := ob
    have ev := asSs_of h2 e1
    subst ev
    refine .inl ⟨_, bs, rfl, .of hu, e2, fun ys p h3 h4 hp => ?_⟩
    obtain ⟨s, F⟩ := E.stp.alloc0 (.lst _) hp
    exact k p _ (.lst _) Hv _ s hp upd_same ⟨_, rfl, rp_strs ys⟩ F (q ys h3 h4)
  · rename_i ks es e
    cases e
    obtain ⟨bs, e1, e2, q⟩ := h
    obtain ⟨kvs, rfl, h2, h3⟩ := ob
    refine .inr ⟨_, _, bs, rfl, .inl hu, by rw [← h2]; exact keysS_eq e1, e2, fun ys p h3 h4 hp => ?_⟩
    obtain ⟨s, F⟩ := E.stp.alloc0 (.lst _) hp
    exact k p _ (.lst _) Hv _ s hp upd_same ⟨_, rfl, rp_strs ys⟩ F (q ys h3 h4)
  · exact h.elim
theorem cp_list : CallPk K W (rListB K) rdListB := by
  intro Γ σ Hv H a u dx Q Q' E hu ob h k
  cases dx <;> first | exact ob.elim | skip
  · obtain ⟨vs, rfl, h2⟩ := ob
    rename_i ds
    have h : Q (.lst ds) := h
    refine .inl (.inl ⟨_, _, rfl, .inl (.of hu), fun l hl => ?_⟩)
    obtain ⟨s, F⟩ := E.stp.alloc0 (.lst _) hl
    exact k l _ (.lst _) Hv _ s hl upd_same ⟨_, rfl, h2⟩ F h
  · obtain ⟨kvs, rfl, h2, h3⟩ := ob
    rename_i ks ds
    have h : Q (.lst (ks.map kD1)) := h
    subst h2
    refine .inr ⟨_, _, rfl, .inl hu, fun l hl => ?_⟩
    obtain ⟨s, F⟩ := E.stp.alloc0 (.lst _) hl
    exact k l _ (.lst _) Hv _ s hl upd_same ⟨_, rfl, rp_keys _⟩ F h
  · exact h.elim
def rdPk1 (rd : List D → (D → Prop) → Prop) (i : Nat) : TDE := fun Γ Q => pkG Γ i fun d => rd [d] fun r => Q r Γ
variable {x fx : Str} {p fp pos : Pos} {i : Nat} {id T : String}
theorem ad_pk1 {r rd} (hd : CallPk K W r rd) : AdF K W (tCB r (tCons (tVar i) tNil)) (rdPk1 rd i) := fun Γ σ Hv H Q Q' E h k => by
  obtain ⟨a, u, d, e1, hu, ob, q⟩ := E.pk h
  exact ⟨_, e1, hd Γ σ Hv H a u d _ _ E hu ob q fun q' u' d' Hv2 H2 s2 hn hq r2 F q2 => k q' u' d' Γ Hv2 H2 s2 hn hq r2 F q2⟩
theorem df_pkB {r rd} (hc : CallR X (.builtin id) r) (hd : CallPk X.K W r rd) (hg : Gl X fx) (hm : X.mg fx = none) (hv : bootBuiltins fx = some (.builtin id)) (hN : X.N[i]? = some x := by rfl) (hvx : Vis X.env.scope x := by first | exact Or.inl rfl | exact Or.inr (Or.inl rfl) | exact Or.inr (Or.inr rfl)) (hdb : (x == ("__debug__" : Str)) = false := by decide) (hcd : (x == ("__classdict__" : Str)) = false := by decide)
    (hn : fx ≠ "__name__" := by decide) (hdb2 : (fx == ("__debug__" : Str)) = false := by decide) (he : starEach [Expr.Name x p] X.env = (false, eval (.Name x p) X.env) :: starEach [] X.env := by rfl) (hpl : (backTo pos (starEach [] X.env)).any (·.1) = false := by rfl) :
    DF W X (.Call (.Name fx fp) [.Name x p] [] pos) (tCB r (tCons (tVar i) tNil)) (rdPk1 rd i) :=
  ⟨pe_callB hc hg hm hv (pa_cons (pe_var hN hvx hdb hcd) pa_nil he) hn hdb2 he hpl, ad_pk1 hd⟩
theorem df_pkTy {r rd} (hc : CallR X (.type T) r) (hd : CallPk X.K W r rd) (hg : Gl X fx) (hm : X.mg fx = none) (hv : bootBuiltins fx = some (.type T)) (hN : X.N[i]? = some x := by rfl) (hvx : Vis X.env.scope x := by first | exact Or.inl rfl | exact Or.inr (Or.inl rfl) | exact Or.inr (Or.inr rfl)) (hdb : (x == ("__debug__" : Str)) = false := by decide) (hcd : (x == ("__classdict__" : Str)) = false := by decide)
    (hn : fx ≠ "__name__" := by decide) (hdb2 : (fx == ("__debug__" : Str)) = false := by decide) (he : starEach [Expr.Name x p] X.env = (false, eval (.Name x p) X.env) :: starEach [] X.env := by rfl) (hpl : (backTo pos (starEach [] X.env)).any (·.1) = false := by rfl) :
    DF W X (.Call (.Name fx fp) [.Name x p] [] pos) (tCB r (tCons (tVar i) tNil)) (rdPk1 rd i) :=
  ⟨pe_callTy hc hg hm hv (pa_cons (pe_var hN hvx hdb hcd) pa_nil he) hn hdb2 he hpl, ad_pk1 hd⟩
/-- x.pop(e) -/
theorem d_pop {e : Expr} {te : TE} {de : TDE} {apos cpos : Pos} (hK : X.K = K) (he : DE W X e te de) (hN : X.N[i]? = some x := by rfl) (hv : Vis X.env.scope x := by first | exact Or.inl rfl | exact Or.inr (Or.inl rfl) | exact Or.inr (Or.inr rfl)) (hd : (x == ("__debug__" : Str)) = false := by decide)
    (hcd : (x == ("__classdict__" : Str)) = false := by decide) (hbase : attributeBase (.Name x p) "pop" X.env (eval (.Name x p) X.env) = eval (.Name x p) X.env := by rfl)
    (hfew : ((backTo cpos (starEach [e] X.env)).all (fun x => !x.1) && (backToKw cpos (keywordEach [] X.env)).all (fun x => x.1.isSome)
      && decide ([e].length + ([] : List Keyword).length + (if ([] : List Keyword).isEmpty then 0 else 1) < 30)) = true := by rfl)
    (hline : (apos.endLine == cpos.line) = true := by rfl) (hs : starEach [e] X.env = (false, eval e X.env) :: starEach [] X.env := by rfl) (hplain : (backTo cpos (starEach [] X.env)).any (·.1) = false := by rfl) :
    DE W X (.Call (.Attribute (.Name x p) "pop" apos) [e] [] cpos) (tBM K "list" rPopAt (tVar i) (tCons te tNil)) (rdPop i de) := by
  subst hK
  exact ⟨pe_bm PySem.F.plainAttrs_list PySem.F.slot_list_pop PySem.F.type_list_pop mt_popAt (pe_var hN hv hd hcd) (pa_cons he.pe pa_nil hs) hbase hfew hline hs hplain, ad_pop he.ad⟩
end
end VL

set_option Elab.async false
set_option linter.all false
set_option maxRecDepth 100000
set_option maxHeartbeats 4000000
/-! VL19: methods and properties. -/
namespace VL
open PySem PySem.Spec L2
open PyProof.Rows hiding St
section
variable {W : Wc} {X : Cx} {K : PySem.W.Frag} {o call : Expr} {es : List Expr} {to : TE} {do' : TDE} {t : TA} {dt : TDF} {cn m f : Str} {C : Addr} {F : FD} {dvs : List V} {dds : List D} {E : XK}
/-- o.m(..): h is «fun po pa => pe_meth po c hm G hr hb hd hx pa» (pe_meth0 where there is no argument) -/
theorem d_meth (hK : X.K = K) (hc : CN K cn C) (hdd : ∀ H, RpAll K H dvs dds) (h : PE X o to → PA X es t → PE X call (tMeth C m (spD Vol.no K F) dvs E to t)) (ho : DE W X o to do') (ha : DA W X es t dt) : DE W X call (tMeth C m (spD Vol.no K F) dvs E to t) (rdMeth cn m F dds do' dt) := by
  subst hK
  exact ⟨h ho.pe ha.pa, ad_meth hc hdd ho.ad ha.ad⟩
/-- o.f, a property with a pure getter: h is «fun po => pe_prop po c hp G hr hb .nil hx rfl» -/
def rdProp (cn : Str) (F : FD) (do' : TDE) : TDE := fun Γ Q => do' Γ fun d Γ1 => asObj cn d fun _ _ => F [d] fun r => Q r Γ1
theorem d_prop (hK : X.K = K) (hc : CN K cn C) (h : PE X o to → PE X call (tProp C (spD Vol.no K F) [] E to)) (ho : DE W X o to do') : DE W X call (tProp C (spD Vol.no K F) [] E to) (rdProp cn F do') := by
  subst hK
  refine ⟨h ho.pe, fun Γ σ Hv H Q Q' Z h k => ho.ad Γ σ Hv H _ _ Z h fun v d Γ1 Hv1 H1 s1 r1 q => ?_⟩
  obtain ⟨ns, es, ed, q⟩ := asObj_of q
  subst ed
  have r1' := r1
  cases r1 with
  | obj h1 h2 h3 h4 =>
    subst h3
    obtain rfl := hc.same h2
    exact ⟨_, _, _, rfl, s1.ev.ret.sub.ins h1, Hv1, _, _, s1.ev.ret.sub, True.intro, fun _ z => z.elim, .cons r1' .nil, q, fun v d Hv3 H3 R r3 q3 => k v d Γ1 Hv3 H3 (s1.after (s1.ev.pure R)) r3 q3⟩
end
end VL

set_option Elab.async false
set_option linter.all false
set_option maxRecDepth 100000
set_option maxHeartbeats 4000000
/-! VL20: dict(pairs). -/
namespace VL
open PySem PySem.Spec L2
open PyProof.Rows hiding St
def mrgD : List (Key × D) → List Key × List D → List Key × List D
  | [], acc => acc
  | kd :: r, acc => mrgD r (putKs acc.1 kd.1, putDs acc.1 acc.2 kd.1 kd.2)
def pairD (p : Key × D) : D := .tup [kD1 p.1, p.2]
section
variable {K : PySem.W.Frag} {W : Wc} {H : Hp}
theorem kD1_inv {v : V} {k : Key} (r : Rp K H v (kD1 k)) : v = kV k := by
  cases k <;> cases r <;> rfl
theorem pairs_inv : ∀ {kds : List (Key × D)} {vs : List V}, RpAll K H vs (kds.map pairD) → ∃ (ps : List Addr) (kvs : List (Key × V)), vs = ps.map V.ref ∧ Paired (fun p kv => SqT K H p [kV kv.1, kv.2]) ps kvs ∧ kvs.map (·.1) = kds.map (·.1) ∧ RpAll K H (kvs.map (·.2)) (kds.map (·.2))
  | [], _, h => by cases h; exact ⟨[], [], rfl, .nil, rfl, .nil⟩
  | kd :: kds, _, h => by
    rw [List.map_cons] at h
    cases h with
    | cons a h =>
      obtain ⟨ps, kvs, e1, e2, e3, e4⟩ := pairs_inv h
      unfold pairD at a
      cases a with
      | tup h1 h2 =>
        obtain ⟨x, y, rfl, r1, r2⟩ := h2.two
        refine ⟨_ :: ps, (kd.1, y) :: kvs, by rw [List.map_cons, e1], .cons ?_ e2, by rw [List.map_cons, List.map_cons, e3], .cons r2 e4⟩
        rw [kD1_inv r1] at h1
        exact h1
theorem merge_rp : ∀ {kvs acc : List (Key × V)} {kds : List (Key × D)} {ds : List D}, kvs.map (·.1) = kds.map (·.1) → RpAll K H (kvs.map (·.2)) (kds.map (·.2)) → RpAll K H (acc.map (·.2)) ds →
    (mergeK acc kvs).map (·.1) = (mrgD kds (acc.map (·.1), ds)).1 ∧ RpAll K H ((mergeK acc kvs).map (·.2)) (mrgD kds (acc.map (·.1), ds)).2
  | [], acc, [], ds, _, _, r => ⟨rfl, r⟩
  | kv :: kvs, acc, kd :: kds, ds, e, h, r => by
    rw [List.map_cons, List.map_cons] at e h
    have e1 := (List.cons.inj e).1
    have e2 := (List.cons.inj e).2
    cases h with
    | cons a h =>
      obtain ⟨p1, p2⟩ := putK_rp (k := kv.1) r a
      have ih := merge_rp (acc := putK acc kv.1 kv.2) e2 h p2
      rw [p1] at ih
      show ((mergeK (putK acc kv.1 kv.2) kvs).map (·.1) = (mrgD kds (putKs (acc.map (·.1)) kd.1, putDs (acc.map (·.1)) ds kd.1 kd.2)).1 ∧ RpAll K H ((mergeK (putK acc kv.1 kv.2) kvs).map (·.2)) (mrgD kds (putKs (acc.map (·.1)) kd.1, putDs (acc.map (·.1)) ds kd.1 kd.2)).2)
      rw [← e1]
      exact ih
  | [], _, _ :: _, _, e, _, _ => by cases e
  | _ :: _, _, [], _, e, _, _ => by cases e
def rDictP (K : PySem.W.Frag) : List V → Hp → VK → Prop := fun xs H Q => ∃ (a : Addr) (ps : List Addr) (kvs : List (Key × V)), xs = [.ref a] ∧ SqL K H a (ps.map V.ref) ∧ Paired (fun p kv => SqT K H p [kV kv.1, kv.2]) ps kvs ∧
    ∀ p, H p = none → Q (.ref p) (upd H p (.dK (mergeK [] kvs)))
/-- dict of a list of pairs -/
def rdDictP : List D → (D → Prop) → Prop := fun ds Q => match ds with
  | [.lst xs] => ∃ kds, xs = kds.map pairD ∧ Q (.dic (mrgD kds ([], [])).1 (mrgD kds ([], [])).2)
  | _ => False
theorem cf_dictP : CallF K W (rDictP K) rdDictP := by
  intro Γ σ Hv H vs ds Q Q' E r h k
  unfold rdDictP at h
  split at h
  · obtain ⟨kds, rfl, q⟩ := h
    obtain ⟨v, rfl, rv⟩ := r.one
    cases rv with
    | lst h1 h2 =>
      have h2' := RpAll.monoS E.ret.sub _ _ h2
      obtain ⟨ps, kvs, e1, e2, e3, e4⟩ := pairs_inv h2
      subst e1
      have e2' : Paired (fun p kv => SqT K H p [kV kv.1, kv.2]) ps kvs := by
        clear h1 h2 h2' e3 e4
        induction e2 with
        | nil => exact .nil
        | cons a _ ih => exact .cons (seqT E.ret.sub a) ih
      obtain ⟨m1, m2⟩ := merge_rp (acc := []) (ds := []) e3 e4 .nil
      refine ⟨_, ps, kvs, rfl, .of (E.ret.sub.lst h1), e2', fun l hl => ?_⟩
      obtain ⟨s, F⟩ := E.stp.alloc0 (.dK _) hl
      exact k l _ (.dic _ _) Hv _ s hl upd_same ⟨_, rfl, m1.symm, m2⟩ F q
  · exact h.elim
end
theorem cr_dictP {X : Cx} (hc : X.calm = true) : CallR X (.type "dict") (rDictP X.K) := call_dictP hc
end VL

set_option Elab.async false
set_option linter.all false
set_option maxRecDepth 100000
set_option maxHeartbeats 4000000
/-! VL21: sum(a list of lists, a list). -/
namespace VL
open PySem
section
variable {prog : Program} {w : World} {A : Around} {R : Result → Shared → Prop} {I : Addr} {fp wr : List Addr} {G : Array GenState → Array GenState → Prop} {n : Nat} {P : Nat → Value → Prop} {St : Nat → Shared → Prop}
theorem sumL_loop (W : WalksS prog w A.in1 I fp wr G n P St) (ls : Nat → Addr) (vs tot : Nat → List Value) (hval : ∀ i v, P i v → v = .ref (ls i)) (S : Addr) (hSf : S ∉ fp) (htot : ∀ i, i < n → tot (i + 1) = tot i ++ vs i) (hsz : ∀ i, i ≤ n → (tot i).length ≤ sizeLine)
    (hobj : ∀ i s, St i s → ∀ b ∈ fp, ∃ o, s.heap.get? b = some o) (hls : ∀ i, i < n → ls i ∉ wr ∧ ls i ≠ S) : ∀ (k i : Nat) (s : Shared) (p : Addr) (c m : Nat), n - i = k → i ≤ n → St i s → s.heap.get? S = some { cls := .type "list", dict := none, data := .seq #[.ref p] c, slots := #[] } →
    IsL s.heap p (tot i).toArray m → p ∉ wr → p ≠ S → (∀ j, j < n → ∃ mj, IsL s.heap (ls j) (vs j).toArray mj) →
    (∀ s' p' m', Moved (S :: wr) G s s' → IsL s'.heap p' (tot n).toArray m' → ((i = n ∧ p' = p) ∨ S < p') → R (.ok (.ret (.ref p'))) s') → codeAny (model prog w) A (.builtin "sum.loop" ⟨[.ref I, .ref S, rawInt 2, rawInt 0], []⟩) R s := by
  have wf : ∀ b, b ∉ fp → b ∉ wr := fun b hb h => hb (W.sub _ h)
  intro k
  induction k with
  | zero =>
    intro i s p c m hk hi hst hS hp hpf hpS hlist hR
    obtain rfl : i = n := by omega
    refine codeAny_builtin F.entry_sum_loop ?_; rw [Around.under_plainId F.plain_sum_loop _]
    show wpAny _ A.in1 (seqItems? (.ref S) >>= _) _ _ _
    refine wpAny_bind (wpAny_seqItems hS rfl ?_); show wpAny _ A.in1 (tryCatch (pyNext (.ref I)) _ >>= _) _ _ _
    refine wpAny_bind (wpAny_tryCatch (W.done s _ _ hst fun s1 hm => ?_))
    exact wpAny_pure (hR s1 p m (hm.mono fun b hb => List.mem_cons_of_mem _ hb) (hm.heap p _ hpf hp) (.inl ⟨rfl, rfl⟩))
  | succ k ih =>
    intro i s p c m hk hi hst hS hp hpf hpS hlist hR
    have hlt : i < n := by omega
    refine codeAny_builtin F.entry_sum_loop ?_; rw [Around.under_plainId F.plain_sum_loop _]
    show wpAny _ A.in1 (seqItems? (.ref S) >>= _) _ _ _
    refine wpAny_bind (wpAny_seqItems hS rfl ?_); show wpAny _ A.in1 (tryCatch (pyNext (.ref I)) _ >>= _) _ _ _
    refine wpAny_bind (wpAny_tryCatch (W.item i s _ _ hlt hst fun v s1 hP hst1 hm => ?_))
    obtain rfl := hval i v hP
    have hS1 := hm.heap S _ (wf S hSf) hS
    have hp1 := hm.heap p _ hpf hp
    obtain ⟨mi, hli⟩ := hlist i hlt
    have hl1 := hm.heap (ls i) _ (hls i hlt).1 hli
    have hz := hsz (i + 1) (by omega)
    rw [htot i hlt, List.length_append] at hz
    show wpAny _ A.in1 ((holding [Value.ref (ls i)] (binaryOp .Add (.ref p) (.ref (ls i)))).attempt >>= _) _ _ _
    refine wpAny_bind (wpAny_attempt (wpAny_holding (PySem.P.add_list hp1 hl1 ?_ (by rw [List.size_toArray, List.size_toArray]; exact hz))))
    have hfr : ∀ b o, s1.heap.get? b = some o → b ≠ s1.heap.objs.size := fun b o e => Nat.ne_of_lt (Heap.lt_size e)
    have hp2f : s1.heap.objs.size ∉ fp := fun h => by
      obtain ⟨o, e⟩ := hobj _ _ hst1 _ h
      exact hfr _ _ e rfl
    have hp2S : s1.heap.objs.size ≠ S := fun h => hfr _ _ hS1 h.symm
    have eq2 : (tot i).toArray ++ (vs i).toArray = (tot (i + 1)).toArray := by rw [htot i hlt]; simp
    rw [eq2]
    show wpAny _ A.in1 (updateSeq S (fun _ => #[.ref s1.heap.objs.size]) >>= _) _ _ _
    have hS2 := Heap.get?_push_of_some { cls := .type "list", data := .seq (tot (i + 1)).toArray } hS1
    refine wpAny_bind (wpAny_updateSeq hS2 rfl ?_)
    have hS3 := Heap.get?_update_self (Obj.mapSeq fun _ => #[Value.ref s1.heap.objs.size]) hS2 rfl
    refine wpAny_bind (wpAny_letGo ?_)
    refine wpAny_bind (wpAny_updateSeq hS3 rfl (wpAny_pure ⟨plainId_quiet F.plain_sum_loop _, ?_⟩))
    have hS4 := Heap.get?_update_self (Obj.mapSeq fun _ => #[Value.ref s1.heap.objs.size]) hS3 rfl
    have keep : ∀ b o, b ≠ S → (s1.heap.push { cls := .type "list", data := .seq (tot (i + 1)).toArray }).get? b = some o → (((s1.heap.push { cls := .type "list", data := .seq (tot (i + 1)).toArray }).update S (Obj.mapSeq fun _ => #[Value.ref s1.heap.objs.size])).update S (Obj.mapSeq fun _ => #[Value.ref s1.heap.objs.size])).get? b = some o := fun b o hb e => by
      rw [Heap.get?_update_other _ _ (Ne.symm hb), Heap.get?_update_other _ _ (Ne.symm hb)]
      exact e
    have keep1 : ∀ b o, b ≠ S → s1.heap.get? b = some o → (((s1.heap.push { cls := .type "list", data := .seq (tot (i + 1)).toArray }).update S (Obj.mapSeq fun _ => #[Value.ref s1.heap.objs.size])).update S (Obj.mapSeq fun _ => #[Value.ref s1.heap.objs.size])).get? b = some o := fun b o hb e => keep b o hb (Heap.get?_push_of_some _ e)
    have ne : ∀ b, b ∈ fp → b ≠ S := fun b hb z => hSf (by rw [← z]; exact hb)
    refine ih (i + 1) _ s1.heap.objs.size c 0 (by omega) hlt (W.frame (i + 1) s1 _ s1.toks hst1 (Nat.le_refl _) fun b hb o e => keep1 b o (ne b hb) e) hS4 (keep _ _ hp2S (Heap.get?_push_size _ rfl)) (wf _ hp2f) hp2S (fun j hj => ?_) (fun s' p' m' hm' hl' hw => hR s' p' m' ?_ hl' (.inr ?_))
    · obtain ⟨mj, e⟩ := hlist j hj
      exact ⟨mj, keep1 _ _ (hls j hj).2 (hm.heap _ _ (hls j hj).1 e)⟩
    · exact Moved.trans W.gtrans ((hm.mono fun b hb => List.mem_cons_of_mem _ hb).then_heap (Nat.le_refl _) fun b o hb e => keep1 b o (fun z => hb (by rw [z]; exact List.mem_cons_self)) e) hm'
    · have hlt2 : S < s1.heap.objs.size := Heap.lt_size hS1
      rcases hw with ⟨_, hw⟩ | hw
      · rw [hw]; exact hlt2
      · exact hw
end
end VL

set_option Elab.async false
set_option linter.all false
set_option maxRecDepth 100000
set_option maxHeartbeats 4000000
/-! VL22: the call of sum over lists. -/
namespace VL
open PySem
theorem args_sum2 (a b : Value) : argsOk "sum" ⟨[a, b], []⟩ := by unfold argsOk; kernel_rfl
section
variable {prog : Program} {w : World} {A : Around} {E : Value → Shared → Prop} {s : Shared} {l b : Addr} {as : List Addr} {vss : List (List Value)} {st : List Value} {m : Nat} {Q : Value → Shared → Prop}
theorem call_sumL (hh : A.handled = none) (hl : s.heap.IsList l (as.map Value.ref).toArray) (hb : IsL s.heap b st.toArray m) (hlen : as.length = vss.length) (hall : ∀ j (h : j < as.length), ∃ mj, IsL s.heap as[j] (vss.getD j []).toArray mj)
    (hsz : st.length + vss.flatten.length ≤ sizeLine)
    (h : ∀ s' p m', (∀ c o, s.heap.get? c = some o → s'.heap.get? c = some o) → s'.gens = s.gens → s'.drawn = s.drawn → s'.os = s.os → IsL s'.heap p (st ++ vss.flatten).toArray m' → ((as = [] ∧ p = b) ∨ s.heap.objs.size ≤ p) → Q (.ref p) s') : wpAny (model prog w) A (call (.builtin "sum") [.ref l, .ref b]) Q E s := by
  refine call_function_tree F.kind_sum F.plain_sum F.entry_sum (args_sum2 _ _) ?_
  unfold Builtin.«sum»
  simp only [List.length_cons, List.length_nil]
  rw [if_neg (by decide)]
  refine wpAny_bind (wpAny_of_eq (show Builtin.Builtins.bindParams "sum" ["start"] 0 ⟨[.ref b], []⟩ = pure [some (.ref b)] from rfl) ?_)
  refine wpAny_bind (wpAny_pyIter_list hl ?_)
  refine wpAny_bind (wpAny_pure ?_)
  simp only [List.forIn_cons, List.forIn_nil]
  have tb : ({ s with heap := s.heap.push { cls := .type "list_iterator", data := .fields #[.ref l, .int 0 0] } } : Shared).TypeIs (.ref b) "list" := ⟨_, Heap.get?_push_of_some _ hb, rfl⟩
  have s1 : isSubtype (.type "list") (.type "str") = pure false := by kernel_rfl
  have s2 : isSubtype (.type "list") (.type "bytes") = pure false := by kernel_rfl
  have s3 : isSubtype (.type "list") (.type "bytearray") = pure false := by kernel_rfl
  refine wpAny_bind (wpAny_bind (wpAny_bind (wpAny_isInstance (T := "list") (b := false) tb s1 ?_)))
  simp only [Bool.false_eq_true, if_false]
  refine wpAny_pure (wpAny_bind (wpAny_bind (wpAny_isInstance (T := "list") (b := false) tb s2 ?_)))
  simp only [Bool.false_eq_true, if_false]
  refine wpAny_pure (wpAny_bind (wpAny_bind (wpAny_isInstance (T := "list") (b := false) tb s3 ?_)))
  simp only [Bool.false_eq_true, if_false]
  refine wpAny_pure (wpAny_pure ?_)
  refine wpAny_bind (wpAny_newObj_type ?_)
  have hllt : l < s.heap.objs.size := by obtain ⟨_, e, _⟩ := hl; exact Heap.lt_size e
  have hlI : l ≠ s.heap.objs.size := Nat.ne_of_lt hllt
  have hn : (as.map Value.ref).toArray.size = as.length := by simp
  have sz : (s.heap.push { cls := .type "list_iterator", data := .fields #[.ref l, .int 0 0] }).objs.size = s.heap.objs.size + 1 := Heap.size_push ..
  have old : ∀ c o, s.heap.get? c = some o → c < s.heap.objs.size := fun c o e => Heap.lt_size e
  have loop := sumL_loop (prog := prog) (w := w) (A := A) (R := fun r s' => match r with
      | Except.ok (Flow.ret v) => Q v s'
      | Except.ok a => False
      | Except.error e => E e s') (Walks.toS (Walks.list (A := A.in1) hh s.heap.objs.size l hlI (as.map Value.ref).toArray)) (fun i => as.getD i 0) (fun i => vss.getD i []) (fun i => st ++ (vss.take i).flatten)
  refine wpAny_pure ⟨plainId_quiet F.plain_sum_loop _, ?_⟩
  refine loop ?_ _ ?_ ?_ ?_ ?_ ?_ _ 0 _ b 0 m rfl (Nat.zero_le _) ?_ (Heap.get?_push_size _ rfl) ?_ ?_ ?_ ?_ ?_
  · intro i v e
    rw [List.getElem?_toArray, List.getElem?_map] at e
    cases q : as[i]? with
    | none => rw [q] at e; cases e
    | some a => rw [q] at e; cases e; simp [List.getD, q]
  · rw [sz]
    simp only [List.mem_cons, List.not_mem_nil, or_false, not_or]
    exact ⟨Nat.succ_ne_self _, Nat.ne_of_gt (Nat.lt_succ_of_lt hllt)⟩
  · intro i hi
    rw [hn] at hi
    have hv : i < vss.length := by omega
    rw [List.take_succ, List.flatten_append, List.getElem?_eq_getElem hv]
    simp [List.getD, List.getElem?_eq_getElem hv]
  · intro i hi
    have : ((vss.take i).flatten).length ≤ vss.flatten.length := by
      have e : vss.flatten = (vss.take i).flatten ++ (vss.drop i).flatten := by rw [← List.flatten_append, List.take_append_drop]
      rw [e, List.length_append]; omega
    rw [List.length_append]; omega
  · intro i s1 st1 c hc
    simp only [List.mem_cons, List.not_mem_nil, or_false] at hc
    obtain ⟨⟨o1, e1, _⟩, ⟨o2, e2, _⟩⟩ := st1
    rcases hc with rfl | rfl
    · exact ⟨o1, e1⟩
    · exact ⟨o2, e2⟩
  · intro i hi
    rw [hn] at hi
    obtain ⟨mj, e⟩ := hall i hi
    have := old _ _ e
    rw [sz]
    simp only [List.getD, List.getElem?_eq_getElem hi, Option.getD_some, List.mem_cons, List.not_mem_nil, or_false]
    exact ⟨Nat.ne_of_lt this, Nat.ne_of_lt (Nat.lt_succ_of_lt this)⟩
  · exact ⟨⟨_, Heap.get?_push_of_some _ (Heap.get?_push_size _ rfl), rfl, rfl⟩, (hl.push _).push _⟩
  · simp only [List.take_zero, List.flatten_nil, List.append_nil]
    exact (IsL.push hb _).push _
  · have := old _ _ hb
    simp only [List.mem_cons, List.not_mem_nil, or_false]
    exact Nat.ne_of_lt this
  · have := old _ _ hb
    rw [sz]
    exact Nat.ne_of_lt (Nat.lt_succ_of_lt this)
  · intro j hj
    rw [hn] at hj
    obtain ⟨mj, e⟩ := hall j hj
    refine ⟨mj, ?_⟩
    simp only [List.getD, List.getElem?_eq_getElem hj, Option.getD_some]
    have e' : IsL s.heap as[j] (vss.getD j []).toArray mj := e
    exact (IsL.push e' _).push _
  · intro s' p' m' hm hl' hw
    refine h s' p' m' (fun c o e => hm.heap c o ?_ (Heap.get?_push_of_some _ (Heap.get?_push_of_some _ e))) hm.gens hm.drawn hm.os ?_ ?_
    · have := old _ _ e
      rw [sz]
      simp only [List.mem_cons, List.not_mem_nil, or_false, not_or]
      exact ⟨Nat.ne_of_lt (Nat.lt_succ_of_lt this), Nat.ne_of_lt this⟩
    · rw [hn, List.take_of_length_le (by omega)] at hl'
      exact hl'
    · rcases hw with ⟨h1, h2⟩ | hw
      · rw [hn] at h1
        exact .inl ⟨List.eq_nil_of_length_eq_zero h1.symm, h2⟩
      · rw [sz] at hw
        exact .inr (Nat.le_of_lt (Nat.lt_of_succ_lt hw))
end
end VL

set_option Elab.async false
set_option linter.all false
set_option maxRecDepth 100000
set_option maxHeartbeats 4000000
/-! VL23: sum of lists by data. -/
namespace VL
open PySem PySem.Spec L2
open PyProof.Rows hiding St
def rSumL (K : PySem.W.Frag) : List V → Hp → VK → Prop := fun xs H Q => ∃ (a b : Addr) (as : List Addr) (vss : List (List V)) (ys : List V), xs = [.ref a, .ref b] ∧ SqL K H a (as.map V.ref) ∧ H b = some (.lst ys) ∧ Paired (fun p vs => H p = some (.lst vs)) as vss ∧
  ys.length + vss.flatten.length ≤ sizeLine ∧ (as = [] → Q (.ref b) H) ∧ ∀ p, H p = none → Q (.ref p) (upd H p (.lst (ys ++ vss.flatten)))
section
variable {X : Cx} {K : PySem.W.Frag} {W : Wc}
theorem vals_refs_inv : ∀ {as : List Addr} {us : List Value}, Vals (as.map V.ref) us → us = as.map Value.ref
  | [], _, h => by cases h; rfl
  | a :: as, _, h => by
    cases h with
    | cons r h => cases r; rw [vals_refs_inv h]; rfl
theorem vss_at {pins : List (Addr × Obj)} {σ : L2.St} {H : Hp} {s : Shared} (I : Inv X pins σ H s) : ∀ {as : List Addr} {vss : List (List V)}, Paired (fun p vs => H p = some (.lst vs)) as vss → ∃ uss : List (List Value), as.length = uss.length ∧ Vals vss.flatten uss.flatten ∧ uss.flatten.length = vss.flatten.length ∧ ∀ j (h : j < as.length), ∃ mj, IsL s.heap as[j] (uss.getD j []).toArray mj
  | _, _, .nil => ⟨[], rfl, .nil, rfl, fun j h => absurd h (Nat.not_lt_zero _)⟩
  | _, _, .cons (a := p) (b := vs) h t => by
    obtain ⟨uss, e1, e2, e3, e4⟩ := vss_at I t
    obtain ⟨z, its, n, r, hl, e⟩ := I.lstM h
    refine ⟨its :: uss, by rw [List.length_cons, List.length_cons, e1], ?_, ?_, fun j hj => ?_⟩
    · rw [List.flatten_cons, List.flatten_cons]; exact r.append e2
    · rw [List.flatten_cons, List.flatten_cons, List.length_append, List.length_append, e3, r.length]
    · cases j with
      | zero => exact ⟨n, e⟩
      | succ j => exact e4 j (Nat.lt_of_succ_lt_succ hj)
theorem cr_sumL (hc : X.calm = true) : CallR X (.builtin "sum") (rSumL X.K) := by
  intro pins s σ H xs us Q I r h
  obtain ⟨a, b, as, vss, ys, rfl, ha, hb, hp, hz, q0, q1⟩ := h
  cases r with
  | cons r1 r =>
    cases r with
    | cons r2 r =>
      cases r
      cases r1
      cases r2
      obtain ⟨its, rv, hl, _⟩ := I.list ha
      rw [vals_refs_inv rv] at hl
      obtain ⟨z2, its2, n2, r2, hl2, e2⟩ := I.lstM hb
      obtain ⟨uss, f1, f2, f3, f4⟩ := vss_at I hp
      refine call_sumL (I.ok.hd hc) hl.isList e2 f1 f4 (by rw [f3, ← r2.length]; exact hz) fun s' p m' hk hg hd ho hp' hw => ?_
      obtain ⟨h', g', d', t', o'⟩ := s'
      dsimp only at hk hg hd ho hp'
      subst hg hd ho
      rcases hw with ⟨e, rfl⟩ | hw
      · exact ⟨.ref p, H, I.kept hk, rfl, q0 e⟩
      · exact ⟨.ref p, upd H p (.lst (ys ++ vss.flatten)), I.laid hk hw ⟨by rw [List.length_append]; exact hz, its2 ++ uss.flatten, m', r2.append f2, hp'⟩, rfl, q1 p (I.hok.fresh hw)⟩
/-- lists of a list -/
def asLs : List D → Option (List (List D))
  | [] => some []
  | .lst b :: r => (asLs r).map (b :: ·)
  | _ :: _ => none
theorem asLs_of {H : Hp} : ∀ {ds : List D} {vs : List V} {bs : List (List D)}, RpAll K H vs ds → asLs ds = some bs → ∃ (as : List Addr) (vss : List (List V)), vs = as.map V.ref ∧ Paired (fun p vs => H p = some (.lst vs)) as vss ∧ RpAll K H vss.flatten bs.flatten
  | [], _, _, r, e => by cases r; cases e; exact ⟨[], [], rfl, .nil, .nil⟩
  | .lst b :: ds, _, _, r, e => by
    cases r with
    | cons a r =>
      unfold asLs at e
      cases q : asLs ds with
      | none => rw [q] at e; cases e
      | some bs =>
        rw [q] at e
        cases e
        obtain ⟨as, vss, e1, e2, e3⟩ := asLs_of r q
        cases a with
        | lst h1 h2 => exact ⟨_ :: as, _ :: vss, by rw [List.map_cons, e1], .cons h1 e2, by rw [List.flatten_cons, List.flatten_cons]; exact h2.append e3⟩
  | .non :: _, _, _, _, e => by cases e
  | .int _ :: _, _, _, _, e => by cases e
  | .bl _ :: _, _, _, _, e => by cases e
  | .str _ :: _, _, _, _, e => by cases e
  | .ty _ :: _, _, _, _, e => by cases e
  | .ref _ :: _, _, _, _, e => by cases e
  | .tup _ :: _, _, _, _, e => by cases e
  | .dic _ _ :: _, _, _, _, e => by cases e
  | .obj _ _ _ :: _, _, _, _, e => by cases e
  | .fz _ :: _, _, _, _, e => by cases e
def rdSumL : List D → (D → Prop) → Prop := fun ds Q => match ds with
  | [.lst xs, .lst ys] => ∃ bs, asLs xs = some bs ∧ ys.length + bs.flatten.length ≤ sizeLine ∧ Q (.lst (ys ++ bs.flatten))
  | _ => False
theorem cd_sumL : CallD K W (rSumL K) rdSumL := by
  intro Γ σ Hv H vs ds Q Q' E r h k
  unfold rdSumL at h
  split at h
  · obtain ⟨bs, e1, e2, q⟩ := h
    obtain ⟨v, u, rfl, rv, ru⟩ := r.two
    cases rv with
    | lst h1 h2 =>
      have ru' := ru
      cases ru with
      | lst h3 h4 =>
        obtain ⟨as, vss, f1, f2, f3⟩ := asLs_of h2 e1
        subst f1
        have f2' : Paired (fun p vs => H p = some (.lst vs)) as vss := by
          clear f3 h1 h2
          induction f2 with
          | nil => exact .nil
          | cons a _ ih => exact .cons (E.ret.sub.lst a) ih
        refine ⟨_, _, as, vss, _, rfl, .of (E.ret.sub.lst h1), E.ret.sub.lst h3, f2', by rw [h4.length, f3.length]; exact e2, fun z => ?_, fun p hp => ?_⟩
        · subst z
          cases f2
          have e0 : bs.flatten = [] := List.eq_nil_of_length_eq_zero (by rw [← f3.length]; rfl)
          rw [e0, List.append_nil] at q
          exact k _ _ Hv H E.stp ru' q
        · exact k _ _ _ _ (E.stp.alloc _ hp) (.lst upd_same (RpAll.mono (same_upd (E.noneHv hp)) _ _ (h4.append f3))) q
  · exact h.elim
end
end VL

set_option Elab.async false
set_option linter.all false
set_option maxRecDepth 100000
set_option maxHeartbeats 4000000
/-! VL24: {k: v for ..}. -/
namespace VL
open PySem PySem.Spec L2
open PyProof.Rows hiding St
def goDc (gd : TDG) (tt : TDT) (tk tv : TDE) (vs : List Nat) (Q : D → Gm → Prop) : List D → List Key → List D → Gm → Prop
  | [], ks, ds, Γ => Q (.dic ks ds) Γ
  | d :: r, ks, ds, Γ => gd d (wipeG Γ vs) fun Γ2 => tt Γ2 fun b Γ3 => if b = true then tk Γ3 fun kd Γ4 => tv Γ4 fun y Γ5 => ∃ ky, keyOf kd = some ky ∧ ks.length < sizeLine ∧ goDc gd tt tk tv vs Q r (putKs ks ky) (putDs ks ds ky y) (backG Γ Γ5 vs) else goDc gd tt tk tv vs Q r ks ds (backG Γ Γ3 vs)
def rdDc (di : TDF) (gd : TDG) (tt : TDT) (tk tv : TDE) (vs : List Nat) : TDE := fun Γ Q => di Γ fun L Γ1 => noOwn Γ1 vs ∧ goDc gd tt tk tv vs Q L [] [] Γ1
section
variable {W : Wc} {X : Cx}
theorem ad_dc {K : PySem.W.Frag} {tg iter : Expr} {wi : TI} {di : TDF} {g : TG} {gd : TDG} {tt : TT} {td : TDT} {tk tv : TE} {dk dv : TDE} {is vs : List Nat}
    (hi : ∀ Γ σ Hv H (Q : List D → Gm → Prop) (R : It → Hp → Prop), Ev K W Γ σ Hv H → di Γ Q → (∀ J L Γ' Hv' H', Stp K W Γ σ Hv H Γ' σ Hv' H' → ItD K W J L Hv' → Q L Γ' → R J H') → wi σ H R)
    (hg : ∀ Γ σ Hv H v d (Q : Gm → Prop) (Q' : L2.St → Hp → Prop), Ev K W Γ σ Hv H → Rp K Hv v d → gd d Γ Q → (∀ Γ' σ' Hv' H', Stp K W Γ σ Hv H Γ' σ' Hv' H' → σ'.length = σ.length → (∀ j, j ∉ is → σ'[j]? = σ[j]?) → Q Γ' → Q' σ' H') → g v σ H Q')
    (ht : AdT K W tt td) (hk : Ad K W tk dk) (he : Ad K W tv dv) (hv : ∀ j ∈ is, j ∈ vs) : AdF K W (tDc wi g tt tk tv vs) (rdDc di gd td dk dv vs) := by
  intro Γ σ Hv H Q Q' E h k
  refine hi Γ σ Hv H _ _ E h fun J L Γ1 Hv1 H1 s1 it q => ?_
  obtain ⟨n1, q⟩ := q
  intro A hA
  obtain ⟨s2, F2⟩ := s1.alloc0 (.dK []) hA
  refine ⟨fun i m H' => m = L.length - i ∧ i ≤ L.length ∧ ∃ Γ' Hv' av acc, Stp K W Γ σ Hv H Γ' σ Hv' H' ∧ Sub Hv1 Hv' ∧ noOwn Γ' vs ∧ H' A = some (.dK av) ∧ RpAll K Hv' (av.map (·.2)) acc ∧ Fresh W Γ' σ Hv' A ∧ goDc gd td dk dv vs Q (L.drop i) (av.map (·.1)) acc Γ',
    ⟨L.length, by simp, Nat.zero_le _, Γ1, Hv1, [], [], s2, .refl _, n1, upd_same, .nil, F2, q⟩, ?_⟩
  rintro i m H2 ⟨rfl, hi2, Γ2, Hv2, av, acc, s2, sm2, n2, hA2, ra2, F2, q2⟩
  obtain ⟨st, go⟩ := it Γ2 σ Hv2 H2 sm2 s2.ev i
  by_cases hlt : i < L.length
  · have e : L[i]? = some L[i] := List.getElem?_eq_getElem hlt
    obtain ⟨g1, g2⟩ := go _ e
    rw [List.drop_eq_getElem_cons hlt] at q2
    refine .inr ⟨g1, fun H' => ∃ Γ' Hv' av acc, Stp K W Γ σ Hv H Γ' σ Hv' H' ∧ Sub Hv1 Hv' ∧ noOwn Γ' vs ∧ H' A = some (.dK av) ∧ RpAll K Hv' (av.map (·.2)) acc ∧ Fresh W Γ' σ Hv' A ∧ goDc gd td dk dv vs Q (L.drop (i + 1)) (av.map (·.1)) acc Γ', fun H' n => ⟨L.length - (i + 1), by omega, rfl, hlt, n⟩, fun x H3 y => ?_⟩
    obtain ⟨Hv3, s3, r3⟩ := g2 x H3 y
    have w3 := s3.ev.wipe vs
    refine hg (wipeG Γ2 vs) (L2.wipe σ vs) Hv3 H3 x _ _ _ w3.ev r3 q2 fun Γ4 σ4 Hv4 H4 s4 l4 n4 q4 => ?_
    have l4' : σ4.length = σ.length := by rw [l4, wipe_length]
    have n4' : ∀ j, j ∉ vs → σ4[j]? = σ[j]? := fun j hj => by
      rw [n4 j fun z => hj (hv j z), wipe_get, if_neg fun z => hj z.1]
    refine ⟨wipe_same l4' n4', ?_⟩
    refine ht Γ4 σ4 Hv4 H4 _ _ s4.ev q4 fun b Γ5 Hv5 H5 s5 q5 => ?_
    have A0 : H A = none := by
      cases z : H A with
      | none => rfl
      | some u => exact absurd (s1.st A (by rw [z]; simp)) (by rw [hA]; simp)
    cases b with
    | false =>
      rw [if_neg Bool.false_ne_true] at q5 ⊢
      have sb := s3.ev.back n2 (s4.trans s5) l4' n4'
      have sAll := s2.trans (s3.trans sb)
      obtain ⟨e5, F5⟩ := (s3.trans sb).fr A F2 (by rw [hA2]; simp)
      exact ⟨_, Hv5, av, acc, sAll, sm2.trans (s3.trans sb).sv, n2.back, e5.trans hA2, RpAll.mono (s3.trans sb).sv _ _ ra2, F5, q5⟩
    | true =>
      rw [if_pos rfl] at q5 ⊢
      refine hk Γ5 σ4 Hv5 H5 _ _ s5.ev q5 fun kv kd Γ6 Hv6 H6 s6 r6 q6 => ?_
      refine he Γ6 σ4 Hv6 H6 _ _ s6.ev q6 fun y d Γ7 Hv7 H7 s7 r7 q7 => ?_
      obtain ⟨ky, ek, hl, q7⟩ := q7
      have sb := s3.ev.back n2 (s4.trans (s5.trans (s6.trans s7))) l4' n4'
      have sAll := s2.trans (s3.trans sb)
      obtain ⟨e6, F6⟩ := (s3.trans sb).fr A F2 (by rw [hA2]; simp)
      obtain ⟨p1, p2⟩ := putK_rp (k := ky) (RpAll.mono (s3.trans sb).sv _ _ ra2) r7
      refine ⟨av, ky, keyOf_rp (Rp.mono s7.sv _ _ r6) ek, e6.trans hA2, by rw [List.length_map] at hl; exact hl, _, Hv7, putK av ky y, _, sAll.turn _ F6 (by rw [e6, hA2]; simp) A0, sm2.trans (s3.trans sb).sv, n2.back, upd_same, p2, F6, ?_⟩
      rw [p1]
      exact q7
  · have e : i = L.length := by omega
    subst e
    rw [List.drop_length] at q2
    have q3 : Q (D.dic (av.map fun x : Key × V => x.1) acc) Γ2 := q2
    exact .inl ⟨st (Nat.le_refl _), k A (.dK av) (.dic (av.map fun x : Key × V => x.1) acc) Γ2 Hv2 H2 s2 (s1.was hA) hA2 ⟨av, rfl, rfl, ra2⟩ F2 q3⟩
theorem df_dc {kx vx tg iter : Expr} {ifs : List Expr} {scope : Scope} {own : List (Str × Nat)} {pos : Pos} {wi : TI} {di : TDF} {g : TG} {gd : TDG} {tt : TT} {td : TDT} {tk tv : TE} {dk dv : TDE} {is : List Nat} (hc : X.calm = true) (hN : X.N.Nodup) (hi : DI W X tg iter wi di) (ok : BlkOk X.N X.env.scope scope own)
    (hg : ∀ (s : Shared) (H : Hp) (C : Addr) (cl : List (Str × Addr)) (fp : List Addr), DG W (X.blk s H scope (compEnvC scope cl C X.env) fp) tg g gd is) (ht : ∀ (s : Shared) (H : Hp) (C : Addr) (cl : List (Str × Addr)) (fp : List Addr), DTs W (X.blk s H scope (compEnvC scope cl C X.env) fp) ifs tt td)
    (hk : ∀ (s : Shared) (H : Hp) (C : Addr) (cl : List (Str × Addr)) (fp : List Addr), DE W (X.blk s H scope (compEnvC scope cl C X.env) fp) kx tk dk) (he : ∀ (s : Shared) (H : Hp) (C : Addr) (cl : List (Str × Addr)) (fp : List Addr), DE W (X.blk s H scope (compEnvC scope cl C X.env) fp) vx tv dv)
    (hv : ∀ j ∈ is, j ∈ own.map (·.2)) (hs : ∀ x, foldedSetIterable iter X.env x = pure x := by intro _; rfl) :
    DF W X (.DictComp kx vx [⟨tg, iter, ifs, 0⟩] scope pos) (tDc wi g tt tk tv (own.map (·.2))) (rdDc di gd td dk dv (own.map (·.2))) :=
  ⟨pe_dc hc hN hi.pi ok (fun s H C cl fp => (hg s H C cl fp).pg) (fun s H C cl fp => (ht s H C cl fp).pt) (fun s H C cl fp => (hk s H C cl fp).pe) (fun s H C cl fp => (he s H C cl fp).pe) hs,
    ad_dc (tg := tg) (iter := iter) hi.ad (hg X.s_0 (fun _ => none) 0 [] []).ad (ht X.s_0 (fun _ => none) 0 [] []).ad (hk X.s_0 (fun _ => none) 0 [] []).ad (he X.s_0 (fun _ => none) 0 [] []).ad hv⟩
end
end VL

set_option Elab.async false
set_option linter.all false
set_option maxRecDepth 100000
set_option maxHeartbeats 4000000
/-! VL25: operators, ==, in, len by an own class's methods. -/
namespace VL
open PySem PySem.Spec L2
open PyProof.Rows hiding St
section
variable {X : Cx} {CX : CXT} {k : Nat} {C g : Addr} {sp : Sp} {E : XK}
theorem relV_real {v : V} {u : Value} (r : RelV v u) : u ≠ .notImplemented := by
  cases v <;> first | (obtain ⟨t, rfl⟩ := r; simp) | (cases r; simp)
theorem cmpBack_of {pins : List (Addr × Obj)} {σ : L2.St} {Q : VK} {u : Value} {s' : Shared} (h : EP X pins σ Q u s') : PySem.W.CmpBack (EP X pins σ Q) u s' := by
  obtain ⟨v, H', I, r, q⟩ := h
  have n := relV_real r
  cases u <;> first | exact absurd rfl n | exact ⟨v, H', I, r, q⟩
/-- what an own method of the class at C must be -/
structure Dun (K : PySem.W.Frag) (C : Addr) (m : Str) (g : Addr) : Prop where
  at_ : PySem.W.findIn K (.ref C) m = some (some (.ref g))
  fn : PySem.W.isFn K (.ref g) = true
/-- x op y, both instances of the class at C -/
def rOwnB (C : Addr) (sp : Sp) (E : XK) : R2 := fun x y H Q => ∃ a b dx dy fs gs, x = .ref a ∧ y = .ref b ∧ H a = some (.ins C dx fs) ∧ H b = some (.ins C dy gs) ∧ sp [x, y] H Q E
theorem op_ownB {op : Operator} (F : FnR X.prog X.w X.K X.mg X.base CX k g sp) (hr : Room k X.A) (hx : Passes CX X E) (hs : Dun X.K C (PySem.dunder op.info.2) g) (hc : PySem.W.selfFirst X.K C = true) : OpR X (binaryOp op) (rOwnB C sp E) := by
  intro pins s σ H x y v u Q I rx ry h
  obtain ⟨a, b, dx, dy, fs, gs, rfl, rfl, ha, hb, hsp⟩ := h
  cases rx
  cases ry
  obtain ⟨mA, J, _⟩ := ins_get I.hok ha
  obtain ⟨mB, J', _⟩ := ins_get I.hok hb
  obtain ⟨od, J, _⟩ := J.look
  obtain ⟨od', J', _⟩ := J'.look
  obtain ⟨m, hF⟩ := I.fr
  have r2 : Vals [V.ref a, V.ref b] [Value.ref a, Value.ref b] := .cons rfl (.cons rfl .nil)
  exact PySem.W.binop_K hF I.ok.mod.kin J J'.type hc hs.at_ hs.fn (wpAny_mono (wpAny_call (run_fnR F hr hx I r2 hsp)) (fun v s' q => cmpBack_of q) fun _ _ e => e)
/-- the type of a value, as a comparison looks at it -/
def TyB (K : PySem.W.Frag) (C : Addr) (H : Hp) (y : V) : Prop := (∃ n, TyX K H y (.type n) ∧ PySem.W.notFirst K C (.type n) = true) ∨ ∃ b dy gs, y = .ref b ∧ H b = some (.ins C dy gs)
theorem tyB_looks {pins : List (Addr × Obj)} {σ : L2.St} {H : Hp} {s : Shared} {y : V} {u : Value} (I : Inv X pins σ H s) (ry : RelV y u) (h : TyB X.K C H y) : ∃ tb, PySem.W.Looks (model X.prog X.w) s.heap (typeOf u) tb ∧ PySem.W.notFirst X.K C tb = true := by
  rcases h with ⟨n, t, e⟩ | ⟨b, dy, gs, rfl, hb⟩
  · obtain ⟨P, kx, hp, _⟩ := kit_of I ry t
    exact ⟨_, kx.ty _ _ I.kIn hp, e⟩
  · cases ry
    obtain ⟨mB, J', _⟩ := ins_get I.hok hb
    obtain ⟨od', J', _⟩ := J'.look
    exact ⟨_, J'.type, by unfold PySem.W.notFirst; simp⟩
def rOwnEq (K : PySem.W.Frag) (C : Addr) (sp : Sp) (E : XK) : R2 := fun x y H Q => ∃ a dx fs, x = .ref a ∧ H a = some (.ins C dx fs) ∧ TyB K C H y ∧ sp [x, y] H Q E
theorem op_ownEq (F : FnR X.prog X.w X.K X.mg X.base CX k g sp) (hr : Room k X.A) (hx : Passes CX X E) (hs : Dun X.K C "__eq__" g) : OpR X (compareOp .Eq) (rOwnEq X.K C sp E) := by
  intro pins s σ H x y v u Q I rx ry h
  obtain ⟨a, dx, fs, rfl, ha, ty, hsp⟩ := h
  cases rx
  obtain ⟨mA, J, _⟩ := ins_get I.hok ha
  obtain ⟨od, J, _⟩ := J.look
  obtain ⟨m, hF⟩ := I.fr
  obtain ⟨tb, hb, hn⟩ := tyB_looks I ry ty
  have r2 : Vals [V.ref a, y] [Value.ref a, u] := .cons rfl (.cons ry .nil)
  exact PySem.W.cmp_K (op := .Eq) hr.units0 hF I.ok.mod.kin J hb hn hs.at_ hs.fn (wpAny_mono (wpAny_call (run_fnR F hr hx I r2 hsp)) (fun v s' q => cmpBack_of q) fun _ _ e => e)
/-- x in y, y an instance of the class at C -/
def rOwnIn (C : Addr) (sp : Sp) (E : XK) (neg : Bool) : R2 := fun x y H Q => ∃ a dx fs, y = .ref a ∧ H a = some (.ins C dx fs) ∧ sp [y, x] H (fun r H' => ∃ b, r = .bl b ∧ Q (.bl (neg ^^ b)) H') E
theorem op_ownIn (F : FnR X.prog X.w X.K X.mg X.base CX k g sp) (hr : Room k X.A) (hx : Passes CX X E) (hs : Dun X.K C "__contains__" g) : OpR X (compareOp .In) (rOwnIn C sp E false) := by
  intro pins s σ H x y v u Q I rx ry h
  obtain ⟨a, dx, fs, rfl, ha, hsp⟩ := h
  cases ry
  obtain ⟨mA, J, _⟩ := ins_get I.hok ha
  obtain ⟨od, J, _⟩ := J.look
  obtain ⟨m, hF⟩ := I.fr
  have r2 : Vals [V.ref a, x] [Value.ref a, v] := .cons rfl (.cons rx .nil)
  refine PySem.W.in_K hF I.ok.mod.kin J hs.at_ hs.fn (wpAny_mono (wpAny_call (run_fnR F hr hx I r2 hsp)) (fun v s' q => ?_) fun _ _ e => e)
  obtain ⟨r, H', I', rr, b, rfl, q⟩ := q
  cases rr
  refine wpAny_truthy_bool ?_
  exact ⟨.bl _, H', I', rfl, by rw [Bool.false_xor] at q; exact q⟩
theorem op_ownNotIn (F : FnR X.prog X.w X.K X.mg X.base CX k g sp) (hr : Room k X.A) (hx : Passes CX X E) (hs : Dun X.K C "__contains__" g) : OpR X (compareOp .NotIn) (rOwnIn C sp E true) := by
  intro pins s σ H x y v u Q I rx ry h
  obtain ⟨a, dx, fs, rfl, ha, hsp⟩ := h
  cases ry
  obtain ⟨mA, J, _⟩ := ins_get I.hok ha
  obtain ⟨od, J, _⟩ := J.look
  obtain ⟨m, hF⟩ := I.fr
  have r2 : Vals [V.ref a, x] [Value.ref a, v] := .cons rfl (.cons rx .nil)
  refine PySem.W.notIn_K hF I.ok.mod.kin J hs.at_ hs.fn (wpAny_mono (wpAny_call (run_fnR F hr hx I r2 hsp)) (fun v s' q => ?_) fun _ _ e => e)
  obtain ⟨r, H', I', rr, b, rfl, q⟩ := q
  cases rr
  refine wpAny_truthy_bool ?_
  exact ⟨.bl _, H', I', rfl, by rw [Bool.true_xor] at q; exact q⟩
/-- len(x) -/
def rOwnLen (C : Addr) (sp : Sp) (E : XK) : List V → Hp → VK → Prop := fun xs H Q => ∃ a dx fs, xs = [.ref a] ∧ H a = some (.ins C dx fs) ∧ sp xs H (fun r H' => ∃ n : Int, r = .int n ∧ (0 ≤ n ∧ n < 2 ^ 63) ∧ Q (.int n) H') E
theorem cr_ownLen (F : FnR X.prog X.w X.K X.mg X.base CX k g sp) (hr : Room (k + 1) X.A) (hx : Passes CX X E) (hs : Dun X.K C "__len__" g) : CallR X (.builtin "len") (rOwnLen C sp E) := by
  intro pins s σ H xs us Q I r h
  obtain ⟨a, dx, fs, rfl, ha, hsp⟩ := h
  cases r with
  | cons r0 r1 =>
  cases r0
  cases r1
  obtain ⟨mA, J, _⟩ := ins_get I.hok ha
  obtain ⟨od, J, _⟩ := J.look
  obtain ⟨m, hF⟩ := I.fr
  have r2 : Vals [V.ref a] [Value.ref a] := .cons rfl .nil
  refine PySem.W.len_K hF I.ok.mod.kin J hs.at_ hs.fn (wpAny_call (codeAny_mono (F X.A.in1 X.stack s H [.ref a] [.ref a] _ E hr.in1 I.env0.in1 r2 hsp) fun r s' hq => ?_))
  cases r with
  | error e => exact hx pins σ H s e s' I hq
  | ok fl =>
    cases fl with
    | ret w =>
      obtain ⟨z, H', I', rz, n, rfl, hn, q⟩ := I.after hq
      obtain ⟨t, rfl⟩ := rz
      exact ⟨hn, ⟨.int n, H', I'.tok _, ⟨_, rfl⟩, q⟩⟩
    | next => exact False.elim hq
    | brk => exact False.elim hq
    | cont => exact False.elim hq
end
/-! ### a class of the text -/
structure Kls (K : PySem.W.Frag) (cn : Str) (C : Addr) : Prop where
  cn : CN K cn C
  cls : Cls K C
  ca : PySem.W.findIn K (.ref C) "__class__" = some (some (.builtin "object.__class__"))
  cg : PySem.W.specialIn K (.builtin "object.__class__") "__get__" = some (some (.builtin "getset_descriptor.__get__"))
  ct : PySem.W.takesIn K (.builtin "object.__class__") = some true
  mo : PySem.W.mroIn K C (.type "object") = some true
  sf : PySem.W.selfFirst K C = true
  ci : PySem.W.isClsIn K C = true
  ty : PySem.W.typeIn K (.ref C) = some (.type "type")
section
variable {K : PySem.W.Frag} {cn : Str} {C : Addr} {H : Hp}
theorem Kls.tyX (k : Kls K cn C) {a dx : Addr} {fs : List (Str × V)} (h : H a = some (.ins C dx fs)) : TyX K H (.ref a) (.ref C) := .base (.ins h k.cls k.ca k.cg k.ct k.mo)
theorem sub_ty {d : D} {n : String} (h : tyName d = some n) : PySem.W.subIn K (.type n) (.ref C) = some false := by
  cases d <;> cases h <;> rfl
theorem notFirst_ty {d : D} {n : String} (h : tyName d = some n) : PySem.W.notFirst K C (.type n) = true := by
  unfold PySem.W.notFirst
  rw [sub_ty h]
  simp
theorem Kls.kit (k : Kls K cn C) {t : Value} {b : Bool} (h : PySem.W.subIn K t (.ref C) = some b) (ne : t ≠ .ref C) : PySem.W.kitOne K t (.ref C) = some b := by
  unfold PySem.W.kitOne PySem.W.kitCls
  have e : (t == Value.ref C) = false := by simpa using ne
  have ci : (PySem.W.clsIn K C).isSome = true := k.ci
  simp only [e, Bool.false_eq_true, if_false, ci, k.ty, h, Bool.true_and, beq_self_eq_true, if_true]
theorem Kls.kit1 : PySem.W.kitOne K (.ref C) (.ref C) = some true := by
  unfold PySem.W.kitOne
  simp
/-- whether data is an instance of the class cn; others: classes that are not -/
def isiO (cn : Str) (others : List Str) : D → Option Bool
  | .obj c _ _ => if c = cn then some true else if others.contains c then some false else none
  | d => (tyName d).map fun _ => false
def rdIsiC (C : Addr) (cn : Str) (others : List Str) : List D → (D → Prop) → Prop := fun ds Q => match ds with
  | [x, .ref a] => a = C ∧ ∃ b, isiO cn others x = some b ∧ Q (.bl b)
  | _ => False
/-- the other classes are not above -/
def Oth (K : PySem.W.Frag) (C : Addr) (others : List Str) : Prop := ∀ c, others.contains c = true → ∃ C', Kls K c C' ∧ PySem.W.mroIn K C' (.ref C) = some false ∧ C' ≠ C
theorem oth_nil : Oth K C [] := fun c h => by simp at h
theorem oth_cons {c : Str} {C' : Addr} {r : List Str} (k : Kls K c C') (h : PySem.W.mroIn K C' (.ref C) = some false) (n : C' ≠ C) (t : Oth K C r) : Oth K C (c :: r) := fun x hx => by
  rw [List.contains_cons] at hx
  by_cases e : x = c
  · subst e; exact ⟨C', k, h, n⟩
  · refine t x ?_
    have : (x == c) = false := by simpa using e
    rw [this, Bool.false_or] at hx
    exact hx
theorem isiO_ty {others : List Str} {x : D} {b : Bool} {v : V} {W : Wc} {Γ : Gm} {σ : L2.St} {Hv : Hp} (k : Kls K cn C) (o : Oth K C others) (h : isiO cn others x = some b) (r : Rp K H v x) : ∃ t, TyX K H v t ∧ PySem.W.kitOne K t (.ref C) = some b := by
  by_cases hx : ∃ n, tyName x = some n
  · obtain ⟨n, hn⟩ := hx
    have e : b = false := by
      cases x <;> first | cases hn | skip
      all_goals (unfold isiO at h; cases h; rfl)
    subst e
    exact ⟨_, tyX_of r hn, k.kit (sub_ty hn) (fun z => nomatch z)⟩
  · cases x with
    | obj c ns ds =>
      cases r with
      | obj h1 h2 h3 h4 =>
      rename_i a C' dx fs
      have h : (if c = cn then some true else if others.contains c then some false else none) = some b := h
      by_cases ec : c = cn
      · subst ec
        rw [if_pos rfl] at h
        cases h
        have := k.cn.same h2
        subst this
        exact ⟨_, k.tyX h1, Kls.kit1⟩
      · rw [if_neg ec] at h
        by_cases ho : others.contains c = true
        · rw [if_pos ho] at h
          cases h
          obtain ⟨C2, k2, hm, hn⟩ := o c ho
          have := k2.cn.same h2
          subst this
          exact ⟨_, k2.tyX h1, k.kit hm (fun z => hn (by injection z))⟩
        · rw [if_neg ho] at h
          cases h
    | non => exact absurd ⟨_, rfl⟩ hx
    | bl b => exact absurd ⟨_, rfl⟩ hx
    | int b => exact absurd ⟨_, rfl⟩ hx
    | str b => exact absurd ⟨_, rfl⟩ hx
    | lst b => exact absurd ⟨_, rfl⟩ hx
    | tup b => exact absurd ⟨_, rfl⟩ hx
    | dic b c => exact absurd ⟨_, rfl⟩ hx
    | ty n => unfold isiO at h; cases h
    | ref n => unfold isiO at h; cases h
    | fz n => unfold isiO at h; cases h
theorem cd_isiC {W : Wc} {others : List Str} (k : Kls K cn C) (o : Oth K C others) : CallD K W (rIsi K) (rdIsiC C cn others) := by
  intro Γ σ Hv H vs ds Q Q' E r h kk
  unfold rdIsiC at h
  split at h
  · obtain ⟨rfl, b, e, q⟩ := h
    obtain ⟨v, w, rfl, rv, rw'⟩ := r.two
    cases rw'
    obtain ⟨t, ht, hk⟩ := isiO_ty (W := W) (Γ := Γ) (σ := σ) (Hv := Hv) k o e (Rp.monoS E.ret.sub _ _ rv)
    exact ⟨v, _, _, _, b, rfl, .own _, ht, hk, kk _ _ Hv H E.stp (.bl _) q⟩
  · exact h.elim
/-! ### own operators by data -/
variable {W : Wc} {F : FD} {E : XK}
/-- x op y, both of the class cn -/
def rdOwnB (cn : Str) (F : FD) : RD2 := fun x y Q => asObj cn x fun _ _ => asObj cn y fun _ _ => F [x, y] Q
/-- x op y, x of the class cn; y is data of a kind that a comparison may look at -/
def okY (cn : Str) (d : D) : Prop := (∃ n, tyName d = some n) ∨ asObj cn d fun _ _ => True
def rdOwnEq (cn : Str) (F : FD) : RD2 := fun x y Q => asObj cn x fun _ _ => okY cn y ∧ F [x, y] Q
def rdOwnIn (cn : Str) (F : FD) (neg : Bool) : RD2 := fun x y Q => asObj cn y fun _ _ => F [y, x] fun d => asB d fun b => Q (.bl (neg ^^ b))
def rdOwnLen (cn : Str) (F : FD) : List D → (D → Prop) → Prop := fun ds Q => match ds with
  | [x] => asObj cn x fun _ _ => F [x] fun d => asI d fun n => (0 ≤ n ∧ n < 2 ^ 63) ∧ Q (.int n)
  | _ => False
theorem rp_obj {Hv : Hp} (k : CN K cn C) {v : V} {ns : List Str} {es : List D} (r : Rp K Hv v (.obj cn ns es)) (s : Sub Hv H) : ∃ a dx fs, v = .ref a ∧ H a = some (.ins C dx fs) := by
  cases r with
  | obj h1 h2 h3 h4 =>
    have := k.same h2
    subst this
    exact ⟨_, _, _, rfl, s.ins h1⟩
theorem od_ownB (k : CN K cn C) : OpD K W (rOwnB C (spD Vol.no K F) E) (rdOwnB cn F) := by
  intro Γ σ Hv H x y dx dy Q Q' Z rx ry h kk
  obtain ⟨ns, es, rfl, h⟩ := asObj_of h
  obtain ⟨ns2, es2, rfl, h⟩ := asObj_of h
  obtain ⟨a, d1, f1, rfl, h1⟩ := rp_obj k rx Z.ret.sub
  obtain ⟨b, d2, f2, rfl, h2⟩ := rp_obj k ry Z.ret.sub
  exact ⟨a, b, d1, d2, f1, f2, rfl, rfl, h1, h2, Hv, _, _, Z.ret.sub, True.intro, fun _ z => z.elim, .cons rx (.cons ry .nil), h, fun v d Hv2 H2 R r2 q2 => kk v d Hv2 H2 (Z.stp.after (Z.pure R)) r2 q2⟩
theorem tyB_of {Hv : Hp} (k : CN K cn C) {y : V} {d : D} (r : Rp K Hv y d) (s : Sub Hv H) (h : okY cn d) : TyB K C H y := by
  rcases h with ⟨n, h⟩ | h
  · exact .inl ⟨n, tyX_of (Rp.monoS s _ _ r) h, notFirst_ty h⟩
  · obtain ⟨ns, es, rfl, _⟩ := asObj_of h
    obtain ⟨a, dx, fs, rfl, h1⟩ := rp_obj k r s
    exact .inr ⟨a, dx, fs, rfl, h1⟩
theorem od_ownEq (k : CN K cn C) : OpD K W (rOwnEq K C (spD Vol.no K F) E) (rdOwnEq cn F) := by
  intro Γ σ Hv H x y dx dy Q Q' Z rx ry h kk
  obtain ⟨ns, es, rfl, ok, h⟩ := asObj_of h
  obtain ⟨a, d1, f1, rfl, h1⟩ := rp_obj k rx Z.ret.sub
  exact ⟨a, d1, f1, rfl, h1, tyB_of k ry Z.ret.sub ok, Hv, _, _, Z.ret.sub, True.intro, fun _ z => z.elim, .cons rx (.cons ry .nil), h, fun v d Hv2 H2 R r2 q2 => kk v d Hv2 H2 (Z.stp.after (Z.pure R)) r2 q2⟩
theorem od_ownIn (k : CN K cn C) (neg : Bool) : OpD K W (rOwnIn C (spD Vol.no K F) E neg) (rdOwnIn cn F neg) := by
  intro Γ σ Hv H x y dx dy Q Q' Z rx ry h kk
  obtain ⟨ns, es, rfl, h⟩ := asObj_of h
  obtain ⟨a, d1, f1, rfl, h1⟩ := rp_obj k ry Z.ret.sub
  refine ⟨a, d1, f1, rfl, h1, Hv, _, _, Z.ret.sub, True.intro, fun _ z => z.elim, .cons ry (.cons rx .nil), h, fun v d Hv2 H2 R r2 q2 => ?_⟩
  obtain ⟨c, rfl, q⟩ := asB_of r2 q2
  exact ⟨c, rfl, kk _ _ Hv2 H2 (Z.stp.after (Z.pure R)) (.bl _) q⟩
theorem cd_ownLen (k : CN K cn C) : CallD K W (rOwnLen C (spD Vol.no K F) E) (rdOwnLen cn F) := by
  intro Γ σ Hv H vs ds Q Q' Z r h kk
  unfold rdOwnLen at h
  split at h
  · obtain ⟨ns, es, rfl, h⟩ := asObj_of h
    obtain ⟨v, rfl, rv⟩ := r.one
    obtain ⟨a, d1, f1, rfl, h1⟩ := rp_obj k rv Z.ret.sub
    refine ⟨a, d1, f1, rfl, h1, Hv, _, _, Z.ret.sub, True.intro, fun _ z => z.elim, .cons rv .nil, h, fun v d Hv2 H2 R r2 q2 => ?_⟩
    obtain ⟨c, rfl, hn, q⟩ := asI_of r2 q2
    exact ⟨c, rfl, hn, kk _ _ Hv2 H2 (Z.stp.after (Z.pure R)) (.int _) q⟩
  · exact h.elim
end
end VL

set_option Elab.async false
set_option linter.all false
set_option maxRecDepth 100000
set_option maxHeartbeats 4000000
/-! VL26: sets of texts: set(xs), their members in some order, len, sorted. -/
namespace VL
open PySem PySem.Spec L2
open PyProof.Rows hiding St
/-- the text that an entry keeps -/
def txE (e : Int × Value) : Str := match e.2 with | .str x _ => x | _ => Str.empty
def TxE (w : World) (e : Int × Value) : Prop := ∃ x u, e.2 = Value.str x u ∧ e.1 = hashStr w x
/-- at a stands a set of just these texts, in some order -/
def TxSet (w : World) (h : Heap) (a : Addr) (xs : List Str) : Prop :=
  ∃ o es ep t, h.get? a = some o ∧ o.ExactSet ∧ o.data = .set es ep t ∧ (∀ e ∈ es.toList, TxE w e) ∧ (es.toList.map txE).Perm xs ∧ xs.Nodup ∧ es.size < scanBound ∧ t.fits es.size = true ∧ Ris t.place.toList ∧ (w.params.followText "set-order" = true ∨ t.led = true)
section
variable {P : Program} {w : World} {A : Around} {E : Value → Shared → Prop} {s : Shared} {a : Addr} {xs : List Str} {h h' : Heap}
theorem TxSet.stay (T : TxSet w h a xs) (k : ∀ o, h.get? a = some o → h'.get? a = some o) : TxSet w h' a xs := by
  obtain ⟨o, es, ep, t, ho, r⟩ := T
  exact ⟨o, es, ep, t, k o ho, r⟩
theorem TxSet.perm {ys : List Str} (T : TxSet w h a xs) (p : xs.Perm ys) : TxSet w h a ys := by
  obtain ⟨o, es, ep, t, ho, h1, h2, h3, h4, h5, r⟩ := T
  exact ⟨o, es, ep, t, ho, h1, h2, h3, h4.trans p, p.nodup_iff.mp h5, r⟩
theorem txE_is {e : Int × Value} (g : TxE w e) (x : Str) : (PySem.strKind P w).is x e.2 = true ↔ txE e = x := by
  obtain ⟨y, u, h1, _⟩ := g
  unfold txE
  rw [h1]
  constructor
  · intro q
    obtain ⟨v, z⟩ := Value.isStrOf_shape (x := x) (v := .str y u) q
    injection z
  · intro q
    dsimp only at q
    rw [q]
    exact strKind_is P w x u
theorem txE_elems {l : List (Int × Value)} (g : ∀ e ∈ l, TxE w e) : ElemsOf (PySem.strKind P w) l := fun e he => by
  obtain ⟨x, u, h1, h2⟩ := g e he
  refine ⟨⟨x, ?_, h2⟩, ?_⟩
  · rw [h1]; exact strKind_is P w x u
  · rw [h1]; rfl
theorem tx_fresh (ho : h.get? a = some { cls := .type "set", dict := none, data := .set #[] 0 (.fresh 0 0 (!w.params.followText "set-order")) }) : TxSet w h a [] := by
  refine ⟨_, #[], 0, _, ho, ⟨rfl, rfl, rfl⟩, rfl, fun e he => by simp at he, .refl _, List.nodup_nil, by decide, rfl, List.Pairwise.nil, ?_⟩
  cases hq : w.params.followText "set-order"
  · exact .inr rfl
  · exact .inl rfl
/-- what stays behind a member is put in -/
theorem tx_tail {g : Bool → Sem Unit} (hg : ∀ (b : Bool) (s₁ : Shared) (Q' : Unit → Shared → Prop), Q' () s₁ → wpAny (model P w) A (g b) Q' E s₁)
    {o : Obj} {es es1 : Array (Int × Value)} {ep : Nat} {t t2 : SetTable} (ho : s.heap.get? a = some o) (hex : o.ExactSet) (hd : o.data = .set es ep t)
    (g1 : ∀ e ∈ es1.toList, TxE w e) (p1 : (es1.toList.map txE).Perm xs) (nd : xs.Nodup) (hb : es1.size < scanBound) (hf : t2.fits es1.size = true) (hr : Ris t2.place.toList)
    (hl : w.params.followText "set-order" = true ∨ t2.led = true) {wasDummy : Bool} {R : Option Bool → Shared → Prop} (hR : ∀ h', Heap.SameBut a s.heap h' → TxSet w h' a xs → R (some true) { s with heap := h' }) :
    wpAny (model P w) A (storeSet a es1 t2 >>= fun _ => if (!wasDummy && t2.tooFull) = true then
        g (relayAll t2 es1 (SetTable.grown es1.size)).2.2 >>= fun _ => storeSet a (relayAll t2 es1 (SetTable.grown es1.size)).1 (relayAll t2 es1 (SetTable.grown es1.size)).2.1 >>= fun _ => pure (some true)
      else pure (some true)) R E s := by
  have q1 := store_at (es' := es1) (t' := t2) ho hd
  have b1 := Heap.SameBut.update s.heap a (Obj.putSet es1 t2)
  refine wpAny_bind (wpAny_storeSet_of ho hd ?_ (fits_of_scanBound hb))
  by_cases c : (!wasDummy && t2.tooFull) = true
  · rw [if_pos c]
    have pm := relayAll_perm t2 es1 (SetTable.grown es1.size)
    have f3 := relayAll_fits t2 es1 (SetTable.grown es1.size)
    have r3 := relayAll_ris t2 es1 (SetTable.grown es1.size)
    have l3 := relayAll_led t2 es1 (SetTable.grown es1.size)
    revert pm f3 r3 l3
    generalize relayAll t2 es1 (SetTable.grown es1.size) = Z
    obtain ⟨es2, t3, gave⟩ := Z
    intro pm f3 r3 l3
    have sz : es2.size = es1.size := by simpa using pm.length_eq
    have hb2 : es2.size < scanBound := by rw [sz]; exact hb
    refine wpAny_bind (hg _ _ _ (wpAny_bind (wpAny_storeSet_of q1 rfl ?_ (fits_of_scanBound hb2))))
    have q2 := store_at (es' := es2) (t' := t3) q1 rfl
    refine wpAny_pure (hR _ (b1.trans (Heap.SameBut.update _ a _)) ⟨_, es2, _, t3, q2, hex, rfl, fun e he => g1 e (pm.mem_iff.mp he), (pm.map txE).trans p1, nd, hb2, f3, r3, hl.imp id fun z => ?_⟩)
    exact l3.trans z
  · rw [if_neg c]
    exact wpAny_pure (hR _ b1 ⟨_, es1, _, t2, q1, hex, rfl, g1, p1, nd, hb, hf, hr, hl⟩)
/-- a text put in -/
def insT (xs : List Str) (x : Str) : List Str := if x ∈ xs then xs else xs ++ [x]
theorem tx_add {x : Str} {u : Tok} {Q : Bool → Shared → Prop} (T : TxSet w s.heap a xs) (room : xs.length + 1 < scanBound)
    (hQ : ∀ b h', Heap.SameBut a s.heap h' → TxSet w h' a (insT xs x) → Q b { s with heap := h' }) :
    wpAny (model P w) A (setAddHashed a (.str x u) ((PySem.strKind P w).hash x)) Q E s := by
  obtain ⟨o, es, ep, t, ho, hex, hd, g, pm0, nd, hb, hf, hr, hl⟩ := T
  have hk : (PySem.strKind P w).is x (.str x u) = true := strKind_is P w x u
  have sc : (Value.str x u).scannable = true := rfl
  have hel : ElemsOf (PySem.strKind P w) es.toList := txE_elems g
  have hsz : es.size = xs.length := by simpa using pm0.length_eq
  unfold setAddHashed setAddHashedIn
  refine wpAny_holding (wpAny_bind (wpAny_setState_of ho hd hf ?_))
  dsimp only
  rw [byScan_of sc hb hel]
  simp only [↓reduceIte]
  unfold setAddByScan
  refine wpAny_bind (wpAny_bind (wpAny_rule (wpAny_bind (wpAny_setScan_of hk ho hd hf hel ?_))))
  cases hfi : List.findIdx? (fun e => (PySem.strKind P w).is x e.2) es.toList with
  | some j =>
    dsimp only
    obtain ⟨hj, pj, _⟩ := List.findIdx?_eq_some_iff_getElem.mp hfi
    have mx : x ∈ xs := pm0.mem_iff.mp (List.mem_map.mpr ⟨_, List.getElem_mem hj, (txE_is (P := P) (g _ (List.getElem_mem hj)) x).mp pj⟩)
    have ei : insT xs x = xs := if_pos mx
    have z := hQ false s.heap (Heap.SameBut.refl a s.heap)
    rw [ei] at z
    exact wpAny_pure (wpAny_pure (z ⟨o, es, ep, t, ho, hex, hd, g, pm0, nd, hb, hf, hr, hl⟩))
  | none =>
    dsimp only
    have nx : x ∉ xs := fun mx => by
      obtain ⟨e, he, q⟩ := List.mem_map.mp (pm0.mem_iff.mpr mx)
      have c := List.findIdx?_eq_none_iff.mp hfi e he
      rw [(txE_is (P := P) (g e he) x).mpr q] at c
      cases c
    have ei : insT xs x = xs ++ [x] := if_neg nx
    have pmN := layNew_perm t es ((PySem.strKind P w).hash x) (.str x u)
    have fN := layNew_fits t es ((PySem.strKind P w).hash x) (.str x u)
    have rN := layNew_ris t es ((PySem.strKind P w).hash x) (.str x u) hr
    have lN := layNew_led t es ((PySem.strKind P w).hash x) (.str x u)
    revert pmN fN rN lN
    generalize layNew t es ((PySem.strKind P w).hash x) (.str x u) = Z
    obtain ⟨es1, t1, wasDummy, gave⟩ := Z
    intro pmN fN rN lN
    dsimp only at pmN fN rN lN ⊢
    rw [Array.toList_push] at pmN
    have p1 : (es1.toList.map txE).Perm (xs ++ [x]) := (pmN.map txE).trans (by
      rw [List.map_append]
      exact pm0.append (.refl _))
    have g1 : ∀ e ∈ es1.toList, TxE w e := fun e he => by
      rcases List.mem_append.mp (pmN.mem_iff.mp he) with z | z
      · exact g e z
      · rw [List.mem_singleton.mp z]; exact ⟨x, u, rfl, rfl⟩
    have nd1 : (xs ++ [x]).Nodup := by
      rw [List.nodup_append]
      exact ⟨nd, by simp, fun y hy z hz e => nx (by rw [List.mem_singleton.mp hz] at e; rw [← e]; exact hy)⟩
    have hs1 : es1.size = xs.length + 1 := by simpa using p1.length_eq
    have hb1 : es1.size < scanBound := by rw [hs1]; exact room
    have led1 : w.params.followText "set-order" = true ∨ t1.led = true := hl.imp id fun z => lN.trans z
    have gw : ∀ (b : Bool) (s₁ : Shared) (Q' : Unit → Shared → Prop), Q' () s₁ → wpAny (model P w) A (match b with | true => rule "set.scan.the-table-gave-way" | false => pure ()) Q' E s₁ :=
      fun b s₁ Q' q => by cases b; exact wpAny_pure q; exact wpAny_rule q
    have fin : ∀ h', Heap.SameBut a s.heap h' → TxSet w h' a (xs ++ [x]) → Q true { s with heap := h' } := fun h' sb r => hQ true h' sb (by rw [ei]; exact r)
    refine wpAny_bind (gw _ _ _ ?_)
    split
    · refine wpAny_bind ?_
      rw [hashByValue_scannable 8 sc]
      refine wpAny_pure ?_
      refine tx_tail (gw) ho hex hd g1 p1 nd1 hb1 ?_ ?_ ?_ ?_
      · first | (split <;> first | exact fN | exact SetTable.fits_plain_off fN) | exact fN
      · first | (split <;> exact rN) | exact rN
      · first | (split <;> exact led1) | exact led1
      · intro h' sb r; dsimp only; exact wpAny_pure (fin h' sb r)
    · refine wpAny_bind (wpAny_pure ?_)
      simp only [↓reduceIte]
      refine tx_tail (gw) ho hex hd g1 p1 nd1 hb1 fN rN led1 ?_
      · intro h' sb r; dsimp only; exact wpAny_pure (fin h' sb r)
end
end VL

set_option Elab.async false
set_option linter.all false
set_option maxRecDepth 100000
set_option maxHeartbeats 4000000
/-! VL27: set(texts) called, sorted and counted. -/
namespace VL
open PySem PySem.Spec L2
open PyProof.Rows hiding St
def ddT (xs : List Str) : List Str := xs.foldl insT []
theorem insT_len (xs : List Str) (x : Str) : (insT xs x).length ≤ xs.length + 1 := by
  unfold insT
  split
  · omega
  · simp
theorem ddT_snoc (xs : List Str) (x : Str) : ddT (xs ++ [x]) = insT (ddT xs) x := by
  unfold ddT
  rw [List.foldl_append]
  rfl
theorem fold_ins : ∀ (xs acc : List Str), acc.Nodup → (xs.foldl insT acc).Nodup ∧ (xs.foldl insT acc).length ≤ acc.length + xs.length ∧ ∀ y, y ∈ xs.foldl insT acc ↔ y ∈ acc ∨ y ∈ xs
  | [], acc, h => ⟨h, Nat.le_refl _, fun y => by simp⟩
  | x :: r, acc, h => by
    have hn : (insT acc x).Nodup := by
      unfold insT
      split
      · exact h
      · rename_i nx
        rw [List.nodup_append]
        exact ⟨h, by simp, fun y hy z hz e => nx (by rw [List.mem_singleton.mp hz] at e; rw [← e]; exact hy)⟩
    obtain ⟨h1, h2, h3⟩ := fold_ins r (insT acc x) hn
    refine ⟨h1, ?_, fun y => ?_⟩
    · have := insT_len acc x
      rw [List.length_cons]
      exact Nat.le_trans h2 (by omega)
    · rw [List.foldl_cons, h3 y]
      unfold insT
      split
      · rename_i mx
        rw [List.mem_cons]
        exact ⟨fun z => z.elim .inl fun z => .inr (.inr z), fun z => z.elim .inl fun z => z.elim (fun e => .inl (by rw [e]; exact mx)) .inr⟩
      · rw [List.mem_append, List.mem_singleton, List.mem_cons, or_assoc]
theorem ddT_nodup (xs : List Str) : (ddT xs).Nodup := (fold_ins xs [] List.nodup_nil).1
theorem ddT_len (xs : List Str) : (ddT xs).length ≤ xs.length := by have h := (fold_ins xs [] List.nodup_nil).2.1; rw [List.length_nil, Nat.zero_add] at h; exact h
theorem ddT_mem (xs : List Str) (y : Str) : y ∈ ddT xs ↔ y ∈ xs := ((fold_ins xs [] List.nodup_nil).2.2 y).trans ⟨fun z => z.elim (fun z => nomatch z) id, .inr⟩
section
variable {P : Program} {w : World} {A : Around} {E : Value → Shared → Prop} {s : Shared}
theorem tx_loop {I : Addr} {fp wr : List Addr} {G : Array GenState → Array GenState → Prop} {n : Nat} {Pv : Nat → Value → Prop} {St : Nat → Shared → Prop} {R : Result → Shared → Prop}
    (W : WalksS P w A.in1 I fp wr G n Pv St) (S : Addr) (nf : S ∉ fp) (xs : List Str) (hn : n = xs.length) (room : xs.length + 1 < scanBound) (val : ∀ i v, Pv i v → ∃ x u, xs[i]? = some x ∧ v = .str x u) :
    ∀ (k i : Nat) (s : Shared), k + i = n → St i s → TxSet w s.heap S (ddT (xs.take i)) →
      (∀ s', Moved (S :: wr) G s s' → TxSet w s'.heap S (ddT xs) → R (.ok (.ret .none)) s') → codeAny (model P w) A (.builtin "set.update.loop" ⟨[.ref S, .ref I], []⟩) R s := by
  have nw : S ∉ wr := fun z => nf (W.sub _ z)
  have up : ∀ b ∈ wr, b ∈ S :: wr := fun b z => List.mem_cons_of_mem _ z
  intro k
  induction k with
  | zero =>
    intro i s hk st T hR
    have hi : i = n := by omega
    subst hi
    refine codeAny_builtin PyProof.Rows.F.entry_set_update_loop ?_
    rw [Around.under_plainId PyProof.Rows.F.plain_set_update_loop _]
    show wpAny _ A.in1 (pyNext (.ref I) >>= _) _ _ s
    refine wpAny_bind (W.done s _ _ st fun s' mv => ?_)
    show wpAny _ A.in1 (ret Value.none) _ _ s'
    rw [List.take_of_length_le (by omega)] at T
    exact wpAny_pure (hR s' (mv.mono up) (T.stay fun o e => mv.heap S o nw e))
  | succ k ih =>
    intro i s hk st T hR
    refine codeAny_builtin PyProof.Rows.F.entry_set_update_loop ?_
    rw [Around.under_plainId PyProof.Rows.F.plain_set_update_loop _]
    show wpAny _ A.in1 (pyNext (.ref I) >>= _) _ _ s
    refine wpAny_bind (W.item i s _ _ (by omega) st fun v s' hP st' mv => ?_)
    obtain ⟨x, u, hx, rfl⟩ := val i v hP
    have T' := T.stay (h' := s'.heap) fun o e => mv.heap S o nw e
    show wpAny _ A.in1 (holding [Value.str x u] (setAdd S (.str x u)) >>= _) _ _ s'
    refine wpAny_bind (wpAny_holding ?_)
    unfold setAdd
    have l1 := ddT_len (xs.take i)
    have l2 : (xs.take i).length ≤ xs.length := by rw [List.length_take]; omega
    refine wpAny_holding (wpAny_bind ((PySem.strKind P w).pyHash (k := x) (strKind_is _ _ _ _) ?_))
    refine tx_add (s := { s' with toks := s'.toks + 1 }) T' (by omega) fun b h' sb T2 => ?_
    have e : insT (ddT (xs.take i)) x = ddT (xs.take (i + 1)) := by rw [List.take_add_one, hx]; exact (ddT_snoc _ _).symm
    rw [e] at T2
    refine wpAny_pure ⟨plainId_quiet PyProof.Rows.F.plain_set_update_loop _, ih (i + 1) _ (by omega) (W.frame _ s' _ _ st' (Nat.le_succ _) fun b hb o e => ?_) T2 fun s'' mv2 T3 => ?_⟩
    · exact (sb.2 b fun z => nf (by rw [← z]; exact hb)).trans e
    · refine hR s'' (Moved.trans W.gtrans ((mv.mono up).then_heap (Nat.le_succ _) fun b o hb e => ?_) mv2) T3
      exact (sb.2 b fun z => hb (by rw [z]; exact List.mem_cons_self)).trans e
theorem strs_val : ∀ {us : List Value} {xs : List Str}, StrsAre us xs → us.length = xs.length ∧ ∀ (i : Nat) (v : Value), us[i]? = some v → ∃ x u, xs[i]? = some x ∧ v = .str x u
  | _, _, .nil => ⟨rfl, fun i v h => by simp at h⟩
  | _, _, .cons x u r => by
    obtain ⟨hl, hr⟩ := strs_val r
    refine ⟨by rw [List.length_cons, List.length_cons, hl], fun i v h => ?_⟩
    cases i with
    | zero => simp at h; exact ⟨x, u, rfl, h.symm⟩
    | succ i => simpa using hr i v (by simpa using h)
abbrev set0 (w : World) : Obj := { cls := .type "set", dict := none, data := .set #[] 0 (.fresh 0 0 (!w.params.followText "set-order")) }
set_option maxHeartbeats 3200000 in
theorem call_setTx_list {l : Addr} {items : Array Value} {xs : List Str} {Q : Value → Shared → Prop} (hh : A.handled = none) (hl : s.heap.IsList l items) (hi : StrsAre items.toList xs) (room : xs.length + 1 < scanBound)
    (q : ∀ (h' : Heap) (tk : Nat), TxSet w h' s.heap.objs.size (ddT xs) → (∀ b o, s.heap.get? b = some o → h'.get? b = some o) → Q (.ref s.heap.objs.size) { s with heap := h', toks := tk }) :
    wpAny (model P w) A (call (.type "set") [.ref l]) Q E s := by
  obtain ⟨hlen, hval⟩ := strs_val hi
  have hlen : items.size = xs.length := by rw [← hlen, Array.length_toList]
  obtain ⟨c, tl, hmro⟩ := PySem.F.called_set.mro
  have made := PySem.F.called_set.made
  have sub := PySem.F.called_set.sub
  refine wpAny_call (codeAny_of_tree ?_)
  show wpAny _ _ (callAny (.type "set") _) _ _ _
  refine wpAny_pure ⟨Code.quiet_builtin _ (by decide +kernel), codeAny_builtin PySem.F.entry_type_call ?_⟩
  rw [Around.under_plain (weight_type_call_type "set" [.ref l] []) rfl]
  have n1 := PySem.F.called_set.notType
  have n2 := PySem.F.called_set.canCreate
  have n3 := PySem.F.typeCall_set_1 (.ref l)
  repeat (any_goals (first | assumption | wp_step))
  refine codeAny_mono (code_set_led1 (.ref l) (E := E) (Q₁ := fun v s₁ => v = .ref s.heap.objs.size ∧ s₁ = { s with heap := s.heap.push (set0 w) }) ⟨rfl, rfl⟩) fun r s₁ hr => ?_
  cases r with
  | error e => exact hr
  | ok fl =>
    cases fl with
    | ret v =>
      obtain ⟨rfl, rfl⟩ := hr
      have at0 : (s.heap.push (set0 w)).get? s.heap.objs.size = some (set0 w) := Heap.get?_push_size _ rfl
      have hT : Shared.TypeIs { s with heap := s.heap.push (set0 w) } (.ref s.heap.objs.size) "set" := ⟨_, at0, rfl⟩
      have n4 := PySem.F.called_set.init.lookup
      have n5 := PySem.F.called_set.init.bind (.ref s.heap.objs.size)
      repeat (any_goals (first | assumption | wp_step))
      refine codeAny_mono (codeAny_call_builtin (R := wants (fun r s₂ => r = .none ∧ ∃ h' tk, s₂ = { s with heap := h', toks := tk } ∧ TxSet w h' s.heap.objs.size (ddT xs) ∧ ∀ b o, s.heap.get? b = some o → h'.get? b = some o) E)
        PySem.F.called_set.init.plain PySem.F.entry_set_init (check_set_init_1 hT ?_)) fun r₂ s₂ hr₂ => ?_
      · obtain ⟨ol, hol, hcl, nl, hdl⟩ := hl
        obtain ⟨ocls, odict, odata, oslots⟩ := ol
        simp only at hcl hdl
        subst hcl; subst hdl
        have hol2 : (s.heap.push (set0 w)).get? l = some { cls := .type "list", dict := odict, data := .seq items nl, slots := oslots } := Heap.get?_push_of_some _ hol
        have m1 := PySem.F.sub_list_set
        have m2 := PySem.F.sub_list_frozenset
        have m3 : (Value.type "list" == Value.type "dict") = false := by decide
        have il : (s.heap.push (set0 w)).IsList l items := ⟨_, hol2, rfl, nl, rfl⟩
        unfold Builtin.«set.__init__» noKeywords Builtin.Frozenset.updateFrom
        generalize hPI : pyIter = PI
        wp_walk
        subst hPI
        refine wpAny_pyIter_list il (wpAny_bind (wpAny_runValue ?_))
        have lt : l < s.heap.objs.size := Heap.lt_size hol
        have nI : l ≠ (s.heap.push (set0 w)).objs.size := by rw [Heap.size_push]; exact Nat.ne_of_lt (Nat.lt_succ_of_lt lt)
        have nS : s.heap.objs.size ∉ [(s.heap.push (set0 w)).objs.size, l] := by
          rw [Heap.size_push]
          intro z
          rcases List.mem_cons.mp z with z | z
          · exact Nat.ne_of_lt (Nat.lt_succ_self _) z
          · exact Nat.ne_of_gt lt (List.mem_singleton.mp z)
        refine tx_loop ((Walks.list (by simp [hh]) _ l nI items).toS) s.heap.objs.size nS xs hlen room (fun i v hv => hval i v (by rw [Array.getElem?_toList]; exact hv)) items.size 0 _ rfl ⟨⟨_, Heap.get?_push_size _ rfl, rfl, rfl⟩, il.push _⟩ (tx_fresh (Heap.get?_push_of_some _ at0)) fun s' mv T => ?_
        obtain ⟨h', g2, d', tk', os'⟩ := s'
        have e1 : g2 = s.gens := mv.gens
        have e2 : d' = s.drawn := mv.drawn
        have e3 : os' = s.os := mv.os
        subst e1; subst e2; subst e3
        show wpAny _ _ _ _ _ _
        refine wpAny_pure ?_
        show wpAny _ _ (ret Value.none) _ _ _
        refine wpAny_pure ⟨rfl, h', tk', rfl, T, fun b o e => ?_⟩
        have lb := Heap.lt_size e
        refine mv.heap b o (fun z => ?_) (Heap.get?_push_of_some _ (Heap.get?_push_of_some _ e))
        rcases List.mem_cons.mp z with z | z
        · exact Nat.ne_of_lt lb z
        · have z := List.mem_singleton.mp z
          rw [Heap.size_push] at z
          exact Nat.ne_of_lt (Nat.lt_succ_of_lt lb) z
      · cases r₂ with
        | error e => exact hr₂
        | ok fl₂ =>
          cases fl₂ with
          | ret r =>
            obtain ⟨rfl, h', tk, rfl, T, k⟩ := hr₂
            repeat (any_goals (first | assumption | wp_step))
            exact q _ _ T k
          | _ => exact hr₂.elim
    | _ => exact hr.elim
set_option maxHeartbeats 3200000 in
theorem call_setTx_tuple {l : Addr} {items : Array Value} {xs : List Str} {Q : Value → Shared → Prop} (hh : A.handled = none) (hl : s.heap.IsTuple l items) (hi : StrsAre items.toList xs) (room : xs.length + 1 < scanBound)
    (q : ∀ (h' : Heap) (tk : Nat), TxSet w h' s.heap.objs.size (ddT xs) → (∀ b o, s.heap.get? b = some o → h'.get? b = some o) → Q (.ref s.heap.objs.size) { s with heap := h', toks := tk }) :
    wpAny (model P w) A (call (.type "set") [.ref l]) Q E s := by
  obtain ⟨hlen, hval⟩ := strs_val hi
  have hlen : items.size = xs.length := by rw [← hlen, Array.length_toList]
  obtain ⟨c, tl, hmro⟩ := PySem.F.called_set.mro
  have made := PySem.F.called_set.made
  have sub := PySem.F.called_set.sub
  refine wpAny_call (codeAny_of_tree ?_)
  show wpAny _ _ (callAny (.type "set") _) _ _ _
  refine wpAny_pure ⟨Code.quiet_builtin _ (by decide +kernel), codeAny_builtin PySem.F.entry_type_call ?_⟩
  rw [Around.under_plain (weight_type_call_type "set" [.ref l] []) rfl]
  have n1 := PySem.F.called_set.notType
  have n2 := PySem.F.called_set.canCreate
  have n3 := PySem.F.typeCall_set_1 (.ref l)
  repeat (any_goals (first | assumption | wp_step))
  refine codeAny_mono (code_set_led1 (.ref l) (E := E) (Q₁ := fun v s₁ => v = .ref s.heap.objs.size ∧ s₁ = { s with heap := s.heap.push (set0 w) }) ⟨rfl, rfl⟩) fun r s₁ hr => ?_
  cases r with
  | error e => exact hr
  | ok fl =>
    cases fl with
    | ret v =>
      obtain ⟨rfl, rfl⟩ := hr
      have at0 : (s.heap.push (set0 w)).get? s.heap.objs.size = some (set0 w) := Heap.get?_push_size _ rfl
      have hT : Shared.TypeIs { s with heap := s.heap.push (set0 w) } (.ref s.heap.objs.size) "set" := ⟨_, at0, rfl⟩
      have n4 := PySem.F.called_set.init.lookup
      have n5 := PySem.F.called_set.init.bind (.ref s.heap.objs.size)
      repeat (any_goals (first | assumption | wp_step))
      refine codeAny_mono (codeAny_call_builtin (R := wants (fun r s₂ => r = .none ∧ ∃ h' tk, s₂ = { s with heap := h', toks := tk } ∧ TxSet w h' s.heap.objs.size (ddT xs) ∧ ∀ b o, s.heap.get? b = some o → h'.get? b = some o) E)
        PySem.F.called_set.init.plain PySem.F.entry_set_init (check_set_init_1 hT ?_)) fun r₂ s₂ hr₂ => ?_
      · obtain ⟨ol, hol, hcl, nl, hdl⟩ := hl
        obtain ⟨ocls, odict, odata, oslots⟩ := ol
        simp only at hcl hdl
        subst hcl; subst hdl
        have hol2 : (s.heap.push (set0 w)).get? l = some { cls := .type "tuple", dict := odict, data := .seq items nl, slots := oslots } := Heap.get?_push_of_some _ hol
        have m1 := PySem.F.sub_tuple_set
        have m2 := PySem.F.sub_tuple_frozenset
        have m3 : (Value.type "tuple" == Value.type "dict") = false := by decide
        have il : (s.heap.push (set0 w)).IsTuple l items := ⟨_, hol2, rfl, nl, rfl⟩
        unfold Builtin.«set.__init__» noKeywords Builtin.Frozenset.updateFrom
        generalize hPI : pyIter = PI
        wp_walk
        subst hPI
        refine wpAny_pyIter_tuple il (wpAny_bind (wpAny_runValue ?_))
        have lt : l < s.heap.objs.size := Heap.lt_size hol
        have nI : l ≠ (s.heap.push (set0 w)).objs.size := by rw [Heap.size_push]; exact Nat.ne_of_lt (Nat.lt_succ_of_lt lt)
        have nS : s.heap.objs.size ∉ [(s.heap.push (set0 w)).objs.size, l] := by
          rw [Heap.size_push]
          intro z
          rcases List.mem_cons.mp z with z | z
          · exact Nat.ne_of_lt (Nat.lt_succ_self _) z
          · exact Nat.ne_of_gt lt (List.mem_singleton.mp z)
        refine tx_loop ((Walks.tuple (by simp [hh]) _ l nI items).toS) s.heap.objs.size nS xs hlen room (fun i v hv => hval i v (by rw [Array.getElem?_toList]; exact hv)) items.size 0 _ rfl ⟨⟨_, Heap.get?_push_size _ rfl, rfl, rfl⟩, il.push _⟩ (tx_fresh (Heap.get?_push_of_some _ at0)) fun s' mv T => ?_
        obtain ⟨h', g2, d', tk', os'⟩ := s'
        have e1 : g2 = s.gens := mv.gens
        have e2 : d' = s.drawn := mv.drawn
        have e3 : os' = s.os := mv.os
        subst e1; subst e2; subst e3
        show wpAny _ _ _ _ _ _
        refine wpAny_pure ?_
        show wpAny _ _ (ret Value.none) _ _ _
        refine wpAny_pure ⟨rfl, h', tk', rfl, T, fun b o e => ?_⟩
        have lb := Heap.lt_size e
        refine mv.heap b o (fun z => ?_) (Heap.get?_push_of_some _ (Heap.get?_push_of_some _ e))
        rcases List.mem_cons.mp z with z | z
        · exact Nat.ne_of_lt lb z
        · have z := List.mem_singleton.mp z
          rw [Heap.size_push] at z
          exact Nat.ne_of_lt (Nat.lt_succ_of_lt lb) z
      · cases r₂ with
        | error e => exact hr₂
        | ok fl₂ =>
          cases fl₂ with
          | ret r =>
            obtain ⟨rfl, h', tk, rfl, T, k⟩ := hr₂
            repeat (any_goals (first | assumption | wp_step))
            exact q _ _ T k
          | _ => exact hr₂.elim
    | _ => exact hr.elim
end
end VL

set_option Elab.async false
set_option linter.all false
set_option maxRecDepth 100000
set_option maxHeartbeats 4000000
/-! VL28: sorted(x) of data of one kind, of any length, x a list, a tuple, set(texts). -/
namespace VL
open PySem PySem.Spec L2 PySem.W
open PyProof.Rows hiding St
mutual
theorem reads_new {h : Heap} {a : Addr} (n : h.get? a = none) : ∀ (d : PyData) (v : Value) (as : List Addr), Reads h v d as → a ∉ as
  | .none, _, _, .none => by simp
  | .bool _, _, _, .bool _ => by simp
  | .int _, _, _, .int _ _ => by simp
  | .str _, _, _, .str _ _ => by simp
  | .list xs, _, _, .list h1 _ _ r => by
    intro z
    rcases List.mem_cons.mp z with z | z
    · rw [z, h1] at n; cases n
    · exact readsAll_new n xs _ _ r z
  | .tuple xs, _, _, .tuple h1 _ _ r => readsAll_new n xs _ _ r
  | .dict kvs, _, _, r => by
    cases r with
    | dict h1 h2 h3 r1 r2 =>
      intro z
      rcases List.mem_append.mp z with z | z
      · rcases List.mem_cons.mp z with z | z
        · rw [z, h1] at n; cases n
        · exact readsAll_newK n kvs _ _ r1 z
      · exact readsAll_newV n kvs _ _ r2 z
theorem readsAll_new {h : Heap} {a : Addr} (n : h.get? a = none) : ∀ (ds : List PyData) (vs : List Value) (as : List Addr), ReadsAll h vs ds as → a ∉ as
  | [], _, _, .nil => by simp
  | d :: ds, _, _, .cons r rs => by
    intro z
    rcases List.mem_append.mp z with z | z
    · exact reads_new n d _ _ r z
    · exact readsAll_new n ds _ _ rs z
theorem readsAll_newK {h : Heap} {a : Addr} (n : h.get? a = none) : ∀ (ds : List (PyData × PyData)) (vs : List Value) (as : List Addr), ReadsAll h vs (ds.map (·.1)) as → a ∉ as
  | [], _, _, .nil => by simp
  | (d, e) :: ds, _, _, .cons r rs => by
    intro z
    rcases List.mem_append.mp z with z | z
    · exact reads_new n d _ _ r z
    · exact readsAll_newK n ds _ _ rs z
theorem readsAll_newV {h : Heap} {a : Addr} (n : h.get? a = none) : ∀ (ds : List (PyData × PyData)) (vs : List Value) (as : List Addr), ReadsAll h vs (ds.map (·.2)) as → a ∉ as
  | [], _, _, .nil => by simp
  | (d, e) :: ds, _, _, .cons r rs => by
    intro z
    rcases List.mem_append.mp z with z | z
    · exact reads_new n e _ _ r z
    · exact readsAll_newV n ds _ _ rs z
end
section
variable {P : Program} {w : World} {A : Around} {E : Value → Shared → Prop} {s : Shared} {β : Type} {enc : β → PyData} {R : Value → β → Prop}
/-- what sorted asks of the values that were gathered -/
structure SrtOk (h : Heap) (A : Around) (R : Value → β → Prop) (enc : β → PyData) (vs : List Value) (bs : List β) : Prop where
  is : EachIs R vs bs
  rd : EachIs (fun v b => ∃ as, Reads h v (enc b) as) vs bs
  al : AllAlike (bs.map enc)
  so : Sortable (bs.map enc)
  ln : bs.length ≤ sizeLine
  dp : ∀ b ∈ bs, A.units + 2 + (enc b).depth < cLine
theorem sorted_col {v : Value} {Q : Value → Shared → Prop} (hc : wpAny (model P w) A.in1 (collect v) (fun vs s1 => ∃ bs, SrtOk s1.heap A R enc vs bs ∧
      ∀ (s2 : Shared) (out : List Value) (c : Nat), (∀ b o, s1.heap.get? b = some o → s2.heap.get? b = some o) → s2.gens = s1.gens → s2.os = s1.os → s2.heap.get? s1.heap.objs.size = some (seqObj "list" out.toArray c) →
        EachIs R out (bs.mergeSort (dataLe false enc)) → Q (.ref s1.heap.objs.size) s2) E s) : wpAny (model P w) A (call (.builtin "sorted") [v]) Q E s := by
  refine Calls.call_function_entry kind_sorted plain_sorted entry_sorted (args_sorted1 _) ?_
  unfold Builtin.«sorted»
  refine wpAny_bind (m := checkCount "sorted" 1 1 _) (wpAny_pure ?_)
  refine wpAny_bind (wpAny_mono hc (fun vs s1 h1 => ?_) fun _ _ e => e)
  obtain ⟨bs, ok, q⟩ := h1
  have hvl : vs.length = bs.length := by
    have := ok.is
    clear q ok
    induction this with
    | nil => rfl
    | cons _ _ ih => rw [List.length_cons, List.length_cons, ih]
  refine wpAny_bind (wpAny_newList ?_ (by rw [hvl]; exact ok.ln))
  have keep : ∀ b o, s1.heap.get? b = some o → (s1.heap.push (seqObj "list" vs.toArray 0)).get? b = some o := fun b o e => Heap.get?_push_of_some _ e
  have new : s1.heap.get? s1.heap.objs.size = none := by
    cases z : s1.heap.get? s1.heap.objs.size with
    | none => rfl
    | some o => exact absurd (Heap.lt_size z) (Nat.lt_irrefl _)
  have at_ : (s1.heap.push (seqObj "list" vs.toArray 0)).get? s1.heap.objs.size = some (seqObj "list" vs.toArray 0) := Heap.get?_push_size _ rfl
  refine wpAny_bind (wpAny_holding (list_sort_data (s := { s1 with heap := s1.heap.push (seqObj "list" vs.toArray 0) }) (enc := enc) at_ ok.is (ok.rd.mono fun u b ⟨as, r⟩ => ⟨as, PyProof.Rows.Reads.keeps keep r, reads_new new _ _ _ r⟩) ok.al ok.so ok.ln (fun b hb => by
    have := ok.dp b hb
    show A.units + 1 + 1 + _ < _
    exact this) fun out ho he => ?_))
  obtain ⟨c, hcc⟩ := sortedHeap_at (vs := vs) (out := out.toArray) at_
  refine wpAny_pure ⟨_, rfl, q _ out c (fun b u e => ?_) rfl rfl hcc he⟩
  have lt := Heap.lt_size e
  show (sortedHeap (s1.heap.push (seqObj "list" vs.toArray 0)) s1.heap.objs.size vs out.toArray).get? b = some u
  rw [sortedHeap_old (Nat.ne_of_lt lt) (by rw [Heap.size_push]; exact Nat.lt_succ_of_lt lt)]
  exact keep b u e
end
end VL

set_option Elab.async false
set_option linter.all false
set_option maxRecDepth 100000
set_option maxHeartbeats 4000000
/-! VL29: sorted(data), sorted(set(texts)), len(set(texts)) as rules. -/
namespace VL
open PySem PySem.Spec L2 PySem.W
open PyProof.Rows hiding St
/-! ### sorted(x), x a list or a tuple -/
def rSrt (K : PySem.W.Frag) : List V → Hp → VK → Prop := fun xs H Q => ∃ (a : Addr) (zs : List (V × PyData)), xs = [.ref a] ∧ (SqL K H a (zs.map (·.1)) ∨ SqT K H a (zs.map (·.1))) ∧ (∀ z ∈ zs, Dp K H z.1 z.2) ∧
  AllAlike (zs.map (·.2)) ∧ Sortable (zs.map (·.2)) ∧ (∀ z ∈ zs, z.2.depth ≤ 60) ∧ ∀ p, H p = none → Q (.ref p) (upd H p (.lst ((zs.mergeSort (dataLe false (·.2))).map (·.1))))
section
variable {X : Cx}
theorem each_of_vals {zs : List (V × PyData)} : ∀ {us : List Value}, Vals (zs.map (·.1)) us → EachIs (fun u (z : V × PyData) => RelV z.1 u) us zs := by
  induction zs with
  | nil => intro us r; cases r; exact .nil
  | cons z zs ih => intro us r; cases r with | cons a b => exact .cons a (ih b)
theorem vals_of_each {zs : List (V × PyData)} : ∀ {us : List Value}, EachIs (fun u (z : V × PyData) => RelV z.1 u) us zs → Vals (zs.map (·.1)) us := by
  induction zs with
  | nil => intro us r; cases r; exact .nil
  | cons z zs ih => intro us r; cases r with | cons a b => exact .cons a (ih b)
theorem each_and {α β : Type} {R S : α → β → Prop} {as : List α} {bs : List β} (h : EachIs R as bs) (g : ∀ a b, b ∈ bs → R a b → S a b) : EachIs S as bs := by
  induction h with
  | nil => exact .nil
  | cons r t ih => exact .cons (g _ _ List.mem_cons_self r) (ih fun a b hb => g a b (List.mem_cons_of_mem _ hb))
/-- the new list of sorted -/
theorem Inv.newList {pins : List (Addr × Obj)} {σ : L2.St} {H : Hp} {s s2 : Shared} {p : Addr} {ys : List V} {out : List Value} {c : Nat} (I : Inv X pins σ H s) (k : ∀ b o, s.heap.get? b = some o → s2.heap.get? b = some o) (g : s2.gens = s.gens) (o : s2.os = s.os)
    (hp : s.heap.objs.size ≤ p) (hg : s2.heap.get? p = some (seqObj "list" out.toArray c)) (r : Vals ys out) (hl : ys.length ≤ sizeLine) : Inv X pins σ (upd H p (.lst ys)) s2 := by
  have hn : H p = none := I.hok.fresh hp
  have J : Inv X pins σ (upd H p (.lst ys)) { s with heap := s2.heap, gens := s2.gens, drawn := s2.drawn, toks := s2.toks } :=
    I.call (ch := []) (Un.laid k hp hn) (I.hok.laid k hp ⟨hl, out, c, r, hg⟩) (by rw [g]; exact I.bare) (fun _ z => nomatch z)
  have e : s2 = { s with heap := s2.heap, gens := s2.gens, drawn := s2.drawn, toks := s2.toks } := by
    cases s2; cases s; cases o; rfl
  rw [e]
  exact J
theorem cr_srt {k : Nat} (hr : Room k X.A) : CallR X (.builtin "sorted") (rSrt X.K) := by
  intro pins s σ H xs us Q I r h
  obtain ⟨a, zs, rfl, hs, hd, al, so, dp, q⟩ := h
  rw [Vals.ref1 r]
  have un := hr.un
  have fin : ∀ (its : List Value) (h' : Heap), Vals (zs.map (·.1)) its → (zs.map (·.1)).length ≤ sizeLine → (∀ b o, s.heap.get? b = some o → h'.get? b = some o) →
      ∃ bs, SrtOk h' X.A (fun u (z : V × PyData) => RelV z.1 u) (·.2) its bs ∧ ∀ (s2 : Shared) (out : List Value) (c : Nat), (∀ b o, h'.get? b = some o → s2.heap.get? b = some o) → s2.gens = s.gens → s2.os = s.os → s2.heap.get? h'.objs.size = some (seqObj "list" out.toArray c) →
        EachIs (fun u (z : V × PyData) => RelV z.1 u) out (bs.mergeSort (dataLe false (·.2))) → EP X pins σ Q (.ref h'.objs.size) s2 := fun its h' rv hl kp => by
    have I2 : Inv X pins σ H { s with heap := h', toks := s.toks } := I.kept kp
    have ev := each_of_vals rv
    rw [List.length_map] at hl
    refine ⟨zs, ⟨ev, each_and ev fun u z hz rz => Dp.reads I2 _ _ _ (hd z hz) rz, al, so, hl, fun z hz => ?_⟩, fun s2 out c k2 g o at_ eo => ?_⟩
    · have := dp z hz
      omega
    · have ro := vals_of_each eo
      have J : Inv X pins σ (upd H h'.objs.size (.lst ((zs.mergeSort (dataLe false (·.2))).map (·.1)))) s2 := Inv.newList I2 k2 g o (Nat.le_refl _) at_ ro (by rw [List.length_map, List.length_mergeSort]; exact hl)
      exact ⟨.ref _, _, J, rfl, q _ (I2.hok.fresh (Nat.le_refl _))⟩
  rcases hs with hs | hs
  · obtain ⟨its, rv, pl, hl⟩ := I.list hs
    obtain ⟨o, ho, hc, n, hdd⟩ := pl.isList
    have hlv := rv.length
    refine sorted_col (R := fun u (z : V × PyData) => RelV z.1 u) (enc := (·.2)) (wpAny_collect_seq a (.inl rfl) ho hc hdd (fun h' kp => ?_) (by rw [List.size_toArray]; omega))
    exact fin its h' rv hl kp
  · obtain ⟨its, rv, ⟨o, ho, hc, n, hdd⟩, hl⟩ := I.tuple hs
    have hlv := rv.length
    refine sorted_col (R := fun u (z : V × PyData) => RelV z.1 u) (enc := (·.2)) (wpAny_collect_seq a (.inr rfl) ho hc hdd (fun h' kp => ?_) (by rw [List.size_toArray]; omega))
    exact fin its h' rv hl kp
end
/-! ### by data -/
def leD : D → D → Bool := dataLe false py
def okSrt (ds : List D) : Prop := plAll ds = true ∧ AllAlike (ds.map py) ∧ Sortable (ds.map py) ∧ ∀ d ∈ ds, (py d).depth ≤ 60
def rdSrt : List D → (D → Prop) → Prop := fun ds Q => match ds with
  | [.lst xs] => okSrt xs ∧ Q (.lst (xs.mergeSort leD))
  | [.tup xs] => okSrt xs ∧ Q (.lst (xs.mergeSort leD))
  | _ => False
section
variable {K : PySem.W.Frag} {W : Wc}
theorem plAll_mem : ∀ {ds : List D}, plAll ds = true → ∀ d ∈ ds, pl d = true
  | [], _, d, h => by simp at h
  | e :: ds, h, d, hd => by
    obtain ⟨h1, h2⟩ := Bool.and_eq_true_iff.mp h
    rcases List.mem_cons.mp hd with rfl | hd
    · exact h1
    · exact plAll_mem h2 d hd
theorem rp_zip {H : Hp} : ∀ {vs : List V} {ds : List D}, RpAll K H vs ds → (vs.zip ds).map (·.1) = vs ∧ (vs.zip ds).map (·.2) = ds ∧ ∀ z ∈ vs.zip ds, Rp K H z.1 z.2
  | _, _, .nil => ⟨rfl, rfl, fun z h => by simp at h⟩
  | _, _, .cons a r => by
    obtain ⟨h1, h2, h3⟩ := rp_zip r
    refine ⟨by simp [h1], by simp [h2], fun z hz => ?_⟩
    rcases List.mem_cons.mp hz with rfl | hz
    · exact a
    · exact h3 z hz
theorem rp_unzip {H : Hp} : ∀ {zs : List (V × D)}, (∀ z ∈ zs, Rp K H z.1 z.2) → RpAll K H (zs.map (·.1)) (zs.map (·.2))
  | [], _ => .nil
  | z :: zs, h => .cons (h z List.mem_cons_self) (rp_unzip fun y hy => h y (List.mem_cons_of_mem _ hy))
theorem srt_step {Hv H : Hp} {a : Addr} {vs : List V} {ds : List D} (s : Sub Hv H) (r : RpAll K Hv vs ds) (ok : okSrt ds) (hs : SqL K H a vs ∨ SqT K H a vs) {Q : VK}
    (k : ∀ p ys, H p = none → RpAll K Hv ys (ds.mergeSort leD) → Q (.ref p) (upd H p (.lst ys))) : rSrt K [.ref a] H Q := by
  obtain ⟨ok1, ok2, ok3, ok4⟩ := ok
  obtain ⟨z1, z2, z3⟩ := rp_zip r
  have f1 : ((vs.zip ds).map fun z => (z.1, py z.2)).map (·.1) = vs := by rw [List.map_map]; exact z1
  have f2 : ((vs.zip ds).map fun z => (z.1, py z.2)).map (·.2) = ds.map py := by
    rw [List.map_map]
    have e : ((fun (x : V × PyData) => x.2) ∘ fun (z : V × D) => (z.1, py z.2)) = py ∘ (·.2) := rfl
    rw [e, ← List.map_map, z2]
  refine ⟨a, (vs.zip ds).map fun z => (z.1, py z.2), rfl, ?_, fun z hz => ?_, ?_, ?_, fun z hz => ?_, fun p hp => ?_⟩
  · rw [f1]; exact hs
  · obtain ⟨y, hy, rfl⟩ := List.mem_map.mp hz
    have m : y.2 ∈ ds := by rw [← z2]; exact List.mem_map.mpr ⟨y, hy, rfl⟩
    exact Rp.dp _ _ (Rp.monoS s _ _ (z3 y hy)) (plAll_mem ok1 _ m)
  · rw [f2]; exact ok2
  · rw [f2]; exact ok3
  · obtain ⟨y, hy, rfl⟩ := List.mem_map.mp hz
    have m : y.2 ∈ ds := by rw [← z2]; exact List.mem_map.mpr ⟨y, hy, rfl⟩
    exact ok4 _ m
  · have e1 : ((vs.zip ds).map fun z => (z.1, py z.2)).mergeSort (dataLe false (·.2)) = ((vs.zip ds).mergeSort (dataLe false fun z => py z.2)).map fun z => (z.1, py z.2) := (sort_maps (fun z : V × D => (z.1, py z.2)) (fun _ _ _ _ => rfl)).symm
    have e2 : ((vs.zip ds).mergeSort (dataLe false fun z => py z.2)).map (·.2) = ds.mergeSort leD := by
      have := sort_maps (r := dataLe false fun z : V × D => py z.2) (s := leD) (fun z : V × D => z.2) (l := vs.zip ds) (fun _ _ _ _ => rfl)
      rw [z2] at this
      exact this
    rw [e1, List.map_map]
    refine k p _ hp ?_
    have := rp_unzip (K := K) (H := Hv) (zs := (vs.zip ds).mergeSort (dataLe false fun z => py z.2)) fun z hz => z3 z (List.mem_mergeSort.mp hz)
    rw [e2] at this
    exact this
theorem cf_srt : CallF K W (rSrt K) rdSrt := by
  intro Γ σ Hv H vs ds Q Q' E r h k
  unfold rdSrt at h
  split at h
  · obtain ⟨v, rfl, rv⟩ := r.one
    cases rv with
    | lst h1 r1 =>
      refine srt_step E.ret.sub r1 h.1 (.inl (.of (E.ret.sub.lst h1))) fun p ys hp ry => ?_
      obtain ⟨s, F⟩ := E.stp.alloc0 (.lst ys) hp
      exact k p _ (.lst _) Hv _ s hp upd_same ⟨_, rfl, ry⟩ F h.2
  · obtain ⟨v, rfl, rv⟩ := r.one
    cases rv with
    | tup h1 r1 =>
      refine srt_step E.ret.sub r1 h.1 (.inr (seqT E.ret.sub h1)) fun p ys hp ry => ?_
      obtain ⟨s, F⟩ := E.stp.alloc0 (.lst ys) hp
      exact k p _ (.lst _) Hv _ s hp upd_same ⟨_, rfl, ry⟩ F h.2
  · exact h.elim
end
end VL

set_option Elab.async false
set_option linter.all false
set_option maxRecDepth 100000
set_option maxHeartbeats 4000000
/-! VL30: len(set(texts)), sorted(set(texts)); the one sorted list of texts. -/
namespace VL
open PySem PySem.Spec L2 PySem.W
open PyProof.Rows hiding St
/-! ### texts in order -/
def leT (a b : Str) : Bool := dataLe false (fun x : Str => PyData.str x) a b
theorem leT_eq (a b : Str) : leT a b = decide (a.cps.toList ≤ b.cps.toList) := by
  unfold leT
  rw [dataLe_str (fun x : Str => x)]
theorem leT_trans (a b c : Str) (h1 : leT a b = true) (h2 : leT b c = true) : leT a c = true := by
  rw [leT_eq, decide_eq_true_eq] at *
  exact List.le_trans h1 h2
theorem leT_total (a b : Str) : (leT a b || leT b a) = true := by
  rw [leT_eq, leT_eq, Bool.or_eq_true, decide_eq_true_eq, decide_eq_true_eq]
  exact List.le_total _ _
theorem leT_anti {a b : Str} (h1 : leT a b = true) (h2 : leT b a = true) : a = b := by
  rw [leT_eq, decide_eq_true_eq] at *
  exact str_of_cps (List.le_antisymm h1 h2)
def sortT (xs : List Str) : List Str := xs.mergeSort leT
theorem sortT_perm (xs : List Str) : (sortT xs).Perm xs := List.mergeSort_perm _ _
theorem sortT_len (xs : List Str) : (sortT xs).length = xs.length := List.length_mergeSort _
theorem sortT_mem {xs : List Str} {x : Str} : x ∈ sortT xs ↔ x ∈ xs := List.mem_mergeSort
theorem sortT_up (xs : List Str) : (sortT xs).Pairwise fun a b => leT a b = true := List.pairwise_mergeSort leT_trans leT_total xs
theorem sortT_one {xs ys : List Str} (p : ys.Perm xs) (h : ys.Pairwise fun a b => leT a b = true) : ys = sortT xs :=
  List.Perm.eq_of_pairwise (le := fun a b => leT a b = true) (fun _ _ _ _ h1 h2 => leT_anti h1 h2) h (sortT_up xs) (p.trans (sortT_perm xs).symm)
theorem sortT_of {xs ys : List Str} (p : ys.Perm xs) : sortT ys = sortT xs := sortT_one ((sortT_perm ys).trans p) (sortT_up ys)
theorem sortT_map (xs : List Str) : (xs.map D.str).mergeSort leD = (sortT xs).map D.str :=
  (sort_maps (r := leT) (s := leD) D.str (fun _ _ _ _ => rfl)).symm
theorem okSrt_strs (xs : List Str) : okSrt (xs.map D.str) := by
  have e : (xs.map D.str).map py = xs.map PyData.str := by rw [List.map_map]; rfl
  refine ⟨?_, ?_, ?_, fun d hd => ?_⟩
  · induction xs with
    | nil => rfl
    | cons x r ih => exact (by show (true && plAll (r.map D.str)) = true; rw [ih (by rw [List.map_map]; rfl)]; rfl)
  · rw [e]; exact AllAlike.of fun _ _ => by simp [alike]
  · rw [e]; exact Sortable.others fun b => ⟨by simp, by simp⟩
  · obtain ⟨x, _, rfl⟩ := List.mem_map.mp hd
    show 0 ≤ 60
    omega
/-! ### set(x) within len or sorted -/
section
variable {X : Cx} {a : Expr} {ta : TE} {p p2 q pos : Pos}
/-- the texts of a list or tuple -/
def TxOf (K : PySem.W.Frag) (H : Hp) (x : V) (xs : List Str) : Prop := ∃ l, x = .ref l ∧ (SqL K H l (xs.map V.str) ∨ SqT K H l (xs.map V.str))
theorem strsAre_vals : ∀ {ys : List Str} {us : List Value}, Vals (ys.map V.str) us → StrsAre us ys
  | [], us, r => by cases r; exact .nil
  | y :: ys, us, r => by
    cases r with
    | cons r t => obtain ⟨k, rfl⟩ := r; exact .cons y k (strsAre_vals t)
theorem call_setTx {pins : List (Addr × Obj)} {σ : L2.St} {H : Hp} {s : Shared} {x : V} {u : Value} {xs : List Str} {Q : Value → Shared → Prop} (hc : X.calm = true) (I : Inv X pins σ H s) (rx : RelV x u) (h : TxOf X.K H x xs) (room : xs.length + 1 < scanBound)
    (k : ∀ (h' : Heap) (tk : Nat), Inv X pins σ H { s with heap := h', toks := tk } → TxSet X.w h' s.heap.objs.size (ddT xs) → Q (.ref s.heap.objs.size) { s with heap := h', toks := tk }) :
    wpAny (model X.prog X.w) X.A (call (.type "set") [u]) Q X.xe s := by
  obtain ⟨l, rfl, hs⟩ := h
  cases rx
  rcases hs with hs | hs
  · obtain ⟨its, r, pl, hz⟩ := I.list hs
    exact call_setTx_list (I.ok.hd hc) pl.isList (by simpa using strsAre_vals r) room fun h' tk T kp => k h' tk (I.kept kp) T
  · obtain ⟨its, r, pl, hz⟩ := I.tuple hs
    exact call_setTx_tuple (I.ok.hd hc) pl (by simpa using strsAre_vals r) room fun h' tk T kp => k h' tk (I.kept kp) T
def tLenSetT (K : PySem.W.Frag) (ta : TE) : TE := fun σ H Q => ta σ H fun x H1 => ∃ xs : List Str, TxOf K H1 x xs ∧ xs.length < 4000 ∧ Q (.int (ddT xs).length) H1
def tSortSetT (K : PySem.W.Frag) (ta : TE) : TE := fun σ H Q => ta σ H fun x H1 => ∃ xs : List Str, TxOf K H1 x xs ∧ xs.length < 4000 ∧ ∀ p, H1 p = none → Q (.ref p) (upd H1 p (.lst ((sortT (ddT xs)).map V.str)))
theorem pe_lenSetT (hc : X.calm = true) (hg : Gl X "len") (hm : X.mg "len" = none) (hg2 : Gl X "set") (hm2 : X.mg "set" = none) (ha : PE X a ta)
    (na : starEach [a] X.env = (false, eval a X.env) :: starEach [] X.env := by rfl) : PE X (.Call (.Name "len" p) [.Call (.Name "set" p2) [a] [] q] [] pos) (tLenSetT X.K ta) := by
  refine ⟨fun pins s σ H Q I h => ?_⟩
  refine Call_ (ld_blt I hg hm boot_len ?_)
  refine PyProof.Rows.callWith_builtin1 (PyProof.Rows.args_cons ?_ rfl) rfl rfl
  refine Call_ (ld_blt I hg2 hm2 boot_set ?_)
  refine PyProof.Rows.callWith_type1 (PyProof.Rows.args_cons (thn (ha.run pins s σ H _ I h) fun v s1 ⟨x, H1, I1, r1, q1⟩ => PyProof.Rows.args_nil ?_) na) na rfl
  obtain ⟨xs, tx, hn, q1⟩ := q1
  refine call_setTx hc I1 r1 tx (by unfold scanBound; omega) fun h' tk I2 T => PyProof.Rows.args_nil ?_
  obtain ⟨o, es, ep, t, ho, hex, hd, _, pm, _, _, hf, _⟩ := T
  have hsz : es.size = (ddT xs).length := by simpa using pm.length_eq
  have hl := ddT_len xs
  refine call_len_set ho hex hd hf (by rw [hsz]; omega) ⟨.int (ddT xs).length, H1, I2.tok _, ⟨_, by rw [hsz]⟩, q1⟩
theorem pe_sortSetT (hc : X.calm = true) {k : Nat} (hr : Room k X.A) (hg : Gl X "sorted") (hm : X.mg "sorted" = none) (hv : bootBuiltins "sorted" = some (.builtin "sorted")) (hg2 : Gl X "set") (hm2 : X.mg "set" = none) (ha : PE X a ta)
    (na : starEach [a] X.env = (false, eval a X.env) :: starEach [] X.env := by rfl) : PE X (.Call (.Name "sorted" p) [.Call (.Name "set" p2) [a] [] q] [] pos) (tSortSetT X.K ta) := by
  refine ⟨fun pins s σ H Q I h => ?_⟩
  refine Call_ (ld_blt I hg hm hv ?_)
  refine PyProof.Rows.callWith_builtin1 (PyProof.Rows.args_cons ?_ rfl) rfl rfl
  refine Call_ (ld_blt I hg2 hm2 boot_set ?_)
  refine PyProof.Rows.callWith_type1 (PyProof.Rows.args_cons (thn (ha.run pins s σ H _ I h) fun v s1 ⟨x, H1, I1, r1, q1⟩ => PyProof.Rows.args_nil ?_) na) na rfl
  obtain ⟨xs, tx, hn, q1⟩ := q1
  refine call_setTx hc I1 r1 tx (by unfold scanBound; omega) fun h' tk I2 T => PyProof.Rows.args_nil ?_
  obtain ⟨o, es, ep, t, ho, hex, hd, g, pm, nd, hb, hf, hrs, hl⟩ := T
  have un := hr.un
  refine sorted_col (R := fun u (y : Str) => ∃ tk, u = Value.str y tk) (enc := PyData.str) (collect_set (A := X.A.in1) (I2.ok.hd hc) ⟨o, ho, hex.1, hd⟩ hf hb hrs hl fun s1 out k1 hz g1 o1 po => ?_)
  have pt : (out.map fun u => match u with | .str x _ => x | _ => Str.empty).Perm (ddT xs) := by
    refine (po.map _).trans ?_
    rw [List.map_map]
    exact pm
  have ev : ∀ l : List Value, (∀ u ∈ l, ∃ e ∈ es.toList, e.2 = u) → EachIs (fun u (y : Str) => ∃ tk, u = Value.str y tk) l (l.map fun u => match u with | .str x _ => x | _ => Str.empty) := fun l hl => by
    induction l with
    | nil => exact .nil
    | cons u r ih =>
      refine .cons ?_ (ih fun v hv => hl v (List.mem_cons_of_mem _ hv))
      obtain ⟨e, he, eu⟩ := hl u List.mem_cons_self
      obtain ⟨x, tk, h1, _⟩ := g e he
      rw [← eu, h1]
      exact ⟨tk, rfl⟩
  have ev := ev out fun u hu => by
    obtain ⟨e, he, eu⟩ := List.mem_map.mp (po.mem_iff.mp hu)
    exact ⟨e, he, eu⟩
  have hl1 := ddT_len xs
  have sz : sizeLine = 1099511627776 ∨ 4000 < sizeLine := .inr (by decide)
  have hlen : (out.map fun u => match u with | .str x _ => x | _ => Str.empty).length = (ddT xs).length := pt.length_eq
  refine ⟨_, ⟨ev, ?_, AllAlike.of fun _ _ => by simp [alike], Sortable.others fun b => ⟨by simp, by simp⟩, ?_, fun b _ => ?_⟩, fun s2 o2 c k2 g2 os2 at_ eo => ?_⟩
  · refine ev.mono fun u y ⟨tk, e⟩ => ⟨[], ?_⟩
    rw [e]
    exact .str _ _
  · rw [hlen]
    exact Nat.le_trans (by omega) (show 4000 ≤ sizeLine by decide)
  · show X.A.units + 2 + 0 < cLine
    omega
  · have em : (out.map fun u => match u with | .str x _ => x | _ => Str.empty).mergeSort (dataLe false PyData.str) = sortT (ddT xs) := sortT_of pt
    rw [em] at eo
    have vl : Vals ((sortT (ddT xs)).map V.str) o2 := by
      clear k2 at_ q1
      generalize sortT (ddT xs) = ys at eo
      induction eo with
      | nil => exact .nil
      | cons r _ ih => exact .cons r ih
    have J := Inv.newList I2 (fun b o e => k2 b o (k1 b o e)) (g2.trans g1) (os2.trans o1) hz at_ vl (by
      rw [List.length_map, sortT_len]
      exact Nat.le_trans (by omega) (show 4000 ≤ sizeLine by decide))
    exact ⟨.ref _, _, J, rfl, q1 _ (I2.hok.fresh hz)⟩
end
/-! ### by data -/
section
variable {W : Wc} {X : Cx} {K : PySem.W.Frag} {a : Expr} {ta : TE} {da : TDE} {p p2 q pos : Pos}
def asTx : D → Option (List Str)
  | .lst ds => asSs ds
  | .tup ds => asSs ds
  | _ => none
theorem asTx_of {Hv H : Hp} {v : V} {d : D} {xs : List Str} (r : Rp K Hv v d) (s : Sub Hv H) (h : asTx d = some xs) : TxOf K H v xs := by
  cases d <;> first | cases h | skip
  · cases r with
    | tup h1 r1 => exact ⟨_, rfl, .inr (by rw [← asSs_of r1 h]; exact seqT s h1)⟩
  · cases r with
    | lst h1 r1 => exact ⟨_, rfl, .inl (by rw [← asSs_of r1 h]; exact .of (s.lst h1))⟩
def rdLenSet (da : TDE) : TDE := fun Γ Q => da Γ fun d Γ1 => ∃ xs, asTx d = some xs ∧ xs.length < 4000 ∧ Q (.int (ddT xs).length) Γ1
def rdSortSet (da : TDE) : TDE := fun Γ Q => da Γ fun d Γ1 => ∃ xs, asTx d = some xs ∧ xs.length < 4000 ∧ Q (.lst ((sortT (ddT xs)).map D.str)) Γ1
theorem d_lenSet (hK : X.K = K) (hc : X.calm = true) (hg : Gl X "len") (hm : X.mg "len" = none) (hg2 : Gl X "set") (hm2 : X.mg "set" = none) (ha : DE W X a ta da)
    (na : starEach [a] X.env = (false, eval a X.env) :: starEach [] X.env := by rfl) : DE W X (.Call (.Name "len" p) [.Call (.Name "set" p2) [a] [] q] [] pos) (tLenSetT K ta) (rdLenSet da) := by
  subst hK
  refine ⟨pe_lenSetT hc hg hm hg2 hm2 ha.pe na, fun Γ σ Hv H Q Q' E h k => ?_⟩
  refine ha.ad Γ σ Hv H _ _ E h fun x d Γ1 Hv1 H1 s1 r1 q => ?_
  obtain ⟨xs, e, hn, q⟩ := q
  exact ⟨xs, asTx_of r1 s1.ev.ret.sub e, hn, k _ _ Γ1 Hv1 H1 s1 (.int _) q⟩
theorem df_sortSet (hK : X.K = K) (hc : X.calm = true) {k : Nat} (hr : Room k X.A) (hg : Gl X "sorted") (hm : X.mg "sorted" = none) (hv : bootBuiltins "sorted" = some (.builtin "sorted")) (hg2 : Gl X "set") (hm2 : X.mg "set" = none) (ha : DE W X a ta da)
    (na : starEach [a] X.env = (false, eval a X.env) :: starEach [] X.env := by rfl) : DF W X (.Call (.Name "sorted" p) [.Call (.Name "set" p2) [a] [] q] [] pos) (tSortSetT K ta) (rdSortSet da) := by
  subst hK
  refine ⟨pe_sortSetT hc hr hg hm hv hg2 hm2 ha.pe na, fun Γ σ Hv H Q Q' E h k => ?_⟩
  refine ha.ad Γ σ Hv H _ _ E h fun x d Γ1 Hv1 H1 s1 r1 q => ?_
  obtain ⟨xs, e, hn, q⟩ := q
  refine ⟨xs, asTx_of r1 s1.ev.ret.sub e, hn, fun p hp => ?_⟩
  obtain ⟨s2, F⟩ := s1.alloc0 (.lst ((sortT (ddT xs)).map V.str)) hp
  exact k p _ (.lst _) Γ1 _ _ s2 (s1.was hp) upd_same ⟨_, rfl, rp_strs _⟩ F q
end
end VL

set_option Elab.async false
set_option linter.all false
set_option maxRecDepth 100000
set_option maxHeartbeats 4000000
/-! VL31: {**d, k: v}. -/
namespace VL
open PySem PySem.Spec L2 PySem.W
open PyProof.Rows hiding St
section
variable {P : Program} {w : World} {A : Around} {E : Value → Shared → Prop} {s : Shared}
theorem dictPut_pairs {K : Type} [DecidableEq K] {knd : KeyKind P w K} {d : Addr} {kvs : List (K × Value)} {k : K} {key v : Value} {Q : Unit → Shared → Prop} (hkey : knd.is k key = true) (hm : s.heap.DictOf knd d kvs) (hz : kvs.length ≤ sizeLine)
    (q : ∀ h', h'.DictOf knd d (stored kvs k v) → Heap.SameBut d s.heap h' → Q () { s with heap := h' }) : wpAny (model P w) A (dictPut d (knd.hash k) key v) Q E s := by
  obtain ⟨o, es, ep, ho, hc, hd, hk, hp, hn⟩ := hm
  have hes : es.size ≤ sizeLine := by
    have e1 := hp.length
    rw [Array.length_toList] at e1
    omega
  unfold dictPut
  refine wpAny_bind (wpAny_dictFind_of hkey ho hd hk ?_)
  have ix : (es.findIdx? fun e => knd.is k e.key) = kvs.findIdx? fun kv => decide (kv.1 = k) := by
    rw [← hp.findIdx k]; obtain ⟨l⟩ := es; simp
  cases hi : es.findIdx? fun e => knd.is k e.key with
  | some i =>
    have yes := any_of_findIdx_some (ix ▸ hi)
    refine wpAny_updateDict ho hd (q _ ⟨_, _, ep, Heap.get?_update_self _ ho (Obj.isFreed_of_dict (Obj.data_mapDict hd _)), hc.mapDict _, Obj.data_mapDict hd _, hk.modify _ _, ?_, ?_⟩ (Heap.SameBut.update ..))
    · rw [stored, if_pos yes]
      have hl : (es.toList.findIdx? fun e => knd.is k e.key) = some i := by rw [← hi]; obtain ⟨l⟩ := es; simp
      have z := hp.modify hn hl v
      obtain ⟨l⟩ := es
      simpa using z
    · rw [stored, if_pos yes, keys_map_store]; exact hn
  | none =>
    have no : k ∉ kvs.map (·.1) := not_mem_of_findIdx_none (ix ▸ hi)
    have na : ¬ (kvs.any fun kv => decide (kv.1 = k)) = true := fun z => by
      obtain ⟨kv, h1, h2⟩ := List.any_eq_true.mp z
      exact no (List.mem_map.mpr ⟨kv, h1, of_decide_eq_true h2⟩)
    refine wpAny_updateDictKeys (hz := hes) ho hd (q _ ⟨_, _, ep + 1, Heap.get?_update_self _ ho (Obj.isFreed_of_dict (Obj.data_mapDictKeys hd _)), hc.mapDictKeys _, Obj.data_mapDictKeys hd _, hk.push hkey _, ?_, ?_⟩ (Heap.SameBut.update ..))
    · rw [stored, if_neg na]
      have z := hp.append hkey (knd.hash k) v
      obtain ⟨l⟩ := es
      simpa using z
    · rw [stored, if_neg na, List.map_append, List.nodup_append]
      exact ⟨hn, by simp, fun a ha b hb e => no (by rw [List.map_cons, List.map_nil, List.mem_singleton] at hb; rw [e, hb] at ha; exact ha)⟩
theorem forIn_arr {β : Type} {M : Model} (es : Array DictEntry) (f : DictEntry → β → Sem (ForInStep β)) (b : β) (Q : β → Shared → Prop) (h : wpAny M A (forIn es.toList b f) Q E s) : wpAny M A (forIn es b f) Q E s := by
  rw [← Array.forIn_toList]
  exact h
theorem pairs_at {K : Type} [DecidableEq K] {knd : KeyKind P w K} : ∀ {l : List DictEntry} {kvs : List (K × Value)}, Pairs knd l kvs → ∀ i : Nat, ∀ e, l[i]? = some e → ∃ kv, kvs[i]? = some kv ∧ knd.is kv.1 e.key = true ∧ e.val = kv.2
  | _, _, .nil, i, e, h => by simp at h
  | _, _, .cons a b r, 0, e, h => by simp at h; subst h; exact ⟨_, rfl, a, b⟩
  | _, _, .cons a b r, i + 1, e, h => by simpa using pairs_at r i e (by simpa using h)
theorem merged_snoc {K : Type} [DecidableEq K] (kvs more : List (K × Value)) (kv : K × Value) : merged kvs (more ++ [kv]) = stored (merged kvs more) kv.1 kv.2 := by
  unfold merged
  rw [List.foldl_append]
  rfl
theorem stored_len {K : Type} [DecidableEq K] (kvs : List (K × Value)) (k : K) (v : Value) : (stored kvs k v).length ≤ kvs.length + 1 := by
  unfold stored
  split <;> simp
theorem merged_len {K : Type} [DecidableEq K] : ∀ (more kvs : List (K × Value)), (merged kvs more).length ≤ kvs.length + more.length
  | [], kvs => Nat.le_refl _
  | p :: r, kvs => by
    have h1 := merged_len r (stored kvs p.1 p.2)
    have h2 := stored_len kvs p.1 p.2
    rw [List.length_cons]
    exact Nat.le_trans h1 (by omega)
/-- d |= the pairs at a -/
theorem merge_mix {d a : Addr} {kvs more : List (Key × Value)} {Q : Unit → Shared → Prop} (hd : s.heap.DictOf (mixKind P w) d kvs) (ha : s.heap.DictOf (mixKind P w) a more) (ne : a ≠ d) (sm : (a == sysModules) = false) (hz : kvs.length + more.length ≤ sizeLine)
    (q : ∀ h', h'.DictOf (mixKind P w) d (merged kvs more) → Heap.SameBut d s.heap h' → Q () { s with heap := h' }) : wpAny (model P w) A (mergeMapping d (.ref a) false) Q E s := by
  obtain ⟨o, es, ep, ho, hc, hdt, hk, hp, hn⟩ := id ha
  obtain ⟨od, esd, epd, hod, _, hdtd, _⟩ := id hd
  have hT : s.TypeIs (.ref a) "dict" := ⟨o, ho, hc.1⟩
  have sd : isSubtype (.type "dict") (.type "dict") = pure true := by rw [isSubtype_type]; kernel_rfl
  unfold mergeMapping
  refine wpAny_bind (m := isInstance (.ref a) (.type "dict")) (wpAny_isInstance hT sd ?_)
  rw [if_pos rfl]
  refine wpAny_bind (m := specialOf (.ref a) "__iter__") (wpAny_specialOf hT PySem.F.slot_dict_iter.lookup ?_)
  refine wpAny_bind (wpAny_pure ?_)
  have ei : ((some (Value.builtin "dict.__iter__")) == some (Value.builtin "dict.__iter__")) = true := by simp
  simp only [ei, sm, Bool.false_eq_true, if_false]
  refine wpAny_bind (m := dictEntries d) (wpAny_dictEntries hod hdtd ?_)
  have rest : wpAny (model P w) A (dictEntries a >>= fun es0 => dictEpoch a >>= fun epoch => forIn (List.range es0.size) PUnit.unit (fun i _ => dictEntries a >>= fun es1 => match es1[i]? with
      | some e => holding [e.key, e.val] (dictPut d e.hash e.key e.val) >>= fun _ => dictEpoch a >>= fun ep1 => if (ep1 != epoch) = true then (unsupported "dict.changed-during-merge" : Sem Unit) >>= fun _ => pure (ForInStep.yield PUnit.unit) else pure (ForInStep.yield PUnit.unit)
      | _ => (unsupported "dict.changed-during-merge" : Sem Unit) >>= fun _ => pure (ForInStep.yield PUnit.unit)) >>= fun _ => pure ()) Q E s := by
    refine wpAny_bind (wpAny_dictEntries ho hdt (wpAny_bind (wpAny_dictEpoch ho hdt (wpAny_bind ?_))))
    have hml := hp.length
    rw [Array.length_toList] at hml
    refine wpAny_forIn_list _ (fun l _ s' => ∃ i, l = (List.range es.size).drop i ∧ ∃ h', s' = { s with heap := h' } ∧ Heap.SameBut d s.heap h' ∧ h'.DictOf (mixKind P w) d (merged kvs (more.take i))) _ ?_ ?_ _ _
      ⟨0, rfl, s.heap, rfl, Heap.SameBut.refl _ _, hd⟩
    · rintro x rest b s' ⟨i, hl, h', rfl, sb, dd⟩
      have hi : i < es.size := by
        by_cases c : i < es.size
        · exact c
        · rw [List.drop_eq_nil_of_le (by rw [List.length_range]; omega)] at hl; cases hl
      rw [List.drop_eq_getElem_cons (by rw [List.length_range]; exact hi), List.getElem_range] at hl
      injection hl with hx hr
      subst hx
      have ea : h'.get? a = some o := (sb.2 a ne).trans ho
      refine wpAny_bind (wpAny_dictEntries ea hdt ?_)
      have ex : es[x]? = some es[x] := Array.getElem?_eq_getElem hi
      rw [ex]
      dsimp only
      obtain ⟨kv, hkv, is, hv⟩ := pairs_at hp x es[x] (by rw [Array.getElem?_toList]; exact ex)
      obtain ⟨k', is', hh⟩ := hk es[x] (Array.getElem_mem hi)
      have hkk := (mixKind P w).inj _ _ _ is is'
      subst hkk
      have hl2 := merged_len (more.take x) kvs
      rw [List.length_take] at hl2
      rw [hh]
      refine wpAny_bind (wpAny_holding (dictPut_pairs is dd (by omega) fun h2 d2 sb2 => ?_))
      have ea2 : h2.get? a = some o := (sb2.2 a ne).trans ea
      refine wpAny_bind (wpAny_dictEpoch ea2 hdt ?_)
      rw [if_neg (by simp)]
      refine wpAny_pure ⟨x + 1, hr, h2, rfl, sb.trans sb2, ?_⟩
      rw [List.take_add_one, hkv, Option.toList_some, merged_snoc, ← hv]
      exact d2
    · rintro b s' ⟨i, hl, h', rfl, sb, dd⟩
      have hi : es.size ≤ i := by
        have := congrArg List.length hl
        rw [List.length_nil, List.length_drop, List.length_range] at this
        omega
      rw [List.take_of_length_le (by omega)] at dd
      exact wpAny_pure (q h' dd sb)
  by_cases em : esd.isEmpty = true
  · rw [if_pos em]
    refine wpAny_bind (m := dictEntries a) (wpAny_dictEntries ho hdt ?_)
    refine wpAny_bind ?_
    refine forIn_arr es _ _ _ ?_
    refine wpAny_forIn_list _ (fun l _ s' => s' = s ∧ ∀ e ∈ l, e ∈ es.toList) _ ?_ ?_ _ _ ⟨rfl, fun e h => h⟩
    · rintro x rest b s' ⟨rfl, hm⟩
      have hx := hm x List.mem_cons_self
      obtain ⟨k, is, _⟩ := hk x (Array.mem_toList_iff.mp hx)
      have nr : ∀ b : Addr, x.key ≠ .ref b := fun b z => by
        rw [z] at is
        rcases keyIs_shape is with ⟨i, t, _, e⟩ | ⟨i, t, _, e⟩ <;> cases e
      revert nr
      generalize x.key = kx
      intro nr
      cases kx <;> first | exact absurd rfl (nr _) | exact wpAny_pure ⟨rfl, fun e he => hm e (List.mem_cons_of_mem _ he)⟩
    · rintro b s' ⟨rfl, _⟩
      exact rest
  · rw [if_neg em]
    exact rest
end
end VL

set_option Elab.async false
set_option linter.all false
set_option maxRecDepth 100000
set_option maxHeartbeats 4000000
/-! VL32: {**d, k: v} as a rule. -/
namespace VL
open PySem PySem.Spec L2 PySem.W
open PyProof.Rows hiding St
section
variable {X : Cx} {de ke ve : Expr} {td tk tv : TE} {pos : Pos}
def tUp (td tk tv : TE) : TE := fun σ H Q => ∀ p, H p = none → td σ (upd H p (.dK [])) fun x H1 => ∃ a kvs, x = .ref a ∧ a ≠ p ∧ Rd H1 a (.dK kvs) ∧ H1 p = some (.dK []) ∧ kvs.length < sizeLine ∧
  ∀ q, H1 q = none → tk σ (upd (upd H1 p (.dK kvs)) q (.dK [])) fun y H3 => tv σ H3 fun z H4 => ∃ ky, y = kV ky ∧ q ≠ p ∧ H4 q = some (.dK []) ∧ H4 p = some (.dK kvs) ∧ Q (.ref p) (upd (upd H4 q (.dK [(ky, z)])) p (.dK (putK kvs ky z)))
theorem kv_nodup {P : Program} {w : World} {h : Heap} {a : Addr} {kvs : List (Key × V)} {vs : List (Key × Value)} (r : KV kvs vs) (d : h.DictOf (mixKind P w) a vs) : merged [] vs = vs := by
  obtain ⟨o, es, ep, _, _, _, _, _, n⟩ := d
  exact merged_nil_of_nodup _ n
theorem pe_up (hd : PE X de td) (hk : PE X ke tk) (hv : PE X ve tv) : PE X (.Dict [none, some ke] [de, ve] pos) (tUp td tk tv) := by
  refine ⟨fun pins s σ H Q I h => ?_⟩
  rw [arm_eval_Dict]
  refine wpAny_bind (wpAny_standAt ?_)
  show wpAny _ _ (dictDisplay [(none, do let x ← eval de X.env; standAt pos; pure x), (some (eval ke X.env), do let x ← eval ve X.env; standAt pos; pure x)]) _ _ _
  have hn := I.hok.fresh (Nat.le_refl s.heap.objs.size)
  have I1 := I.laid (a := s.heap.objs.size) (o := .dK []) (h' := s.heap.push { cls := .type "dict", data := .dict #[] }) (t' := s.toks) (fun _ _ q => Heap.get?_push_of_some _ q) (Nat.le_refl _) (dk_empty s.heap I.big)
  have h := h _ hn
  unfold dictDisplay
  simp only [List.forIn_cons, List.forIn_nil, List.isEmpty_nil, if_true]
  refine wpAny_bind (wpAny_bind (wpAny_bind (wpAny_pure ?_)))
  dsimp only
  refine wpAny_bind (wpAny_alloc ?_)
  refine wpAny_bind (wpAny_holding (wpAny_bind (thn (hd.run pins _ σ _ _ I1 h) fun u s1 ⟨x, H1, J, rx, a, kvs, ex, ne, ra, ep, hl, q⟩ => ?_)))
  subst ex
  cases rx
  obtain ⟨_, sm, vs, rk, da⟩ := ra.ok J.hok
  obtain ⟨hz0, hd0, vs0, r0, dp⟩ := dk_of J.hok ep
  cases r0
  have en : merged [] vs = vs := kv_nodup rk da
  have lkv : kvs.length = vs.length := Paired.length rk
  refine wpAny_bind (wpAny_standAt (wpAny_pure (wpAny_bind (wpAny_onRaise (wpAny_tryCatch (wpAny_onRaise (wpAny_holding (merge_mix dp da ne sm (by rw [List.length_nil]; omega) fun h' d' sb => ?_))))))))
  rw [en] at d'
  have he' : ∃ q, h'.get? s.heap.objs.size = some q := let ⟨q, _, _, hq, _⟩ := d'; ⟨q, hq⟩
  have J2 : Inv X pins σ (upd H1 s.heap.objs.size (.dK kvs)) { s1 with heap := h', toks := s1.toks } := d_write J (by rw [ep]; exact True.intro) sb he' (dk_new (by omega) hd0 rk d')
  refine wpAny_pure ?_
  dsimp only
  simp only [List.nil_append, List.length_cons, List.length_nil]
  refine wpAny_bind ?_
  rw [if_neg (by decide)]
  refine wpAny_pure (wpAny_pure ?_)
  dsimp only
  refine wpAny_bind ?_
  simp only [List.isEmpty_cons, Bool.false_eq_true, if_false]
  have hq := J2.hok.fresh (Nat.le_refl h'.objs.size)
  have nq : H1 h'.objs.size = none := by
    have ne2 : h'.objs.size ≠ s.heap.objs.size := fun z => by
      obtain ⟨o, ho⟩ := he'
      rw [← z] at ho
      exact Nat.lt_irrefl _ (Heap.lt_size ho)
    rw [upd_ne ne2] at hq
    exact hq
  have q := q _ nq
  have J3 := J2.laid (a := h'.objs.size) (o := .dK []) (h' := h'.push { cls := .type "dict", data := .dict #[] }) (t' := s1.toks) (fun _ _ q => Heap.get?_push_of_some _ q) (Nat.le_refl _) (dk_empty h' J2.big)
  have pp : PPs X pos [some ke] [ve] [(tk, tv)] := pps_cons hk hv pps_nil
  let QQ : List (V × V) → Hp → Prop := fun ps H' => match ps with
    | [(y, z)] => ∃ ky, y = kV ky ∧ h'.objs.size ≠ s.heap.objs.size ∧ H' h'.objs.size = some (.dK []) ∧ H' s.heap.objs.size = some (.dK kvs) ∧ Q (.ref s.heap.objs.size) (upd (upd H' h'.objs.size (.dK [(ky, z)])) s.heap.objs.size (.dK (putK kvs ky z)))
    | _ => False
  refine wpAny_bind (wpAny_holding (wpAny_subDict (knd := mixKind X.prog X.w) (pairs := [(eval ke X.env, do let x ← eval ve X.env; standAt pos; pure x)]) (show 1 ≤ 15 by decide) (thn (pp.run pins _ σ _ QQ J3 q) fun ws s2 ⟨ps, H2, I2, rel, qq⟩ => ?_)))
  rcases ps with _ | ⟨⟨y, z⟩, _ | ⟨p2, ps⟩⟩
  · exact qq.elim
  · obtain ⟨ky, rfl, nqp, e2, e3, qq⟩ := qq
    obtain ⟨rs, c, rkk⟩ := carries_of (P := X.prog) (w := X.w) (kvs := [(ky, z)]) rel
    obtain ⟨_, hdq, vs1, r1, dq⟩ := dk_of I2.hok e2
    cases r1
    refine ⟨rs, c, dq, fun h3 d3 sb3 => ?_⟩
    have he3 : ∃ q, h3.get? h'.objs.size = some q := let ⟨q, _, _, hq, _⟩ := d3; ⟨q, hq⟩
    have J4 : Inv X pins σ (upd H2 h'.objs.size (.dK [(ky, z)])) { s2 with heap := h3, toks := s2.toks + ws.length } :=
      d_write I2 (by rw [e2]; exact True.intro) sb3 he3 (dk_new (show 1 ≤ sizeLine by decide) hdq (rkk.merge .nil) d3)
    have e5 : (upd H2 h'.objs.size (.dK [(ky, z)])) s.heap.objs.size = some (.dK kvs) := by rw [upd_ne nqp.symm]; exact e3
    obtain ⟨hz5, hd5, vs5, r5, d5⟩ := dk_of J4.hok e5
    obtain ⟨_, _, vs6, r6, d6⟩ := dk_of J4.hok (a := h'.objs.size) upd_same
    have l6 : vs6.length = 1 := (Paired.length r6).symm
    refine wpAny_bind (wpAny_onRaise (wpAny_holding (merge_mix d5 d6 nqp hdq (by rw [l6, ← Paired.length r5]; omega) fun h6 d7 sb6 => wpAny_pure (wpAny_pure ?_))))
    have he6 : ∃ q, h6.get? s.heap.objs.size = some q := let ⟨q, _, _, hq, _⟩ := d7; ⟨q, hq⟩
    have J7 : Inv X pins σ (upd (upd H2 h'.objs.size (.dK [(ky, z)])) s.heap.objs.size (.dK (putK kvs ky z))) { ({ s2 with heap := h3, toks := s2.toks + ws.length } : Shared) with heap := h6, toks := s2.toks + ws.length } :=
      d_write J4 (by rw [e5]; exact True.intro) sb6 he6 (dk_new (Nat.le_trans (length_putK kvs ky z) (by omega)) hd5 (KV.merge (more := [(ky, z)]) r6 r5) d7)
    exact ⟨.ref s.heap.objs.size, _, J7, rfl, qq⟩
  · exact qq.elim
end
/-! ### by data -/
section
variable {W : Wc} {X : Cx} {de ke ve : Expr} {td tk tv : TE} {dd dk dv : TDE} {pos : Pos}
def rdUp (dd dk dv : TDE) : TDE := fun Γ Q => dd Γ fun d Γ1 => asDk d fun ks ds => ks.length < sizeLine ∧ dk Γ1 fun kd Γ2 => dv Γ2 fun v Γ3 => ∃ ky, keyOf kd = some ky ∧ Q (.dic (putKs ks ky) (putDs ks ds ky v)) Γ3
theorem df_up (hd : DE W X de td dd) (hk : DE W X ke tk dk) (hv : DE W X ve tv dv) : DF W X (.Dict [none, some ke] [de, ve] pos) (tUp td tk tv) (rdUp dd dk dv) := by
  refine ⟨pe_up hd.pe hk.pe hv.pe, fun Γ σ Hv H Q Q' E h k => ?_⟩
  intro p hp
  obtain ⟨s0, F0⟩ := E.stp.alloc0 (.dK []) hp
  refine hd.ad Γ σ Hv _ _ _ s0.ev h fun x d Γ1 Hv1 H1 s1 r1 q => ?_
  obtain ⟨e1, F1⟩ := s1.fr p F0 (by rw [upd_same]; simp)
  rw [upd_same] at e1
  cases d <;> first | exact q.elim | skip
  rename_i ks ds
  obtain ⟨hz, q⟩ := q
  cases r1 with
  | dic h1 h2 h3 =>
  rename_i a kvs
  have h1' := s1.ev.ret.sub.dk h1
  have ne : a ≠ p := fun z => by
    rw [z] at h1
    rcases h1 with h1 | ⟨o, h1⟩ <;> (rw [F1.hv] at h1; cases h1)
  refine ⟨a, kvs, rfl, ne, h1', e1, by rw [← List.length_map (f := (·.1)), ← h2]; exact hz, fun q0 hq0 => ?_⟩
  have s01 := s0.trans s1
  have s2 := s01.turn (.dK kvs) F1 (by rw [e1]; simp) hp
  have hq1 : (upd H1 p (.dK kvs)) q0 = none := by
    rw [upd_ne (fun z => by rw [z, e1] at hq0; cases hq0)]
    exact hq0
  obtain ⟨s3, F3⟩ := s2.alloc0 (.dK []) hq1
  have F1' : Fresh W Γ1 σ Hv1 p := F1
  refine hk.ad Γ1 σ Hv1 _ _ _ s3.ev q fun y kd Γ2 Hv2 H2 s4 r4 q2 => ?_
  have nqp : q0 ≠ p := fun z => by rw [z, upd_same] at hq1; cases hq1
  obtain ⟨e4p, F4p⟩ := s4.fr p F1' (by rw [upd_ne nqp.symm, upd_same]; simp)
  obtain ⟨e4q, F4q⟩ := s4.fr q0 F3 (by rw [upd_same]; simp)
  rw [upd_ne nqp.symm, upd_same] at e4p
  rw [upd_same] at e4q
  refine hv.ad Γ2 σ Hv2 _ _ _ s4.ev q2 fun z v Γ3 Hv3 H3 s5 r5 q3 => ?_
  obtain ⟨e5p, F5p⟩ := s5.fr p F4p (by rw [e4p]; simp)
  obtain ⟨e5q, F5q⟩ := s5.fr q0 F4q (by rw [e4q]; simp)
  rw [e4p] at e5p
  rw [e4q] at e5q
  obtain ⟨ky, ek, q3⟩ := q3
  have s05 := s3.trans (s4.trans s5)
  have hq00 : H q0 = none := s01.was hq0
  have s6 := s05.turn (.dK [(ky, z)]) F5q (by rw [e5q]; simp) hq00
  have F6p : Fresh W Γ3 σ Hv3 p := F5p
  have e6p : (upd H3 q0 (.dK [(ky, z)])) p = some (.dK kvs) := by rw [upd_ne nqp.symm]; exact e5p
  have s7 := s6.turn (.dK (putK kvs ky z)) F6p (by rw [e6p]; simp) hp
  have rr := RpAll.mono (s4.trans s5).sv _ _ h3
  obtain ⟨g1, g2⟩ := putK_rp (k := ky) rr r5
  refine ⟨ky, keyOf_rp r4 ek, nqp, e5q, e5p, k p _ (.dic (putKs ks ky) (putDs ks ds ky v)) Γ3 Hv3 _ s7 hp upd_same ⟨_, rfl, ?_, ?_⟩ F6p q3⟩
  · rw [h2]; exact g1.symm
  · rw [h2]; exact g2
end
end VL

set_option Elab.async false
set_option linter.all false
set_option maxRecDepth 100000
set_option maxHeartbeats 4000000
/-! VL33: enumerate(a tuple or a list), is None, a, b = two new objects, isinstance(x, (list, tuple)). -/
namespace VL
open PySem PySem.Spec L2 PySem.W
open PyProof.Rows hiding St
open AutoSeq1 (wpAny_loadPart')
/-! ### enumerate(tuple) -/
theorem meets_enumT (l : Addr) (items : Array Value) (n : Nat) (dct : Option Addr) (sl : Array (Option Value)) :
    Meets (Builtin.«enumerate.__new__» ⟨[.type "enumerate", .ref l], []⟩) (fun _ R s => s.heap.get? l = some { cls := .type "tuple", dict := dct, data := .seq items n, slots := sl } ∧
      R (.ok (.ret (.ref (s.heap.push { cls := .type "tuple_iterator", data := .fields #[.ref l, .int 0 0] }).objs.size)))
        { s with heap := (s.heap.push { cls := .type "tuple_iterator", data := .fields #[.ref l, .int 0 0] }).push { cls := .type "enumerate", data := .fields #[.none, .bool false, .ref s.heap.objs.size, rawInt 0, .none, .none] } }) :=
  .of_wp fun prog w A R s h => by
    obtain ⟨hp, g, d, tk, os⟩ := s; obtain ⟨hl, h⟩ := h
    have sb := sub_enumerate
    have hT : Heap.IsTuple (Shared.heap ⟨hp, g, d, tk, os⟩) l items := ⟨_, hl, rfl, n, rfl⟩
    wp_walk using wpAny_loadPart' hl
    refine wpAny_stack_any fun st => wpAny_pure ?_
    split
    · rename_i c _ _ _ _ _
      cases (c == Value.type "enumerate") <;> (wp_walk using wpAny_loadPart' hl, wpAny_pyIter_tuple hT) <;> exact ⟨_, rfl, h⟩
    · wp_walk using wpAny_loadPart' hl, wpAny_pyIter_tuple hT
      exact ⟨_, rfl, h⟩
theorem call_enumT {prog : Program} {w : World} {A : Around} {E : Value → Shared → Prop} {s : Shared} {l : Addr} {items : Array Value} {Q : Value → Shared → Prop} (hL : s.heap.IsTuple l items)
    (h : ∀ h', IsEnum h' (s.heap.objs.size + 1) s.heap.objs.size 0 .none → h'.IsTupleIter s.heap.objs.size l 0 → (∀ b o, s.heap.get? b = some o → h'.get? b = some o) → Q (.ref (s.heap.objs.size + 1)) { s with heap := h' }) :
    wpAny (model prog w) A (call (.type "enumerate") [.ref l]) Q E s := by
  obtain ⟨⟨c, dct, dt, sl⟩, hl, hc, n, hd⟩ := hL
  replace hc : c = .type "tuple" := hc
  replace hd : dt = .seq items n := hd
  subst hc hd
  refine callType_new F.called_enumerate (by decide) (F.typeCall_enumerate_1 _) (F.newCall_enumerate_1 _) (fun obj => F.args_object_init_2 obj _) F.entry_enumerate_new
    (meets_enumT l items n dct sl) ⟨hl, ?_⟩
  have hz : (s.heap.push { cls := .type "tuple_iterator", data := .fields #[.ref l, .int 0 0] }).objs.size = s.heap.objs.size + 1 := Heap.size_push ..
  show _ ∧ _
  rw [hz]
  have he := Heap.get?_push_size (s.heap.push { cls := .type "tuple_iterator", data := .fields #[.ref l, .int 0 0] }) (o := { cls := .type "enumerate", data := .fields #[.none, .bool false, .ref s.heap.objs.size, rawInt 0, .none, .none] }) rfl
  rw [hz] at he
  exact ⟨⟨_, he, rfl⟩, h _ he ⟨_, Heap.get?_push_of_some _ (Heap.get?_push_size _ rfl), rfl, rfl⟩ fun b o x => Heap.get?_push_of_some _ (Heap.get?_push_of_some _ x)⟩
def Iteu (K : PySem.W.Frag) (a : Addr) : It :=
  ⟨fun i H => ∃ (xs : List V) (x : V), SqT K H a xs ∧ xs[i]? = some x, fun i H v H' => ∃ T x, v = .ref T ∧ H T = none ∧ H' = upd H T (.tup [.int (i : Nat), x]) ∧ ∀ xs, SqT K H a xs → xs[i]? = some x, fun i H => ∃ xs : List V, SqT K H a xs ∧ xs.length ≤ i⟩
theorem Inv.tuple_inj {X : Cx} {pins : List (Addr × Obj)} {σ : L2.St} {H : Hp} {s : Shared} {a : Addr} {xs ys : List V} (I : Inv X pins σ H s) (h1 : SqT X.K H a xs) (h2 : SqT X.K H a ys) : xs.length = ys.length ∧ ∀ (i : Nat) (x y : V), xs[i]? = some x → ys[i]? = some y → ∃ u, RelV x u ∧ RelV y u := by
  obtain ⟨its, rv, ⟨o, ho, hc, n, hd⟩, hz⟩ := I.tuple h1
  obtain ⟨its2, rv2, ⟨o2, ho2, hc2, n2, hd2⟩, hz2⟩ := I.tuple h2
  rw [ho] at ho2
  cases ho2
  rw [hd] at hd2
  injection hd2 with e1 _
  have e : its = its2 := by simpa using congrArg Array.toList e1
  subst e
  refine ⟨rv.length.trans rv2.length.symm, fun i x y hx hy => ?_⟩
  obtain ⟨u, hu, ru⟩ := rv.get hx
  obtain ⟨u2, hu2, ru2⟩ := rv2.get hy
  rw [hu] at hu2
  cases hu2
  exact ⟨u, ru, ru2⟩
theorem relV_inj {x y : V} {u : Value} (h : RelV x u) (h2 : RelV y u) : x = y := by
  cases x <;> first | (obtain ⟨t, rfl⟩ := h) | (cases h)
  all_goals (cases y <;> first | (have e := h2; cases e; rfl) | (obtain ⟨t2, e⟩ := h2; injection e with e1 e2; rw [e1]) | (obtain ⟨t2, e⟩ := h2; cases e) | (cases h2))
/-- the end of enumerate over a tuple -/
theorem drawsEnd {prog : Program} {w : World} {A : Around} (hh : A.handled = none) (it t : Addr) (items : Array Value) (i : Nat) (hx : items[i]? = none) :
    Draws prog w A it [it, t] i (fun _ _ => False) (fun j h => j = i ∧ h.IsTupleIter it t i ∧ h.IsTuple t items) where
  live := fun _ _ st => let ⟨o, ho, _⟩ := st.2.1; ⟨o, ho⟩
  frame := fun _ _ _ st hk => ⟨st.1, st.2.1.at fun o e => hk it (by simp) o e, st.2.2.at fun o e => hk t (by simp) o e⟩
  item := fun j s Q E hj st _ => absurd st.1 (Nat.ne_of_lt hj)
  done := fun s Q E st hE => wpAny_nextOf_tuple_end hh st.2.1 st.2.2 hx hE
theorem turn_enumT {P : Program} {w : World} {K : PySem.W.Frag} {elts : List Expr} {kk : Nat} {tpos : Pos} (a e it : Addr) (nat : a ≠ it) (na : a ≠ e) :
    Turn P w K (.Tuple elts kk tpos) (Iteu K a) [e, it] e (fun i h => (∃ old, IsEnum h e it ((i : Nat) : Int) old) ∧ h.IsTupleIter it a i ∧ e ≠ it) where
  mem := by simp
  obj := fun i h st b hb => by
    obtain ⟨⟨old, he⟩, ⟨o, ho, hc, hd⟩, _⟩ := st
    rcases List.mem_cons.mp hb with z | z
    · rw [z]; exact ⟨_, he, fun v q => nomatch q⟩
    · rw [List.mem_singleton.mp z]; exact ⟨o, ho, fun v q => by rw [hd] at q; cases q⟩
  keep := fun i h h' st k => let ⟨⟨old, he⟩, hi, hne⟩ := st; ⟨⟨old, k e (by simp) _ he⟩, hi.at fun o q => k it (by simp) o q, hne⟩
  item := by
    intro X hP hw hK hc i pins s σ H E I hf st hg
    subst hP hw hK
    obtain ⟨⟨old, he⟩, hit, hne⟩ := st
    obtain ⟨xs, x, hq, hx⟩ := hg
    obtain ⟨its, rv, ⟨ot, hot, hct, nt, hdt⟩, hz⟩ := I.tuple hq
    obtain ⟨u, hu, ru⟩ := rv.get hx
    have hT0 : s.heap.IsTuple a its.toArray := ⟨ot, hot, hct, nt, hdt⟩
    have hel : e < s.heap.objs.size := Heap.lt_size he
    have hil : it < s.heap.objs.size := by obtain ⟨_, q, _⟩ := hit; exact Heap.lt_size q
    have hlt : i < its.toArray.size := by
      have := (List.getElem?_eq_some_iff.mp hu).1
      rw [List.size_toArray]; exact this
    refine wpAny_pyNext_enum_itemD (Draws.tuple (A := X.A.in1) (I.ok.hd hc) it a nat its.toArray) he ⟨hit, hT0⟩ hlt hne (by
      intro z
      rcases List.mem_cons.mp z with z | z
      · exact hne z
      · exact na (List.mem_singleton.mp z).symm) fun y h' tk hy ho hst hT hsz hk => ?_
    have ey : y = u := by
      have z := hy
      rw [← Array.getElem?_toList] at z
      have z' : its[i]? = some y := z
      rw [hu] at z'
      cases z'; rfl
    subst ey
    refine ⟨_, rfl, wpAny_letOwnedTupleGo_enum (s := { s with heap := h', toks := tk + 1 }) ho fun h'' he' sb => ?_⟩
    have hT2 : h''.get? s.heap.objs.size = some { cls := .type "tuple", data := .seq #[.int i tk, y] } := (sb.2 _ (Nat.ne_of_gt hel)).trans hT
    have new : ObjOk X.prog X.w (upd H s.heap.objs.size (.tup [.int (i : Nat), x])) h'' s.heap.objs.size (.tup [.int (i : Nat), x]) :=
      ⟨by show 2 ≤ sizeLine; decide, [.int i tk, y], .cons ⟨_, rfl⟩ (.cons ru .nil), ⟨_, hT2, rfl, _, rfl⟩⟩
    have I1 : Inv X pins σ (upd H s.heap.objs.size (.tup [.int (i : Nat), x])) { s with heap := h'', toks := tk + 1 } :=
      I.turnedNew (ch := [e, it]) (fun b ob hb q => (sb.2 b (fun z => hb (by simp [z]))).trans (hk b ob (fun z => hb (by simp [z])) (fun z => hb (by simp [z])) q)) hf (Nat.le_refl _) new
    refine ⟨.ref s.heap.objs.size, _, I1, rfl, ⟨_, x, rfl, I.hok.fresh (Nat.le_refl _), rfl, fun ys hy => ?_⟩, ⟨⟨y, ?_⟩, hst.1.at fun o q => (sb.2 it (Ne.symm hne)).trans q, hne⟩, fun b hb => ?_⟩
    · obtain ⟨hl, hi⟩ := Inv.tuple_inj I hq hy
      have hil2 : i < ys.length := by rw [← hl]; exact (List.getElem?_eq_some_iff.mp hx).1
      obtain ⟨u3, r3, r4⟩ := hi i x _ hx (List.getElem?_eq_getElem hil2)
      rw [List.getElem?_eq_getElem hil2, relV_inj r4 r3]
    · have e1 : ((i + 1 : Nat) : Int) = (i : Int) + 1 := by omega
      rw [e1]; exact he'
    · have hb' : b < s.heap.objs.size := by
        rcases List.mem_cons.mp hb with z | z
        · rw [z]; exact hel
        · rw [List.mem_singleton.mp z]; exact hil
      rw [upd_ne (Nat.ne_of_lt hb')]
      exact (hf b hb).1
  done := by
    intro X hP hw hK hc i pins s σ H E I hf st hg
    subst hP hw hK
    obtain ⟨⟨old, he⟩, hit, hne⟩ := st
    obtain ⟨xs, hq, hx⟩ := hg
    obtain ⟨its, rv, ⟨ot, hot, hct, nt, hdt⟩, hz⟩ := I.tuple hq
    obtain ⟨f0, f1, f2, f3, f4, f5⟩ := hf it (by simp)
    have hl := rv.length
    have hT0 : s.heap.IsTuple a its.toArray := ⟨ot, hot, hct, nt, hdt⟩
    refine wpAny_pyNext_enum_endD (drawsEnd (A := X.A.in1) (I.ok.hd hc) it a its.toArray i (by simp; omega)) he ⟨rfl, hit, hT0⟩ fun h' eb => ⟨rfl, I.turned (t' := s.toks) (fun b o hb q => eb b o hb q) f0 f1 f3 f4 f5⟩
  self := fun A i s Q E st h => let ⟨⟨_, he⟩, _⟩ := st; wpAny_pyIter_enum he h
def iEnumT (K : PySem.W.Frag) (ta : TA) : TI := fun σ H R => ta σ H fun vs H1 => ∃ a xs, vs = [.ref a] ∧ ((SqT K H1 a xs ∧ R (Iteu K a) H1) ∨ (SqL K H1 a xs ∧ R (Ite K a) H1))
theorem pi_enumT {X : Cx} {e : Expr} {ta : TA} {p pos tpos : Pos} {elts : List Expr} {kk : Nat} (hg : Gl X "enumerate") (hm : X.mg "enumerate" = none) (ha : PA X [e] ta) (hs : starEach [e] X.env = [(false, eval e X.env)] := by rfl) :
    PI X (.Tuple elts kk tpos) (.Call (.Name "enumerate" p) [e] [] pos) (iEnumT X.K ta) := by
  refine ⟨fun pins s σ H R I h => ?_⟩
  refine Call_ (ld_blt I hg hm boot_enumerate (PyProof.Rows.callWith_type1 (thn (ha.run pos pins s σ H _ I h) fun us s1 ⟨vs, H1, I1, r1, q1⟩ => ?_) hs rfl))
  obtain ⟨a, xs, ex, hq⟩ := q1
  subst ex
  cases r1 with
  | cons r rr =>
    cases rr
    cases r
    have fp : ∀ (h' : Heap) (J : It) (tn : Nat → Heap → Prop), (∀ b o, s1.heap.get? b = some o → h'.get? b = some o) → Turn X.prog X.w X.K (.Tuple elts kk tpos) J [s1.heap.objs.size + 1, s1.heap.objs.size] (s1.heap.objs.size + 1) tn → tn 0 h' → R J H1 → PIE X pins σ (.Tuple elts kk tpos) R (.ref (s1.heap.objs.size + 1)) { s1 with heap := h' } := fun h' J tn hk T t0 q => by
      have I2 : Inv X pins σ H1 { s1 with heap := h' } := I1.kept (t' := s1.toks) hk
      refine ⟨_, _, tn, J, H1, rfl, I2, T, t0, fun b hb => ?_, q⟩
      have hle : s1.heap.objs.size ≤ b := by
        rcases List.mem_cons.mp hb with z | z
        · rw [z]; exact Nat.le_add_right _ _
        · rw [List.mem_singleton.mp z]; exact Nat.le_refl _
      exact I1.fpOk hle (I1.hok.fresh hle)
    rcases hq with ⟨hq, q⟩ | ⟨hq, q⟩
    · obtain ⟨its, rv, ⟨ot, hot, hct, nt, hdt⟩, hz⟩ := I1.tuple hq
      have lt : a < s1.heap.objs.size := Heap.lt_size hot
      refine call_enumT ⟨ot, hot, hct, nt, hdt⟩ fun h' he hit hk => wpAny_pyIter_enum he ?_
      exact fp h' _ _ hk (turn_enumT a _ _ (Nat.ne_of_lt lt) (Nat.ne_of_lt (Nat.lt_succ_of_lt lt))) ⟨⟨.none, he⟩, hit, Nat.succ_ne_self _⟩ q
    · obtain ⟨its, rv, p', hz⟩ := I1.list hq
      refine call_enumerate_list p'.isList fun h' he hit hsz hk => wpAny_pyIter_enum he ?_
      exact fp h' _ _ hk (turn_enum a _ _) ⟨⟨.none, he⟩, hit, Nat.succ_ne_self _⟩ q
section
variable {W : Wc} {X : Cx} {K : PySem.W.Frag} {e : Expr}
def rdIEnumT (dt : TDF) : TDF := fun Γ Q => dt Γ fun ds Γ1 => match ds with | [.lst xs] => Q (enumD xs) Γ1 | [.tup xs] => Q (enumD xs) Γ1 | _ => False
theorem enumD_len (xs : List D) : (enumD xs).length = xs.length := by
  unfold enumD
  rw [List.length_zipWith, List.length_range, Nat.min_self]
theorem di_enumT {elts : List Expr} {kk : Nat} {p pos tpos : Pos} {t : TA} {dt : TDF} (hK : X.K = K) (hg : Gl X "enumerate") (hm : X.mg "enumerate" = none) (ha : DA W X [e] t dt) (hs : starEach [e] X.env = [(false, eval e X.env)] := by rfl) :
    DI W X (.Tuple elts kk tpos) (.Call (.Name "enumerate" p) [e] [] pos) (iEnumT K t) (rdIEnumT dt) := by
  subst hK
  refine ⟨pi_enumT hg hm ha.pa hs, fun Γ σ Hv H Q R E h k => ha.ad Γ σ Hv H _ _ E h fun vs ds Γ1 Hv1 H1 s1 r1 q => ?_⟩
  split at q
  · obtain ⟨v, rfl, rv⟩ := r1.one
    cases rv with
    | lst h1 r2 =>
      rename_i xs a vs
      refine ⟨a, vs, rfl, .inr ⟨.of (s1.ev.ret.sub.lst h1), k _ _ Γ1 Hv1 H1 s1 (fun Γ' σ' Hv' H' sm E' i => ?_) q⟩⟩
      have ha' : SqL X.K H' a vs := .of (E'.ret.sub.lst (sm.lst h1))
      refine ⟨fun hi => ⟨vs, ha', by rw [enumD_len] at hi; rw [r2.length]; exact hi⟩, fun d ed => ?_⟩
      obtain ⟨d', e1, rfl⟩ := enumD_get ed
      obtain ⟨v, ev, rv⟩ := r2.get e1
      refine ⟨⟨vs, v, ha', ev⟩, fun x H2 y => ?_⟩
      obtain ⟨T, x', rfl, hT, rfl, hx⟩ := y
      have ex := hx vs ha'
      rw [ev] at ex
      cases ex
      exact ⟨_, E'.stp.alloc _ hT, .tup (.of upd_same) (.cons (.int _) (.cons (Rp.mono (sm.trans (same_upd (E'.noneHv hT))) _ _ rv) .nil))⟩
  · obtain ⟨v, rfl, rv⟩ := r1.one
    cases rv with
    | tup h1 r2 =>
      rename_i xs a vs
      refine ⟨a, vs, rfl, .inl ⟨seqT s1.ev.ret.sub h1, k _ _ Γ1 Hv1 H1 s1 (fun Γ' σ' Hv' H' sm E' i => ?_) q⟩⟩
      have ha' : SqT X.K H' a vs := seqT E'.ret.sub (seqT sm h1)
      refine ⟨fun hi => ⟨vs, ha', by rw [enumD_len] at hi; rw [r2.length]; exact hi⟩, fun d ed => ?_⟩
      obtain ⟨d', e1, rfl⟩ := enumD_get ed
      obtain ⟨v, ev, rv⟩ := r2.get e1
      refine ⟨⟨vs, v, ha', ev⟩, fun x H2 y => ?_⟩
      obtain ⟨T, x', rfl, hT, rfl, hx⟩ := y
      have ex := hx vs ha'
      rw [ev] at ex
      cases ex
      exact ⟨_, E'.stp.alloc _ hT, .tup (.of upd_same) (.cons (.int _) (.cons (Rp.mono (sm.trans (same_upd (E'.noneHv hT))) _ _ rv) .nil))⟩
  · exact q.elim
end
end VL

set_option Elab.async false
set_option linter.all false
set_option maxRecDepth 100000
set_option maxHeartbeats 4000000
/-! VL34: is None, a, b = two objects, isinstance(x, (list, tuple)), truth of a list. -/
namespace VL
open PySem PySem.Spec L2 PySem.W
open PyProof.Rows hiding St
section
variable {K : PySem.W.Frag} {W : Wc}
def isN : D → Bool | .non => true | _ => false
def rdIsN (neg : Bool) : RD2 := fun x y Q => match y with
  | .non => Q (.bl (neg ^^ isN x))
  | _ => False
theorem rp_isN {H : Hp} {v : V} {d : D} (r : Rp K H v d) : decide (v = .non) = isN d := by
  cases r <;> first | rfl | exact decide_eq_false (fun z => nomatch z)
theorem od_isN : OpD K W (fun x y H Q => y = .non ∧ Q (.bl (decide (x = .non))) H) (rdIsN false) := by
  intro Γ σ Hv H x y dx dy Q Q' E rx ry h k
  unfold rdIsN at h
  split at h
  · cases ry
    rw [Bool.false_xor] at h
    exact ⟨rfl, by rw [rp_isN rx]; exact k _ _ Hv H E.stp (.bl _) h⟩
  · exact h.elim
theorem od_notN : OpD K W (fun x y H Q => y = .non ∧ Q (.bl (!decide (x = .non))) H) (rdIsN true) := by
  intro Γ σ Hv H x y dx dy Q Q' E rx ry h k
  unfold rdIsN at h
  split at h
  · cases ry
    rw [Bool.true_xor] at h
    exact ⟨rfl, by rw [rp_isN rx]; exact k _ _ Hv H E.stp (.bl _) h⟩
  · exact h.elim
end
/-! ### a, b = e1, e2 where new objects stay their slots' own -/
section
variable {W : Wc} {X : Cx} {a b : Expr} {t1 t2 : TE} {d1 d2 : TDE} {x y : Str} {i j : Nat} {px py pt pos : Pos} {kt k2 : Nat} {pt2 : Pos}
def rdPar2 (i j : Nat) (o1 o2 : Bool) (d1 d2 : TDE) : TDS := fun E Γ => d1 Γ fun d Γ1 => d2 Γ1 fun e Γ2 => E.nx ((Γ2.set i (if o1 then .own d else .dat d)).set j (if o2 then .own e else .dat e))
theorem ds_parOO (hc : X.calm = true) (hN : X.N.Nodup) (hi : X.N[i]? = some x) (hj : X.N[j]? = some y) (hij : i ≠ j)
    (hx : X.env.scope.names.lookup x = some .local) (hy : X.env.scope.names.lookup y = some .local) (h1 : DF W X a t1 d1) (h2 : DF W X b t2 d2)
    (hw : swappedStores [.Tuple [.Name x px, .Name y py] kt pt] (.Tuple [a, b] k2 pt2) X.env = pure (some [x, y]))
    (hs : swapsWithSole [.Tuple [.Name x px, .Name y py] kt pt] (.Tuple [a, b] k2 pt2) pos.line X.env = pure false := by rfl)
    (ha : starEach [a, b] X.env = (false, eval a X.env) :: starEach [b] X.env := by rfl) (hb : starEach [b] X.env = (false, eval b X.env) :: starEach [] X.env := by rfl) :
    DS W X (.Assign [.Tuple [.Name x px, .Name y py] kt pt] (.Tuple [a, b] k2 pt2) pos) (tPar i j (tCons t1 (tCons t2 tNil))) (rdPar2 i j true true d1 d2) := by
  refine ⟨ps_par hc hN hi hj hij hx hy (pa_cons h1.pe (pa_cons h2.pe pa_nil hb) ha) hw hs, fun Γ σ Hv H E E' Z h l => ?_⟩
  refine h1.ad Γ σ Hv H _ _ Z h fun p u d Γ1 Hv1 H1 s1 n1 p1 r1 F1 q => ?_
  refine h2.ad Γ1 σ Hv1 H1 _ _ s1.ev q fun p2 u2 e Γ2 Hv2 H2 s2 n2 q2 r2 F2 qq => ?_
  obtain ⟨e1, F1'⟩ := s2.fr p F1 (by rw [p1]; simp)
  have ne : p2 ≠ p := fun z => by rw [z, p1] at n2; cases n2
  have s12 := s1.trans s2
  have A := s12.keepOwn (i := i) F1' (e1.trans p1) (r1.mono s2.sv) n1
  have F2' : Fresh W (Γ2.set i (.own d)) (σ.set i (some (.ref p))) Hv2 p2 := F2.set s12.ev.len (fun _ z => ne (by injection z with z; injection z with z; exact z.symm))
  exact ⟨_, _, rfl, l.nx _ _ _ _ (A.keepOwn (i := j) F2' q2 r2 (s1.was n2)) qq⟩
theorem ds_parOD (hc : X.calm = true) (hN : X.N.Nodup) (hi : X.N[i]? = some x) (hj : X.N[j]? = some y) (hij : i ≠ j)
    (hx : X.env.scope.names.lookup x = some .local) (hy : X.env.scope.names.lookup y = some .local) (h1 : DF W X a t1 d1) (h2 : DE W X b t2 d2)
    (hw : swappedStores [.Tuple [.Name x px, .Name y py] kt pt] (.Tuple [a, b] k2 pt2) X.env = pure (some [x, y]))
    (hs : swapsWithSole [.Tuple [.Name x px, .Name y py] kt pt] (.Tuple [a, b] k2 pt2) pos.line X.env = pure false := by rfl)
    (ha : starEach [a, b] X.env = (false, eval a X.env) :: starEach [b] X.env := by rfl) (hb : starEach [b] X.env = (false, eval b X.env) :: starEach [] X.env := by rfl) :
    DS W X (.Assign [.Tuple [.Name x px, .Name y py] kt pt] (.Tuple [a, b] k2 pt2) pos) (tPar i j (tCons t1 (tCons t2 tNil))) (rdPar2 i j true false d1 d2) := by
  refine ⟨ps_par hc hN hi hj hij hx hy (pa_cons h1.pe (pa_cons h2.pe pa_nil hb) ha) hw hs, fun Γ σ Hv H E E' Z h l => ?_⟩
  refine h1.ad Γ σ Hv H _ _ Z h fun p u d Γ1 Hv1 H1 s1 n1 p1 r1 F1 q => ?_
  refine h2.ad Γ1 σ Hv1 H1 _ _ s1.ev q fun v e Γ2 Hv2 H2 s2 r2 qq => ?_
  obtain ⟨e1, F1'⟩ := s2.fr p F1 (by rw [p1]; simp)
  have A := (s1.trans s2).keepOwn (i := i) F1' (e1.trans p1) (r1.mono s2.sv) n1
  exact ⟨_, _, rfl, l.nx _ _ _ _ (A.set (i := j) r2) qq⟩
theorem ds_parDO (hc : X.calm = true) (hN : X.N.Nodup) (hi : X.N[i]? = some x) (hj : X.N[j]? = some y) (hij : i ≠ j)
    (hx : X.env.scope.names.lookup x = some .local) (hy : X.env.scope.names.lookup y = some .local) (h1 : DE W X a t1 d1) (h2 : DF W X b t2 d2)
    (hw : swappedStores [.Tuple [.Name x px, .Name y py] kt pt] (.Tuple [a, b] k2 pt2) X.env = pure (some [x, y]))
    (hs : swapsWithSole [.Tuple [.Name x px, .Name y py] kt pt] (.Tuple [a, b] k2 pt2) pos.line X.env = pure false := by rfl)
    (ha : starEach [a, b] X.env = (false, eval a X.env) :: starEach [b] X.env := by rfl) (hb : starEach [b] X.env = (false, eval b X.env) :: starEach [] X.env := by rfl) :
    DS W X (.Assign [.Tuple [.Name x px, .Name y py] kt pt] (.Tuple [a, b] k2 pt2) pos) (tPar i j (tCons t1 (tCons t2 tNil))) (rdPar2 i j false true d1 d2) := by
  refine ⟨ps_par hc hN hi hj hij hx hy (pa_cons h1.pe (pa_cons h2.pe pa_nil hb) ha) hw hs, fun Γ σ Hv H E E' Z h l => ?_⟩
  refine h1.ad Γ σ Hv H _ _ Z h fun v d Γ1 Hv1 H1 s1 r1 q => ?_
  refine h2.ad Γ1 σ Hv1 H1 _ _ s1.ev q fun p2 u2 e Γ2 Hv2 H2 s2 n2 q2 r2 F2 qq => ?_
  have A := (s1.trans s2).set (i := i) (Rp.mono s2.sv _ _ r1)
  have F2' : Fresh W (Γ2.set i (.dat d)) (σ.set i (some v)) Hv2 p2 := F2.set (s1.trans s2).ev.len (fun z => by cases z)
  exact ⟨_, _, rfl, l.nx _ _ _ _ (A.keepOwn (i := j) F2' q2 r2 (s1.was n2)) qq⟩
end
/-! ### isinstance(x, (T1, T2)), built-in types -/
section
variable {W : Wc} {X : Cx} {e : Expr} {te : TE} {de : TDE} {T1 T2 : String} {n1 n2 : Str} {p p2 p3 p4 pos : Pos} {kt : Nat}
def isiTys (Ts : List String) (d : D) : Option Bool := match tyName d with
  | none => none
  | some n => Ts.foldr (fun T r => match kitB n T, r with | some a, some b => some (a || b) | _, _ => none) (some false)
theorem isiTys_kit {K : PySem.W.Frag} {n : String} : ∀ {Ts : List String} {b : Bool}, Ts.foldr (fun T r => match kitB n T, r with | some a, some b => some (a || b) | _, _ => none) (some false) = some b → PySem.W.kitAny K (.type n) (Ts.map Value.type) = some b
  | [], b, h => h
  | T :: Ts, b, h => by
    rw [List.foldr_cons] at h
    split at h
    · rename_i a c h1 h2
      cases h
      have ih := isiTys_kit (K := K) h2
      rw [List.map_cons, PySem.W.kitAny, kit_ty h1]
      cases a
      · rw [Bool.false_or]; exact ih
      · rfl
    · cases h
def rdIsiT2 (Ts : List String) (de : TDE) : TDE := fun Γ Q => de Γ fun d Γ1 => ∃ b, isiTys Ts d = some b ∧ Q (.bl b) Γ1
theorem d_isiT2 {K : PySem.W.Frag} (hK : X.K = K) (hg : Gl X "isinstance") (hm : X.mg "isinstance" = none) (hv : bootBuiltins "isinstance" = some (.builtin "isinstance")) (he : DE W X e te de)
    (g1 : Gl X n1) (m1 : X.mg n1 = none) (v1 : bootBuiltins n1 = some (.type T1)) (g2 : Gl X n2) (m2 : X.mg n2 = none) (v2 : bootBuiltins n2 = some (.type T2))
    (hn1 : n1 ≠ "__name__" := by decide) (hd1 : (n1 == ("__debug__" : Str)) = false := by decide) (hn2 : n2 ≠ "__name__" := by decide) (hd2 : (n2 == ("__debug__" : Str)) = false := by decide)
    (hs : starEach [e, .Tuple [.Name n1 p3, .Name n2 p4] kt p2] X.env = (false, eval e X.env) :: starEach [.Tuple [.Name n1 p3, .Name n2 p4] kt p2] X.env := by rfl)
    (hpl : (backTo pos (starEach [.Tuple [.Name n1 p3, .Name n2 p4] kt p2] X.env)).any (·.1) = false := by rfl) :
    DE W X (.Call (.Name "isinstance" p) [e, .Tuple [.Name n1 p3, .Name n2 p4] kt p2] [] pos) (tCB (rIsiT K) (tCons te (tCons (tTup (tCons (tC (.ty T1)) (tCons (tC (.ty T2)) tNil))) tNil))) (rdIsiT2 [T1, T2] de) := by
  subst hK
  refine ⟨pe_callB call_isiT hg hm hv (pa_cons he.pe (pa_cons (pe_tup (pa_cons (pe_bltn g1 m1 v1 rfl hn1 hd1) (pa_cons (pe_bltn g2 m2 v2 rfl hn2 hd2) pa_nil))) pa_nil) hs) (by decide) (by decide) hs hpl, fun Γ σ Hv H Q Q' E h k => ?_⟩
  refine he.ad Γ σ Hv H _ _ E h fun x d Γ1 Hv1 H1 s1 r1 q => ?_
  obtain ⟨b, e1, q⟩ := q
  refine ⟨by show 2 ≤ sizeLine; decide, fun tp htp => ?_⟩
  unfold isiTys at e1
  cases en : tyName d with
  | none => rw [en] at e1; cases e1
  | some n =>
    rw [en] at e1
    have s2 := s1.alloc (.tup [.ty T1, .ty T2]) htp
    have r2 := Rp.monoS s2.ev.ret.sub _ _ (Rp.mono (same_upd (s1.ev.noneHv htp)) _ _ r1)
    exact ⟨x, tp, _, _, _, b, rfl, upd_same, .cons (.ty _) (.cons (.ty _) .nil), tyX_of r2 en, isiTys_kit e1, k _ _ Γ1 _ _ s2 (.bl _) q⟩
end
end VL

set_option Elab.async false
set_option linter.all false
set_option maxRecDepth 100000
set_option maxHeartbeats 4000000
/-! VL35: dict displays; own methods by position; small rules. -/
namespace VL
open PySem PySem.Spec L2 PySem.W
open PyProof.Rows hiding St
/-! ### {k: v, ..} -/
abbrev TDP := Gm → (List (Key × D) → Gm → Prop) → Prop
structure DPs (W : Wc) (X : Cx) (pos : Pos) (keys : List (Option Expr)) (vals : List Expr) (trs : List (TE × TE)) (td : TDP) : Prop where
  pp : PPs X pos keys vals trs
  ad : ∀ Γ σ Hv H (Q : List (Key × D) → Gm → Prop) (Q' : List (V × V) → Hp → Prop), Ev X.K W Γ σ Hv H → td Γ Q →
    (∀ (kvs : List (Key × V)) kds Γ' Hv' H', Stp X.K W Γ σ Hv H Γ' σ Hv' H' → kvs.length = keys.length → kvs.map (·.1) = kds.map (·.1) → RpAll X.K Hv' (kvs.map (·.2)) (kds.map (·.2)) → Q kds Γ' → Q' (kvs.map fun kv => (kV kv.1, kv.2)) H') → tPairs trs σ H Q'
def rdPsNil : TDP := fun Γ Q => Q [] Γ
def rdPsCons (dk dv : TDE) (r : TDP) : TDP := fun Γ Q => dk Γ fun kd Γ1 => dv Γ1 fun v Γ2 => ∃ k, keyOf kd = some k ∧ r Γ2 fun ps Γ3 => Q ((k, v) :: ps) Γ3
section
variable {W : Wc} {X : Cx} {pos : Pos} {ke ve : Expr} {ks : List (Option Expr)} {vs : List Expr} {tk tv : TE} {dk dv : TDE} {trs : List (TE × TE)} {td : TDP}
theorem dps_nil : DPs W X pos [] [] [] rdPsNil := ⟨pps_nil, fun Γ σ Hv H Q Q' E h k => k [] [] Γ Hv H E.stp rfl rfl .nil h⟩
theorem dps_cons (hk : DE W X ke tk dk) (hv : DE W X ve tv dv) (hr : DPs W X pos ks vs trs td) : DPs W X pos (some ke :: ks) (ve :: vs) ((tk, tv) :: trs) (rdPsCons dk dv td) := by
  refine ⟨pps_cons hk.pe hv.pe hr.pp, fun Γ σ Hv H Q Q' E h k => ?_⟩
  refine hk.ad Γ σ Hv H _ _ E h fun x kd Γ1 Hv1 H1 s1 r1 q1 => ?_
  refine hv.ad Γ1 σ Hv1 H1 _ _ s1.ev q1 fun y v Γ2 Hv2 H2 s2 r2 q2 => ?_
  obtain ⟨ky, ek, q2⟩ := q2
  have ex := keyOf_rp r1 ek
  subst ex
  refine hr.ad Γ2 σ Hv2 H2 _ _ s2.ev q2 fun kvs kds Γ3 Hv3 H3 s3 l3 e3 r3 q3 => ?_
  exact k ((ky, y) :: kvs) ((ky, v) :: kds) Γ3 Hv3 H3 (s1.trans (s2.trans s3)) (by rw [List.length_cons, List.length_cons, l3]) (by rw [List.map_cons, List.map_cons, e3]) (.cons (Rp.mono s3.sv _ _ r2) r3) q3
/-- the pairs put into an empty dict -/
def dispD (kds : List (Key × D)) : List Key × List D := kds.foldl (fun a p => (putKs a.1 p.1, putDs a.1 a.2 p.1 p.2)) ([], [])
def rdDisp (td : TDP) : TDE := fun Γ Q => td Γ fun kds Γ1 => Q (.dic (dispD kds).1 (dispD kds).2) Γ1
theorem disp_rp {K : PySem.W.Frag} {H : Hp} : ∀ (kvs : List (Key × V)) (kds : List (Key × D)) (acc : List (Key × V)) (a : List Key × List D), kvs.map (·.1) = kds.map (·.1) → RpAll K H (kvs.map (·.2)) (kds.map (·.2)) → acc.map (·.1) = a.1 → RpAll K H (acc.map (·.2)) a.2 →
    (mergeK acc kvs).map (·.1) = (kds.foldl (fun a p => (putKs a.1 p.1, putDs a.1 a.2 p.1 p.2)) a).1 ∧ RpAll K H ((mergeK acc kvs).map (·.2)) (kds.foldl (fun a p => (putKs a.1 p.1, putDs a.1 a.2 p.1 p.2)) a).2
  | [], [], acc, a, _, _, e, r => ⟨e, r⟩
  | [], _ :: _, _, _, e0, _, _, _ => by simp at e0
  | _ :: _, [], _, _, e0, _, _, _ => by simp at e0
  | (pk, pv) :: kvs, (qk, qv) :: kds, acc, a, e0, r0, e, r => by
    rw [List.map_cons, List.map_cons] at e0
    injection e0 with e1 e2
    have e1 : pk = qk := e1
    subst e1
    cases r0 with
    | cons r1 r2 =>
      obtain ⟨a1, a2⟩ := a
      subst e
      obtain ⟨g1, g2⟩ := putK_rp (k := pk) r r1
      refine disp_rp kvs kds (putK acc pk pv) _ e2 r2 g1 g2
theorem df_disp {keys : List (Option Expr)} {vals : List Expr} (h : DPs W X pos keys vals trs td) (hall : keys.all (·.isSome) = true := by rfl) (hl : keys.length = vals.length := by rfl) (h0 : keys ≠ [] := by simp) (h15 : keys.length ≤ 15 := by decide) :
    DF W X (.Dict keys vals pos) (tDisp trs) (rdDisp td) := by
  refine ⟨pe_disp h.pp hall hl h0 h15, fun Γ σ Hv H Q Q' E hw k => ?_⟩
  intro p hp
  obtain ⟨s0, F0⟩ := E.stp.alloc0 (.dK []) hp
  refine h.ad Γ σ Hv _ _ _ s0.ev hw fun kvs kds Γ1 Hv1 H1 s1 l1 e1 r1 q => ?_
  obtain ⟨ep, F1⟩ := s1.fr p F0 (by rw [upd_same]; simp)
  rw [upd_same] at ep
  refine ⟨ep, kvs, rfl, ?_, ?_⟩
  · rw [l1]; exact h15
  · have s01 := s0.trans s1
    have s2 := s01.turn (.dK (mergeK [] kvs)) F1 (by rw [ep]; simp) hp
    obtain ⟨g1, g2⟩ := disp_rp kvs kds [] ([], []) e1 r1 rfl .nil
    exact k p _ (.dic (dispD kds).1 (dispD kds).2) Γ1 Hv1 _ s2 hp upd_same ⟨_, rfl, g1.symm, g2⟩ F1 q
end
/-! ### a def by its positional values -/
theorem FnOk.r0 {P : Program} {w : World} {K : PySem.W.Frag} {mg : Str → Option Value} {base : Heap} {CX : CXT} {k : Nat} {f : Addr} {fd : FuncData} {ps : List Str} {sp : Sp} (F : FnOk P w K mg base CX k f fd ps sp) (hb : Binds K fd ps []) : FnR P w K mg base CX k f sp :=
  (F.raw hb .nil).imp fun vs H Q E h => by rw [List.append_nil]; exact h
end VL

set_option Elab.async false
set_option linter.all false
set_option maxRecDepth 100000
set_option maxHeartbeats 4000000
/-! VL36: a, b, c = e1, e2, e3 through a tuple, new objects staying their slots' own; sorted of anything; x = [..] shared at once. -/
namespace VL
open PySem PySem.Spec L2 PySem.W
open PyProof.Rows hiding St
theorem hu1 {k : Nat} {A : Around} (r : Room k A) : A.units + 1 < cLine := by have := r.un; omega
/-! ### arguments, some of them new objects -/
def flV : List Bool → List V → List V
  | true :: bs, v :: vs => v :: flV bs vs
  | false :: bs, _ :: vs => flV bs vs
  | _, _ => []
def OA (K : PySem.W.Frag) (W : Wc) (Γ : Gm) (σ : L2.St) (Hv H0 H : Hp) : List Bool → List V → List D → Prop
  | [], [], [] => True
  | true :: bs, v :: vs, d :: ds => (∃ p u, v = .ref p ∧ H0 p = none ∧ H p = some u ∧ ObD K Hv d u ∧ Fresh W Γ σ Hv p ∧ (V.ref p) ∉ flV bs vs) ∧ OA K W Γ σ Hv H0 H bs vs ds
  | false :: bs, v :: vs, d :: ds => Rp K Hv v d ∧ OA K W Γ σ Hv H0 H bs vs ds
  | _, _, _ => False
section
variable {K : PySem.W.Frag} {W : Wc} {Γ Γ' : Gm} {σ σ' : L2.St} {Hv Hv' H0 H0' H H' : Hp}
theorem OA.new : ∀ {bs : List Bool} {vs : List V} {ds : List D} {p : Addr}, OA K W Γ σ Hv H0 H bs vs ds → V.ref p ∈ flV bs vs → H0 p = none
  | true :: bs, v :: vs, d :: ds, p, h, m => by
    obtain ⟨⟨p', u, rfl, h0, _⟩, h2⟩ := h
    rcases List.mem_cons.mp m with e | m
    · cases e; exact h0
    · exact OA.new h2 m
  | false :: bs, v :: vs, d :: ds, p, h, m => OA.new h.2 m
  | [], [], [], p, h, m => by cases m
  | [], v :: vs, ds, p, h, m => by cases m
  | b :: bs, [], ds, p, h, m => by cases b <;> cases m
  | true :: bs, v :: vs, [], p, h, m => h.elim
  | false :: bs, v :: vs, [], p, h, m => h.elim
  | [], [], d :: ds, p, h, m => by cases m
theorem OA.was : ∀ {bs : List Bool} {vs : List V} {ds : List D}, OA K W Γ σ Hv H0 H bs vs ds → (∀ p, H0 p = none → H0' p = none) → OA K W Γ σ Hv H0' H bs vs ds
  | true :: bs, v :: vs, d :: ds, h, k => by
    obtain ⟨⟨p', u, rfl, h0, r⟩, h2⟩ := h
    exact ⟨⟨p', u, rfl, k _ h0, r⟩, OA.was h2 k⟩
  | false :: bs, v :: vs, d :: ds, h, k => ⟨h.1, OA.was h.2 k⟩
  | [], [], [], h, k => True.intro
  | [], v :: vs, ds, h, k => by cases ds <;> exact h.elim
  | b :: bs, [], ds, h, k => by cases b <;> cases ds <;> exact h.elim
  | true :: bs, v :: vs, [], h, k => h.elim
  | false :: bs, v :: vs, [], h, k => h.elim
  | [], [], d :: ds, h, k => h.elim
/-- a new object beside -/
theorem OA.beside {q : Addr} {o : HO} : ∀ {bs : List Bool} {vs : List V} {ds : List D}, OA K W Γ σ Hv H0 H bs vs ds → H q = none → OA K W Γ σ Hv H0 (upd H q o) bs vs ds
  | true :: bs, v :: vs, d :: ds, h, n => by
    obtain ⟨⟨p', u, rfl, h0, h1, r⟩, h2⟩ := h
    exact ⟨⟨p', u, rfl, h0, by rw [upd_ne (ne_of_none h1 n)]; exact h1, r⟩, OA.beside h2 n⟩
  | false :: bs, v :: vs, d :: ds, h, n => ⟨h.1, OA.beside h.2 n⟩
  | [], [], [], h, k => True.intro
  | [], v :: vs, ds, h, k => by cases ds <;> exact h.elim
  | b :: bs, [], ds, h, k => by cases b <;> cases ds <;> exact h.elim
  | true :: bs, v :: vs, [], h, k => h.elim
  | false :: bs, v :: vs, [], h, k => h.elim
  | [], [], d :: ds, h, k => h.elim
/-- a slot set to what none of them is -/
theorem OA.setS {i : Nat} {s : Sl} {w : V} (hl : σ.length = Γ.length) : ∀ {bs : List Bool} {vs : List V} {ds : List D}, OA K W Γ σ Hv H0 H bs vs ds → (s.isOwn = true → w ∉ flV bs vs) → OA K W (Γ.set i s) (σ.set i (some w)) Hv H0 H bs vs ds
  | true :: bs, v :: vs, d :: ds, h, k => by
    obtain ⟨⟨p', u, rfl, h0, h1, r, F, nf⟩, h2⟩ := h
    exact ⟨⟨p', u, rfl, h0, h1, r, F.set hl (fun o z => k o (by injection z with z; rw [z]; exact List.mem_cons_self)), nf⟩, OA.setS hl h2 fun o m => k o (List.mem_cons_of_mem _ m)⟩
  | false :: bs, v :: vs, d :: ds, h, k => ⟨h.1, OA.setS hl h.2 fun o m => k o m⟩
  | [], [], [], h, k => True.intro
  | [], v :: vs, ds, h, k => by cases ds <;> exact h.elim
  | b :: bs, [], ds, h, k => by cases b <;> cases ds <;> exact h.elim
  | true :: bs, v :: vs, [], h, k => h.elim
  | false :: bs, v :: vs, [], h, k => h.elim
  | [], [], d :: ds, h, k => h.elim
def setsG : List Nat → List Bool → List D → Gm → Gm
  | i :: is, b :: bs, d :: ds, Γ => setsG is bs ds (Γ.set i (if b then .own d else .dat d))
  | _, _, _, Γ => Γ
def setsV : List Nat → List V → L2.St → L2.St
  | i :: is, v :: vs, σ => setsV is vs (σ.set i (some v))
  | _, _, σ => σ
/-- the targets, names one after the other -/
inductive NmG : List Nat → TGs → Prop
  | nil : NmG [] gNil
  | cons {i : Nat} {is : List Nat} {u : TGs} : NmG is u → NmG (i :: is) (gCons (gName i) u)
theorem nm_store {K : PySem.W.Frag} {W : Wc} {Γ0 : Gm} {σ0 : L2.St} {Hv0 H0 : Hp} : ∀ {is : List Nat} {g : TGs} (n : NmG is g) {bs : List Bool} {vs : List V} {ds : List D} {Γ : Gm} {σ : L2.St} {Hv H : Hp} {Q : L2.St → Hp → Prop}, is.length = bs.length → Stp K W Γ0 σ0 Hv0 H0 Γ σ Hv H → OA K W Γ σ Hv H0 H bs vs ds →
    (∀ σ', Stp K W Γ0 σ0 Hv0 H0 (setsG is bs ds Γ) σ' Hv H → Q σ' H) → g vs σ H Q
  | _, _, .nil, [], [], [], Γ, σ, Hv, H, Q, _, s, _, k => ⟨rfl, k σ s⟩
  | _, _, .nil, [], [], _ :: _, _, _, _, _, _, _, _, h, _ => h.elim
  | _, _, .nil, [], _ :: _, ds, _, _, _, _, _, _, _, h, _ => by cases ds <;> exact h.elim
  | _, _, .nil, _ :: _, _, _, _, _, _, _, _, l, _, _, _ => by cases l
  | _, _, .cons n, [], _, _, _, _, _, _, _, l, _, _, _ => by cases l
  | _, _, .cons n, b :: bs, [], ds, _, _, _, _, _, _, _, h, _ => by cases b <;> cases ds <;> exact h.elim
  | _, _, .cons n, b :: bs, v :: vs, [], _, _, _, _, _, _, _, h, _ => by cases b <;> exact h.elim
  | _, _, .cons (i := i) n, true :: bs, v :: vs, d :: ds, Γ, σ, Hv, H, Q, l, s, h, k => by
    obtain ⟨⟨p, u, rfl, h0, h1, r, F, nf⟩, h2⟩ := h
    refine ⟨_, _, rfl, ?_⟩
    refine nm_store n (by simpa using l) (s.keepOwn (i := i) F h1 r h0) (OA.setS s.ev.len h2 fun _ => nf) k
  | _, _, .cons (i := i) n, false :: bs, v :: vs, d :: ds, Γ, σ, Hv, H, Q, l, s, h, k => by
    refine ⟨_, _, rfl, ?_⟩
    exact nm_store n (by simpa using l) (s.set (i := i) h.1) (OA.setS s.ev.len h.2 fun z => by cases z) k
end
structure DAo (W : Wc) (X : Cx) (bs : List Bool) (es : List Expr) (ta : TA) (td : TDF) : Prop where
  pa : PA X es ta
  ad : ∀ Γ σ Hv H (Q : List D → Gm → Prop) (Q' : List V → Hp → Prop), Ev X.K W Γ σ Hv H → td Γ Q →
    (∀ vs ds Γ' Hv' H', Stp X.K W Γ σ Hv H Γ' σ Hv' H' → OA X.K W Γ' σ Hv' H H' bs vs ds → vs.length = bs.length → Q ds Γ' → Q' vs H') → ta σ H Q'
section
variable {W : Wc} {X : Cx} {e : Expr} {es : List Expr} {te : TE} {de : TDE} {t : TA} {dt : TDF} {bs : List Bool}
theorem dao_nil : DAo W X [] [] tNil rdNil := ⟨pa_nil, fun Γ σ Hv H Q Q' E h k => k [] [] Γ Hv H E.stp True.intro rfl h⟩
theorem dao_dat (ha : DE W X e te de) (hr : DAo W X bs es t dt) (hs : starEach (e :: es) X.env = (false, eval e X.env) :: starEach es X.env := by rfl) : DAo W X (false :: bs) (e :: es) (tCons te t) (rdCons de dt) := by
  refine ⟨pa_cons ha.pe hr.pa hs, fun Γ σ Hv H Q Q' E h k => ?_⟩
  refine ha.ad Γ σ Hv H _ _ E h fun x d Γ1 Hv1 H1 s1 r1 q => ?_
  refine hr.ad Γ1 σ Hv1 H1 _ _ s1.ev q fun vs ds Γ2 Hv2 H2 s2 o2 l2 q2 => ?_
  exact k _ (d :: ds) Γ2 Hv2 H2 (s1.trans s2) ⟨Rp.mono s2.sv _ _ r1, o2.was fun p n => s1.was n⟩ (by rw [List.length_cons, List.length_cons, l2]) q2
theorem dao_own (ha : DF W X e te de) (hr : DAo W X bs es t dt) (hs : starEach (e :: es) X.env = (false, eval e X.env) :: starEach es X.env := by rfl) : DAo W X (true :: bs) (e :: es) (tCons te t) (rdCons de dt) := by
  refine ⟨pa_cons ha.pe hr.pa hs, fun Γ σ Hv H Q Q' E h k => ?_⟩
  refine ha.ad Γ σ Hv H _ _ E h fun p u d Γ1 Hv1 H1 s1 n1 p1 r1 F1 q => ?_
  refine hr.ad Γ1 σ Hv1 H1 _ _ s1.ev q fun vs ds Γ2 Hv2 H2 s2 o2 l2 q2 => ?_
  obtain ⟨e1, F1'⟩ := s2.fr p F1 (by rw [p1]; simp)
  exact k _ (d :: ds) Γ2 Hv2 H2 (s1.trans s2) ⟨⟨p, u, rfl, n1, e1.trans p1, r1.mono s2.sv, F1', fun m => by have := o2.new m; rw [p1] at this; cases this⟩, o2.was fun p n => s1.was n⟩ (by rw [List.length_cons, List.length_cons, l2]) q2
/-- a, b, .. = e1, e2, .. through a new tuple -/
def rdTupO (is : List Nat) (bs : List Bool) (dt : TDF) : TDS := fun E Γ => dt Γ fun ds Γ1 => E.nx (setsG is bs ds Γ1)
theorem ds_tupO {tgs : List Expr} {g : TGs} {is : List Nat} {n : Nat} {kt k2 : Nat} {pt pt2 pos : Pos} (hc : X.calm = true) (ha : DAo W X bs es t dt) (hg : PGs X tgs g) (hn : NmG is g) (hl : is.length = bs.length) (hb : bs.length ≤ 1000)
    (hs : swapsWithSole [.Tuple tgs kt pt] (.Tuple es k2 pt2) pos.line X.env = pure false := by rfl) (hw : swappedStores [.Tuple tgs kt pt] (.Tuple es k2 pt2) X.env = pure none := by rfl)
    (hm : (assignEach tgs X.env).length = bs.length := by rfl) (hst : (assignEach tgs X.env).findIdx? (·.1) = none := by rfl)
    (h1 : (assignEach [.Tuple tgs kt pt] X.env).map (·.2) = [assign (.Tuple tgs kt pt) X.env] := by rfl) :
    DS W X (.Assign [.Tuple tgs kt pt] (.Tuple es k2 pt2) pos) (tAsg (tTup t) (gTup X.K bs.length g)) (rdTupO is bs dt) := by
  refine ⟨ps_asg (pe_tup ha.pa) (pg_tup hc hg hm hst) hs hw h1, fun Γ σ Hv H E E' Z h l => ?_⟩
  refine ha.ad Γ σ Hv H _ _ Z h fun vs ds Γ1 Hv1 H1 s1 o1 l1 q => ?_
  refine ⟨by rw [l1]; exact Nat.le_trans hb (by decide), fun p hp => ?_⟩
  obtain ⟨s2, F2⟩ := s1.alloc0 (.tup vs) hp
  refine ⟨p, vs, rfl, .of upd_same, l1, ?_⟩
  exact nm_store hn hl s2 (o1.beside hp) fun σ' s3 => l.nx _ _ _ _ s3 q
end
/-! ### sorted of a list, a tuple, a dict -/
section
variable {K : PySem.W.Frag} {W : Wc} {X : Cx}
def rSortC (K : PySem.W.Frag) : List V → Hp → VK → Prop := fun xs H Q => rSrt K xs H Q ∨ rSortD xs H Q
theorem cr_sortC (hc : X.calm = true) {k : Nat} (hr : Room k X.A) : CallR X (.builtin "sorted") (rSortC X.K) := (cr_srt hr).or (call_sortedD hc)
theorem risingS_up : ∀ {ys : List Str} {p : Str}, risingS p ys = true → (p :: ys).Pairwise fun a b => leT a b = true
  | [], p, _ => List.pairwise_singleton _ _
  | x :: r, p, h => by
    have h : (!ltCps x.cps.toList p.cps.toList && risingS x r) = true := h
    rw [Bool.and_eq_true, ltCps_eq] at h
    have l : leT p x = true := by
      rw [leT_eq, decide_eq_true_eq]
      have := h.1
      simpa using this
    have up := risingS_up h.2
    refine List.pairwise_cons.mpr ⟨fun y hy => ?_, up⟩
    rcases List.mem_cons.mp hy with rfl | hy
    · exact l
    · exact leT_trans _ _ _ l ((List.pairwise_cons.mp up).1 y hy)
theorem sortedS_up : ∀ {ys : List Str}, sortedS ys = true → ys.Pairwise fun a b => leT a b = true
  | [], _ => List.Pairwise.nil
  | _ :: _, h => risingS_up h
theorem sortedS_one {xs ys : List Str} (p : ys.Perm xs) (h : sortedS ys = true) : ys = sortT xs := sortT_one p (sortedS_up h)
def rdSortC : List D → (D → Prop) → Prop := fun ds Q => match ds with
  | [.dic ks _] => ∃ bs, keysS ks = some bs ∧ bs.length < 64 ∧ Q (.lst ((sortT bs).map D.str))
  | ds => rdSrt ds Q
theorem cf_sortC : CallF K W (rSortC K) rdSortC := by
  intro Γ σ Hv H vs ds Q Q' E r h k
  unfold rdSortC at h
  split at h
  · obtain ⟨bs, e1, e2, q⟩ := h
    obtain ⟨v, rfl, rv⟩ := r.one
    cases rv with
    | dic h1 h2 h3 =>
      refine .inr ⟨_, _, bs, rfl, E.ret.sub.dk h1, by rw [← h2]; exact keysS_eq e1, e2, fun ys p h3 h4 hp => ?_⟩
      obtain ⟨s, F⟩ := E.stp.alloc0 (.lst _) hp
      cases sortedS_one h3 h4
      exact k p _ (.lst _) Hv _ s hp upd_same ⟨_, rfl, rp_strs _⟩ F q
  · exact .inl (cf_srt Γ σ Hv H vs ds Q Q' E r h k)
theorem cp_sortC : CallPk K W (rSortC K) rdSortC := by
  intro Γ σ Hv H a u dx Q Q' E hu ob h k
  unfold rdSortC at h
  split at h
  · rename_i ks es e
    cases e
    obtain ⟨bs, e1, e2, q⟩ := h
    obtain ⟨kvs, rfl, h2, h3⟩ := ob
    refine .inr ⟨_, _, bs, rfl, .inl hu, by rw [← h2]; exact keysS_eq e1, e2, fun ys p h3 h4 hp => ?_⟩
    obtain ⟨s, F⟩ := E.stp.alloc0 (.lst _) hp
    cases sortedS_one h3 h4
    exact k p _ (.lst _) Hv _ s hp upd_same ⟨_, rfl, rp_strs _⟩ F q
  · unfold rdSrt at h
    split at h
    · rename_i xs e
      cases e
      obtain ⟨vs, rfl, h2⟩ := ob
      refine .inl (srt_step E.ret.sub h2 h.1 (.inl (.of hu)) fun p ys hp ry => ?_)
      obtain ⟨s, F⟩ := E.stp.alloc0 (.lst ys) hp
      exact k p _ (.lst _) Hv _ s hp upd_same ⟨_, rfl, ry⟩ F h.2
    · rename_i xs e
      cases e
      exact ob.elim
    · exact h.elim
end
end VL

set_option Elab.async false
set_option linter.all false
set_option maxRecDepth 100000
set_option maxHeartbeats 4000000
/-! VL37: for over anything (list, tuple, text, dict); x = [..] on one line, shared at once. -/
namespace VL
open PySem PySem.Spec L2 PySem.W
open PyProof.Rows hiding St
/-! ### the iteration protocol, by the value at hand -/
def IvL (K : PySem.W.Frag) (x : V) (H : Hp) (R : It → Hp → Prop) : Prop := ∃ a, x = .ref a ∧ (∃ xs, SqL K H a xs) ∧ R (Itl K a) H
def IvT (K : PySem.W.Frag) (x : V) (H : Hp) (R : It → Hp → Prop) : Prop := ∃ a, x = .ref a ∧ (∃ xs, SqT K H a xs) ∧ R (Itt K a) H
def IvS (x : V) (H : Hp) (R : It → Hp → Prop) : Prop := ∃ z, x = .str z ∧ R (Its z) H
def IvD (x : V) (H : Hp) (R : It → Hp → Prop) : Prop := ∃ a kvs, x = .ref a ∧ ((∃ o, H a = some (.frz o (.dK kvs)) ∧ R (Itk a o kvs) H) ∨ (H a = some (.dK kvs) ∧ ∀ o, R (Itk a o kvs) (upd H a (.frz o (.dK kvs)))))
def iAny (K : PySem.W.Frag) (te : TE) : TI := fun σ H R => te σ H fun x H1 => IvL K x H1 R ∨ IvT K x H1 R ∨ IvS x H1 R ∨ IvD x H1 R
section
variable {X : Cx} {tg e : Expr} {te : TE} {pins : List (Addr × Obj)} {σ : L2.St} {H : Hp} {s : Shared} {R : It → Hp → Prop} {x : V} {v : Value}
theorem keys_go {a : Addr} {o : Obj} {kvs : List (Key × V)} (I : Inv X pins σ H s) (hd : H a = some (.frz o (.dK kvs))) (q : R (Itk a o kvs) H) : wpAny (model X.prog X.w) X.A (pyIter (.ref a)) (PIE X pins σ tg R) X.xe s := by
  obtain ⟨hs, hgd, hx, es, ep, vs, hdt, hsz, kv, hm⟩ := I.frzK hd
  refine iter_keys hs hgd hx hdt (pi_one (tk := s.toks) I _ (turn_keys _ hdt) ⟨_, Heap.get?_push_size _ rfl, rfl, ?_⟩ q)
  rw [hsz] <;> rfl
theorem any_go (I : Inv X pins σ H s) (r : RelV x v) (h : IvL X.K x H R ∨ IvT X.K x H R ∨ IvS x H R ∨ IvD x H R) : wpAny (model X.prog X.w) X.A (pyIter v) (PIE X pins σ tg R) X.xe s := by
  rcases h with ⟨a, rfl, ⟨xs, hq⟩, q⟩ | ⟨a, rfl, ⟨xs, hq⟩, q⟩ | ⟨z, rfl, q⟩ | ⟨a, kvs, rfl, ⟨o, hd, q⟩ | ⟨hd, q⟩⟩
  · obtain rfl : v = Value.ref a := r
    obtain ⟨its, rv, p, hz⟩ := I.list hq
    exact wpAny_pyIter_list p.isList (pi_one (tk := s.toks) I _ (turn_list a _) ⟨_, Heap.get?_push_size _ rfl, rfl, rfl⟩ q)
  · obtain rfl : v = Value.ref a := r
    obtain ⟨its, rv, p, hz⟩ := I.tuple hq
    exact wpAny_pyIter_tuple (show s.heap.IsTuple a its.toArray from p) (pi_one (tk := s.toks) I _ (turn_tuple a _) ⟨_, Heap.get?_push_size _ rfl, rfl, rfl⟩ q)
  · obtain ⟨t, rfl⟩ := r
    cases ha : z.cps.all (· < 128)
    · exact wpAny_pyIter_wide ha (pi_one (tk := s.toks) I _ (turn_str _ z t "str_iterator" (.inr rfl)) ⟨_, Heap.get?_push_size _ rfl, rfl, rfl⟩ q)
    · exact wpAny_pyIter_ascii ha (pi_one (tk := s.toks) I _ (turn_str _ z t "str_ascii_iterator" (.inl rfl)) ⟨_, Heap.get?_push_size _ rfl, rfl, rfl⟩ q)
  · obtain rfl : v = Value.ref a := r
    exact keys_go I hd q
  · obtain rfl : v = Value.ref a := r
    obtain ⟨od, I2⟩ := I.lock hd trivial
    exact keys_go I2 upd_same (q od)
theorem pi_any (he : PE X e te) : PI X tg e (iAny X.K te) :=
  ⟨fun pins s σ H R I h => thn (he.run pins s σ H _ I h) fun v s1 ⟨x, H1, I1, r1, q1⟩ => any_go I1 r1 q1⟩
end
def asIt (d : D) (k : List D → Prop) : Prop := match d with
  | .lst ds => k ds
  | .tup ds => k ds
  | .str z => k (z.cps.toList.map fun c => D.str ⟨#[c]⟩)
  | .dic ks _ => k (ks.map kD1)
  | _ => False
theorem asIt_l {ds : List D} {k : List D → Prop} : asIt (.lst ds) k = k ds := rfl
theorem asIt_t {ds : List D} {k : List D → Prop} : asIt (.tup ds) k = k ds := rfl
theorem asIt_d {ks : List Key} {ds : List D} {k : List D → Prop} : asIt (.dic ks ds) k = k (ks.map kD1) := rfl
theorem asIt_s {z : Str} {k : List D → Prop} : asIt (.str z) k = k (z.cps.toList.map fun c => D.str ⟨#[c]⟩) := rfl
def rdIAny (de : TDE) : TDF := fun Γ Q => de Γ fun d Γ1 => asIt d fun ds => Q ds Γ1
section
variable {W : Wc} {X : Cx} {K : PySem.W.Frag} {tg e : Expr} {te : TE} {de : TDE}
theorem di_any (hK : X.K = K) (he : DE W X e te de) : DI W X tg e (iAny K te) (rdIAny de) := by
  subst hK
  refine ⟨pi_any he.pe, fun Γ σ Hv H Q R E h k => he.ad Γ σ Hv H _ _ E h fun v d Γ1 Hv1 H1 s1 r1 q => ?_⟩
  cases d <;> first | exact q.elim | skip
  · cases r1
    rename_i z
    refine .inr (.inr (.inl ⟨z, rfl, k _ _ Γ1 Hv1 H1 s1 (fun Γ' σ' Hv' H' sm E' i => ⟨fun hi => ?_, fun d e => ?_⟩) q⟩))
    · rw [List.length_map, Array.length_toList] at hi
      exact hi
    · rw [List.getElem?_map, Array.getElem?_toList] at e
      cases q2 : z.cps[i]? with
      | none => rw [q2] at e; cases e
      | some c =>
        rw [q2] at e
        cases e
        refine ⟨(Array.getElem?_eq_some_iff.mp q2).1, fun x H2 y => ?_⟩
        obtain ⟨rfl, c', e', rfl⟩ := y
        rw [q2] at e'
        cases e'
        exact ⟨Hv', E'.stp, .str _⟩
  · cases r1 with
    | tup h1 ra => exact .inr (.inl ⟨_, rfl, ⟨_, seqT s1.ev.ret.sub h1⟩, k _ _ Γ1 Hv1 H1 s1 (itd_tup h1 ra) q⟩)
  · cases r1 with
    | lst h1 ra => exact .inl ⟨_, rfl, ⟨_, .of (s1.ev.ret.sub.lst h1)⟩, k _ _ Γ1 Hv1 H1 s1 (itd_list h1 ra) q⟩
  · cases r1 with
    | dic h1 h2 h3 =>
      rename_i a kvs
      subst h2
      refine .inr (.inr (.inr ⟨a, kvs, rfl, ?_⟩))
      have lock : (∃ o, H1 a = some (.frz o (.dK kvs)) ∧ Hv1 a = some (.frz o (.dK kvs))) ∨ (∃ o, H1 a = some (.frz o (.dK kvs)) ∧ Hv1 a = some (.dK kvs)) ∨ (H1 a = some (.dK kvs) ∧ Hv1 a = some (.dK kvs)) := by
        rcases h1 with h1 | ⟨o, h1⟩
        · rcases s1.ev.ret.sub a _ h1 with z | ⟨k2, ob, z, z2⟩
          · exact .inr (.inr ⟨z, h1⟩)
          · cases z; exact .inr (.inl ⟨ob, z2, h1⟩)
        · exact .inl ⟨o, s1.ev.ret.sub.at h1 (fun _ z => nomatch z), h1⟩
      rcases lock with ⟨o, l1, l2⟩ | ⟨o, l1, l2⟩ | ⟨l1, l2⟩
      · exact .inl ⟨o, l1, k _ _ Γ1 Hv1 H1 s1 (itd_keys l2) q⟩
      · refine .inl ⟨o, l1, ?_⟩
        have s2 := s1.lock l2 o
        have same : upd H1 a (.frz o (.dK kvs)) = H1 := by
          funext b
          by_cases hb : b = a
          · subst hb; rw [upd_same, l1]
          · rw [upd_ne hb]
        rw [same] at s2
        exact k _ _ Γ1 _ H1 s2 (itd_keys upd_same) q
      · exact .inr ⟨l1, fun o => k _ _ Γ1 _ _ (s1.lock l2 o) (itd_keys upd_same) q⟩
/-- name = [..] on one line; the list is shared at once -/
theorem ds_setLcD {j : Nat} {y : Str} {py : Pos} {elt tg iter : Expr} {ifs : List Expr} {scope : Scope} {own : List (Str × Nat)} {pos spos : Pos} {wi : TI} {di : TDF} {g : TG} {gd : TDG} {tt : TT} {td : TDT} {te : TE} {de : TDE} {is : List Nat} (hc : X.calm = true) (hN : X.N.Nodup) (hy : X.N[j]? = some y) (hyl : X.env.scope.names.lookup y = some .local)
    (hsw : swapsWith (.ListComp elt [⟨tg, iter, ifs, 0⟩] scope pos) (some (.Name y py)) spos.line X.env = pure true) (hi : DI W X tg iter wi di) (ok : BlkOk X.N X.env.scope scope own)
    (hg : ∀ (s : Shared) (H : Hp) (C : Addr) (cl : List (Str × Addr)) (fp : List Addr), DG W (X.blk s H scope (compEnvC scope cl C X.env) fp) tg g gd is) (ht : ∀ (s : Shared) (H : Hp) (C : Addr) (cl : List (Str × Addr)) (fp : List Addr), DTs W (X.blk s H scope (compEnvC scope cl C X.env) fp) ifs tt td)
    (he : ∀ (s : Shared) (H : Hp) (C : Addr) (cl : List (Str × Addr)) (fp : List Addr), DE W (X.blk s H scope (compEnvC scope cl C X.env) fp) elt te de) (hv : ∀ j ∈ is, j ∈ own.map (·.2)) (hs : ∀ x, foldedSetIterable iter X.env x = pure x := by intro _; rfl) :
    DS W X (.Assign [.Name y py] (.ListComp elt [⟨tg, iter, ifs, 0⟩] scope pos) spos) (tAsg (tLc wi g tt te (own.map (·.2))) (gName j)) (rdAsg (rdShare (rdLc di gd td de (own.map (·.2)))) (rgName j)) := by
  have L := ad_lc (K := X.K) (W := W) (tg := tg) (iter := iter) hi.ad (hg X.s_0 (fun _ => none) 0 [] []).ad (ht X.s_0 (fun _ => none) 0 [] []).ad (he X.s_0 (fun _ => none) 0 [] []).ad hv
  refine ⟨ps_setLc hc hN hy hyl hsw hi.pi ok (fun s H C cl fp => (hg s H C cl fp).pg) (fun s H C cl fp => (ht s H C cl fp).pt) (fun s H C cl fp => (he s H C cl fp).pe) hs, fun Γ σ Hv H E E' Z h l => ?_⟩
  refine L Γ σ Hv H _ _ Z h fun p u d Γ1 Hv1 H1 s1 hn hp r1 F q => ?_
  exact l.nx _ _ _ _ ((s1.share F hp hn).set (i := j) ((r1.mono (same_upd F.hv)).rp upd_same)) q
end
end VL

set_option Elab.async false
set_option linter.all false
set_option maxRecDepth 100000
set_option maxHeartbeats 4000000
/-! VL38: x = {k: v for ..} on one line. -/
namespace VL
open PySem PySem.Spec L2 PySem.W
open PyProof.Rows hiding St
section
variable {X : Cx}
theorem sw_trueD {kx vx : Expr} {gs : List Comprehension} {scope : Scope} {pos py : Pos} {y : Str} {l : Nat} {env : Env} (hk : env.scope.kind = .function) (hy : env.scope.names.lookup y = some .local) (hl : (py.line == pos.line) = true)
    (ha : (scope.names.any fun (n, k) => n == y && (k == .local || k == .cell)) = false) : swapsWith (.DictComp kx vx gs scope pos) (some (.Name y py)) l env = pure true := by
  have k1 : env.kindOf y = some .local := hy
  have k2 : env.blockKind = .function := by unfold Env.blockKind; rw [hk]; rfl
  unfold swapsWith
  simp only [k2, k1, ha, Expr.pos, hl]
  rfl
theorem ps_setDc {j : Nat} {y : Str} {py : Pos} {kx vx tg iter : Expr} {ifs : List Expr} {scope : Scope} {own : List (Str × Nat)} {pos spos : Pos} {wi : TI} {g : TG} {tt : TT} {tk tv : TE} (hc : X.calm = true) (hN : X.N.Nodup) (hy : X.N[j]? = some y) (hyl : X.env.scope.names.lookup y = some .local)
    (hsw : swapsWith (.DictComp kx vx [⟨tg, iter, ifs, 0⟩] scope pos) (some (.Name y py)) spos.line X.env = pure true) (hi : PI X tg iter wi) (ok : BlkOk X.N X.env.scope scope own)
    (hg : ∀ (s : Shared) (H : Hp) (C : Addr) (cl : List (Str × Addr)) (fp : List Addr), PG (X.blk s H scope (compEnvC scope cl C X.env) fp) tg g) (ht : ∀ (s : Shared) (H : Hp) (C : Addr) (cl : List (Str × Addr)) (fp : List Addr), PTs (X.blk s H scope (compEnvC scope cl C X.env) fp) ifs tt)
    (hk : ∀ (s : Shared) (H : Hp) (C : Addr) (cl : List (Str × Addr)) (fp : List Addr), PE (X.blk s H scope (compEnvC scope cl C X.env) fp) kx tk) (he : ∀ (s : Shared) (H : Hp) (C : Addr) (cl : List (Str × Addr)) (fp : List Addr), PE (X.blk s H scope (compEnvC scope cl C X.env) fp) vx tv)
    (hs : ∀ x, foldedSetIterable iter X.env x = pure x := by intro _; rfl) :
    PS X (.Assign [.Name y py] (.DictComp kx vx [⟨tg, iter, ifs, 0⟩] scope pos) spos) (tAsg (tDc wi g tt tk tv (own.map (·.2))) (gName j)) := by
  refine ⟨fun pins s σ H D I h => ?_⟩
  rw [exec_Assign_Name_used _ _ _ _ hsw]
  refine wpAny_bind (wpAny_standAt (wpAny_bind ?_))
  show wpAny _ X.A (do let _ ← comprehension (.DictComp kx vx [⟨tg, iter, ifs, 0⟩] scope pos) scope X.env (firstIterPos [⟨tg, iter, ifs, 0⟩] pos) newDict false (eval iter X.env) (some (assign (.Name y py) X.env))) _ _ s
  have h2 : tDc wi g tt tk tv (own.map (·.2)) σ H (fun x H1 => gName j x σ H1 D.nx) := h
  refine wpAny_bind (thn (dc_core (Qf := fun _ s' => SP X pins D .next s') hc hN I hi ok hg ht hk he hs h2 fun L C s' m H' I' q hn f => ?_) fun _ s' hq => wpAny_pure (wpAny_pure hq))
  obtain ⟨f0, f1, f2, f3, f4, f5⟩ := f
  show wpAny _ _ (assign (.Name y py) X.env (.ref L)) _ _ _
  refine wpAny_assign_Name (store_ok2 (v := V.ref L) I' hN hy (.inl hyl) rfl (fun s2 I2 ⟨a, sb, ha⟩ => ?_) (.inr hyl))
  have ne : C ≠ a := by
    rcases ha with z | z
    · rw [z]; exact f1
    · exact fun e => f4 y a z e.symm
  exact ⟨m, hn.sameBut sb ne, fun h3 sb3 => ⟨_, H', I2.turned (t' := s2.toks) (fun b o hb e => (sb3.2 b hb).trans e) f0 f1 f3 f4 f5, q⟩⟩
end
section
variable {W : Wc} {X : Cx}
theorem ds_setDc {j : Nat} {y : Str} {py : Pos} {kx vx tg iter : Expr} {ifs : List Expr} {scope : Scope} {own : List (Str × Nat)} {pos spos : Pos} {wi : TI} {di : TDF} {g : TG} {gd : TDG} {tt : TT} {td : TDT} {tk tv : TE} {dk dv : TDE} {is : List Nat} (hc : X.calm = true) (hN : X.N.Nodup) (hy : X.N[j]? = some y) (hyl : X.env.scope.names.lookup y = some .local)
    (hsw : swapsWith (.DictComp kx vx [⟨tg, iter, ifs, 0⟩] scope pos) (some (.Name y py)) spos.line X.env = pure true) (hi : DI W X tg iter wi di) (ok : BlkOk X.N X.env.scope scope own)
    (hg : ∀ (s : Shared) (H : Hp) (C : Addr) (cl : List (Str × Addr)) (fp : List Addr), DG W (X.blk s H scope (compEnvC scope cl C X.env) fp) tg g gd is) (ht : ∀ (s : Shared) (H : Hp) (C : Addr) (cl : List (Str × Addr)) (fp : List Addr), DTs W (X.blk s H scope (compEnvC scope cl C X.env) fp) ifs tt td)
    (hk : ∀ (s : Shared) (H : Hp) (C : Addr) (cl : List (Str × Addr)) (fp : List Addr), DE W (X.blk s H scope (compEnvC scope cl C X.env) fp) kx tk dk) (he : ∀ (s : Shared) (H : Hp) (C : Addr) (cl : List (Str × Addr)) (fp : List Addr), DE W (X.blk s H scope (compEnvC scope cl C X.env) fp) vx tv dv)
    (hv : ∀ j ∈ is, j ∈ own.map (·.2)) (hs : ∀ x, foldedSetIterable iter X.env x = pure x := by intro _; rfl) :
    DS W X (.Assign [.Name y py] (.DictComp kx vx [⟨tg, iter, ifs, 0⟩] scope pos) spos) (tAsg (tDc wi g tt tk tv (own.map (·.2))) (gName j)) (rdSetOwn (rdDc di gd td dk dv (own.map (·.2))) j) := by
  have L := ad_dc (K := X.K) (W := W) (tg := tg) (iter := iter) hi.ad (hg X.s_0 (fun _ => none) 0 [] []).ad (ht X.s_0 (fun _ => none) 0 [] []).ad (hk X.s_0 (fun _ => none) 0 [] []).ad (he X.s_0 (fun _ => none) 0 [] []).ad hv
  refine ⟨ps_setDc hc hN hy hyl hsw hi.pi ok (fun s H C cl fp => (hg s H C cl fp).pg) (fun s H C cl fp => (ht s H C cl fp).pt) (fun s H C cl fp => (hk s H C cl fp).pe) (fun s H C cl fp => (he s H C cl fp).pe) hs, fun Γ σ Hv H E E' Z h l => ?_⟩
  exact L Γ σ Hv H _ _ Z h fun p u d Γ1 Hv1 H1 s1 hn hp r1 F q => l.nx _ _ _ _ (s1.keepOwn F hp r1 hn) q
theorem ds_setDcD {j : Nat} {y : Str} {py : Pos} {kx vx tg iter : Expr} {ifs : List Expr} {scope : Scope} {own : List (Str × Nat)} {pos spos : Pos} {wi : TI} {di : TDF} {g : TG} {gd : TDG} {tt : TT} {td : TDT} {tk tv : TE} {dk dv : TDE} {is : List Nat} (hc : X.calm = true) (hN : X.N.Nodup) (hy : X.N[j]? = some y) (hyl : X.env.scope.names.lookup y = some .local)
    (hsw : swapsWith (.DictComp kx vx [⟨tg, iter, ifs, 0⟩] scope pos) (some (.Name y py)) spos.line X.env = pure true) (hi : DI W X tg iter wi di) (ok : BlkOk X.N X.env.scope scope own)
    (hg : ∀ (s : Shared) (H : Hp) (C : Addr) (cl : List (Str × Addr)) (fp : List Addr), DG W (X.blk s H scope (compEnvC scope cl C X.env) fp) tg g gd is) (ht : ∀ (s : Shared) (H : Hp) (C : Addr) (cl : List (Str × Addr)) (fp : List Addr), DTs W (X.blk s H scope (compEnvC scope cl C X.env) fp) ifs tt td)
    (hk : ∀ (s : Shared) (H : Hp) (C : Addr) (cl : List (Str × Addr)) (fp : List Addr), DE W (X.blk s H scope (compEnvC scope cl C X.env) fp) kx tk dk) (he : ∀ (s : Shared) (H : Hp) (C : Addr) (cl : List (Str × Addr)) (fp : List Addr), DE W (X.blk s H scope (compEnvC scope cl C X.env) fp) vx tv dv)
    (hv : ∀ j ∈ is, j ∈ own.map (·.2)) (hs : ∀ x, foldedSetIterable iter X.env x = pure x := by intro _; rfl) :
    DS W X (.Assign [.Name y py] (.DictComp kx vx [⟨tg, iter, ifs, 0⟩] scope pos) spos) (tAsg (tDc wi g tt tk tv (own.map (·.2))) (gName j)) (rdAsg (rdShare (rdDc di gd td dk dv (own.map (·.2)))) (rgName j)) := by
  have L := ad_dc (K := X.K) (W := W) (tg := tg) (iter := iter) hi.ad (hg X.s_0 (fun _ => none) 0 [] []).ad (ht X.s_0 (fun _ => none) 0 [] []).ad (hk X.s_0 (fun _ => none) 0 [] []).ad (he X.s_0 (fun _ => none) 0 [] []).ad hv
  refine ⟨ps_setDc hc hN hy hyl hsw hi.pi ok (fun s H C cl fp => (hg s H C cl fp).pg) (fun s H C cl fp => (ht s H C cl fp).pt) (fun s H C cl fp => (hk s H C cl fp).pe) (fun s H C cl fp => (he s H C cl fp).pe) hs, fun Γ σ Hv H E E' Z h l => ?_⟩
  exact L Γ σ Hv H _ _ Z h fun p u d Γ1 Hv1 H1 s1 hn hp r1 F q => l.nx _ _ _ _ ((s1.share F hp hn).set (i := j) ((r1.mono (same_upd F.hv)).rp upd_same)) q
end
end VL

set_option Elab.async false
set_option linter.all false
set_option maxRecDepth 100000
set_option maxHeartbeats 4000000
/-! VT1: the plain law of lines: heaps merged, lines known; no program in sight. -/
namespace VL
open PySem
/-! ### small association lists -/
def get {α : Type} : List (Str × α) → Str → Option α
  | [], _ => none
  | (k, v) :: r, n => if k = n then some v else get r n
def dom {α : Type} (B : List (Str × α)) : List Str := B.map (·.1)
section
variable {α : Type} {B C : List (Str × α)} {n m : Str} {v : α}
theorem get_none : get B n = none ↔ n ∉ dom B := by
  induction B with
  | nil => simp [get, dom]
  | cons p r ih =>
    obtain ⟨k, w⟩ := p
    unfold get
    by_cases h : k = n
    · subst h; simp [dom]
    · rw [if_neg h, ih]
      simp only [dom, List.map_cons, List.mem_cons, not_or]
      exact ⟨fun q => ⟨fun e => h e.symm, q⟩, fun q => q.2⟩
theorem get_some : (∃ v, get B n = some v) ↔ n ∈ dom B := by
  by_cases h : n ∈ dom B
  · refine ⟨fun _ => h, fun _ => ?_⟩
    cases e : get B n with
    | none => exact absurd h (get_none.mp e)
    | some v => exact ⟨v, rfl⟩
  · refine ⟨fun ⟨v, e⟩ => ?_, fun q => absurd q h⟩
    rw [get_none.mpr h] at e
    cases e
theorem get_dom (e : get B n = some v) : n ∈ dom B := get_some.mp ⟨v, e⟩
theorem get_mem (e : get B n = some v) : (n, v) ∈ B := by
  induction B with
  | nil => cases e
  | cons p r ih =>
    obtain ⟨k, w⟩ := p
    unfold get at e
    by_cases h : k = n
    · rw [if_pos h] at e; cases e; subst h; exact List.mem_cons_self
    · rw [if_neg h] at e; exact List.mem_cons_of_mem _ (ih e)
theorem get_of (nd : (dom B).Nodup) (h : (n, v) ∈ B) : get B n = some v := by
  induction B with
  | nil => cases h
  | cons p r ih =>
    obtain ⟨k, w⟩ := p
    have nd2 := List.nodup_cons.mp nd
    unfold get
    rcases List.mem_cons.mp h with e | h
    · cases e; rw [if_pos rfl]
    · have : k ≠ n := fun e => nd2.1 (by subst e; exact List.mem_map.mpr ⟨_, h, rfl⟩)
      rw [if_neg this]
      exact ih nd2.2 h
theorem get_app (h : n ∉ dom B) : get (B ++ C) n = get C n := by
  induction B with
  | nil => rfl
  | cons p r ih =>
    obtain ⟨k, w⟩ := p
    have h2 : n ≠ k ∧ n ∉ dom r := by simpa [dom] using h
    show (if k = n then some w else get (r ++ C) n) = _
    rw [if_neg (fun e => h2.1 e.symm), ih h2.2]
theorem get_app_l (h : n ∈ dom B) : get (B ++ C) n = get B n := by
  induction B with
  | nil => cases h
  | cons p r ih =>
    obtain ⟨k, w⟩ := p
    show (if k = n then some w else get (r ++ C) n) = if k = n then some w else get r n
    by_cases e : k = n
    · rw [if_pos e, if_pos e]
    · rw [if_neg e, if_neg e]
      refine ih ?_
      rcases List.mem_cons.mp h with q | q
      · exact absurd q.symm e
      · exact q
theorem dom_app : dom (B ++ C) = dom B ++ dom C := List.map_append
end
/-! ### rows merged -/
abbrev Rows' := List (List Str)
/-- x heads some row and stands in no tail -/
def good (rows : Rows') (x : Str) : Prop := (∃ r ∈ rows, r.head? = some x) ∧ ∀ r ∈ rows, x ∉ r.tail
instance (rows : Rows') (x : Str) : Decidable (good rows x) := by unfold good; infer_instance
/-- the first head that stands in no tail -/
def hdF (rows : Rows') : List Str → Option Str
  | [] => none
  | x :: _ => if ∀ o ∈ rows, x ∉ o.tail then some x else none
def hdOf (rows : Rows') : Option Str := rows.findSome? (hdF rows)
def without (x : Str) (rows : Rows') : Rows' := rows.map fun r => r.filter fun y => !decide (y = x)
inductive Mrg : Rows' → Option (List Str) → Prop where
  | done {rows} : (∀ r ∈ rows, r = []) → Mrg rows (some [])
  | stuck {rows} : (∃ r ∈ rows, r ≠ []) → hdOf rows = none → Mrg rows none
  | step {rows x o} : hdOf rows = some x → Mrg (without x rows) o → Mrg rows (o.map (x :: ·))
theorem hdOf_good {rows : Rows'} {x : Str} (h : hdOf rows = some x) : good rows x := by
  obtain ⟨r, hr, e⟩ := List.exists_of_findSome?_eq_some h
  cases r with
  | nil => cases e
  | cons y t =>
    have e : (if ∀ o ∈ rows, y ∉ o.tail then some y else none) = some x := e
    by_cases g : ∀ o ∈ rows, y ∉ o.tail
    · rw [if_pos g] at e
      cases e
      exact ⟨⟨_, hr, rfl⟩, g⟩
    · rw [if_neg g] at e; cases e
theorem hdOf_empty {rows : Rows'} (h : ∀ r ∈ rows, r = []) : hdOf rows = none := by
  refine List.findSome?_eq_none_iff.mpr fun r hr => ?_
  rw [h r hr]
  rfl
def size (rows : Rows') : Nat := (rows.map List.length).sum
theorem size_le {p : Str → Bool} (rows : Rows') : size (rows.map fun r => r.filter p) ≤ size rows := by
  induction rows with
  | nil => exact Nat.le_refl _
  | cons r t ih =>
    have := List.length_filter_le p r
    unfold size at *
    simp only [List.map_cons, List.sum_cons]
    omega
theorem size_lt {x : Str} : ∀ {rows : Rows'}, (∃ r ∈ rows, x ∈ r) → size (without x rows) < size rows
  | [], h => by obtain ⟨r, h, _⟩ := h; cases h
  | r :: t, ⟨r', hr', hx⟩ => by
    have l1 := List.length_filter_le (fun y => !decide (y = x)) r
    have l2 := size_le (p := fun y => !decide (y = x)) t
    unfold size without at *
    simp only [List.map_cons, List.sum_cons]
    rcases List.mem_cons.mp hr' with rfl | hr'
    · have : (r'.filter fun y => !decide (y = x)).length < r'.length := List.length_filter_lt_length_iff_exists.mpr ⟨x, hx, by simp⟩
      omega
    · have := size_lt (x := x) ⟨r', hr', hx⟩
      unfold size without at this
      omega
theorem good_mem {rows : Rows'} {x : Str} (g : good rows x) : ∃ r ∈ rows, x ∈ r := by
  obtain ⟨r, hr, e⟩ := g.1
  exact ⟨r, hr, List.mem_of_mem_head? e⟩
theorem mrg_ex : ∀ (n : Nat) (rows : Rows'), size rows ≤ n → ∃ o, Mrg rows o := by
  intro n
  induction n with
  | zero =>
    intro rows h
    refine ⟨_, .done fun r hr => ?_⟩
    have : r.length ≤ size rows := by
      clear h
      unfold size
      induction rows with
      | nil => cases hr
      | cons a q ih =>
        simp only [List.map_cons, List.sum_cons]
        rcases List.mem_cons.mp hr with rfl | hr
        · omega
        · have := ih hr; omega
    exact List.length_eq_zero_iff.mp (by omega)
  | succ n ih =>
    intro rows h
    by_cases e : ∀ r ∈ rows, r = []
    · exact ⟨_, .done e⟩
    · have ne : ∃ r ∈ rows, r ≠ [] := by simpa using e
      cases q : hdOf rows with
      | none => exact ⟨_, .stuck ne q⟩
      | some x =>
        have := size_lt (good_mem (hdOf_good q))
        obtain ⟨o, ho⟩ := ih (without x rows) (by omega)
        exact ⟨_, .step q ho⟩
theorem mrg_any (rows : Rows') : ∃ o, Mrg rows o := mrg_ex _ rows (Nat.le_refl _)
theorem mrg_one {rows : Rows'} {o : Option (List Str)} (h : Mrg rows o) : ∀ {o'}, Mrg rows o' → o = o' := by
  induction h with
  | done e =>
    intro o' h'
    cases h' with
    | done _ => rfl
    | stuck ne _ => obtain ⟨r, hr, n⟩ := ne; exact absurd (e r hr) n
    | step q _ => rw [hdOf_empty e] at q; cases q
  | stuck ne q =>
    intro o' h'
    cases h' with
    | done e => obtain ⟨r, hr, n⟩ := ne; exact absurd (e r hr) n
    | stuck _ _ => rfl
    | step q' _ => rw [q] at q'; cases q'
  | step q h ih =>
    intro o' h'
    cases h' with
    | done e => rw [hdOf_empty e] at q; cases q
    | stuck _ q' => rw [q] at q'; cases q'
    | step q' h2 =>
      rw [q] at q'
      cases q'
      rw [ih h2]
/-- a row without the head: its tail, or itself -/
theorem cut_row {rows : Rows'} {x : Str} (g : good rows x) {r : List Str} (hr : r ∈ rows) : r.filter (fun y => !decide (y = x)) = if r.head? = some x then r.tail else r := by
  have h := g.2 r hr
  cases r with
  | nil => rfl
  | cons y t =>
    have ht : t.filter (fun y => !decide (y = x)) = t := List.filter_eq_self.mpr fun z hz => by
      have : z ≠ x := fun e => h (by rw [← e]; exact hz)
      simp [this]
    by_cases e : y = x
    · subst e
      simp [ht]
    · simp [e, ht]
theorem mem_without {x y : Str} {rows : Rows'} {r : List Str} (h : r ∈ without x rows) (hy : y ∈ r) : y ≠ x ∧ ∃ r' ∈ rows, y ∈ r' := by
  obtain ⟨r', hr', rfl⟩ := List.mem_map.mp h
  have := List.mem_filter.mp hy
  exact ⟨by simpa using this.2, r', hr', this.1⟩
theorem mrg_mem {rows : Rows'} {o : Option (List Str)} (h : Mrg rows o) : ∀ {l}, o = some l → (∀ y, y ∈ l ↔ ∃ r ∈ rows, y ∈ r) ∧ l.Nodup ∧ ∀ r ∈ rows, r.Sublist l := by
  induction h with
  | done e =>
    intro l q
    cases q
    refine ⟨fun y => ⟨(fun h => by cases h), fun ⟨r, hr, hy⟩ => by rw [e r hr] at hy; exact hy⟩, List.Pairwise.nil, fun r hr => by rw [e r hr]; exact List.nil_sublist _⟩
  | stuck _ _ => intro l q; cases q
  | step q h ih =>
    rename_i rows x o
    intro l e
    cases o with
    | none => cases e
    | some l' =>
      cases e
      obtain ⟨i1, i2, i3⟩ := ih rfl
      have g := hdOf_good q
      refine ⟨fun y => ⟨fun hy => ?_, fun ⟨r, hr, hy⟩ => ?_⟩, List.nodup_cons.mpr ⟨fun hx => ?_, i2⟩, fun r hr => ?_⟩
      · rcases List.mem_cons.mp hy with rfl | hy
        · exact good_mem g
        · obtain ⟨r, hr, hy⟩ := (i1 y).mp hy
          exact (mem_without hr hy).2
      · by_cases e : y = x
        · exact List.mem_cons.mpr (.inl e)
        · exact List.mem_cons_of_mem _ ((i1 y).mpr ⟨_, List.mem_map.mpr ⟨r, hr, rfl⟩, List.mem_filter.mpr ⟨hy, by simpa using e⟩⟩)
      · obtain ⟨r, hr, hy⟩ := (i1 x).mp hx
        exact (mem_without hr hy).1 rfl
      · have s := i3 _ (List.mem_map.mpr ⟨r, hr, rfl⟩)
        rw [cut_row g hr] at s
        cases r with
        | nil => exact List.nil_sublist _
        | cons y t =>
          by_cases e : y = x
          · subst e
            rw [if_pos (show (y :: t).head? = some y from rfl)] at s
            exact List.Sublist.cons_cons _ s
          · rw [if_neg (by simpa using e)] at s
            exact s.cons _
/-! ### lines known -/
abbrev Bs := List (Str × List Str)
/-- the rows of a name with these bases -/
def rowsOf (K : Bs) (bs : List Str) : Rows' := bs.map (fun b => (get K b).getD []) ++ [bs]
inductive Good (B : Bs) : Bs → Prop where
  | nil : Good B []
  | snoc {K n bs t} : Good B K → n ∉ dom K → get B n = some bs → (∀ b ∈ bs, b ∈ dom K) → Mrg (rowsOf K bs) (some t) → Good B (K ++ [(n, n :: t)])
/-- nothing more can be known -/
def Closed (B K : Bs) : Prop := ∀ n bs, get B n = some bs → n ∉ dom K → (∀ b ∈ bs, b ∈ dom K) → Mrg (rowsOf K bs) none
section
variable {B B' K K' : Bs} {n m b x : Str} {bs l t : List Str}
theorem rowsOf_same (h : ∀ b ∈ bs, get K b = get K' b) : rowsOf K bs = rowsOf K' bs := by
  unfold rowsOf
  rw [List.map_congr_left fun b hb => by rw [h b hb]]
theorem Good.dom_sub (g : Good B K) : ∀ n ∈ dom K, n ∈ dom B := by
  induction g with
  | nil => intro n h; cases h
  | snoc g hn hb hs hm ih =>
    intro n h
    rw [dom_app] at h
    rcases List.mem_append.mp h with h | h
    · exact ih n h
    · rw [List.mem_singleton.mp h]; exact get_dom hb
theorem Good.nodup (g : Good B K) : (dom K).Nodup := by
  induction g with
  | nil => exact .nil
  | snoc g hn hb hs hm ih =>
    rename_i K n bs t
    rw [dom_app]
    refine List.nodup_append.mpr ⟨ih, List.pairwise_singleton _ _, fun a ha b hb e => ?_⟩
    have hb := List.mem_singleton.mp hb
    exact hn (by rw [show n = a from hb.symm.trans e.symm]; exact ha)
theorem Good.unique (g : Good B K) (g' : Good B K') (c' : Closed B K') : ∀ n ∈ dom K, n ∈ dom K' ∧ get K' n = get K n := by
  induction g with
  | nil => intro n h; cases h
  | snoc g hn hb hs hm ih =>
    rename_i K n bs t
    intro m h
    rw [dom_app] at h
    rcases List.mem_append.mp h with h | h
    · rw [get_app_l h]; exact ih m h
    · rw [List.mem_singleton.mp h, get_app hn]
      show n ∈ dom K' ∧ get K' n = if n = n then some (n :: t) else none
      rw [if_pos rfl]
      have same : rowsOf K' bs = rowsOf K bs := rowsOf_same fun b hbb => (ih b (hs b hbb)).2
      have all : ∀ b ∈ bs, b ∈ dom K' := fun b hbb => (ih b (hs b hbb)).1
      have hin : n ∈ dom K' := by
        refine Classical.byContradiction fun no => ?_
        have := c' n bs hb no all
        rw [same] at this
        cases mrg_one hm this
      refine ⟨hin, ?_⟩
      -- the entry of n in K'
      have ent : ∀ {K2 : Bs}, Good B K2 → n ∈ dom K2 → ∃ K3 t3, (∀ b ∈ bs, b ∈ dom K3) ∧ (∀ b ∈ dom K3, get K2 b = get K3 b) ∧ Mrg (rowsOf K3 bs) (some t3) ∧ get K2 n = some (n :: t3) := by
        intro K2 g2
        induction g2 with
        | nil => intro h; cases h
        | snoc g2 hn2 hb2 hs2 hm2 ih2 =>
          rename_i K4 n4 bs4 t4
          intro h
          by_cases e : n ∈ dom K4
          · obtain ⟨K3, t3, a1, a2, a3, a4⟩ := ih2 e
            refine ⟨K3, t3, a1, fun b hb3 => ?_, a3, by rw [get_app_l e]; exact a4⟩
            have : b ∈ dom K4 := by
              rw [← get_some]
              obtain ⟨v, ev⟩ := get_some.mpr hb3
              exact ⟨v, by rw [a2 b hb3]; exact ev⟩
            rw [get_app_l this]; exact a2 b hb3
          · rw [dom_app] at h
            rcases List.mem_append.mp h with h | h
            · exact absurd h e
            · have e4 : n = n4 := List.mem_singleton.mp h
              subst e4
              rw [hb] at hb2
              cases hb2
              refine ⟨K4, t4, hs2, fun b hb3 => get_app_l hb3, hm2, ?_⟩
              rw [get_app hn2]
              show (if n = n then some (n :: t4) else none) = _
              rw [if_pos rfl]
      obtain ⟨K3, t3, a1, a2, a3, a4⟩ := ent g' hin
      have same3 : rowsOf K3 bs = rowsOf K bs := rowsOf_same fun b hbb => by rw [← a2 b (a1 b hbb)]; exact (ih b (hs b hbb)).2
      rw [same3] at a3
      cases mrg_one hm a3
      exact a4
/-- how the lines of a known table stand to one another -/
theorem Good.entry (g : Good B K) : ∀ n ∈ dom K, ∃ bs t, get B n = some bs ∧ (∀ b ∈ bs, b ∈ dom K) ∧ get K n = some (n :: t) ∧ Mrg (rowsOf K bs) (some t) := by
  induction g with
  | nil => intro n h; cases h
  | snoc g hn hb hs hm ih =>
    rename_i K n bs t
    intro m h
    rw [dom_app] at h
    rcases List.mem_append.mp h with h | h
    · obtain ⟨bs2, t2, a1, a2, a3, a4⟩ := ih m h
      refine ⟨bs2, t2, a1, fun b hb => by rw [dom_app]; exact List.mem_append_left _ (a2 b hb), by rw [get_app_l h]; exact a3, ?_⟩
      rw [rowsOf_same fun b hb => get_app_l (a2 b hb)]
      exact a4
    · rw [List.mem_singleton.mp h]
      refine ⟨bs, t, hb, fun b hb => by rw [dom_app]; exact List.mem_append_left _ (hs b hb), ?_, ?_⟩
      · rw [get_app hn]
        show (if n = n then some (n :: t) else none) = _
        rw [if_pos rfl]
      · rw [rowsOf_same fun b hb => get_app_l (hs b hb)]
        exact hm
/-- what stands in a line: known names; no name twice; every line a part of the lines of those who have it -/
theorem Good.lines (g : Good B K) : ∀ n l, get K n = some l → l.Nodup ∧ (∀ x ∈ l, x ∈ dom K) ∧ ∀ x ∈ l, ∀ lx, get K x = some lx → lx.Sublist l := by
  induction g with
  | nil => intro n l h; cases h
  | snoc g hn hb hs hm ih =>
    rename_i K n bs t
    have sub : ∀ x ∈ t, x ∈ dom K := fun x hx => by
      obtain ⟨r, hr, hx⟩ := ((mrg_mem hm rfl).1 x).mp hx
      rcases List.mem_append.mp hr with hr | hr
      · obtain ⟨b, hb2, rfl⟩ := List.mem_map.mp hr
        obtain ⟨lb, eb⟩ := get_some.mpr (hs b hb2)
        rw [eb] at hx
        exact (ih b lb eb).2.1 x hx
      · rw [List.mem_singleton.mp hr] at hx
        exact hs x hx
    intro m l h
    by_cases hm' : m ∈ dom K
    · rw [get_app_l hm'] at h
      obtain ⟨a1, a2, a3⟩ := ih m l h
      refine ⟨a1, fun x hx => by rw [dom_app]; exact List.mem_append_left _ (a2 x hx), fun x hx lx e => ?_⟩
      rw [get_app_l (a2 x hx)] at e
      exact a3 x hx lx e
    · rw [get_app hm'] at h
      have h : (if n = m then some (n :: t) else none) = some l := h
      by_cases e : n = m
      · rw [if_pos e] at h
        cases h
        subst e
        obtain ⟨b1, b2, b3⟩ := mrg_mem hm rfl
        refine ⟨List.nodup_cons.mpr ⟨fun h => hn (sub n h), b2⟩, fun x hx => ?_, fun x hx lx ex => ?_⟩
        · rw [dom_app]
          rcases List.mem_cons.mp hx with rfl | hx
          · exact List.mem_append_right _ (List.mem_singleton.mpr rfl)
          · exact List.mem_append_left _ (sub x hx)
        · rcases List.mem_cons.mp hx with rfl | hx
          · rw [get_app hm'] at ex
            have ex : (if x = x then some (x :: t) else none) = some lx := ex
            rw [if_pos rfl] at ex
            cases ex
            exact List.Sublist.refl _
          · rw [get_app_l (sub x hx)] at ex
            obtain ⟨r, hr, hxr⟩ := (b1 x).mp hx
            refine List.Sublist.cons _ ?_
            rcases List.mem_append.mp hr with hr2 | hr2
            · obtain ⟨b, hb2, er⟩ := List.mem_map.mp hr2
              obtain ⟨lb, eb⟩ := get_some.mpr (hs b hb2)
              rw [eb] at er
              have er : lb = r := er
              subst er
              exact ((ih b lb eb).2.2 x hxr lx ex).trans (b3 _ hr)
            · have er := List.mem_singleton.mp hr2
              subst er
              have : (get K x).getD [] ∈ rowsOf K r := List.mem_append_left _ (List.mem_map.mpr ⟨x, hxr, rfl⟩)
              rw [ex] at this
              exact b3 _ this
      · rw [if_neg e] at h; cases h
end
end VL

set_option Elab.async false
set_option linter.all false
set_option maxRecDepth 100000
set_option maxHeartbeats 4000000
/-! VL39: readings that come to one value and leave the slots: a small logic of values. -/
namespace VL
open PySem PySem.Spec L2 PySem.W
open PyProof.Rows hiding St
/-- te comes to d, the slots as they were -/
def Vl (te : TDE) (Γ : Gm) (d : D) : Prop := ∀ Q : D → Gm → Prop, Q d Γ → te Γ Q
def VT (tt : TDT) (Γ : Gm) (b : Bool) : Prop := ∀ Q : Bool → Gm → Prop, Q b Γ → tt Γ Q
def VA (ta : TDF) (Γ : Gm) (ds : List D) : Prop := ∀ Q : List D → Gm → Prop, Q ds Γ → ta Γ Q
def VO (t : TDO) (Γ : Gm) (o : Option Int) : Prop := ∀ Q : Option Int → Gm → Prop, Q o Γ → t Γ Q
/-- an operation's value -/
def V2 (rd : RD2) (x y d : D) : Prop := ∀ Q : D → Prop, Q d → rd x y Q
def VC (rd : List D → (D → Prop) → Prop) (ds : List D) (d : D) : Prop := ∀ Q : D → Prop, Q d → rd ds Q
def VS (rd : D → Option Int → Option Int → (D → Prop) → Prop) (x : D) (lo hi : Option Int) (d : D) : Prop := ∀ Q : D → Prop, Q d → rd x lo hi Q
section
variable {Γ : Gm} {i j : Nat} {d x y z v : D} {ta tb tc : TDE} {tt tu : TDT} {tf : TDF} {ds : List D} {b b1 b2 : Bool} {rd r1 r2 : RD2}
theorem vl_var (h : Γ[i]? = some (.dat d)) : Vl (rdVar i) Γ d := fun Q q => by unfold rdVar; rw [h]; exact q
theorem vl_c : Vl (rdC d) Γ d := fun Q q => q
theorem vl_sh (h : Vl ta Γ d) : Vl (rdShare ta) Γ d := h
theorem vl_op (ha : Vl ta Γ x) (hb : Vl tb Γ y) (h : V2 rd x y d) : Vl (rdOp rd ta tb) Γ d := fun Q q => ha _ (hb _ (h _ q))
theorem vl_chain (ha : Vl ta Γ x) (hb : Vl tb Γ y) (h1 : V2 r1 x y (.bl b1)) (hc : b1 = true → Vl tc Γ z) (h2 : b1 = true → V2 r2 y z (.bl b2)) : Vl (rdChain r1 r2 ta tb tc) Γ (.bl (b1 && b2)) := fun Q q => by
  refine ha _ (hb _ (h1 _ ?_))
  show if b1 = true then tc Γ (fun dz Γ3 => r2 y dz fun e => Q e Γ3) else Q (.bl false) Γ
  cases b1 with
  | false => exact q
  | true => exact hc rfl _ (h2 rfl _ q)
theorem vl_and (ha : Vl ta Γ (.bl b1)) (hb : b1 = true → Vl tb Γ (.bl b2)) : Vl (rdAndV ta tb) Γ (.bl (b1 && b2)) := fun Q q => andV_ok b1 b2 (fun K k => ha K k) (fun e K k => hb e K k) q
theorem vl_or (ha : Vl ta Γ (.bl b1)) (hb : b1 = false → Vl tb Γ (.bl b2)) : Vl (rdOrV ta tb) Γ (.bl (b1 || b2)) := fun Q q => orV_ok b1 b2 (fun K k => ha K k) (fun e K k => hb e K k) q
theorem vl_if (hc : VT tt Γ b) (ha : b = true → Vl ta Γ x) (hb : b = false → Vl tb Γ y) : Vl (rdIf tt ta tb) Γ (if b = true then x else y) := fun Q q => by
  refine hc _ ?_
  cases b with
  | false => exact hb rfl _ q
  | true => exact ha rfl _ q
theorem vl_notV (ha : Vl ta Γ (.bl b)) : Vl (rdNotV ta) Γ (.bl (!b)) := fun Q q => ha _ q
theorem vl_neg {n : Int} (ha : Vl ta Γ (.int n)) : Vl (rdNeg ta) Γ (.int (-n)) := fun Q q => ha _ q
theorem vt_test (ha : Vl ta Γ (.bl b)) : VT (rdTest ta) Γ b := fun Q q => ha _ q
theorem vt_not (ha : VT tt Γ b) : VT (rdNot tt) Γ (!b) := fun Q q => ha _ q
theorem vt_and (ha : VT tt Γ b1) (hb : b1 = true → VT tu Γ b2) : VT (rdAnd tt tu) Γ (b1 && b2) := fun Q q => by
  refine ha _ ?_
  cases b1 with
  | false => exact q
  | true => exact hb rfl _ q
theorem vt_or (ha : VT tt Γ b1) (hb : b1 = false → VT tu Γ b2) : VT (rdOr tt tu) Γ (b1 || b2) := fun Q q => by
  refine ha _ ?_
  cases b1 with
  | true => exact q
  | false => exact hb rfl _ q
theorem vt_yes : VT (fun Γ Q => Q true Γ) Γ true := fun Q q => q
theorem va_nil : VA rdNil Γ [] := fun Q q => q
theorem va_cons (ha : Vl ta Γ d) (hr : VA tf Γ ds) : VA (rdCons ta tf) Γ (d :: ds) := fun Q q => ha _ (hr _ q)
theorem vl_tup (h : VA tf Γ ds) (hs : small ds.length) : Vl (rdTup tf) Γ (.tup ds) := fun Q q => h _ ⟨hs, q⟩
theorem vl_lst (h : VA tf Γ ds) (hs : small ds.length) : Vl (rdLst tf) Γ (.lst ds) := fun Q q => h _ ⟨hs, q⟩
theorem vl_cb {r : List D → (D → Prop) → Prop} (h : VA tf Γ ds) (hc : VC r ds d) : Vl (rdCB r tf) Γ d := fun Q q => h _ (hc _ q)
theorem vl_cf {r : List D → (D → Prop) → Prop} (h : VA tf Γ ds) (hc : VC r ds d) : Vl (rdCF r tf) Γ d := fun Q q => h _ (hc _ q)
theorem vl_call {F : FD} (h : VA tf Γ ds) (hc : VC F ds d) : Vl (rdCall F [] tf) Γ d := fun Q q => h _ (by rw [List.append_nil]; exact hc _ q)
theorem vo_no : VO rdNoPart Γ none := fun Q q => q
theorem vo_some {n : Int} (h : Vl ta Γ (.int n)) : VO (rdPart ta) Γ (some n) := fun Q q => h _ q
theorem vl_sl {r : D → Option Int → Option Int → (D → Prop) → Prop} {tl th : TDO} {lo hi : Option Int} (h : Vl ta Γ x) (hl : VO tl Γ lo) (hh : VO th Γ hi) (hs : VS r x lo hi d) : Vl (rdSl r ta tl th) Γ d := fun Q q => h _ (hl _ (hh _ (hs _ q)))
theorem vl_fld {cn f : Str} {ns : List Str} {es : List D} (h : Vl ta Γ (.obj cn ns es)) (hf : lookF ns es f = some v) : Vl (rdFld cn f ta) Γ v := fun Q q => h _ ⟨rfl, v, hf, q⟩
theorem vl_meth {cn m : Str} {F : FD} {ns : List Str} {es : List D} (h : Vl ta Γ (.obj cn ns es)) (hm : m ∉ ns) (ha : VA tf Γ ds) (hc : VC F (.obj cn ns es :: ds) d) : Vl (rdMeth cn m F [] ta tf) Γ d := fun Q q => h _ ⟨rfl, hm, ha _ (by rw [List.append_nil]; exact hc _ q)⟩
theorem vi_any {L : List D} (h : Vl ta Γ d) (hi : ∀ k : List D → Prop, k L → asIt d k) : VA (rdIAny ta) Γ L := fun Q q => h _ (hi _ q)
theorem vi_enumL {L : List D} (h : VA tf Γ [.lst L]) : VA (rdIEnumT tf) Γ (enumD L) := fun Q q => h _ q
theorem vi_enumT {L : List D} (h : VA tf Γ [.tup L]) : VA (rdIEnumT tf) Γ (enumD L) := fun Q q => h _ q
theorem vi_rng {n : Nat} (h : VA tf Γ [.int n]) (hn : n < 2 ^ 62) : VA (rdIRng tf) Γ (rangeD n) := fun Q q => h _ ⟨by omega, by rw [Int.toNat_natCast]; exact q⟩
/-! own slots looked at -/
theorem vl_pkL (hp : pkG Γ i fun d => d = x) (hb : Vl tb Γ y) (h : V2 rd x y (.bl b)) : Vl (rdPkL rd i tb) Γ (.bl b) := fun Q q => by
  have hx : ∀ k : D → Prop, k x → pkG Γ i k := fun k hk => by
    unfold pkG at hp ⊢
    split at hp <;> first | (subst hp; exact hk) | exact hp.elim
  exact ⟨hx _ True.intro, hb _ (hx _ (h _ q))⟩
theorem vl_pkR (ha : Vl ta Γ x) (hp : pkG Γ i fun d => d = y) (h : V2 rd x y (.bl b)) : Vl (rdPkR rd ta i) Γ (.bl b) := fun Q q => by
  have hx : ∀ k : D → Prop, k y → pkG Γ i k := fun k hk => by
    unfold pkG at hp ⊢
    split at hp <;> first | (subst hp; exact hk) | exact hp.elim
  exact ha _ (hx _ (h _ q))
theorem vl_pkIx (hp : pkG Γ i fun d => d = x) (hb : Vl tb Γ y) (h : V2 rdIxA x y d) : Vl (rdPkIx i tb) Γ d := fun Q q => by
  have hx : ∀ k : D → Prop, k x → pkG Γ i k := fun k hk => by
    unfold pkG at hp ⊢
    split at hp <;> first | (subst hp; exact hk) | exact hp.elim
  exact ⟨hx _ True.intro, hb _ (hx _ (h _ q))⟩
theorem vl_pkLen {n : Int} (hp : pkG Γ i fun d => d = x) (h : VC rdLenB [x] (.int n)) : Vl (rdPkLen i) Γ (.int n) := fun Q q => by
  have hx : ∀ k : D → Prop, k x → pkG Γ i k := fun k hk => by
    unfold pkG at hp ⊢
    split at hp <;> first | (subst hp; exact hk) | exact hp.elim
  exact hx _ (h _ q)
theorem vl_pk1 {r : List D → (D → Prop) → Prop} (hp : pkG Γ i fun d => d = x) (h : VC r [x] d) : Vl (rdPk1 r i) Γ d := fun Q q => by
  have hx : ∀ k : D → Prop, k x → pkG Γ i k := fun k hk => by
    unfold pkG at hp ⊢
    split at hp <;> first | (subst hp; exact hk) | exact hp.elim
  exact hx _ (h _ q)
theorem vl_pkFld {cn f : Str} {ns : List Str} {es : List D} (hp : pkG Γ i fun d => d = .obj cn ns es) (hf : lookF ns es f = some v) : Vl (rdPkFld i cn f) Γ v := fun Q q => by
  have hx : ∀ k : D → Prop, k (.obj cn ns es) → pkG Γ i k := fun k hk => by
    unfold pkG at hp ⊢
    split at hp <;> first | (subst hp; exact hk) | exact hp.elim
  exact hx _ ⟨rfl, v, hf, q⟩
theorem va_bor (hp : pkG Γ i fun d => d = x) (hr : VA tf Γ ds) : VA (rdConsB i tf) Γ (x :: ds) := fun Q q => by
  have hx : ∀ k : D → Prop, k x → pkG Γ i k := fun k hk => by
    unfold pkG at hp ⊢
    split at hp <;> first | (subst hp; exact hk) | exact hp.elim
  exact ⟨hx _ True.intro, hr _ (hx _ q)⟩
/-! comprehensions over one name -/
theorem vl_lc {α : Type} {g f : α → D} {p : α → Bool} {L : List α} (hi : VA tf Γ (L.map g)) (hn : i < Γ.length) (ho : noOwn Γ [i]) (hl : L.length ≤ sizeLine)
    (ht : ∀ a ∈ L, VT tt (Γ.set i (.dat (g a))) (p a)) (he : ∀ a ∈ L, p a = true → Vl ta (Γ.set i (.dat (g a))) (f a)) : Vl (rdLc tf (rgName i) tt ta [i]) Γ (.lst ((L.filter p).map f)) := fun Q q =>
  hi _ ⟨ho, goLc_a g p f hn L [] (by show 0 + L.length ≤ _; omega) (fun a ha k hk => ht a ha k hk) (fun a ha hp k hk => he a ha hp k hk) q⟩
theorem vl_lcm {α : Type} {g f : α → D} {L : List α} (hi : VA tf Γ (L.map g)) (hn : i < Γ.length) (ho : noOwn Γ [i]) (hl : L.length ≤ sizeLine)
    (he : ∀ a ∈ L, Vl ta (Γ.set i (.dat (g a))) (f a)) : Vl (rdLc tf (rgName i) (fun Γ Q => Q true Γ) ta [i]) Γ (.lst (L.map f)) := fun Q q =>
  hi _ ⟨ho, goLc_b g f hn L hl (fun a ha k hk => he a ha k hk) q⟩
end
/-! ### statements -/
section
variable {Γ : Gm} {E : EndsD} {i : Nat} {d : D} {b : Bool} {ta : TDE} {tt : TDT} {s t : TDS}
theorem st_asg (h : Vl ta Γ d) (n : E.nx (Γ.set i (.dat d))) : rdAsg ta (rgName i) E Γ := h _ n
theorem st_ret (h : Vl ta Γ d) (n : E.rt d) : rdRet ta E Γ := h _ n
theorem st_drop (h : Vl ta Γ d) (n : E.nx Γ) : rdDrop ta E Γ := h _ n
theorem st_if (h : VT tt Γ b) (h1 : b = true → s E Γ) (h2 : b = false → t E Γ) : rdIfS tt s t E Γ := by
  refine h _ ?_
  cases b with
  | true => exact h1 rfl
  | false => exact h2 rfl
theorem st_own (h : Vl ta Γ d) (n : E.nx (Γ.set i (.own d))) : rdSetOwn ta i E Γ := h _ n
theorem st_seq (h : s { E with nx := t E } Γ) : rdSeq s t E Γ := h
end
end VL

set_option Elab.async false
set_option linter.all false
set_option maxRecDepth 100000
set_option maxHeartbeats 4000000
/-! VL40: values of operations at texts, rows of texts, dicts of them. -/
namespace VL
open PySem PySem.Spec L2 PySem.W
open PyProof.Rows hiding St
abbrev sS (xs : List Str) : List D := xs.map D.str
abbrev sT (xs : List Str) : D := .tup (xs.map D.str)
abbrev sL (xs : List Str) : D := .lst (xs.map D.str)
def okT (x : Str) : Prop := PyData.strOk x = true
def okTs (xs : List Str) : Prop := ∀ x ∈ xs, okT x
section
variable {a b x n : Str} {xs ys : List Str} {i j : Int} {neg : Bool} {ds : List D} {d y : D}
theorem okS_tup (h : okTs xs) : okE (sT xs) := (okN_tup (n := 0) fun d hd => by
  obtain ⟨x, hx, rfl⟩ := List.mem_map.mp hd
  exact okN_str (h x hx)).e (by decide)
theorem okS_lst (h : okTs xs) : okE (sL xs) := (okN_lst (n := 0) fun d hd => by
  obtain ⟨x, hx, rfl⟩ := List.mem_map.mp hd
  exact okN_str (h x hx)).e (by decide)
theorem okE_str (h : okT x) : okE (.str x) := (okN_str h).e (by decide)
theorem eqD_str : eqD (.str a) (.str b) = decide (a = b) := by
  show PyData.eqv (.str a) (.str b) = _
  simp only [PyData.eqv]
  by_cases h : a = b
  · subst h; simp
  · rw [decide_eq_false h]; exact beq_false_of_ne h
theorem eqvAll_strs : ∀ {xs ys : List Str}, PyData.eqvAll (pyAll (sS xs)) (pyAll (sS ys)) = decide (xs = ys)
  | [], [] => by unfold pyAll; simp [PyData.eqvAll]
  | [], y :: ys => by unfold pyAll; simp [PyData.eqvAll]
  | x :: xs, [] => by unfold pyAll; simp [PyData.eqvAll]
  | x :: xs, y :: ys => by
    show PyData.eqvAll (py (.str x) :: pyAll (sS xs)) (py (.str y) :: pyAll (sS ys)) = _
    simp only [PyData.eqvAll]
    rw [eqvAll_strs, show PyData.eqv (py (.str x)) (py (.str y)) = decide (x = y) from eqD_str]
    by_cases h : x = y
    · subst h
      by_cases h2 : xs = ys
      · subst h2; simp
      · simp [h2]
    · simp [h]
theorem eqD_sT : eqD (sT xs) (sT ys) = decide (xs = ys) := by
  show PyData.eqv (.tuple (pyAll (sS xs))) (.tuple (pyAll (sS ys))) = _
  simp only [PyData.eqv]
  exact eqvAll_strs
theorem eqD_sL : eqD (sL xs) (sL ys) = decide (xs = ys) := by
  show PyData.eqv (.list (pyAll (sS xs))) (.list (pyAll (sS ys))) = _
  simp only [PyData.eqv]
  exact eqvAll_strs
theorem isIn_strs : isIn (.str x) (sS xs) = decide (x ∈ xs) := by
  induction xs with
  | nil => rfl
  | cons y r ih =>
    show (eqD (.str y) (.str x) || isIn (.str x) (sS r)) = _
    rw [ih, eqD_str]
    by_cases h : y = x
    · subst h; simp
    · have h2 : ¬ x = y := fun e => h e.symm
      simp [h, h2]
theorem v2_eqS : V2 rdEq (.str a) (.str b) (.bl (decide (a = b))) := fun Q q => q
theorem v2_eqI : V2 rdEq (.int i) (.int j) (.bl (decide (i = j))) := fun Q q => q
theorem v2_neS : V2 rdNe (.str a) (.str b) (.bl (!decide (a = b))) := fun Q q => q
theorem v2_neI : V2 rdNe (.int i) (.int j) (.bl (!decide (i = j))) := fun Q q => q
theorem v2_eqL (h1 : okE (.lst ds)) (h2 : okE y) : V2 rdEq (.lst ds) y (.bl (eqD (.lst ds) y)) := fun Q q => ⟨h1, h2, q⟩
theorem v2_neL (h1 : okE (.lst ds)) (h2 : okE y) : V2 rdNe (.lst ds) y (.bl (!eqD (.lst ds) y)) := fun Q q => ⟨h1, h2, q⟩
theorem v2_eqT (h1 : okE (.tup ds)) (h2 : okE y) : V2 rdEq (.tup ds) y (.bl (eqD (.tup ds) y)) := fun Q q => ⟨h1, h2, q⟩
theorem v2_neT (h1 : okE (.tup ds)) (h2 : okE y) : V2 rdNe (.tup ds) y (.bl (!eqD (.tup ds) y)) := fun Q q => ⟨h1, h2, q⟩
theorem v2_eqL0 (h1 : okE (.lst ds)) : V2 rdEq (.lst ds) (.lst []) (.bl ds.isEmpty) := fun Q q => ⟨h1, (okN_lst (n := 0) fun d hd => by cases hd).e (by decide), by rw [eqD_nil]; exact q⟩
theorem v2_neL0 (h1 : okE (.lst ds)) : V2 rdNe (.lst ds) (.lst []) (.bl (!ds.isEmpty)) := fun Q q => ⟨h1, (okN_lst (n := 0) fun d hd => by cases hd).e (by decide), by rw [eqD_nil]; exact q⟩
theorem v2_eqSL0 (h1 : okTs xs) : V2 rdEq (sL xs) (.lst []) (.bl (decide (xs = []))) := fun Q q => v2_eqL0 (okS_lst h1) Q (by rw [List.isEmpty_map]; cases xs <;> exact q)
theorem v2_neSL0 (h1 : okTs xs) : V2 rdNe (sL xs) (.lst []) (.bl (!decide (xs = []))) := fun Q q => v2_neL0 (okS_lst h1) Q (by rw [List.isEmpty_map]; cases xs <;> exact q)
theorem v2_eqST (h1 : okTs xs) (h2 : okTs ys) : V2 rdEq (sT xs) (sT ys) (.bl (decide (xs = ys))) := fun Q q => ⟨okS_tup h1, okS_tup h2, by rw [eqD_sT]; exact q⟩
theorem v2_neST (h1 : okTs xs) (h2 : okTs ys) : V2 rdNe (sT xs) (sT ys) (.bl (!decide (xs = ys))) := fun Q q => ⟨okS_tup h1, okS_tup h2, by rw [eqD_sT]; exact q⟩
theorem v2_neSL (h1 : okTs xs) (h2 : okTs ys) : V2 rdNe (sL xs) (sL ys) (.bl (!decide (xs = ys))) := fun Q q => ⟨okS_lst h1, okS_lst h2, by rw [eqD_sL]; exact q⟩
theorem v2_inT (h1 : okT x) (h2 : okTs xs) : V2 (rdInB neg) (.str x) (sT xs) (.bl (neg ^^ decide (x ∈ xs))) := fun Q q => by
  show rdIn neg (.str x) (.tup (sS xs)) Q
  rw [rdIn_t]
  exact ⟨okE_str h1, okS_tup h2, by rw [isIn_strs]; exact q⟩
theorem v2_inL (h1 : okT x) (h2 : okTs xs) : V2 (rdInB neg) (.str x) (sL xs) (.bl (neg ^^ decide (x ∈ xs))) := fun Q q => by
  show rdIn neg (.str x) (.lst (sS xs)) Q
  rw [rdIn_l]
  exact ⟨okE_str h1, okS_lst h2, by rw [isIn_strs]; exact q⟩
theorem v2_sign {c : Nat} {z : Str} : V2 (rdInB neg) (.str ⟨#[c]⟩) (.str z) (.bl (neg ^^ decide (c ∈ z.cps.toList))) := fun Q q => ⟨c, rfl, q⟩
theorem v2_ixT {k : Nat} (h : ds[k]? = some d) : V2 rdIxA (.tup ds) (.int (k : Int)) d := fun Q q => ⟨d, by rw [atI_n]; exact h, q⟩
theorem v2_ixL {k : Nat} (h : ds[k]? = some d) : V2 rdIxA (.lst ds) (.int (k : Int)) d := fun Q q => ⟨d, by rw [atI_n]; exact h, q⟩
theorem v2_addT {es : List D} (h : ds.length + es.length ≤ sizeLine) : V2 rdAddB (.tup ds) (.tup es) (.tup (ds ++ es)) := fun Q q => ⟨h, q⟩
theorem v2_addL {es : List D} (h : ds.length + es.length ≤ sizeLine) : V2 rdAddB (.lst ds) (.lst es) (.lst (ds ++ es)) := fun Q q => ⟨h, q⟩
theorem v2_addI : V2 rdAddB (.int i) (.int j) (.int (i + j)) := fun Q q => q
theorem v2_i0 {g : Int → Int → D} : V2 (rdI0 g) (.int i) (.int j) (g i j) := fun Q q => q
theorem v2_isN : V2 (rdIsN neg) x' .non (.bl (neg ^^ isN x')) := fun Q q => q
/-! calls -/
theorem vc_lenL : VC rdLenB [.lst ds] (.int ds.length) := fun Q q => q
theorem vc_lenT : VC rdLenB [.tup ds] (.int ds.length) := fun Q q => q
theorem vc_lenD {ks : List Key} : VC rdLenB [.dic ks ds] (.int ks.length) := fun Q q => q
theorem vc_lenS (h : a.length ≤ sizeLine) : VC rdLenB [.str a] (.int a.length) := fun Q q => ⟨h, q⟩
theorem vc_listL : VC rdListB [.lst ds] (.lst ds) := fun Q q => q
theorem vc_listT : VC rdListB [.tup ds] (.lst ds) := fun Q q => q
theorem vc_listD {ks : List Key} : VC rdListB [.dic ks ds] (.lst (ks.map kD1)) := fun Q q => q
theorem vc_tupL : VC rdTuple [.lst ds] (.tup ds) := fun Q q => q
theorem vc_tupT : VC rdTuple [.tup ds] (.tup ds) := fun Q q => q
theorem vc_all {α : Type} {L : List α} {p : α → Bool} : VC rdAll [.lst (L.map fun a => D.bl (p a))] (.bl (L.all p)) := fun Q q => ⟨_, asBs_maps L p, by rw [all_id]; exact q⟩
theorem vc_any {α : Type} {L : List α} {p : α → Bool} : VC rdAny [.lst (L.map fun a => D.bl (p a))] (.bl (L.any p)) := fun Q q => ⟨_, asBs_maps L p, by rw [any_id]; exact q⟩
theorem vc_isi {T nm : String} {c : Bool} (h : tyName d = some nm) (hk : kitB nm T = some c) : VC rdIsi [d, .ty T] (.bl c) := fun Q q => ⟨nm, c, h, hk, q⟩
theorem vc_sortL : VC rdSortC [sL xs] (sL (sortT xs)) := fun Q q => ⟨okSrt_strs xs, by rw [sortT_map]; exact q⟩
theorem vc_sortT : VC rdSortC [sT xs] (sL (sortT xs)) := fun Q q => ⟨okSrt_strs xs, by rw [sortT_map]; exact q⟩
theorem keysS_inr : ∀ xs : List Str, keysS (xs.map Sum.inr) = some xs
  | [] => rfl
  | x :: r => by show (keysS (r.map Sum.inr)).map (x :: ·) = _; rw [keysS_inr r]; rfl
theorem vc_sortD (h : xs.length < 64) : VC rdSortC [.dic (xs.map Sum.inr) ds] (sL (sortT xs)) := fun Q q => ⟨xs, keysS_inr xs, h, q⟩
theorem asLs_map {L : List (List D)} : asLs (L.map D.lst) = some L := by
  induction L with
  | nil => rfl
  | cons b r ih => show (asLs (r.map D.lst)).map (b :: ·) = _; rw [ih]; rfl
theorem vc_sum {L : List (List D)} (h : ds.length + L.flatten.length ≤ sizeLine) : VC rdSumL [.lst (L.map D.lst), .lst ds] (.lst (ds ++ L.flatten)) := fun Q q => ⟨L, asLs_map, h, q⟩
/-! slices -/
theorem vs_T {k : Nat} : VS rdSlB (.tup ds) (some (k : Int)) none (.tup (ds.drop k)) := fun Q q => by
  show Q (.tup (cutD ds (some (k : Int)) none))
  rw [cutD_from]; exact q
theorem vs_Tto {k : Nat} : VS rdSlB (.tup ds) none (some (k : Int)) (.tup (ds.take k)) := fun Q q => by
  show Q (.tup (cutD ds none (some (k : Int))))
  rw [cutD_to]; exact q
theorem vs_L {k : Nat} : VS rdSlB (.lst ds) (some (k : Int)) none (.lst (ds.drop k)) := fun Q q => by
  show Q (.lst (cutD ds (some (k : Int)) none))
  rw [cutD_from]; exact q
theorem vs_Lto {k : Nat} : VS rdSlB (.lst ds) none (some (k : Int)) (.lst (ds.take k)) := fun Q q => by
  show Q (.lst (cutD ds none (some (k : Int))))
  rw [cutD_to]; exact q
/-- x[:-1] -/
theorem vs_Tinit : VS rdSlB (.tup ds) none (some (-1)) (.tup ds.dropLast) := fun Q q => by
  show Q (.tup (cutD ds none (some (-1))))
  have e : cutD ds none (some (-1)) = ds.dropLast := by
    show ((ds.drop 0).take (HT.sIx ds.length ds.length (some (-1)) - 0)) = _
    rw [List.drop_zero, Nat.sub_zero, List.dropLast_eq_take]
    congr 1
    show HT.sIx ds.length ds.length (some (-1)) = ds.length - 1
    unfold HT.sIx
    simp
    omega
  rw [e]; exact q
end
/-! ### dicts with text keys -/
def dB {α : Type} (f : α → D) (B : List (Str × α)) : D := .dic ((dom B).map Sum.inr) (B.map fun p => f p.2)
def setB {α : Type} (B : List (Str × α)) (n : Str) (v : α) : List (Str × α) := B.map fun p => if p.1 = n then (p.1, v) else p
def putB {α : Type} (B : List (Str × α)) (n : Str) (v : α) : List (Str × α) := if n ∈ dom B then setB B n v else B ++ [(n, v)]
section
variable {α : Type} {f : α → D} {B : List (Str × α)} {n m : Str} {v : α}
theorem dom_setB : dom (setB B n v) = dom B := by
  unfold dom setB
  rw [List.map_map]
  apply List.map_congr_left
  intro p _
  show (if p.1 = n then (p.1, v) else p).1 = p.1
  split <;> rfl
theorem dom_putB : dom (putB B n v) = if n ∈ dom B then dom B else dom B ++ [n] := by
  unfold putB
  by_cases h : n ∈ dom B
  · rw [if_pos h, if_pos h, dom_setB]
  · rw [if_neg h, if_neg h, dom_app]; rfl
theorem get_setB : get (setB B n v) m = if m = n then (get B m).map (fun _ => v) else get B m := by
  induction B with
  | nil => show none = if m = n then none else none; split <;> rfl
  | cons p r ih =>
    obtain ⟨k, w⟩ := p
    show get ((if k = n then (k, v) else (k, w)) :: setB r n v) m = _
    by_cases h : k = n
    · rw [if_pos h]
      show (if k = m then some v else get (setB r n v) m) = if m = n then (if k = m then some w else get r m).map (fun _ => v) else if k = m then some w else get r m
      rw [ih]
      by_cases e : k = m
      · rw [if_pos e, if_pos e, if_pos (e.symm.trans h)]; rfl
      · rw [if_neg e, if_neg e]
    · rw [if_neg h]
      show (if k = m then some w else get (setB r n v) m) = if m = n then (if k = m then some w else get r m).map (fun _ => v) else if k = m then some w else get r m
      rw [ih]
      by_cases e : k = m
      · rw [if_pos e, if_pos e, if_neg (fun z => h (e.trans z))]
      · rw [if_neg e, if_neg e]
theorem get_putB : get (putB B n v) m = if m = n then some v else get B m := by
  unfold putB
  by_cases h : n ∈ dom B
  · rw [if_pos h, get_setB]
    by_cases e : m = n
    · rw [if_pos e, if_pos e]
      subst e
      obtain ⟨w, ew⟩ := get_some.mpr h
      rw [ew]; rfl
    · rw [if_neg e, if_neg e]
  · rw [if_neg h]
    by_cases e : m = n
    · rw [if_pos e]
      subst e
      rw [get_app h]
      show (if m = m then some v else none) = _
      rw [if_pos rfl]
    · rw [if_neg e]
      by_cases hm : m ∈ dom B
      · exact get_app_l hm
      · rw [get_app hm, get_none.mpr hm]
        show (if n = m then some v else none) = none
        rw [if_neg fun z => e z.symm]
theorem hasK_dB : hasK ((dom B).map Sum.inr) (.inr n) = decide (n ∈ dom B) := by
  unfold hasK
  rw [List.any_map]
  induction dom B with
  | nil => rfl
  | cons k r ih =>
    rw [List.any_cons, ih]
    show (decide ((Sum.inr k : Key) = .inr n) || _) = _
    by_cases h : k = n
    · subst h; simp
    · have h2 : ¬ n = k := fun e => h e.symm
      simp [h, h2]
theorem valD_dB : valD ((dom B).map Sum.inr) (B.map fun p => f p.2) (.inr n) = (get B n).map f := by
  induction B with
  | nil => rfl
  | cons p r ih =>
    obtain ⟨k, w⟩ := p
    show (if (Sum.inr k : Key) = .inr n then some (f w) else valD ((dom r).map Sum.inr) (r.map fun p => f p.2) (.inr n)) = (if k = n then some w else get r n).map f
    by_cases h : k = n
    · subst h; rw [if_pos rfl, if_pos rfl]; rfl
    · rw [if_neg h, if_neg (fun e => h (Sum.inr.inj e)), ih]
theorem put_dB : D.dic (putKs ((dom B).map Sum.inr) (.inr n)) (putDs ((dom B).map Sum.inr) (B.map fun p => f p.2) (.inr n) (f v)) = dB f (putB B n v) := by
  unfold putKs putDs dB putB
  rw [hasK_dB]
  by_cases h : n ∈ dom B
  · rw [if_pos (by simpa using h), if_pos (by simpa using h), if_pos h, dom_setB]
    congr 1
    unfold setD setB dom
    rw [List.map_map, List.map_map]
    clear h
    induction B with
    | nil => rfl
    | cons p r ih =>
      rw [List.map_cons, List.map_cons, List.map_cons, List.zipWith_cons_cons, ih]
      congr 1
      show (if (Sum.inr p.1 : Key) = .inr n then f v else f p.2) = f (if p.1 = n then (p.1, v) else p).2
      by_cases e : p.1 = n
      · rw [if_pos e, if_pos (by rw [e])]
      · rw [if_neg e, if_neg (fun z => e (Sum.inr.inj z))]
  · rw [if_neg (by simpa using h), if_neg (by simpa using h), if_neg h, dom_app]
    simp [dom]
theorem v2_ixD {d : D} {w : α} (h : get B n = some w) (hd : f w = d) : V2 rdIxA (dB f B) (.str n) d := fun Q q => ⟨.inr n, d, rfl, by rw [valD_dB, h, ← hd]; rfl, q⟩
theorem v2_inD {neg : Bool} : V2 (rdInB neg) (.str n) (dB f B) (.bl (neg ^^ decide (n ∈ dom B))) := fun Q q => ⟨.inr n, rfl, by rw [hasK_dB]; exact q⟩
theorem vc_lenB : VC rdLenB [dB f B] (.int B.length) := fun Q q => by
  show Q (.int ((dom B).map Sum.inr : List Key).length)
  rw [List.length_map]
  unfold dom
  rw [List.length_map]
  exact q
theorem vc_listB : VC rdListB [dB f B] (sL (dom B)) := fun Q q => by
  show Q (.lst (((dom B).map Sum.inr).map kD1))
  rw [List.map_map]
  exact q
theorem vc_sortB (h : B.length < 64) : VC rdSortC [dB f B] (sL (sortT (dom B))) := vc_sortD (by unfold dom; rw [List.length_map]; exact h)
theorem it_dB {k : List D → Prop} (h : k (sS (dom B))) : asIt (dB f B) k := by
  show k (((dom B).map Sum.inr).map kD1)
  rw [List.map_map]
  exact h
/-- dict of pairs -/
theorem mrgD_dB : ∀ (L : List (Str × α)) (B : List (Str × α)), (∀ p ∈ L, p.1 ∉ dom B) → (dom L).Nodup →
    D.dic (mrgD (L.map fun p => (Sum.inr p.1, f p.2)) ((dom B).map Sum.inr, B.map fun p => f p.2)).1 (mrgD (L.map fun p => (Sum.inr p.1, f p.2)) ((dom B).map Sum.inr, B.map fun p => f p.2)).2 = dB f (B ++ L)
  | [], B, _, _ => by rw [List.append_nil]; rfl
  | p :: L, B, h, nd => by
    have nd2 := List.nodup_cons.mp nd
    have hp := h p List.mem_cons_self
    have e := put_dB (f := f) (B := B) (n := p.1) (v := p.2)
    unfold putB dB at e
    rw [if_neg hp] at e
    injection e with e1 e2
    show D.dic (mrgD (L.map fun p => (Sum.inr p.1, f p.2)) (putKs ((dom B).map Sum.inr) (.inr p.1), putDs ((dom B).map Sum.inr) (B.map fun p => f p.2) (.inr p.1) (f p.2))).1 (mrgD (L.map fun p => (Sum.inr p.1, f p.2)) (putKs ((dom B).map Sum.inr) (.inr p.1), putDs ((dom B).map Sum.inr) (B.map fun p => f p.2) (.inr p.1) (f p.2))).2 = _
    rw [e1, e2]
    have := mrgD_dB L (B ++ [(p.1, p.2)]) (fun q hq => by
      rw [dom_app]
      intro hm
      rcases List.mem_append.mp hm with hm | hm
      · exact h q (List.mem_cons_of_mem _ hq) hm
      · exact nd2.1 (by rw [← List.mem_singleton.mp hm]; exact List.mem_map.mpr ⟨q, hq, rfl⟩)) nd2.2
    rw [this, List.append_assoc]
    rfl
theorem vc_dictP {L : List (Str × α)} (nd : (dom L).Nodup) : VC rdDictP [.lst (L.map fun p => .tup [.str p.1, f p.2])] (dB f L) := fun Q q => by
  refine ⟨L.map fun p => (Sum.inr p.1, f p.2), by rw [List.map_map]; rfl, ?_⟩
  have := mrgD_dB (f := f) L [] (fun _ _ h => by cases h) nd
  rw [List.nil_append] at this
  have this : D.dic (mrgD (L.map fun p => (Sum.inr p.1, f p.2)) ([], [])).1 (mrgD (L.map fun p => (Sum.inr p.1, f p.2)) ([], [])).2 = dB f L := this
  rw [this]
  exact q
/-- {n: v for n in names} -/
theorem goDc_b {Γ : Gm} {i : Nat} {Q : D → Gm → Prop} {tk tv : TDE} {g : Str → α} (hi : i < Γ.length) : ∀ (L : List Str) (B : List (Str × α)), (∀ n ∈ L, n ∉ dom B) → L.Nodup → B.length + L.length ≤ 1000 →
    (∀ n ∈ L, Vl tk (Γ.set i (.dat (.str n))) (.str n)) → (∀ n ∈ L, Vl tv (Γ.set i (.dat (.str n))) (f (g n))) → Q (dB f (B ++ L.map fun n => (n, g n))) Γ →
    goDc (rgName i) (fun Γ Q => Q true Γ) tk tv [i] Q (sS L) ((dom B).map Sum.inr) (B.map fun p => f p.2) Γ
  | [], B, _, _, _, _, _, q => by
    rw [List.map_nil, List.append_nil] at q
    exact q
  | n :: L, B, h, nd, hl, hk, hv, q => by
    have nd2 := List.nodup_cons.mp nd
    have eb : ∀ s : Sl, backG Γ (Γ.set i s) [i] = Γ := fun s => by
      show (Γ.set i s).set i ((Γ[i]?).getD .no) = Γ
      rw [List.set_set, List.getElem?_eq_getElem hi]
      exact List.set_getElem_self hi
    show tk ((Γ.set i .no).set i (.dat (.str n))) _
    rw [List.set_set]
    refine hk n List.mem_cons_self _ (hv n List.mem_cons_self _ ⟨.inr n, rfl, ?_, ?_⟩)
    · have hl : B.length + (L.length + 1) ≤ 1000 := hl
      have : B.length < 1000 := by omega
      rw [List.length_map]
      unfold dom
      rw [List.length_map]
      exact Nat.lt_of_lt_of_le this (by decide)
    · rw [eb]
      have e := put_dB (f := f) (B := B) (n := n) (v := g n)
      unfold putB dB at e
      rw [if_neg (h n List.mem_cons_self)] at e
      injection e with e1 e2
      rw [e1, e2]
      refine goDc_b hi L (B ++ [(n, g n)]) (fun m hm => ?_) nd2.2 (by rw [List.length_append]; rw [List.length_cons] at hl; show B.length + 1 + L.length ≤ 1000; omega) (fun m hm => hk m (List.mem_cons_of_mem _ hm)) (fun m hm => hv m (List.mem_cons_of_mem _ hm)) ?_
      · rw [dom_app]
        intro hq
        rcases List.mem_append.mp hq with hq | hq
        · exact h m (List.mem_cons_of_mem _ hm) hq
        · exact nd2.1 (by rw [← show m = n from List.mem_singleton.mp hq]; exact hm)
      · rw [List.append_assoc]
        exact q
theorem vl_dc {Γ : Gm} {i : Nat} {tf : TDF} {tk tv : TDE} {g : Str → α} {L : List Str} (hi : VA tf Γ (sS L)) (hn : i < Γ.length) (ho : noOwn Γ [i]) (nd : L.Nodup) (hl : L.length ≤ 1000)
    (hk : ∀ n ∈ L, Vl tk (Γ.set i (.dat (.str n))) (.str n)) (hv : ∀ n ∈ L, Vl tv (Γ.set i (.dat (.str n))) (f (g n))) :
    Vl (rdDc tf (rgName i) (fun Γ Q => Q true Γ) tk tv [i]) Γ (dB f (L.map fun n => (n, g n))) := fun Q q =>
  hi _ ⟨ho, goDc_b (f := f) (g := g) hn L [] (fun _ _ h => by cases h) nd (by show 0 + L.length ≤ 1000; omega) hk hv (by rw [List.nil_append]; exact q)⟩
end
section
variable {α : Type} {f : α → D} {Γ : Gm} {E : EndsD} {i : Nat} {B : List (Str × α)} {n : Str} {v : α} {tk tv : TDE}
/-- x[n] = e of an own dict -/
theorem st_put (hv : Vl tv Γ (f v)) (hk : Vl tk Γ (.str n)) (hs : Γ[i]? = some (.own (dB f B))) (hl : B.length < 1000) (q : E.nx (Γ.set i (.own (dB f (putB B n v))))) : rdPut i tk tv E Γ := by
  refine hv _ ⟨⟨_, hs⟩, hk _ ⟨_, _, .inr n, hs, rfl, ?_, ?_⟩⟩
  · rw [List.length_map]
    unfold dom
    rw [List.length_map]
    exact Nat.lt_of_lt_of_le hl (by decide)
  · rw [put_dB]; exact q
end
end VL

set_option Elab.async false
set_option linter.all false
set_option maxRecDepth 100000
set_option maxHeartbeats 4000000
/-! VL41: comprehensions over enumerate; loops that look for something. -/
namespace VL
open PySem PySem.Spec L2 PySem.W
open PyProof.Rows hiding St
def enl {α β : Type} (f : Nat → α → β) : Nat → List α → List β
  | _, [] => []
  | k, a :: r => f k a :: enl f (k + 1) r
section
variable {α β : Type}
theorem range_enl (f : Nat → α → β) : ∀ (L : List α) (s : Nat), (List.range' s L.length).zipWith f L = enl f s L
  | [], s => rfl
  | a :: r, s => by
    rw [List.length_cons, List.range'_succ, List.zipWith_cons_cons, range_enl f r (s + 1)]
    rfl
theorem enumD_enl (g : α → D) (L : List α) : enumD (L.map g) = enl (fun k a => D.tup [.int ((k : Nat) : Int), g a]) 0 L := by
  unfold enumD
  rw [List.length_map, List.range_eq_range', List.zipWith_map_right, range_enl]
theorem asBs_enl (p : Nat → α → Bool) : ∀ (L : List α) (s : Nat), asBs (enl (fun k a => D.bl (p k a)) s L) = some (enl p s L)
  | [], s => rfl
  | a :: r, s => by
    show (asBs (enl (fun k a => D.bl (p k a)) (s + 1) r)).map (p s a :: ·) = _
    rw [asBs_enl p r (s + 1)]
    rfl
theorem vc_allE {p : Nat → α → Bool} {L : List α} {s : Nat} : VC rdAll [.lst (enl (fun k a => D.bl (p k a)) s L)] (.bl ((enl p s L).all id)) := fun Q q => ⟨_, asBs_enl p L s, q⟩
/-- a comprehension whose names are a place and a thing -/
theorem goLc_e {te : TDE} {i j : Nat} {Q : D → Gm → Prop} {Γ : Gm} {g : α → D} {f : Nat → α → D} (hi : i < Γ.length) (hj : j < Γ.length) (ne : i ≠ j) : ∀ (L : List α) (s : Nat) (acc : List D), acc.length + L.length ≤ sizeLine →
    (∀ (k : Nat) (a : α), s ≤ k → L[k - s]? = some a → Vl te ((Γ.set i (.dat (.int k))).set j (.dat (g a))) (f k a)) → Q (.lst (acc ++ enl f s L)) Γ →
    goLc (rgTup 2 (rgCons (rgName i) (rgCons (rgName j) rgNil))) (fun Γ Q => Q true Γ) te [i, j] Q (enl (fun k a => D.tup [.int ((k : Nat) : Int), g a]) s L) acc Γ
  | [], s, acc, _, _, q => by
    show Q (.lst acc) Γ
    have q : Q (.lst (acc ++ [])) Γ := q
    rw [List.append_nil] at q
    exact q
  | a :: L, s, acc, hl, he, q => by
    have hb : ∀ x y : Sl, backG Γ ((Γ.set i x).set j y) [i, j] = Γ := fun x y => by
      show (((Γ.set i x).set j y).set j ((Γ[j]?).getD .no)).set i ((Γ[i]?).getD .no) = Γ
      rw [List.set_set, List.getElem?_eq_getElem hi, List.getElem?_eq_getElem hj]
      show ((Γ.set i x).set j Γ[j]).set i Γ[i] = Γ
      rw [List.set_comm x Γ[j] ne, List.set_set, List.set_getElem_self hj, List.set_getElem_self hi]
    have hw : ∀ x y : Sl, (((Γ.set j .no).set i .no).set i x).set j y = (Γ.set i x).set j y := fun x y => by
      rw [List.set_set, List.set_comm .no x ne.symm, List.set_set]
    refine ⟨rfl, ?_⟩
    refine (⟨rfl, ?_⟩ : _ ∧ _)
    show te ((((Γ.set j .no).set i .no).set i (.dat (.int (s : Int)))).set j (.dat (g a))) _
    rw [hw]
    rw [List.length_cons] at hl
    refine he s a (Nat.le_refl _) (by rw [Nat.sub_self]; rfl) _ ⟨by omega, ?_⟩
    rw [hb]
    refine goLc_e hi hj ne L (s + 1) (acc ++ [f s a]) (by rw [List.length_append]; show acc.length + 1 + L.length ≤ _; omega) (fun k b hk e => he k b (by omega) (by rw [show k - s = (k - (s + 1)) + 1 by omega]; exact e)) ?_
    rw [List.append_assoc]
    exact q
theorem vl_lce {i j : Nat} {Γ : Gm} {g : α → D} {f : Nat → α → D} {tf : TDF} {te : TDE} {L : List α} (hf : VA tf Γ (enumD (L.map g))) (hi : i < Γ.length) (hj : j < Γ.length) (ne : i ≠ j) (ho : noOwn Γ [i, j]) (hl : L.length ≤ sizeLine)
    (he : ∀ (k : Nat) (a : α), L[k]? = some a → Vl te ((Γ.set i (.dat (.int k))).set j (.dat (g a))) (f k a)) :
    Vl (rdLc tf (rgTup 2 (rgCons (rgName i) (rgCons (rgName j) rgNil))) (fun Γ Q => Q true Γ) te [i, j]) Γ (.lst (enl f 0 L)) := fun Q q => by
  refine hf _ ⟨ho, ?_⟩
  rw [enumD_enl]
  exact goLc_e hi hj ne L 0 [] (by show 0 + L.length ≤ _; omega) (fun k a _ e => he k a e) q
theorem enl_nodup [DecidableEq α] (all : List α) : ∀ (L pre : List α), pre ++ L = all → (enl (fun k x => !decide (x ∈ all.take k)) pre.length L).all id = decide (L.Nodup ∧ ∀ x ∈ L, x ∉ pre)
  | [], pre, _ => by simp [enl]
  | a :: r, pre, e => by
    have h1 : all.take pre.length = pre := by rw [← e, List.take_left]
    have ih := enl_nodup all r (pre ++ [a]) (by rw [← e, List.append_assoc]; rfl)
    rw [List.length_append] at ih
    show ((!decide (a ∈ all.take pre.length)) && (enl (fun k x => !decide (x ∈ all.take k)) (pre.length + 1) r).all id) = _
    have ih : (enl (fun k x => !decide (x ∈ all.take k)) (pre.length + 1) r).all id = decide (r.Nodup ∧ ∀ x ∈ r, x ∉ pre ++ [a]) := ih
    rw [ih, h1]
    by_cases h : a ∈ pre
    · rw [decide_eq_true h]
      have : ¬ ((a :: r).Nodup ∧ ∀ x ∈ a :: r, x ∉ pre) := fun z => z.2 a List.mem_cons_self h
      rw [decide_eq_false this]
      rfl
    · rw [decide_eq_false h]
      show decide _ = decide _
      rw [decide_eq_decide]
      constructor
      · intro ⟨z1, z2⟩
        refine ⟨List.nodup_cons.mpr ⟨fun m => z2 a m (List.mem_append_right _ (List.mem_singleton.mpr rfl)), z1⟩, fun x hx => ?_⟩
        rcases List.mem_cons.mp hx with rfl | hx
        · exact h
        · exact fun m => z2 x hx (List.mem_append_left _ m)
      · intro ⟨z1, z2⟩
        have z3 := List.nodup_cons.mp z1
        refine ⟨z3.2, fun x hx m => ?_⟩
        rcases List.mem_append.mp m with m | m
        · exact z2 x (List.mem_cons_of_mem _ hx) m
        · exact z3.1 (by rw [← List.mem_singleton.mp m]; exact hx)
theorem enl_nodup0 [DecidableEq α] (L : List α) : (enl (fun k x => !decide (x ∈ L.take k)) 0 L).all id = decide L.Nodup := by
  have := enl_nodup L L [] rfl
  have e : (L.Nodup ∧ ∀ x ∈ L, x ∉ ([] : List α)) ↔ L.Nodup := ⟨fun h => h.1, fun h => ⟨h, fun _ _ z => by cases z⟩⟩
  rw [show decide (L.Nodup ∧ ∀ x ∈ L, x ∉ ([] : List α)) = decide L.Nodup from decide_eq_decide.mpr e] at this
  exact this
end
/-! ### a statement and what comes after -/
section
variable {Γ : Gm} {E : EndsD} {i : Nat} {d : D} {b : Bool} {ta : TDE} {tt : TDT} {s t : TDS}
theorem sq_asg (h : Vl ta Γ d) (n : t E (Γ.set i (.dat d))) : rdSeq (rdAsg ta (rgName i)) t E Γ := h _ n
theorem sq_own (h : Vl ta Γ d) (n : t E (Γ.set i (.own d))) : rdSeq (rdSetOwn ta i) t E Γ := h _ n
theorem sq_drop (h : Vl ta Γ d) (n : t E Γ) : rdSeq (rdDrop ta) t E Γ := h _ n
theorem sq_if (h : VT tt Γ b) (h1 : b = true → s { E with nx := t E } Γ) (h2 : b = false → t E Γ) : rdSeq (rdIfS tt s rdNext) t E Γ := st_if h h1 h2
theorem sq_ifR (h : VT tt Γ b) (hr : b = true → Vl ta Γ d) (h1 : b = true → E.rt d) (h2 : b = false → t E Γ) : rdSeq (rdIfS tt (rdRet ta) rdNext) t E Γ := st_if h (fun e => st_ret (hr e) (h1 e)) h2
theorem if_R (h : VT tt Γ b) (hr : b = true → Vl ta Γ d) (h1 : b = true → E.rt d) (h2 : b = false → E.nx Γ) : rdIfS tt (rdRet ta) rdNext E Γ := st_if h (fun e => st_ret (hr e) (h1 e)) h2
theorem if_N (h : VT tt Γ b) (h1 : b = true → s E Γ) (h2 : b = false → E.nx Γ) : rdIfS tt s rdNext E Γ := st_if h h1 h2
theorem sq_par {j : Nat} {d e : D} {tf : TDF} (h : VA tf Γ [d, e]) (n : t E ((Γ.set i (.dat d)).set j (.dat e))) : rdSeq (rdPar i j tf) t E Γ := h _ n
theorem sq_while {c : TDT} (h : ∃ n, goW c s { E with nx := t E } n Γ) : rdSeq (rdWhile c s) t E Γ := h
theorem sq_for {di : TDF} {gd : TDG} {L : List D} (h : VA di Γ L) (n : goFor gd s { E with nx := t E } L Γ) : rdSeq (rdFor di gd s) t E Γ := h _ n
theorem sq_put {α : Type} {f : α → D} {B : List (Str × α)} {n : Str} {v : α} {tk tv : TDE} (hv : Vl tv Γ (f v)) (hk : Vl tk Γ (.str n)) (hs : Γ[i]? = some (.own (dB f B))) (hl : B.length < 1000) (q : t E (Γ.set i (.own (dB f (putB B n v))))) : rdSeq (rdPut i tk tv) t E Γ := st_put hv hk hs hl q
end
/-! ### values that are drawn -/
section
variable {Γ : Gm} {d x : D} {ta tb : TDE} {tf : TDF} {ds : List D} {rd : RD2} {Q : D → Gm → Prop}
theorem nd_call {F : FD} (h : VA tf Γ ds) (hc : F ds fun d => Q d Γ) : rdCall F [] tf Γ Q := h _ (by rw [List.append_nil]; exact hc)
theorem nd_op (ha : Vl ta Γ x) (hb : tb Γ fun y Γ' => rd x y fun d => Q d Γ') : rdOp rd ta tb Γ Q := ha _ hb
theorem nd_op1 (ha : ta Γ fun x Γ' => tb Γ' fun y Γ2 => rd x y fun d => Q d Γ2) : rdOp rd ta tb Γ Q := ha
theorem nd_cons {Q : List D → Gm → Prop} (ha : ta Γ fun x Γ' => tf Γ' fun ds Γ2 => Q (x :: ds) Γ2) : rdCons ta tf Γ Q := ha
theorem nd_cons1 {Q : List D → Gm → Prop} (hx : Vl ta Γ x) (ha : tf Γ fun ds Γ2 => Q (x :: ds) Γ2) : rdCons ta tf Γ Q := hx _ ha
theorem nd_cb {r : List D → (D → Prop) → Prop} (h : tf Γ fun ds Γ' => r ds fun d => Q d Γ') : rdCB r tf Γ Q := h
theorem nd_sl {r : D → Option Int → Option Int → (D → Prop) → Prop} {tl th : TDO} {lo hi : Option Int} (h : ta Γ fun x Γ' => tl Γ' fun lo Γ2 => th Γ2 fun hi Γ3 => r x lo hi fun d => Q d Γ3) : rdSl r ta tl th Γ Q := h
end
end VL

set_option Elab.async false
set_option linter.all false
set_option maxRecDepth 100000
set_option maxHeartbeats 4000000
namespace TB
open PySem PySem.Spec L2 VL
open PyProof.Rows hiding St

/-! ### what the defs tell -/
def smalls : Str := "abcdefghijklmnopqrstuvwxyz"
def larges : Str := "ABCDEFGHIJKLMNOPQRSTUVWXYZ"
def okV : D → Prop
  | .str z => z.length ≤ 100
  | d => tyName d ≠ none
def isWs (z : Str) : Bool := decide (1 ≤ z.length) && decide (z.length ≤ 8) && z.cps.toList.all fun c => decide (c ∈ smalls.cps.toList)
def isW : D → Bool
  | .str z => isWs z
  | _ => false
def isCs (z : Str) : Bool := decide (1 ≤ z.length) && decide (z.length ≤ 8) && (match z.cps.toList with | c :: r => decide (c ∈ larges.cps.toList) && r.all fun c => decide (c ∈ smalls.cps.toList) | [] => false)
def isC : D → Bool
  | .str z => isCs z
  | _ => false
def areS (ns : List Str) (n : Str) (bs : List Str) : Bool := decide (bs.length ≤ 3) && bs.all (fun b => decide (b ∈ ns) && !decide (b = n)) && decide bs.Nodup
def asO : Option (List Str) → D
  | none => .non
  | some l => sT l
/-- bases of a table, well formed -/
structure BOk (B : Bs) : Prop where
  nd : (dom B).Nodup
  len : B.length ≤ 10
  nm : ∀ n ∈ dom B, okT n
  ok : ∀ n bs, get B n = some bs → bs.length ≤ 3 ∧ ∀ b ∈ bs, b ∈ dom B
structure TabOk (B W K : Bs) : Prop where
  nd : (dom B).Nodup
  len : 1 ≤ B.length ∧ B.length ≤ 6
  dw : dom W = dom B
  cn : ∀ n ∈ dom B, isCs n = true ∧ okT n
  ok : ∀ n bs, get B n = some bs → areS (dom B) n bs = true
  wk : ∀ n ws, get W n = some ws → ws.length ≤ 4 ∧ ws.Nodup ∧ ∀ w ∈ ws, isWs w = true ∧ okT w
  g : Good B K
  all : ∀ n ∈ dom B, n ∈ dom K
def tabD (B W K : Bs) : D := .obj "Table" ["own_bases", "own_words", "own_orders"] [dB sT B, dB sT W, dB sT K]
def modD (B K W : Bs) : D := .dic [.inr "bases", .inr "lines", .inr "words"] [dB sT B, dB sT K, dB sT W]
def okRows (rows : Rows') : Prop := rows.length ≤ 20 ∧ ∀ r ∈ rows, r.length ≤ 20 ∧ okTs r
def F_is_word : FD := fun ds Q => ∃ d, ds = [d] ∧ okV d ∧ Q (.bl (isW d))
def F_is_class_name : FD := fun ds Q => ∃ d, ds = [d] ∧ okV d ∧ Q (.bl (isC d))
def F_is_list : FD := fun ds Q => ∃ d b, ds = [d] ∧ isiTys ["list", "tuple"] d = some b ∧ Q (.bl b)
def F_are_bases : FD := fun ds Q => ∃ ns es n bs, ds = [.dic (ns.map Sum.inr) es, .str n, sT bs] ∧ okTs bs ∧ bs.length ≤ 1000 ∧ Q (.bl (areS ns n bs))
/-- bases and words of a class, as a list or as a tuple -/
abbrev Pr := List Str × List Str × Bool
def prD (p : Pr) : D := .tup [sT p.1, if p.2.2 = true then sL p.2.1 else sT p.2.1]
def F_is_pair : FD := fun ds Q => ∃ ns es n p, ds = [.dic (ns.map Sum.inr) es, .str n, prD p] ∧ okTs p.1 ∧ areS ns n p.1 = true ∧ p.2.1.length ≤ 4 ∧ p.2.1.Nodup ∧ (∀ w ∈ p.2.1, isWs w = true ∧ okT w) ∧ Q (.bl true)
def F_first_head : FD := fun ds Q => ∃ rows : Rows', ds = [.lst (rows.map sT)] ∧ okRows rows ∧ (∀ r ∈ rows, r ≠ []) ∧ Q (match hdOf rows with | none => .non | some x => .str x)
def F_merged : FD := fun ds Q => ∃ rows : Rows', ds = [.lst (rows.map sT)] ∧ okRows rows ∧ ∀ o, Mrg rows o → Q (asO o)
def F_orders_of : FD := fun ds Q => ∃ B : Bs, ds = [dB sT B] ∧ BOk B ∧ ∀ K, Good B K → Closed B K → Q (dB sT K)
def F_Table_names : FD := fun ds Q => ∃ B W K, ds = [tabD B W K] ∧ Q (sL (dom B))
def F_Table___contains__ : FD := fun ds Q => ∃ B W K n, ds = [tabD B W K, .str n] ∧ Q (.bl (decide (n ∈ dom B)))
def F_need_class : FD := fun ds Q => ∃ B W K n, ds = [tabD B W K, .str n] ∧ n ∈ dom B ∧ Q .non
def F_Table_bases : FD := fun ds Q => ∃ B W K n bs, ds = [tabD B W K, .str n] ∧ get B n = some bs ∧ Q (sT bs)
def F_Table_order : FD := fun ds Q => ∃ B W K n l, ds = [tabD B W K, .str n] ∧ n ∈ dom B ∧ get K n = some l ∧ Q (sT l)
/-- a dict of classes, well formed, whose lines are all known -/
structure COk (C : List (Str × Pr)) (K : Bs) : Prop where
  nd : (dom C).Nodup
  len : 1 ≤ C.length ∧ C.length ≤ 6
  cn : ∀ n ∈ dom C, isCs n = true ∧ okT n
  ok : ∀ n p, get C n = some p → areS (dom C) n p.1 = true ∧ p.2.1.length ≤ 4 ∧ p.2.1.Nodup ∧ ∀ w ∈ p.2.1, isWs w = true ∧ okT w
  g : Good (C.map fun p => (p.1, p.2.1)) K
  all : ∀ n ∈ dom C, n ∈ dom K
def basesOf (C : List (Str × Pr)) : Bs := (sortT (dom C)).map fun n => (n, ((get C n).map (·.1)).getD [])
def wordsOf (C : List (Str × Pr)) : Bs := (sortT (dom C)).map fun n => (n, sortT (((get C n).map (·.2.1)).getD []))
def F_Table___init__ : FD := fun ds Q => ∃ C K0, ds = [dB prD C] ∧ COk C K0 ∧ ∀ K, TabOk (basesOf C) (wordsOf C) K → Q (tabD (basesOf C) (wordsOf C) K)
/-- deeds -/
inductive Deed where
  | bases (n : Str) (bs : List Str)
  | put (n w : Str)
def deedD : Deed → D
  | .bases n bs => .tup [.str "bases", .str n, sT bs]
  | .put n w => .tup [.str "put", .str n, .str w]
def okDeed (B : Bs) : Deed → Prop
  | .bases n bs => n ∈ dom B ∧ okTs bs ∧ bs.length ≤ 1000
  | .put n w => n ∈ dom B ∧ isWs w = true ∧ okT w
/-- the deed is possible -/
def can (B W : Bs) : Deed → Prop
  | .bases n bs => areS (dom B) n bs = true ∧ ∃ K', Good (putB B n bs) K' ∧ ∀ m ∈ dom B, m ∈ dom K'
  | .put n w => ∃ ws, get W n = some ws ∧ (w ∈ ws ∨ ws.length < 4)
def F_Table_is_deed : FD := fun ds Q => ∃ B W K e, ds = [tabD B W K, deedD e] ∧ TabOk B W K ∧ okDeed B e ∧ (can B W e → Q (.bl true)) ∧ (¬ can B W e → Q (.bl false))
def afterB (B : Bs) : Deed → Bs
  | .bases n bs => putB B n bs
  | .put _ _ => B
def F_Table_done : FD := fun ds Q => ∃ B W K e, ds = [tabD B W K, deedD e] ∧ TabOk B W K ∧ okDeed B e ∧ can B W e ∧ ∀ B' W' K', TabOk B' W' K' → (∀ m, get B' m = get (afterB B e) m) → Q (tabD B' W' K')
def F__law_merge : FD := fun ds Q => ∃ rows : Rows', ds = [.lst (rows.map sL)] ∧ okRows rows ∧ ∀ o, Mrg rows o → Q (asO o)
def F__law_lines : FD := F_orders_of
def F__law_mixed (d : Addr) : FD := fun ds Q => ∃ xs : List Str, ds = [.ref d, sL xs] ∧ xs.length ≤ 100 ∧ okTs xs ∧ ∀ ys, ys.Perm xs → Q (sL ys)
def ten : List Str := ["A", "B", "Box", "Cat", "D", "Dog", "Ab", "Z", "Abcdefgh", "Kitten"]
def eight : List Str := ["m", "n", "run", "put", "has", "under", "call", "abcdefgh"]
def F__law_class_names (d : Addr) : FD := fun ds Q => ∃ k : Nat, ds = [.ref d, .int k] ∧ ∀ ys, ys.Nodup → (∀ y ∈ ys, y ∈ ten) → ys.length = min k 10 → Q (sL ys)
def F__law_word_list (d : Addr) : FD := fun ds Q => ∃ k : Nat, ds = [.ref d, .int k] ∧ ∀ ys, ys.Nodup → (∀ y ∈ ys, y ∈ eight) → ys.length = min k 8 → Q (sL ys)
def F__law_model : FD := fun ds Q => ∃ B W, ds = [dB sT B, dB sL W] ∧ BOk B ∧ dom W = dom B ∧ ∀ K, Good B K → Closed B K → Q (modD ((sortT (dom B)).map fun n => (n, (get B n).getD [])) K ((sortT (dom B)).map fun n => (n, sortT ((get W n).getD []))))
def F__law_table (d : Addr) : FD := fun ds Q => ∃ k : Nat, ds = [.ref d, .int k] ∧ 1 ≤ k ∧ k ≤ 6 ∧ ∀ B W K, TabOk B W K → Q (modD B K W)
def F__law_real : FD := fun ds Q => ∃ B W K, ds = [modD B K W] ∧ TabOk B W K ∧ ∀ B' W' K', TabOk B' W' K' → (∀ m, get B' m = get B m) → Q (tabD B' W' K')
def F__law_kept : FD := fun ds Q => ∃ l w : List Str, ds = [sT l, sT w] ∧ okTs l ∧ okTs w ∧ l.length ≤ 100 ∧ w.length ≤ 100 ∧ Q (.bl (decide (w.filter (fun x => decide (x ∈ l)) = l)))
def F__law_orders_right : FD := fun ds Q => ∃ B W K, ds = [tabD B W K] ∧ TabOk B W K ∧ Q (.bl true)

abbrev N_is_word : List Str := ["value", "sign"]
abbrev N_is_class_name : List Str := ["value", "sign"]
abbrev N_is_list : List Str := ["value"]
abbrev N_are_bases : List Str := ["names", "name", "value", "base", "at"]
abbrev N_first_head : List Str := ["rows", "row", "other"]
abbrev N_Table_names : List Str := ["self"]
abbrev N_Table___contains__ : List Str := ["self", "name"]
abbrev N__law_begin : List Str := ["_law_script", "_law_cell"]
abbrev N__law_merge : List Str := ["_law_heaps", "_law_found", "_law_step", "_law_tails", "_law_heads", "_law_unit"]
abbrev N__law_kept : List Str := ["_law_line", "_law_within", "_law_one"]
abbrev N_is_pair : List Str := ["classes", "name", "value", "words", "word", "at"]
abbrev N_merged : List Str := ["rows", "found", "left", "row", "name"]
abbrev N_need_class : List Str := ["table", "name"]
abbrev N__law_pick : List Str := ["_law_draw", "_law_some"]
abbrev N__law_mixed : List Str := ["_law_draw", "_law_some", "_law_left", "_law_found"]
abbrev N__law_lines : List Str := ["_law_bases", "_law_known", "_law_turn", "_law_who", "_law_base", "_law_line"]
abbrev N_orders_of : List Str := ["bases", "known", "waiting", "is_done", "ready", "name", "base", "rest"]
abbrev N_Table_bases : List Str := ["self", "name"]
abbrev N_Table_order : List Str := ["self", "name"]
abbrev N__law_class_names : List Str := ["_law_draw", "_law_many"]
abbrev N__law_word_list : List Str := ["_law_draw", "_law_many"]
abbrev N__law_model : List Str := ["_law_bases", "_law_words", "_law_names", "_law_tracks", "_law_found", "_law_who"]
abbrev N_Table___init__ : List Str := ["self", "classes", "name", "names"]
abbrev N_Table_is_deed : List Str := ["self", "value", "kind", "name", "part"]
abbrev N__law_table : List Str := ["_law_draw", "_law_upto", "_law_names", "_law_some", "_law_bases", "_law_words", "_law_at", "_law_who", "_law_thin", "_law_term"]
abbrev N__law_orders_right : List Str := ["_law_side", "_law_who", "_law_line", "_law_one", "_law_above", "_law_base"]
abbrev N_Table_done : List Str := ["self", "deed", "kind", "name", "part", "classes", "one", "bases", "words", "rest", "word"]
abbrev N__law_real : List Str := ["_law_model_here", "_law_who"]
def rd_is_word : TDS :=
    (rdRet (rdAndV (rdCB rdIsi (rdCons (rdVar 0) (rdCons (rdC (.ty "str")) rdNil))) (rdAndV (rdChain (rdI0 fun i j => .bl (decide (i ≤ j))) (rdI0 fun i j => .bl (decide (i ≤ j))) (rdC (.int 1)) (rdCB rdLenB (rdCons (rdVar 0) rdNil)) (rdC (.int 8))) (rdCB rdAll (rdCons (rdShare (rdLc (rdIAny (rdVar 0)) (rgName 1) (fun Γ Q => Q true Γ) (rdOp (rdInB false) (rdVar 1) (rdC (.str "abcdefghijklmnopqrstuvwxyz"))) [1])) rdNil)))))
def rd_is_class_name : TDS :=
    (rdSeq (rdIfS (rdOr (rdNot (rdTest (rdCB rdIsi (rdCons (rdVar 0) (rdCons (rdC (.ty "str")) rdNil))))) (rdOr (rdNot (rdTest (rdChain (rdI0 fun i j => .bl (decide (i ≤ j))) (rdI0 fun i j => .bl (decide (i ≤ j))) (rdC (.int 1)) (rdCB rdLenB (rdCons (rdVar 0) rdNil)) (rdC (.int 8))))) (rdTest (rdOp (rdInB true) (rdOp rdIxA (rdVar 0) (rdC (.int 0))) (rdC (.str "ABCDEFGHIJKLMNOPQRSTUVWXYZ")))))) (rdRet (rdC (.bl false))) rdNext)
    (rdRet (rdCB rdAll (rdCons (rdShare (rdLc (rdIAny (rdSl rdSlB (rdVar 0) (rdPart (rdC (.int 1))) rdNoPart)) (rgName 1) (fun Γ Q => Q true Γ) (rdOp (rdInB false) (rdVar 1) (rdC (.str "abcdefghijklmnopqrstuvwxyz"))) [1])) rdNil))))
def rd_is_list : TDS :=
    (rdRet (rdIsiT2 ["list", "tuple"] (rdVar 0)))
def rd_are_bases : TDS :=
    (rdSeq (rdIfS (rdOr (rdNot (rdTest (rdCB rdIsi (rdCons (rdVar 2) (rdCons (rdC (.ty "tuple")) rdNil))))) (rdTest (rdOp (rdI0 fun i j => .bl (decide (j < i))) (rdCB rdLenB (rdCons (rdVar 2) rdNil)) (rdC (.int 3))))) (rdRet (rdC (.bl false))) rdNext)
    (rdSeq (rdIfS (rdNot (rdTest (rdCB rdAll (rdCons (rdShare (rdLc (rdIAny (rdVar 2)) (rgName 3) (fun Γ Q => Q true Γ) (rdAndV (rdCB rdIsi (rdCons (rdVar 3) (rdCons (rdC (.ty "str")) rdNil))) (rdAndV (rdOp (rdInB false) (rdVar 3) (rdVar 0)) (rdOp rdNe (rdVar 3) (rdVar 1)))) [3])) rdNil)))) (rdRet (rdC (.bl false))) rdNext)
    (rdRet (rdCB rdAll (rdCons (rdShare (rdLc (rdIEnumT (rdCons (rdVar 2) rdNil)) (rgTup 2 (rgCons (rgName 4) (rgCons (rgName 3) rgNil))) (fun Γ Q => Q true Γ) (rdOp (rdInB true) (rdVar 3) (rdSl rdSlB (rdVar 2) rdNoPart (rdPart (rdVar 4)))) [4, 3])) rdNil)))))
def rd_first_head : TDS :=
    (rdSeq (rdFor (rdIAny (rdVar 0)) (rgName 1) (rdIfS (rdNot (rdTest (rdCB rdAny (rdCons (rdShare (rdLc (rdIAny (rdVar 0)) (rgName 2) (fun Γ Q => Q true Γ) (rdOp (rdInB false) (rdOp rdIxA (rdVar 1) (rdC (.int 0))) (rdSl rdSlB (rdVar 2) (rdPart (rdC (.int 1))) rdNoPart)) [2])) rdNil)))) (rdRet (rdOp rdIxA (rdVar 1) (rdC (.int 0)))) rdNext))
    (rdRet (rdC .non)))
def rd_Table_names : TDS :=
    (rdRet (rdShare (rdCF rdListB (rdCons (rdFld "Table" "own_bases" (rdVar 0)) rdNil))))
def rd_Table___contains__ : TDS :=
    (rdRet (rdAndV (rdCB rdIsi (rdCons (rdVar 1) (rdCons (rdC (.ty "str")) rdNil))) (rdOp (rdInB false) (rdVar 1) (rdFld "Table" "own_bases" (rdVar 0)))))
def rd__law_begin : TDS :=
    (rdRet (rdShare (rdLst (rdCons (rdOrT (rdShare (rdLc (rdIAny (rdSl rdSlB (rdVar 0) rdNoPart (rdPart (rdC (.int 63))))) (rgName 1) (fun Γ Q => Q true Γ) (rdCB rdAbs (rdCons (rdVar 1) rdNil)) [1])) (rdShare (rdLst (rdCons (rdC (.int 7)) rdNil)))) (rdCons (rdC (.int 0)) (rdCons (rdC (.int 1)) (rdCons (rdC (.int 0)) rdNil)))))))
def rd__law_merge : TDS :=
    (rdSeq (rdAsg (rdTup rdNil) (rgName 1))
    (rdSeq (rdWhile (rdTest (rdOp rdNe (rdShare (rdLc (rdIAny (rdVar 0)) (rgName 2) (rdTest (rdOp rdNe (rdVar 2) (rdShare (rdLst rdNil)))) (rdVar 2) [2])) (rdShare (rdLst rdNil)))) (rdSeq (rdAsg (rdCB rdSumL (rdCons (rdShare (rdLc (rdIAny (rdVar 0)) (rgName 2) (fun Γ Q => Q true Γ) (rdSl rdSlB (rdVar 2) (rdPart (rdC (.int 1))) rdNoPart) [2])) (rdCons (rdShare (rdLst rdNil)) rdNil))) (rgName 3))
    (rdSeq (rdAsg (rdShare (rdLc (rdIAny (rdVar 0)) (rgName 2) (rdAnd (rdTest (rdOp rdNe (rdVar 2) (rdShare (rdLst rdNil)))) (rdTest (rdOp (rdInB true) (rdOp rdIxA (rdVar 2) (rdC (.int 0))) (rdVar 3)))) (rdOp rdIxA (rdVar 2) (rdC (.int 0))) [2])) (rgName 4))
    (rdSeq (rdIfS (rdTest (rdOp rdEq (rdVar 4) (rdShare (rdLst rdNil)))) (rdRet (rdC .non)) rdNext)
    (rdSeq (rdAsg (rdOp rdAddB (rdVar 1) (rdTup (rdCons (rdOp rdIxA (rdVar 4) (rdC (.int 0))) rdNil))) (rgName 1))
    (rdAsg (rdShare (rdLc (rdIAny (rdVar 0)) (rgName 2) (fun Γ Q => Q true Γ) (rdShare (rdLc (rdIAny (rdVar 2)) (rgName 5) (rdTest (rdOp rdNe (rdVar 5) (rdOp rdIxA (rdVar 4) (rdC (.int 0))))) (rdVar 5) [5])) [2])) (rgName 0)))))))
    (rdRet (rdVar 1))))
def rd__law_kept : TDS :=
    (rdRet (rdOp rdEq (rdCB rdTuple (rdCons (rdShare (rdLc (rdIAny (rdVar 1)) (rgName 2) (rdTest (rdOp (rdInB false) (rdVar 2) (rdVar 0))) (rdVar 2) [2])) rdNil)) (rdCB rdTuple (rdCons (rdVar 0) rdNil))))
def rd_is_pair : TDS :=
    (rdSeq (rdIfS (rdOr (rdNot (rdTest (rdCB rdIsi (rdCons (rdVar 2) (rdCons (rdC (.ty "tuple")) rdNil))))) (rdOr (rdTest (rdOp rdNe (rdCB rdLenB (rdCons (rdVar 2) rdNil)) (rdC (.int 2)))) (rdNot (rdTest (rdCall F_are_bases [] (rdCons (rdVar 0) (rdCons (rdVar 1) (rdCons (rdOp rdIxA (rdVar 2) (rdC (.int 0))) rdNil)))))))) (rdRet (rdC (.bl false))) rdNext)
    (rdSeq (rdAsg (rdOp rdIxA (rdVar 2) (rdC (.int 1))) (rgName 3))
    (rdSeq (rdIfS (rdOr (rdNot (rdTest (rdCall F_is_list [] (rdCons (rdVar 3) rdNil)))) (rdOr (rdTest (rdOp (rdI0 fun i j => .bl (decide (j < i))) (rdCB rdLenB (rdCons (rdVar 3) rdNil)) (rdC (.int 4)))) (rdNot (rdTest (rdCB rdAll (rdCons (rdShare (rdLc (rdIAny (rdVar 3)) (rgName 4) (fun Γ Q => Q true Γ) (rdCall F_is_word [] (rdCons (rdVar 4) rdNil)) [4])) rdNil)))))) (rdRet (rdC (.bl false))) rdNext)
    (rdRet (rdCB rdAll (rdCons (rdShare (rdLc (rdIEnumT (rdCons (rdVar 3) rdNil)) (rgTup 2 (rgCons (rgName 5) (rgCons (rgName 4) rgNil))) (fun Γ Q => Q true Γ) (rdOp (rdInB true) (rdVar 4) (rdSl rdSlB (rdVar 3) rdNoPart (rdPart (rdVar 5)))) [5, 4])) rdNil))))))
def rd_merged : TDS :=
    (rdSeq (rdPar 1 2 (rdCons (rdTup rdNil) (rdCons (rdShare (rdLc (rdIAny (rdVar 0)) (rgName 3) (rdTest (rdOp (rdI0 fun i j => .bl (decide (j < i))) (rdCB rdLenB (rdCons (rdVar 3) rdNil)) (rdC (.int 0)))) (rdVar 3) [3])) rdNil)))
    (rdSeq (rdWhile (rdTest (rdOp rdNe (rdVar 2) (rdShare (rdLst rdNil)))) (rdSeq (rdAsg (rdCall F_first_head [] (rdCons (rdVar 2) rdNil)) (rgName 4))
    (rdSeq (rdIfS (rdTest (rdOp (rdIsN false) (rdVar 4) (rdC .non))) (rdRet (rdC .non)) rdNext)
    (rdSeq (rdAsg (rdOp rdAddB (rdVar 1) (rdTup (rdCons (rdVar 4) rdNil))) (rgName 1))
    (rdSeq (rdAsg (rdShare (rdLc (rdIAny (rdVar 2)) (rgName 3) (fun Γ Q => Q true Γ) (rdIf (rdTest (rdOp rdEq (rdOp rdIxA (rdVar 3) (rdC (.int 0))) (rdVar 4))) (rdSl rdSlB (rdVar 3) (rdPart (rdC (.int 1))) rdNoPart) (rdVar 3)) [3])) (rgName 2))
    (rdAsg (rdShare (rdLc (rdIAny (rdVar 2)) (rgName 3) (rdTest (rdOp (rdI0 fun i j => .bl (decide (j < i))) (rdCB rdLenB (rdCons (rdVar 3) rdNil)) (rdC (.int 0)))) (rdVar 3) [3])) (rgName 2)))))))
    (rdRet (rdVar 1))))
def rd_need_class : TDS :=
    (rdIfS (rdTest (rdOp (rdOwnIn "Table" F_Table___contains__ true) (rdVar 1) (rdVar 0))) (fun _ _ => False) rdNext)
def rd__law_pick (d : Addr) : TDS :=
    (rdRet (rdOp rdIxA (rdVar 1) (rdCall (Ftake d) [] (rdCons (rdVar 0) (rdCons (rdCB rdLenB (rdCons (rdVar 1) rdNil)) rdNil)))))
def rd__law_mixed (d : Addr) : TDS :=
    (rdSeq (rdPar2 2 3 true true (rdCF rdListB (rdCons (rdVar 1) rdNil)) (rdLst rdNil))
    (rdSeq (rdWhile (rdTest (rdPkL rdNe 2 (rdShare (rdLst rdNil)))) (rdDrop (rdApp 3 (rdPop 2 (rdCall (Ftake d) [] (rdCons (rdVar 0) (rdCons (rdPkLen 2) rdNil)))))))
    (rdRet (rdVar 3))))
def rd__law_lines : TDS :=
    (rdSeq (rdSetOwn rdDic0 1)
    (rdSeq (rdFor (rdIRng (rdCons (rdCB rdLenB (rdCons (rdVar 0) rdNil)) rdNil)) (rgName 2) (rdFor (rdIAny (rdShare (rdCF rdSortC (rdCons (rdVar 0) rdNil)))) (rgName 3) (rdIfS (rdAnd (rdTest (rdPkR (rdInB true) (rdVar 3) 1)) (rdTest (rdOp rdEq (rdShare (rdLc (rdIAny (rdOp rdIxA (rdVar 0) (rdVar 3))) (rgName 4) (rdTest (rdPkR (rdInB true) (rdVar 4) 1)) (rdVar 4) [4])) (rdShare (rdLst rdNil))))) (rdSeq (rdAsg (rdCall F__law_merge [] (rdCons (rdOp rdAddB (rdShare (rdLc (rdIAny (rdOp rdIxA (rdVar 0) (rdVar 3))) (rgName 4) (fun Γ Q => Q true Γ) (rdShare (rdCF rdListB (rdCons (rdPkIx 1 (rdVar 4)) rdNil))) [4])) (rdShare (rdLst (rdCons (rdShare (rdCF rdListB (rdCons (rdOp rdIxA (rdVar 0) (rdVar 3)) rdNil))) rdNil)))) rdNil)) (rgName 5))
    (rdIfS (rdTest (rdOp (rdIsN true) (rdVar 5) (rdC .non))) (rdPut 1 (rdVar 3) (rdOp rdAddB (rdTup (rdCons (rdVar 3) rdNil)) (rdVar 5))) rdNext)) rdNext)))
    (rdRet (rdVar 1))))
def rd__law_lines_bor : TDS :=
    (rdSeq (rdSetOwn rdDic0 1)
    (rdSeq (rdFor (rdIRng (rdCons (rdPkLen 0) rdNil)) (rgName 2) (rdFor (rdIAny (rdShare (rdPk1 rdSortC 0))) (rgName 3) (rdIfS (rdAnd (rdTest (rdPkR (rdInB true) (rdVar 3) 1)) (rdTest (rdOp rdEq (rdShare (rdLc (rdIAny (rdPkIx 0 (rdVar 3))) (rgName 4) (rdTest (rdPkR (rdInB true) (rdVar 4) 1)) (rdVar 4) [4])) (rdShare (rdLst rdNil))))) (rdSeq (rdAsg (rdCall F__law_merge [] (rdCons (rdOp rdAddB (rdShare (rdLc (rdIAny (rdPkIx 0 (rdVar 3))) (rgName 4) (fun Γ Q => Q true Γ) (rdShare (rdCF rdListB (rdCons (rdPkIx 1 (rdVar 4)) rdNil))) [4])) (rdShare (rdLst (rdCons (rdShare (rdCF rdListB (rdCons (rdPkIx 0 (rdVar 3)) rdNil))) rdNil)))) rdNil)) (rgName 5))
    (rdIfS (rdTest (rdOp (rdIsN true) (rdVar 5) (rdC .non))) (rdPut 1 (rdVar 3) (rdOp rdAddB (rdTup (rdCons (rdVar 3) rdNil)) (rdVar 5))) rdNext)) rdNext)))
    (rdRet (rdVar 1))))
def rd_orders_of : TDS :=
    (rdSeq (rdTupO [1, 2, 3] [true, false, false] (rdCons rdDic0 (rdCons (rdShare (rdCF rdListB (rdCons (rdVar 0) rdNil))) (rdCons (rdC (.bl false)) rdNil))))
    (rdSeq (rdWhile (rdNot (rdTest (rdVar 3))) (rdSeq (rdAsg (rdShare (rdLc (rdIAny (rdVar 2)) (rgName 5) (rdTest (rdCB rdAll (rdCons (rdShare (rdLc (rdIAny (rdOp rdIxA (rdVar 0) (rdVar 5))) (rgName 6) (fun Γ Q => Q true Γ) (rdPkR (rdInB false) (rdVar 6) 1) [6])) rdNil))) (rdVar 5) [5])) (rgName 4))
    (rdSeq (rdAsg (rdShare (rdLc (rdIAny (rdVar 2)) (rgName 5) (rdTest (rdOp (rdInB true) (rdVar 5) (rdVar 4))) (rdVar 5) [5])) (rgName 2))
    (rdSeq (rdAsg (rdOp rdEq (rdVar 4) (rdShare (rdLst rdNil))) (rgName 3))
    (rdFor (rdIAny (rdVar 4)) (rgName 5) (rdSeq (rdAsg (rdCall F_merged [] (rdCons (rdOp rdAddB (rdShare (rdLc (rdIAny (rdOp rdIxA (rdVar 0) (rdVar 5))) (rgName 6) (fun Γ Q => Q true Γ) (rdPkIx 1 (rdVar 6)) [6])) (rdShare (rdLst (rdCons (rdOp rdIxA (rdVar 0) (rdVar 5)) rdNil)))) rdNil)) (rgName 7))
    (rdIfS (rdTest (rdOp (rdIsN true) (rdVar 7) (rdC .non))) (rdPut 1 (rdVar 5) (rdOp rdAddB (rdTup (rdCons (rdVar 5) rdNil)) (rdVar 7))) rdNext)))))))
    (rdRet (rdVar 1))))
def rd_Table_bases : TDS :=
    (rdSeq (rdDrop (rdCall F_need_class [] (rdCons (rdVar 0) (rdCons (rdVar 1) rdNil))))
    (rdRet (rdOp rdIxA (rdFld "Table" "own_bases" (rdVar 0)) (rdVar 1))))
def rd_Table_order : TDS :=
    (rdSeq (rdDrop (rdCall F_need_class [] (rdCons (rdVar 0) (rdCons (rdVar 1) rdNil))))
    (rdRet (rdOp rdIxA (rdFld "Table" "own_orders" (rdVar 0)) (rdVar 1))))
def rd__law_class_names (d : Addr) : TDS :=
    (rdRet (rdSl rdSlB (rdCall (F__law_mixed d) [] (rdCons (rdVar 0) (rdCons (rdShare (rdLst (rdCons (rdC (.str "A")) (rdCons (rdC (.str "B")) (rdCons (rdC (.str "Box")) (rdCons (rdC (.str "Cat")) (rdCons (rdC (.str "D")) (rdCons (rdC (.str "Dog")) (rdCons (rdC (.str "Ab")) (rdCons (rdC (.str "Z")) (rdCons (rdC (.str "Abcdefgh")) (rdCons (rdC (.str "Kitten")) rdNil)))))))))))) rdNil))) rdNoPart (rdPart (rdVar 1))))
def rd__law_word_list (d : Addr) : TDS :=
    (rdRet (rdSl rdSlB (rdCall (F__law_mixed d) [] (rdCons (rdVar 0) (rdCons (rdShare (rdLst (rdCons (rdC (.str "m")) (rdCons (rdC (.str "n")) (rdCons (rdC (.str "run")) (rdCons (rdC (.str "put")) (rdCons (rdC (.str "has")) (rdCons (rdC (.str "under")) (rdCons (rdC (.str "call")) (rdCons (rdC (.str "abcdefgh")) rdNil)))))))))) rdNil))) rdNoPart (rdPart (rdVar 1))))
def rd__law_model : TDS :=
    (rdSeq (rdAsg (rdShare (rdCF rdSortC (rdCons (rdVar 0) rdNil))) (rgName 2))
    (rdSeq (rdAsg (rdCall F__law_lines [] (rdCons (rdVar 0) rdNil)) (rgName 3))
    (rdSeq (rdSetOwn (rdDisp (rdPsCons (rdC (.str "bases")) (rdShare (rdCF rdDictP (rdCons (rdShare (rdLc (rdIAny (rdVar 2)) (rgName 5) (fun Γ Q => Q true Γ) (rdTup (rdCons (rdVar 5) (rdCons (rdCB rdTuple (rdCons (rdOp rdIxA (rdVar 0) (rdVar 5)) rdNil)) rdNil))) [5])) rdNil))) (rdPsCons (rdC (.str "lines")) (rdVar 3) rdPsNil))) 4)
    (rdSeq (rdPut 4 (rdC (.str "words")) (rdShare (rdCF rdDictP (rdCons (rdShare (rdLc (rdIAny (rdVar 2)) (rgName 5) (fun Γ Q => Q true Γ) (rdTup (rdCons (rdVar 5) (rdCons (rdCB rdTuple (rdCons (rdShare (rdCF rdSortC (rdCons (rdOp rdIxA (rdVar 1) (rdVar 5)) rdNil))) rdNil)) rdNil))) [5])) rdNil))))
    (rdRet (rdVar 4))))))
def rd_Table___init__ : TDS :=
    (rdSeq (rdIfS (rdOr (rdNot (rdTest (rdCB rdIsi (rdCons (rdVar 1) (rdCons (rdC (.ty "dict")) rdNil))))) (rdNot (rdTest (rdChain (rdI0 fun i j => .bl (decide (i ≤ j))) (rdI0 fun i j => .bl (decide (i ≤ j))) (rdC (.int 1)) (rdCB rdLenB (rdCons (rdVar 1) rdNil)) (rdC (.int 6)))))) (fun _ _ => False) rdNext)
    (rdSeq (rdIfS (rdNot (rdTest (rdCB rdAll (rdCons (rdShare (rdLc (rdIAny (rdVar 1)) (rgName 2) (fun Γ Q => Q true Γ) (rdCall F_is_class_name [] (rdCons (rdVar 2) rdNil)) [2])) rdNil)))) (fun _ _ => False) rdNext)
    (rdSeq (rdAsg (rdShare (rdCF rdSortC (rdCons (rdVar 1) rdNil))) (rgName 3))
    (rdSeq (rdFor (rdIAny (rdVar 3)) (rgName 2) (rdIfS (rdNot (rdTest (rdCall F_is_pair [] (rdCons (rdVar 1) (rdCons (rdVar 2) (rdCons (rdOp rdIxA (rdVar 1) (rdVar 2)) rdNil)))))) (fun _ _ => False) rdNext))
    (rdSeq (rdPutF 0 "Table" "own_bases" (rdShare (rdDc (rdIAny (rdVar 3)) (rgName 2) (fun Γ Q => Q true Γ) (rdVar 2) (rdOp rdIxA (rdOp rdIxA (rdVar 1) (rdVar 2)) (rdC (.int 0))) [2])))
    (rdSeq (rdPutF 0 "Table" "own_words" (rdShare (rdDc (rdIAny (rdVar 3)) (rgName 2) (fun Γ Q => Q true Γ) (rdVar 2) (rdCB rdTuple (rdCons (rdShare (rdCF rdSortC (rdCons (rdOp rdIxA (rdOp rdIxA (rdVar 1) (rdVar 2)) (rdC (.int 1))) rdNil))) rdNil)) [2])))
    (rdSeq (rdPutF 0 "Table" "own_orders" (rdCall F_orders_of [] (rdCons (rdPkFld 0 "Table" "own_bases") rdNil)))
    (rdFor (rdIAny (rdVar 3)) (rgName 2) (rdIfS (rdTest (rdOp (rdInB true) (rdVar 2) (rdPkFld 0 "Table" "own_orders"))) (fun _ _ => False) rdNext)))))))))
def rd_Table_is_deed : TDS :=
    (rdSeq (rdIfS (rdOr (rdNot (rdTest (rdCB rdIsi (rdCons (rdVar 1) (rdCons (rdC (.ty "tuple")) rdNil))))) (rdOr (rdTest (rdOp rdNe (rdCB rdLenB (rdCons (rdVar 1) rdNil)) (rdC (.int 3)))) (rdOr (rdNot (rdTest (rdCB rdIsi (rdCons (rdOp rdIxA (rdVar 1) (rdC (.int 0))) (rdCons (rdC (.ty "str")) rdNil))))) (rdTest (rdOp (rdOwnIn "Table" F_Table___contains__ true) (rdOp rdIxA (rdVar 1) (rdC (.int 1))) (rdVar 0)))))) (rdRet (rdC (.bl false))) rdNext)
    (rdSeq (rdAsg (rdVar 1) (rgTup 3 (rgCons (rgName 2) (rgCons (rgName 3) (rgCons (rgName 4) rgNil)))))
    (rdSeq (rdIfS (rdTest (rdOp rdEq (rdVar 2) (rdC (.str "put")))) (rdRet (rdAndV (rdCall F_is_word [] (rdCons (rdVar 4) rdNil)) (rdOrV (rdOp (rdInB false) (rdVar 4) (rdOp rdIxA (rdFld "Table" "own_words" (rdVar 0)) (rdVar 3))) (rdOp (rdI0 fun i j => .bl (decide (i < j))) (rdCB rdLenB (rdCons (rdOp rdIxA (rdFld "Table" "own_words" (rdVar 0)) (rdVar 3)) rdNil)) (rdC (.int 4)))))) rdNext)
    (rdSeq (rdIfS (rdTest (rdOp rdEq (rdVar 2) (rdC (.str "drop")))) (rdRet (rdAndV (rdCall F_is_word [] (rdCons (rdVar 4) rdNil)) (rdOp (rdInB false) (rdVar 4) (rdOp rdIxA (rdFld "Table" "own_words" (rdVar 0)) (rdVar 3))))) rdNext)
    (rdSeq (rdIfS (rdOr (rdTest (rdOp rdNe (rdVar 2) (rdC (.str "bases")))) (rdNot (rdTest (rdCall F_are_bases [] (rdCons (rdFld "Table" "own_bases" (rdVar 0)) (rdCons (rdVar 3) (rdCons (rdVar 4) rdNil))))))) (rdRet (rdC (.bl false))) rdNext)
    (rdRet (rdOp rdEq (rdCB rdLenB (rdCons (rdCall F_orders_of [] (rdCons (rdShare (rdUp (rdFld "Table" "own_bases" (rdVar 0)) (rdVar 3) (rdVar 4))) rdNil)) rdNil)) (rdCB rdLenB (rdCons (rdFld "Table" "own_bases" (rdVar 0)) rdNil)))))))))
def rd__law_table (d : Addr) : TDS :=
    (rdSeq (rdPar 2 3 (rdCons (rdCall (F__law_class_names d) [] (rdCons (rdVar 0) (rdCons (rdOp rdAddB (rdC (.int 1)) (rdCall (Ftake d) [] (rdCons (rdVar 0) (rdCons (rdVar 1) rdNil)))) rdNil))) (rdCons (rdCall (F__law_word_list d) [] (rdCons (rdVar 0) (rdCons (rdOp rdAddB (rdC (.int 1)) (rdCall (Ftake d) [] (rdCons (rdVar 0) (rdCons (rdC (.int 4)) rdNil)))) rdNil))) rdNil)))
    (rdSeq (rdPar2 4 5 true true rdDic0 rdDic0)
    (rdSeq (rdFor (rdIRng (rdCons (rdCB rdLenB (rdCons (rdVar 2) rdNil)) rdNil)) (rgName 6) (rdSeq (rdAsg (rdOp rdIxA (rdVar 2) (rdVar 6)) (rgName 7))
    (rdSeq (rdPut 4 (rdVar 7) (rdCB rdTuple (rdCons (rdSl rdSlB (rdCall (F__law_mixed d) [] (rdCons (rdVar 0) (rdCons (rdSl rdSlB (rdVar 2) rdNoPart (rdPart (rdVar 6))) rdNil))) rdNoPart (rdPart (rdCall (FpickS d) [] (rdCons (rdVar 0) (rdCons (rdShare (rdLst (rdCons (rdC (.int 0)) (rdCons (rdC (.int 1)) (rdCons (rdC (.int 1)) (rdCons (rdC (.int 2)) (rdCons (rdC (.int 2)) (rdCons (rdC (.int 3)) rdNil)))))))) rdNil))))) rdNil)))
    (rdSeq (rdWhile (rdTest (rdOp (rdInB true) (rdVar 7) (rdCall F__law_lines [] (rdConsB 4 rdNil)))) (rdPut 4 (rdVar 7) (rdSl rdSlB (rdPkIx 4 (rdVar 7)) rdNoPart (rdPart (rdNeg (rdC (.int 1)))))))
    (rdSeq (rdAsg (rdCall (FpickS d) [] (rdCons (rdVar 0) (rdCons (rdShare (rdLst (rdCons (rdC (.int 3)) (rdCons (rdC (.int 3)) (rdCons (rdC (.int 3)) (rdCons (rdC (.int 1)) rdNil)))))) rdNil))) (rgName 8))
    (rdPut 5 (rdVar 7) (rdShare (rdLc (rdIAny (rdVar 3)) (rgName 9) (rdTest (rdOp rdEq (rdCall (Ftake d) [] (rdCons (rdVar 0) (rdCons (rdVar 8) rdNil))) (rdC (.int 0)))) (rdVar 9) [9]))))))))
    (rdRet (rdCall F__law_model [] (rdCons (rdVar 4) (rdCons (rdVar 5) rdNil)))))))
def rd__law_orders_right : TDS :=
    (rdSeq (rdFor (rdIAny (rdMeth "Table" "names" F_Table_names [] (rdVar 0) rdNil)) (rgName 1) (rdSeq (rdAsg (rdMeth "Table" "order" F_Table_order [] (rdVar 0) (rdCons (rdVar 1) rdNil)) (rgName 2))
    (rdSeq (rdIfS (rdOr (rdTest (rdOp rdNe (rdOp rdIxA (rdVar 2) (rdC (.int 0))) (rdVar 1))) (rdOr (rdTest (rdOp rdNe (rdLenSet (rdVar 2)) (rdCB rdLenB (rdCons (rdVar 2) rdNil)))) (rdNot (rdTest (rdCall F__law_kept [] (rdCons (rdMeth "Table" "bases" F_Table_bases [] (rdVar 0) (rdCons (rdVar 1) rdNil)) (rdCons (rdSl rdSlB (rdVar 2) (rdPart (rdC (.int 1))) rdNoPart) rdNil))))))) (rdRet (rdC (.bl false))) rdNext)
    (rdSeq (rdFor (rdIAny (rdVar 2)) (rgName 3) (rdIfS (rdNot (rdTest (rdCall F__law_kept [] (rdCons (rdMeth "Table" "order" F_Table_order [] (rdVar 0) (rdCons (rdVar 3) rdNil)) (rdCons (rdVar 2) rdNil))))) (rdRet (rdC (.bl false))) rdNext))
    (rdSeq (rdAsg (rdCB rdSumL (rdCons (rdShare (rdLc (rdIAny (rdMeth "Table" "bases" F_Table_bases [] (rdVar 0) (rdCons (rdVar 1) rdNil))) (rgName 5) (fun Γ Q => Q true Γ) (rdShare (rdCF rdListB (rdCons (rdMeth "Table" "order" F_Table_order [] (rdVar 0) (rdCons (rdVar 5) rdNil)) rdNil))) [5])) (rdCons (rdShare (rdLst (rdCons (rdVar 1) rdNil))) rdNil))) (rgName 4))
    (rdIfS (rdTest (rdOp rdNe (rdShare (rdSortSet (rdVar 4))) (rdShare (rdCF rdSortC (rdCons (rdVar 2) rdNil))))) (rdRet (rdC (.bl false))) rdNext))))))
    (rdRet (rdC (.bl true))))
def rd_Table_done : TDS :=
    (rdSeq (rdIfS (rdNot (rdTest (rdMeth "Table" "is_deed" F_Table_is_deed [] (rdVar 0) (rdCons (rdVar 1) rdNil)))) (fun _ _ => False) rdNext)
    (rdSeq (rdAsg (rdVar 1) (rgTup 3 (rgCons (rgName 2) (rgCons (rgName 3) (rgCons (rgName 4) rgNil)))))
    (rdSeq (rdSetOwn (rdDc (rdIAny (rdFld "Table" "own_bases" (rdVar 0))) (rgName 6) (fun Γ Q => Q true Γ) (rdVar 6) (rdTup (rdCons (rdOp rdIxA (rdFld "Table" "own_bases" (rdVar 0)) (rdVar 6)) (rdCons (rdOp rdIxA (rdFld "Table" "own_words" (rdVar 0)) (rdVar 6)) rdNil))) [6]) 5)
    (rdSeq (rdAsg (rdPkIx 5 (rdVar 3)) (rgTup 2 (rgCons (rgName 7) (rgCons (rgName 8) rgNil))))
    (rdSeq (rdIfS (rdTest (rdOp rdEq (rdVar 2) (rdC (.str "bases")))) (rdPut 5 (rdVar 3) (rdTup (rdCons (rdVar 4) (rdCons (rdVar 8) rdNil)))) (rdSeq (rdAsg (rdCB rdTuple (rdCons (rdShare (rdLc (rdIAny (rdVar 8)) (rgName 10) (rdTest (rdOp rdNe (rdVar 10) (rdVar 4))) (rdVar 10) [10])) rdNil)) (rgName 9))
    (rdPut 5 (rdVar 3) (rdTup (rdCons (rdVar 7) (rdCons (rdIf (rdTest (rdOp rdEq (rdVar 2) (rdC (.str "put")))) (rdOp rdAddB (rdVar 9) (rdTup (rdCons (rdVar 4) rdNil))) (rdVar 9)) rdNil))))))
    (rdRet (rdCall F_Table___init__ [] (rdCons (rdVar 5) rdNil))))))))
def rd__law_real : TDS :=
    (rdRet (rdCall F_Table___init__ [] (rdCons (rdShare (rdCF rdDictP (rdCons (rdShare (rdLc (rdIAny (rdOp rdIxA (rdVar 0) (rdC (.str "bases")))) (rgName 1) (fun Γ Q => Q true Γ) (rdTup (rdCons (rdVar 1) (rdCons (rdTup (rdCons (rdOp rdIxA (rdOp rdIxA (rdVar 0) (rdC (.str "bases"))) (rdVar 1)) (rdCons (rdShare (rdCF rdListB (rdCons (rdOp rdIxA (rdOp rdIxA (rdVar 0) (rdC (.str "words"))) (rdVar 1)) rdNil))) rdNil))) rdNil))) [1])) rdNil))) rdNil)))
end TB

set_option Elab.async false
set_option linter.all false
set_option maxRecDepth 100000
set_option maxHeartbeats 4000000
namespace TB
open PySem PySem.Spec L2 VL
open PyProof.Rows hiding St
theorem st_next {E : EndsD} {Γ : Gm} (h : E.nx Γ) : rdNext E Γ := h
theorem kit_str {nm : String} (h : nm = "NoneType" ∨ nm = "bool" ∨ nm = "int" ∨ nm = "list" ∨ nm = "tuple" ∨ nm = "dict") : kitB nm "str" = some false := by
  rcases h with h | h | h | h | h | h <;> subst h <;> rfl
theorem lc_smalls {Γ : Gm} {i : Nat} {tf : TDF} {l : List Nat} (hi : VA tf Γ (l.map fun c => D.str ⟨#[c]⟩)) (hn : i < Γ.length) (ho : noOwn Γ [i]) (hl : l.length ≤ 100) :
    Vl (rdCB rdAll (rdCons (rdShare (rdLc tf (rgName i) (fun Γ Q => Q true Γ) (rdOp (rdInB false) (rdVar i) (rdC (.str smalls))) [i])) rdNil)) Γ (.bl (l.all fun c => decide (c ∈ smalls.cps.toList))) := by
  refine vl_cb (va_cons (vl_sh (vl_lcm hi hn ho (Nat.le_trans hl (by decide)) (f := fun c => .bl (decide (c ∈ smalls.cps.toList))) fun c hc => ?_)) va_nil) vc_all
  refine vl_op (vl_var (List.getElem?_set_self hn)) vl_c fun Q q => v2_sign Q (by rw [Bool.false_xor]; exact q)
theorem len_is_word {ds : List D} {Q : D → Prop} (h : F_is_word ds Q) : ds.length = 1 := by obtain ⟨d, rfl, _⟩ := h; rfl
theorem len_is_class_name {ds : List D} {Q : D → Prop} (h : F_is_class_name ds Q) : ds.length = 1 := by obtain ⟨d, rfl, _⟩ := h; rfl
def isS : D → Bool
  | .str _ => true
  | _ => false
theorem isi_str {d : D} (h : okV d) : VC rdIsi [d, .ty "str"] (.bl (isS d)) := by
  intro Q q
  cases d <;> first | exact absurd rfl h | exact ⟨_, _, rfl, rfl, q⟩
theorem isW_and (d : D) : isW d = (isS d && isW d) := by cases d <;> rfl
theorem rdl_is_word {ds : List D} {Q : D → Prop} (h : F_is_word ds Q) : rd_is_word { nx := fun _ => Q .non, rt := Q } (startG N_is_word ds) := by
  obtain ⟨d, rfl, ok, q⟩ := h
  unfold rd_is_word
  rw [isW_and] at q
  refine st_ret (vl_and (vl_cb (va_cons (vl_var rfl) (va_cons vl_c va_nil)) (isi_str ok)) fun hs => ?_) q
  cases d <;> first | (exact absurd hs Bool.false_ne_true) | skip
  rename_i z
  have hz : z.length ≤ 100 := ok
  have hz' : z.length ≤ sizeLine := Nat.le_trans hz (by decide)
  have e : isW (.str z) = ((decide ((1 : Int) ≤ (z.length : Int)) && decide ((z.length : Int) ≤ 8)) && z.cps.toList.all fun c => decide (c ∈ smalls.cps.toList)) := by
    show isWs z = _
    unfold isWs
    congr 2
    · simp only [decide_eq_decide]; omega
    · simp only [decide_eq_decide]; omega
  rw [e]
  refine vl_and (vl_chain vl_c (vl_cb (va_cons (vl_var rfl) va_nil) (vc_lenS hz')) v2_i0 (fun _ => vl_c) fun _ => v2_i0) fun _ => ?_
  exact lc_smalls (vi_any (vl_var rfl) fun k hk => hk) (show 1 < 2 by decide) (noOwn_of (by rfl)) (by rw [lenS]; exact hz)
theorem rdl_is_class_name {ds : List D} {Q : D → Prop} (h : F_is_class_name ds Q) : rd_is_class_name { nx := fun _ => Q .non, rt := Q } (startG N_is_class_name ds) := by
  obtain ⟨d, rfl, ok, q⟩ := h
  unfold rd_is_class_name
  refine st_seq ?_
  cases d <;> first | (exact absurd rfl ok) | skip
  case str z =>
    have hz : z.length ≤ 100 := ok
    have hz' : z.length ≤ sizeLine := Nat.le_trans hz (by decide)
    have q : Q (.bl (isCs z)) := q
    have ln : ((1 : Int) ≤ (z.length : Int)) ↔ 1 ≤ z.length := by omega
    have ln8 : ((z.length : Int) ≤ 8) ↔ z.length ≤ 8 := by omega
    cases el : z.cps.toList with
    | nil =>
      have h0 : z.length = 0 := by rw [← lenS, el]; rfl
      refine st_if (b := true) ?_ (fun _ => ?_) (fun h => by cases h)
      · refine vt_or (b1 := !true) (b2 := true) (vt_not (vt_test (vl_cb (va_cons (vl_var rfl) (va_cons vl_c va_nil)) (isi_str ok)))) fun _ => ?_
        refine vt_or (b1 := !false) (b2 := false) (vt_not (vt_test (b := false) (vl_chain (b1 := false) (b2 := false) (z := .int 8) vl_c (vl_cb (va_cons (vl_var rfl) va_nil) (vc_lenS hz')) (fun K k => ?_) (fun h => by cases h) (fun h => by cases h)))) (fun h => by cases h)
        show K (.bl (decide ((1 : Int) ≤ (z.length : Int))))
        rw [decide_eq_false (by omega)]; exact k
      · refine st_ret vl_c ?_
        show Q _
        have : isCs z = false := by unfold isCs; rw [h0]; rfl
        rw [this] at q; exact q
    | cons c r =>
      have h1 : 1 ≤ z.length := by rw [← lenS, el]; simp
      have e : isCs z = (decide (z.length ≤ 8) && (decide (c ∈ larges.cps.toList) && r.all fun c => decide (c ∈ smalls.cps.toList))) := by
        unfold isCs
        rw [el, decide_eq_true h1, Bool.true_and]
      rw [e] at q
      refine st_if (b := !(decide (z.length ≤ 8) && decide (c ∈ larges.cps.toList))) ?_ (fun hb => ?_) (fun hb => ?_)
      · have key : (!(decide (z.length ≤ 8) && decide (c ∈ larges.cps.toList))) = ((!true) || ((!(true && decide ((z.length : Int) ≤ 8))) || (true ^^ decide (c ∈ larges.cps.toList)))) := by
          rw [show decide ((z.length : Int) ≤ 8) = decide (z.length ≤ 8) by simp only [decide_eq_decide]; omega]
          cases decide (z.length ≤ 8) <;> cases decide (c ∈ larges.cps.toList) <;> rfl
        rw [key]
        refine vt_or (vt_not (vt_test (vl_cb (va_cons (vl_var rfl) (va_cons vl_c va_nil)) (isi_str ok)))) fun _ => ?_
        refine vt_or (vt_not (vt_test (vl_chain vl_c (vl_cb (va_cons (vl_var rfl) va_nil) (vc_lenS hz')) (fun K k => ?_) (fun _ => vl_c) fun _ => v2_i0))) fun _ => ?_
        · show K (.bl (decide ((1 : Int) ≤ (z.length : Int))))
          rw [decide_eq_true (by omega)]; exact k
        · refine vt_test (vl_op (vl_op (y := .int ((0 : Nat) : Int)) (d := .str ⟨#[c]⟩) (vl_var rfl) vl_c fun K k => ?_) vl_c v2_sign)
          exact ⟨hz', c, by rw [atI_n, el]; rfl, k⟩
      · refine st_ret vl_c ?_
        show Q _
        have hb : (decide (z.length ≤ 8) && decide (c ∈ larges.cps.toList)) = false := (Bool.not_eq_true' _).mp hb
        rw [← Bool.and_assoc, hb, Bool.false_and] at q
        exact q
      · have hb : (decide (z.length ≤ 8) && decide (c ∈ larges.cps.toList)) = true := (Bool.not_eq_false' _).mp hb
        rw [← Bool.and_assoc, hb, Bool.true_and] at q
        have hr : r.length ≤ 100 := by
          have : z.cps.toList.length = r.length + 1 := by rw [el]; rfl
          rw [lenS] at this
          omega
        refine st_next ?_
        dsimp only
        refine st_ret (d := .bl (r.all fun c => decide (c ∈ smalls.cps.toList))) ?_ q
        refine lc_smalls (l := r) ?_ (show 1 < 2 by decide) (noOwn_of (by rfl)) hr
        refine vi_any (d := .str (cutS z (some ((1 : Nat) : Int)) none)) (vl_sl (lo := some ((1 : Nat) : Int)) (hi := none) (x := .str z) (vl_var rfl) (vo_some vl_c) vo_no fun K k => ⟨hz', k⟩) fun k hk => ?_
        show k ((cutS z (some ((1 : Nat) : Int)) none).cps.toList.map fun c => D.str ⟨#[c]⟩)
        rw [cutS_from, el]
        exact hk
  all_goals
    refine st_if (b := true) (vt_or (b1 := !false) (b2 := false) (vt_not (vt_test (vl_cb (va_cons (vl_var rfl) (va_cons vl_c va_nil)) (isi_str ok)))) fun h => by cases h) (fun _ => st_ret vl_c q) (fun h => by cases h)
theorem len_is_list {ds : List D} {Q : D → Prop} (h : F_is_list ds Q) : ds.length = 1 := by obtain ⟨d, b, rfl, _⟩ := h; rfl
theorem rdl_is_list {ds : List D} {Q : D → Prop} (h : F_is_list ds Q) : rd_is_list { nx := fun _ => Q .non, rt := Q } (startG N_is_list ds) := by
  obtain ⟨d, b, rfl, h, q⟩ := h
  exact ⟨b, h, q⟩
end TB

set_option Elab.async false
set_option linter.all false
set_option maxRecDepth 100000
set_option maxHeartbeats 4000000
namespace TB
open PySem PySem.Spec L2 VL
open PyProof.Rows hiding St
theorem vt_eq {t : TDT} {Γ : Gm} {b b' : Bool} (h : VT t Γ b') (e : b' = b) : VT t Γ b := e ▸ h
theorem vl_eq {t : TDE} {Γ : Gm} {b b' : D} (h : Vl t Γ b') (e : b' = b) : Vl t Γ b := e ▸ h
theorem small_n {n : Nat} (h : n ≤ 1000) : n ≤ sizeLine := Nat.le_trans h (by decide)
theorem okTs_take {xs : List Str} {k : Nat} (h : okTs xs) : okTs (xs.take k) := fun x hx => h x (List.mem_of_mem_take hx)
theorem okTs_drop {xs : List Str} {k : Nat} (h : okTs xs) : okTs (xs.drop k) := fun x hx => h x (List.mem_of_mem_drop hx)
theorem okTs_tail {xs : List Str} (h : okTs xs) : okTs xs.tail := fun x hx => h x (List.mem_of_mem_tail hx)
theorem len_are_bases {ds : List D} {Q : D → Prop} (h : F_are_bases ds Q) : ds.length = 3 := by obtain ⟨ns, es, n, bs, rfl, _⟩ := h; rfl
theorem rdl_are_bases {ds : List D} {Q : D → Prop} (h : F_are_bases ds Q) : rd_are_bases { nx := fun _ => Q .non, rt := Q } (startG N_are_bases ds) := by
  obtain ⟨ns, es, n, bs, rfl, hb, hl, q⟩ := h
  unfold rd_are_bases
  refine st_seq (st_if (b := decide (3 < bs.length)) (vt_eq (b' := !true || decide ((3 : Int) < (((sS bs).length : Nat) : Int))) ?_ ?_) (fun h1 => ?_) fun h1 => ?_)
  · exact vt_or (vt_not (vt_test (vl_cb (va_cons (vl_var rfl) (va_cons vl_c va_nil)) (vc_isi rfl rfl)))) fun _ => vt_test (vl_op (vl_cb (va_cons (vl_var rfl) va_nil) vc_lenT) vl_c v2_i0)
  · show (!true || decide ((3 : Int) < (((sS bs).length : Nat) : Int))) = _
    rw [List.length_map]
    show decide _ = decide _
    rw [decide_eq_decide]
    omega
  · refine st_ret vl_c ?_
    have : areS ns n bs = false := by
      unfold areS
      rw [decide_eq_false (by have := of_decide_eq_true h1; omega)]
      rfl
    rw [this] at q
    exact q
  refine st_next ?_
  dsimp only
  have l3 : bs.length ≤ 3 := by have := of_decide_eq_false h1; omega
  refine st_seq (st_if (b := !bs.all fun b => decide (b ∈ ns) && !decide (b = n)) (vt_not (vt_test (vl_cb (va_cons (vl_sh (vl_lcm (g := D.str) (f := fun b => .bl (decide (b ∈ ns) && !decide (b = n))) (L := bs) ?_ (show 3 < 5 by decide) (noOwn_of (by rfl)) (small_n hl) fun b hm => ?_)) va_nil) vc_all))) (fun h2 => ?_) fun h2 => ?_)
  · exact vi_any (vl_var rfl) fun k hk => hk
  · refine vl_eq (vl_and (b1 := true) ?_ fun _ => vl_and (vl_op (vl_var rfl) (vl_var rfl) (d := .bl (false ^^ decide (b ∈ ns))) fun K k => ?_) fun _ => vl_op (vl_var rfl) (vl_var rfl) v2_neS) ?_
    · exact vl_cb (va_cons (vl_var rfl) (va_cons vl_c va_nil)) (vc_isi rfl rfl)
    · refine ⟨.inr b, rfl, ?_⟩
      have e := hasK_dB (B := ns.map fun m => (m, ())) (n := b)
      have e2 : dom (ns.map fun m => (m, ())) = ns := by unfold dom; rw [List.map_map]; exact List.map_id' _
      rw [e2] at e
      rw [e]
      exact k
    · rw [Bool.true_and, Bool.false_xor]
  · refine st_ret vl_c ?_
    have h2 : (bs.all fun b => decide (b ∈ ns) && !decide (b = n)) = false := (Bool.not_eq_true' _).mp h2
    have : areS ns n bs = false := by
      unfold areS
      rw [h2, Bool.and_false, Bool.false_and]
    rw [this] at q
    exact q
  refine st_next ?_
  dsimp only
  have h2 : (bs.all fun b => decide (b ∈ ns) && !decide (b = n)) = true := (Bool.not_eq_false' _).mp h2
  have ea : areS ns n bs = decide bs.Nodup := by
    unfold areS
    rw [h2, decide_eq_true l3, Bool.true_and, Bool.true_and]
  rw [ea, ← enl_nodup0] at q
  refine st_ret (vl_cb (va_cons (vl_sh (vl_lce (g := D.str) (f := fun k b => .bl (!decide (b ∈ bs.take k))) (vi_enumT (va_cons (vl_var rfl) va_nil)) (show 4 < 5 by decide) (show 3 < 5 by decide) (by decide) (noOwn_of (by rfl)) (small_n hl) fun k b e => ?_)) va_nil) vc_allE) q
  refine vl_op (vl_var rfl) (vl_sl (vl_var rfl) vo_no (vo_some (vl_var rfl)) vs_Tto) ?_
  rw [← List.map_take]
  intro K kk
  exact v2_inT (hb b (List.mem_of_getElem? e)) (okTs_take hb) K (by rw [Bool.true_xor]; exact kk)
theorem len_Table_names {ds : List D} {Q : D → Prop} (h : F_Table_names ds Q) : ds.length = 1 := by obtain ⟨B, W, K, rfl, _⟩ := h; rfl
theorem rdl_Table_names {ds : List D} {Q : D → Prop} (h : F_Table_names ds Q) : rd_Table_names { nx := fun _ => Q .non, rt := Q } (startG N_Table_names ds) := by
  obtain ⟨B, W, K, rfl, q⟩ := h
  exact st_ret (vl_sh (vl_cf (va_cons (vl_fld (vl_var rfl) rfl) va_nil) vc_listB)) q
theorem len_Table___contains__ {ds : List D} {Q : D → Prop} (h : F_Table___contains__ ds Q) : ds.length = 2 := by obtain ⟨B, W, K, n, rfl, _⟩ := h; rfl
theorem rdl_Table___contains__ {ds : List D} {Q : D → Prop} (h : F_Table___contains__ ds Q) : rd_Table___contains__ { nx := fun _ => Q .non, rt := Q } (startG N_Table___contains__ ds) := by
  obtain ⟨B, W, K, n, rfl, q⟩ := h
  refine st_ret (vl_eq (vl_and (b1 := true) (vl_cb (va_cons (vl_var rfl) (va_cons vl_c va_nil)) (vc_isi rfl rfl)) fun _ => vl_op (vl_var rfl) (vl_fld (vl_var rfl) rfl) v2_inD) ?_) q
  rw [Bool.true_and, Bool.false_xor]
theorem len_need_class {ds : List D} {Q : D → Prop} (h : F_need_class ds Q) : ds.length = 2 := by obtain ⟨B, W, K, n, rfl, _⟩ := h; rfl
theorem rdl_need_class {ds : List D} {Q : D → Prop} (h : F_need_class ds Q) : rd_need_class { nx := fun _ => Q .non, rt := Q } (startG N_need_class ds) := by
  obtain ⟨B, W, K, n, rfl, hn, q⟩ := h
  refine st_if (b := false) (vt_test (vl_op (vl_var rfl) (vl_var rfl) fun Q' q' => ?_)) (fun h => by cases h) fun _ => q
  refine ⟨rfl, B, W, K, n, rfl, ?_⟩
  show Q' (.bl (true ^^ decide (n ∈ dom B)))
  rw [decide_eq_true hn]
  exact q'
theorem need_ok {B W K : Bs} {n : Str} (h : n ∈ dom B) : VC F_need_class [tabD B W K, .str n] .non := fun Q q => ⟨B, W, K, n, rfl, h, q⟩
theorem len_Table_bases {ds : List D} {Q : D → Prop} (h : F_Table_bases ds Q) : ds.length = 2 := by obtain ⟨B, W, K, n, bs, rfl, _⟩ := h; rfl
theorem rdl_Table_bases {ds : List D} {Q : D → Prop} (h : F_Table_bases ds Q) : rd_Table_bases { nx := fun _ => Q .non, rt := Q } (startG N_Table_bases ds) := by
  obtain ⟨B, W, K, n, bs, rfl, hn, q⟩ := h
  refine st_seq (st_drop (vl_call (va_cons (vl_var rfl) (va_cons (vl_var rfl) va_nil)) (need_ok (get_dom hn))) ?_)
  dsimp only
  exact st_ret (vl_op (vl_fld (vl_var rfl) rfl) (vl_var rfl) (v2_ixD hn rfl)) q
theorem len_Table_order {ds : List D} {Q : D → Prop} (h : F_Table_order ds Q) : ds.length = 2 := by obtain ⟨B, W, K, n, l, rfl, _⟩ := h; rfl
theorem rdl_Table_order {ds : List D} {Q : D → Prop} (h : F_Table_order ds Q) : rd_Table_order { nx := fun _ => Q .non, rt := Q } (startG N_Table_order ds) := by
  obtain ⟨B, W, K, n, l, rfl, hn, hk, q⟩ := h
  refine st_seq (st_drop (vl_call (va_cons (vl_var rfl) (va_cons (vl_var rfl) va_nil)) (need_ok hn)) ?_)
  dsimp only
  exact st_ret (vl_op (vl_fld (vl_var rfl) rfl) (vl_var rfl) (v2_ixD hk rfl)) q
theorem len__law_kept {ds : List D} {Q : D → Prop} (h : F__law_kept ds Q) : ds.length = 2 := by obtain ⟨l, w, rfl, _⟩ := h; rfl
theorem rdl__law_kept {ds : List D} {Q : D → Prop} (h : F__law_kept ds Q) : rd__law_kept { nx := fun _ => Q .non, rt := Q } (startG N__law_kept ds) := by
  obtain ⟨l, w, rfl, hl, hw, l1, l2, q⟩ := h
  have hf : okTs (w.filter fun x => decide (x ∈ l)) := fun x hx => hw x (List.mem_filter.mp hx).1
  refine st_ret (vl_op (vl_cb (va_cons (vl_sh (vl_lc (g := D.str) (f := D.str) (p := fun x => decide (x ∈ l)) (vi_any (vl_var rfl) fun k hk => hk) (show 2 < 3 by decide) (noOwn_of (by rfl)) (small_n (by omega)) (fun x hx => ?_) fun x hx _ => vl_var rfl)) va_nil) vc_tupL) (vl_cb (va_cons (vl_var rfl) va_nil) vc_tupT) (v2_eqST hf hl)) q
  exact vt_eq (vt_test (vl_op (vl_var rfl) (vl_var rfl) (v2_inT (hw x hx) hl))) (Bool.false_xor _)
/-! the draw -/
theorem rdl__law_begin {ds : List D} {Q : D → Prop} (h : Fbegin ds Q) : rd__law_begin { nx := fun _ => Q .non, rt := Q } (startG N__law_begin ds) := by
  obtain ⟨ns, rfl, q⟩ := h
  refine ⟨noOwn_of (by rfl), ?_⟩
  show goLc _ _ _ _ _ (cutD (ns.map D.int) none (some ((63 : Nat) : Int))) [] _
  rw [cutD_to, ← List.map_take]
  have hl : (ns.take 63).length ≤ 63 := by rw [List.length_take]; omega
  refine goLc_b D.int (fun i => .int (if i < 0 then -i else i)) (show 1 < 2 by decide) _ (Nat.le_trans hl (by decide)) (fun i hi k hk => hk) ?_
  cases e : ns.take 63 with
  | nil => exact ⟨small_of (by decide), small_of (by decide), q [7] (by simp) (by decide) (by intro x hx; simp at hx; omega)⟩
  | cons n r =>
    refine ⟨small_of (show 4 ≤ 1000 by decide), ?_⟩
    have q' := q ((ns.take 63).map fun i => if i < 0 then -i else i) (by rw [e]; simp) (by rw [List.length_map]; exact hl) (fun x hx => by
      obtain ⟨i, _, rfl⟩ := List.mem_map.mp hx
      split <;> omega)
    rw [List.map_map, e] at q'
    exact q'
theorem rdl__law_pick {d : Addr} {ds : List D} {Q : D → Prop} (h : FpickS d ds Q) : rd__law_pick d { nx := fun _ => Q .non, rt := Q } (startG N__law_pick ds) := by
  rcases h with ⟨xs, rfl, h1, h2, q⟩ | ⟨z, rfl, h1, h2, q⟩
  · have h0 : 0 < xs.length := List.length_pos_iff.mpr h1
    show rdOp rdIxA _ _ _ _
    refine nd_op (vl_var rfl) (nd_call (va_cons (vl_var rfl) (va_cons (vl_cb (va_cons (vl_var rfl) va_nil) vc_lenL) va_nil)) ?_)
    refine take_ok (by omega) (by omega) fun r hr => ?_
    have hr' : r < xs.length := by omega
    exact v2_ixL (List.getElem?_eq_getElem hr') _ (q _ (List.getElem_mem hr'))
  · have hz : z.length ≤ sizeLine := Nat.le_trans (Nat.le_of_lt h2) (by decide)
    show rdOp rdIxA _ _ _ _
    refine nd_op (vl_var rfl) (nd_call (va_cons (vl_var rfl) (va_cons (vl_cb (va_cons (vl_var rfl) va_nil) (vc_lenS hz)) va_nil)) ?_)
    refine take_ok (by omega) (by omega) fun r hr => ?_
    refine ⟨hz, ?_⟩
    have hr' : r < z.cps.toList.length := by rw [lenS]; omega
    refine ⟨z.cps.toList[r], ?_, q _ (List.getElem_mem hr')⟩
    rw [atI_n]
    exact List.getElem?_eq_getElem hr'
end TB

set_option Elab.async false
set_option linter.all false
set_option maxRecDepth 100000
set_option maxHeartbeats 1000000
namespace TB
open PySem PySem.Spec L2 VL
open PyProof.Rows hiding St
theorem goW_stop {c : TDT} {tb : TDS} {E : EndsD} {Γ : Gm} (h : VT c Γ false) (q : E.nx Γ) : goW c tb E 1 Γ := h _ q
theorem goW_go {c : TDT} {tb : TDS} {E : EndsD} {n : Nat} {Γ : Gm} (h : VT c Γ true) (q : tb { E with nx := goW c tb E n, ct := goW c tb E n, bk := E.nx } Γ) : goW c tb E (n + 1) Γ := h _ q
theorem len_first_head {ds : List D} {Q : D → Prop} (h : F_first_head ds Q) : ds.length = 1 := by obtain ⟨rows, rfl, _⟩ := h; rfl
theorem head_val {rows : Rows'} (ok : okRows rows) {r : List Str} {x : Str} {t : List Str} (hr : r ∈ rows) (e : r = x :: t) {Γ : Gm} (h0 : Γ[0]? = some (.dat (.lst (rows.map sT)))) (h1 : Γ[1]? = some (.dat (sT r))) (hn : 2 < Γ.length) (ho : noOwn Γ [2]) :
    Vl (rdCB rdAny (rdCons (rdShare (rdLc (rdIAny (rdVar 0)) (rgName 2) (fun Γ Q => Q true Γ) (rdOp (rdInB false) (rdOp rdIxA (rdVar 1) (rdC (.int 0))) (rdSl rdSlB (rdVar 2) (rdPart (rdC (.int 1))) rdNoPart)) [2])) rdNil)) Γ (.bl (rows.any fun o => decide (x ∈ o.tail))) := by
  refine vl_cb (va_cons (vl_sh (vl_lcm (g := sT) (f := fun o => .bl (decide (x ∈ o.tail))) (L := rows) (vi_any (vl_var h0) fun k hk => hk) hn ho (small_n (by have := ok.1; omega)) fun o ho' => ?_)) va_nil) vc_any
  refine vl_op (vl_op (x := sT r) (y := .int ((0 : Nat) : Int)) (d := .str x) (vl_var ?_) vl_c (v2_ixT (by rw [e]; rfl))) (vl_sl (lo := some ((1 : Nat) : Int)) (vl_var (List.getElem?_set_self hn)) (vo_some vl_c) vo_no vs_T) ?_
  · rw [List.getElem?_set_ne (by decide)]; exact h1
  · rw [← List.map_drop, List.drop_one]
    intro K k
    exact v2_inT ((ok.2 r hr).2 x (by rw [e]; exact List.mem_cons_self)) (okTs_tail (ok.2 o ho').2) K (by rw [Bool.false_xor]; exact k)
theorem rdl_first_head {ds : List D} {Q : D → Prop} (h : F_first_head ds Q) : rd_first_head { nx := fun _ => Q .non, rt := Q } (startG N_first_head ds) := by
  obtain ⟨rows, rfl, ok, ne, q⟩ := h
  unfold rd_first_head
  have key : ∀ (L : Rows') (s1 s2 : Sl), (∀ r ∈ L, r ∈ rows) → s2.isOwn = false → Q (match L.findSome? (hdF rows) with | none => .non | some x => .str x) →
      goFor (rgName 1) (rdIfS (rdNot (rdTest (rdCB rdAny (rdCons (rdShare (rdLc (rdIAny (rdVar 0)) (rgName 2) (fun Γ Q => Q true Γ) (rdOp (rdInB false) (rdOp rdIxA (rdVar 1) (rdC (.int 0))) (rdSl rdSlB (rdVar 2) (rdPart (rdC (.int 1))) rdNoPart)) [2])) rdNil)))) (rdRet (rdOp rdIxA (rdVar 1) (rdC (.int 0)))) rdNext)
        { nx := rdRet (rdC .non) { nx := fun _ => Q .non, rt := Q }, rt := Q } (L.map sT) [.dat (.lst (rows.map sT)), s1, s2] := by
    intro L
    induction L with
    | nil => intro s1 s2 _ _ q; exact q
    | cons r L ih =>
      intro s1 s2 hL hs q
      have hr := hL r List.mem_cons_self
      show rdIfS _ _ _ _ [.dat (.lst (rows.map sT)), .dat (sT r), s2]
      cases er : r with
      | nil => exact absurd er (ne r hr)
      | cons x t =>
        refine st_if (vt_not (vt_test (head_val ok hr er rfl (by rw [er]; rfl) (show 2 < 3 by decide) fun v hv s e => ?_))) (fun hb => ?_) fun hb => ?_
        · rw [List.mem_singleton.mp hv] at e; cases e; exact hs
        · refine st_ret (d := .str x) (vl_op (y := .int ((0 : Nat) : Int)) (vl_var rfl) vl_c (v2_ixT rfl)) ?_
          have hb : (rows.any fun o => decide (x ∈ o.tail)) = false := (Bool.not_eq_true' _).mp hb
          have g : ∀ o ∈ rows, x ∉ o.tail := fun o ho => by
            have := List.any_eq_false.mp hb o ho
            simpa using this
          rw [er, List.findSome?_cons, show hdF rows (x :: t) = some x from if_pos g] at q
          exact q
        · have hb : (rows.any fun o => decide (x ∈ o.tail)) = true := (Bool.not_eq_false' _).mp hb
          have g : ¬ ∀ o ∈ rows, x ∉ o.tail := fun g => by
            obtain ⟨o, ho, e⟩ := List.any_eq_true.mp hb
            exact g o ho (of_decide_eq_true e)
          rw [er, List.findSome?_cons, show hdF rows (x :: t) = none from if_neg g] at q
          exact ih (.dat (sT (x :: t))) s2 (fun r hr => hL r (List.mem_cons_of_mem _ hr)) hs q
  exact key rows .no .no (fun _ h => h) rfl q
theorem len_is_pair {ds : List D} {Q : D → Prop} (h : F_is_pair ds Q) : ds.length = 3 := by obtain ⟨ns, es, n, p, rfl, _⟩ := h; rfl
theorem are_ok {ns : List Str} {es : List D} {n : Str} {bs : List Str} (h : okTs bs) (hl : bs.length ≤ 1000) : VC F_are_bases [.dic (ns.map Sum.inr) es, .str n, sT bs] (.bl (areS ns n bs)) := fun Q q => ⟨ns, es, n, bs, rfl, h, hl, q⟩
theorem word_ok {w : Str} (h : w.length ≤ 100) : VC F_is_word [.str w] (.bl (isWs w)) := fun Q q => ⟨.str w, rfl, h, q⟩
theorem isWs_len {w : Str} (h : isWs w = true) : w.length ≤ 8 := by
  unfold isWs at h
  simp only [Bool.and_eq_true, decide_eq_true_eq] at h
  exact h.1.2
theorem areS_len {ns : List Str} {n : Str} {bs : List Str} (h : areS ns n bs = true) : bs.length ≤ 3 := by
  unfold areS at h
  simp only [Bool.and_eq_true, decide_eq_true_eq] at h
  exact h.1.1
theorem rdl_is_pair {ds : List D} {Q : D → Prop} (h : F_is_pair ds Q) : rd_is_pair { nx := fun _ => Q .non, rt := Q } (startG N_is_pair ds) := by
  obtain ⟨ns, es, n, ⟨bs, ws, k⟩, rfl, hb, ha, hl, nd, hw, q⟩ := h
  dsimp only at hb ha hl nd hw
  have l3 := areS_len ha
  have hwt : okTs ws := fun w h => (hw w h).2
  unfold rd_is_pair
  have v : prD (bs, ws, k) = .tup [sT bs, if k = true then sL ws else sT ws] := rfl
  rw [v]
  have hit : ∀ kk : List D → Prop, kk (sS ws) → asIt (if k = true then sL ws else sT ws) kk := fun kk h => by cases k <;> exact h
  have hlen : VC rdLenB [if k = true then sL ws else sT ws] (.int (sS ws).length) := fun K h => by cases k <;> exact h
  have hsl : ∀ j : Nat, ∀ x ∈ ws, Vl (rdOp (rdInB true) (rdVar 4) (rdSl rdSlB (rdVar 3) rdNoPart (rdPart (rdVar 5)))) [.dat (.dic (ns.map Sum.inr) es), .dat (.str n), .dat (.tup [sT bs, if k = true then sL ws else sT ws]), .dat (if k = true then sL ws else sT ws), .dat (.str x), .dat (.int j)] (.bl (!decide (x ∈ ws.take j))) := fun j x hx => by
    cases k with
    | true =>
      refine vl_eq (b' := .bl (true ^^ decide (x ∈ ws.take j))) (vl_op (vl_var rfl) (vl_sl (vl_var rfl) vo_no (vo_some (vl_var rfl)) vs_Lto) ?_) ?_
      · rw [← List.map_take]
        exact v2_inL (hwt x hx) (okTs_take hwt)
      · rw [Bool.true_xor]
    | false =>
      refine vl_eq (b' := .bl (true ^^ decide (x ∈ ws.take j))) (vl_op (vl_var rfl) (vl_sl (vl_var rfl) vo_no (vo_some (vl_var rfl)) vs_Tto) ?_) ?_
      · rw [← List.map_take]
        exact v2_inT (hwt x hx) (okTs_take hwt)
      · rw [Bool.true_xor]
  have hislist : VC F_is_list [if k = true then sL ws else sT ws] (.bl true) := fun K h => by cases k <;> exact ⟨_, _, rfl, rfl, h⟩
  refine sq_if (b := false) ?_ (fun h => by cases h) fun _ => ?_
  · refine vt_or (b1 := !true) (b2 := false) (vt_not (vt_test (vl_cb (va_cons (vl_var rfl) (va_cons vl_c va_nil)) (vc_isi rfl rfl)))) fun _ => ?_
    refine vt_or (b1 := false) (b2 := false) (vt_test (vl_op (vl_cb (va_cons (vl_var rfl) va_nil) vc_lenT) vl_c v2_neI)) fun _ => vt_eq (vt_not (vt_test (vl_call (va_cons (vl_var rfl) (va_cons (vl_var rfl) (va_cons (vl_op (y := .int ((0 : Nat) : Int)) (vl_var rfl) vl_c (v2_ixT rfl)) va_nil))) (are_ok hb (by omega))))) ?_
    rw [ha]; rfl
  refine sq_asg (vl_op (y := .int ((1 : Nat) : Int)) (vl_var rfl) vl_c (v2_ixT rfl)) ?_
  refine sq_if (b := false) ?_ (fun h => by cases h) fun _ => ?_
  · refine vt_or (b1 := !true) (b2 := false) (vt_not (vt_test (vl_call (va_cons (vl_var rfl) va_nil) hislist))) fun _ => ?_
    refine vt_or (b1 := false) (b2 := false) (vt_eq (vt_test (vl_op (vl_cb (va_cons (vl_var rfl) va_nil) hlen) vl_c v2_i0)) ?_) fun _ => ?_
    · rw [List.length_map]
      exact decide_eq_false (by omega)
    · refine vt_eq (vt_not (vt_test (vl_cb (va_cons (vl_sh (vl_lcm (g := D.str) (f := fun w => .bl (isWs w)) (L := ws) (vi_any (vl_var rfl) hit) (show 4 < 6 by decide) (noOwn_of (by rfl)) (small_n (by omega)) fun w hm => vl_call (va_cons (vl_var rfl) va_nil) (word_ok (by have := isWs_len (hw w hm).1; omega)))) va_nil) vc_all))) ?_
      rw [List.all_eq_true.mpr fun w hm => (hw w hm).1]
      rfl
  refine st_ret (d := .bl ((enl (fun k x => !decide (x ∈ ws.take k)) 0 ws).all id)) (vl_cb (va_cons (vl_sh (vl_lce (g := D.str) (f := fun k b => .bl (!decide (b ∈ ws.take k))) ?_ (show 5 < 6 by decide) (show 4 < 6 by decide) (by decide) (noOwn_of (by rfl)) (small_n (by omega)) fun j x e => ?_)) va_nil) vc_allE) ?_
  · cases k with
    | true => exact vi_enumL (va_cons (vl_var rfl) va_nil)
    | false => exact vi_enumT (va_cons (vl_var rfl) va_nil)
  · exact hsl j x (List.mem_of_getElem? e)
  · rw [enl_nodup0, decide_eq_true nd]
    exact q
end TB

set_option Elab.async false
set_option linter.all false
set_option maxRecDepth 100000
set_option maxHeartbeats 1000000
namespace TB
open PySem PySem.Spec L2 VL
open PyProof.Rows hiding St
/-! ### merged -/
def ne (rows : Rows') : Rows' := rows.filter fun r => !decide (r = [])
def cutx (x : Str) (r : List Str) : List Str := if r.head? = some x then r.tail else r
theorem ne_mem {rows : Rows'} {r : List Str} : r ∈ ne rows ↔ r ∈ rows ∧ r ≠ [] := by
  unfold ne
  rw [List.mem_filter]
  simp
theorem okRows.ne {rows : Rows'} (h : okRows rows) : okRows (ne rows) := ⟨Nat.le_trans (List.length_filter_le _ _) h.1, fun r hr => h.2 r (ne_mem.mp hr).1⟩
theorem okRows.without {rows : Rows'} {x : Str} (h : okRows rows) : okRows (VL.without x rows) := by
  refine ⟨by unfold VL.without; rw [List.length_map]; exact h.1, fun r hr => ?_⟩
  obtain ⟨r', hr', rfl⟩ := List.mem_map.mp hr
  exact ⟨Nat.le_trans (List.length_filter_le _ _) (h.2 r' hr').1, fun y hy => (h.2 r' hr').2 y (List.mem_filter.mp hy).1⟩
theorem ne_nil {rows : Rows'} : ne rows = [] ↔ ∀ r ∈ rows, r = [] := by
  unfold ne
  rw [List.filter_eq_nil_iff]
  simp
theorem hdOf_ne (rows : Rows') : hdOf (ne rows) = hdOf rows := by
  have key : ∀ x : Str, (∀ o ∈ ne rows, x ∉ o.tail) ↔ ∀ o ∈ rows, x ∉ o.tail := fun x => by
    constructor
    · intro h o ho
      cases o with
      | nil => simp
      | cons y t => exact h _ (ne_mem.mpr ⟨ho, by simp⟩)
    · exact fun h o ho => h o (ne_mem.mp ho).1
  have ef : hdF (ne rows) = hdF rows := by
    funext r
    cases r with
    | nil => rfl
    | cons x t =>
      by_cases g : ∀ o ∈ rows, x ∉ o.tail
      · rw [show hdF rows (x :: t) = some x from if_pos g, show hdF (ne rows) (x :: t) = some x from if_pos ((key x).mpr g)]
      · rw [show hdF rows (x :: t) = none from if_neg g, show hdF (ne rows) (x :: t) = none from if_neg fun z => g ((key x).mp z)]
  unfold hdOf
  rw [ef]
  have hf : hdF rows [] = none := rfl
  generalize hdF rows = f at hf
  clear ef key
  unfold ne
  induction rows with
  | nil => rfl
  | cons r t ih =>
    cases r with
    | nil =>
      rw [List.filter_cons_of_neg (by simp), List.findSome?_cons, hf]
      exact ih
    | cons x q =>
      rw [List.filter_cons_of_pos (by simp), List.findSome?_cons, List.findSome?_cons, ih]
theorem ne_without {x : Str} : ∀ {L : Rows'}, (∀ r ∈ L, r.filter (fun y => !decide (y = x)) = cutx x r) → ((ne L).filter fun r => !decide (cutx x r = [])).map (cutx x) = ne (VL.without x L)
  | [], _ => rfl
  | r :: t, h => by
    have ih := ne_without (L := t) fun r hr => h r (List.mem_cons_of_mem _ hr)
    have hr := h r List.mem_cons_self
    unfold ne VL.without at ih ⊢
    rw [List.map_cons, hr]
    by_cases e : r = []
    · subst e
      rw [List.filter_cons_of_neg (by simp), List.filter_cons_of_neg (by simp [cutx])]
      exact ih
    · rw [List.filter_cons_of_pos (by simpa using e)]
      by_cases e2 : cutx x r = []
      · rw [List.filter_cons_of_neg (by simpa using e2), List.filter_cons_of_neg (by simpa using e2)]
        exact ih
      · rw [List.filter_cons_of_pos (by simpa using e2), List.filter_cons_of_pos (by simpa using e2), List.map_cons, ih]
theorem okE_rowsT {rows : Rows'} (h : ∀ r ∈ rows, okTs r) : okE (.lst (rows.map sT)) := (okN_lst (n := 1) fun d hd => by
  obtain ⟨r, hr, rfl⟩ := List.mem_map.mp hd
  exact okN_tup (n := 0) fun d hd => by
    obtain ⟨x, hx, rfl⟩ := List.mem_map.mp hd
    exact okN_str (h r hr x hx)).e (by decide)
theorem okE_rowsL {rows : Rows'} (h : ∀ r ∈ rows, okTs r) : okE (.lst (rows.map sL)) := (okN_lst (n := 1) fun d hd => by
  obtain ⟨r, hr, rfl⟩ := List.mem_map.mp hd
  exact okN_lst (n := 0) fun d hd => by
    obtain ⟨x, hx, rfl⟩ := List.mem_map.mp hd
    exact okN_str (h r hr x hx)).e (by decide)
theorem len_gt {r : List Str} : decide ((0 : Int) < (((sS r).length : Nat) : Int)) = !decide (r = []) := by
  cases r with
  | nil => rfl
  | cons a t => simp
theorem len_merged {ds : List D} {Q : D → Prop} (h : F_merged ds Q) : ds.length = 1 := by obtain ⟨rows, rfl, _⟩ := h; rfl
/-- the rows that are left -/
theorem left_val {rows : Rows'} {Γ : Gm} {i : Nat} (g : List Str → List Str) (hl : rows.length ≤ 1000) (h : Γ[i]? = some (.dat (.lst (rows.map fun r => sT (g r))))) (hn : 3 < Γ.length) (ho : noOwn Γ [3]) :
    Vl (rdShare (rdLc (rdIAny (rdVar i)) (rgName 3) (rdTest (rdOp (rdI0 fun i j => .bl (decide (j < i))) (rdCB rdLenB (rdCons (rdVar 3) rdNil)) (rdC (.int 0)))) (rdVar 3) [3])) Γ (.lst ((rows.filter fun r => !decide (g r = [])).map fun r => sT (g r))) := by
  refine vl_sh (vl_lc (g := fun r => sT (g r)) (f := fun r => sT (g r)) (p := fun r => !decide (g r = [])) (L := rows) (vi_any (vl_var h) fun k hk => hk) hn ho (small_n hl) (fun r hr => ?_) fun r hr _ => vl_var (List.getElem?_set_self hn))
  exact vt_eq (vt_test (vl_op (vl_cb (va_cons (vl_var (List.getElem?_set_self hn)) va_nil) vc_lenT) vl_c v2_i0)) len_gt
theorem size_rows {rows : Rows'} (h : okRows rows) : size rows ≤ 400 := by
  have : ∀ L : Rows', (∀ r ∈ L, r.length ≤ 20) → size L ≤ 20 * L.length := by
    intro L
    induction L with
    | nil => intro _; exact Nat.le_refl _
    | cons a t ih =>
      intro h
      have h1 := h a List.mem_cons_self
      have h2 := ih fun r hr => h r (List.mem_cons_of_mem _ hr)
      unfold size at *
      rw [List.map_cons, List.sum_cons, List.length_cons]
      omega
  have := this rows fun r hr => (h.2 r hr).1
  have := h.1
  omega
theorem merged_loop {rows : Rows'} {o : Option (List Str)} (h : Mrg rows o) {Q : D → Prop} : ∀ (acc : List Str) (s0 s3 s4 : Sl), okRows rows → acc.length + size rows ≤ 500 → s3.isOwn = false → Q (asO (o.map (acc ++ ·))) →
    ∃ n, goW (rdTest (rdOp rdNe (rdVar 2) (rdShare (rdLst rdNil)))) (rdSeq (rdAsg (rdCall F_first_head [] (rdCons (rdVar 2) rdNil)) (rgName 4))
    (rdSeq (rdIfS (rdTest (rdOp (rdIsN false) (rdVar 4) (rdC .non))) (rdRet (rdC .non)) rdNext)
    (rdSeq (rdAsg (rdOp rdAddB (rdVar 1) (rdTup (rdCons (rdVar 4) rdNil))) (rgName 1))
    (rdSeq (rdAsg (rdShare (rdLc (rdIAny (rdVar 2)) (rgName 3) (fun Γ Q => Q true Γ) (rdIf (rdTest (rdOp rdEq (rdOp rdIxA (rdVar 3) (rdC (.int 0))) (rdVar 4))) (rdSl rdSlB (rdVar 3) (rdPart (rdC (.int 1))) rdNoPart) (rdVar 3)) [3])) (rgName 2))
    (rdAsg (rdShare (rdLc (rdIAny (rdVar 2)) (rgName 3) (rdTest (rdOp (rdI0 fun i j => .bl (decide (j < i))) (rdCB rdLenB (rdCons (rdVar 3) rdNil)) (rdC (.int 0)))) (rdVar 3) [3])) (rgName 2))))))
      { nx := rdRet (rdVar 1) { nx := fun _ => Q .non, rt := Q }, rt := Q } n [s0, .dat (sT acc), .dat (.lst ((ne rows).map sT)), s3, s4] := by
  induction h with
  | done e =>
    rename_i rows
    intro acc s0 s3 s4 ok hb hs q
    refine ⟨1, ?_⟩
    refine goW_stop (c := rdTest (rdOp rdNe (rdVar 2) (rdShare (rdLst rdNil)))) (Γ := [s0, .dat (sT acc), .dat (.lst ((ne rows).map sT)), s3, s4]) ?_ ?_
    · refine vt_test (vl_op (vl_var rfl) (vl_sh (vl_lst va_nil (small_of (by decide)))) ?_)
      rw [ne_nil.mpr e]
      exact v2_neL0 (okS_lst (xs := []) fun _ h => by cases h)
    · dsimp only
      refine st_ret (vl_var rfl) ?_
      have q : Q (sT (acc ++ [])) := q
      rw [List.append_nil] at q
      exact q
  | stuck ex hh =>
    rename_i rows
    intro acc s0 s3 s4 ok hb hs q
    have hne : ne rows ≠ [] := fun z => by
      obtain ⟨r, hr, hn⟩ := ex
      exact hn (ne_nil.mp z r hr)
    refine ⟨1 + 1, goW_go (vt_eq (vt_test (vl_op (vl_var rfl) (vl_sh (vl_lst va_nil (small_of (by decide)))) (v2_neL0 (okE_rowsT fun r hr => (ok.ne.2 r hr).2)))) ?_) ?_⟩
    · rw [List.isEmpty_map]
      cases e : ne rows with
      | nil => exact absurd e hne
      | cons _ _ => rfl
    · refine sq_asg (d := .non) (vl_call (va_cons (vl_var rfl) va_nil) fun K k => ⟨ne rows, rfl, ok.ne, fun r hr => (ne_mem.mp hr).2, ?_⟩) ?_
      · rw [hdOf_ne, hh]; exact k
      · exact sq_ifR (b := true) (vt_test (vl_op (vl_var rfl) vl_c v2_isN)) (fun _ => vl_c) (fun _ => q) fun h => by cases h
  | step hh hm ih =>
    rename_i rows x o
    intro acc s0 s3 s4 ok hb hs q
    have g := hdOf_good hh
    have lt := size_lt (good_mem g)
    have hne : ne rows ≠ [] := fun z => by
      obtain ⟨r, hr, hx⟩ := good_mem g
      rw [ne_nil.mp z r hr] at hx
      cases hx
    obtain ⟨n, hn⟩ := ih (acc ++ [x]) s0 s3 (.dat (.str x)) ok.without (by rw [List.length_append]; show acc.length + 1 + _ ≤ _; omega) hs (by
      cases o with
      | none => exact q
      | some l =>
        show Q (sT ((acc ++ [x]) ++ l))
        rw [List.append_assoc]
        exact q)
    refine ⟨n + 1, goW_go (vt_eq (vt_test (vl_op (vl_var rfl) (vl_sh (vl_lst va_nil (small_of (by decide)))) (v2_neL0 (okE_rowsT fun r hr => (ok.ne.2 r hr).2)))) ?_) ?_⟩
    · rw [List.isEmpty_map]
      cases e : ne rows with
      | nil => exact absurd e hne
      | cons _ _ => rfl
    refine sq_asg (d := .str x) (vl_call (va_cons (vl_var rfl) va_nil) fun K k => ⟨ne rows, rfl, ok.ne, fun r hr => (ne_mem.mp hr).2, ?_⟩) ?_
    · rw [hdOf_ne, hh]; exact k
    refine sq_ifR (d := .non) (b := false) (vt_test (vl_op (vl_var rfl) vl_c v2_isN)) (fun h => by cases h) (fun h => by cases h) fun _ => ?_
    refine sq_asg (d := sT (acc ++ [x])) (vl_op (vl_var rfl) (vl_tup (va_cons (vl_var rfl) va_nil) (small_of (show 1 ≤ 1000 by decide))) fun K k => ⟨?_, ?_⟩) ?_
    · rw [List.length_map]
      exact small_n (by show acc.length + 1 ≤ 1000; omega)
    · have : sS acc ++ [D.str x] = sS (acc ++ [x]) := by unfold sS; rw [List.map_append]; rfl
      rw [this]; exact k
    have nl : (ne rows).length ≤ 1000 := by have := ok.ne.1; omega
    refine sq_asg (d := .lst ((ne rows).map fun r => sT (cutx x r))) (vl_sh (vl_lcm (g := sT) (f := fun r => sT (cutx x r)) (L := ne rows) (vi_any (vl_var rfl) fun k hk => hk) (show 3 < 5 by decide) (fun v hv s e => by rw [List.mem_singleton.mp hv] at e; cases e; exact hs) (small_n nl) fun r hr => ?_)) ?_
    · have hr2 := (ne_mem.mp hr).2
      cases r with
      | nil => exact absurd rfl hr2
      | cons y t =>
        refine vl_eq (vl_if (b := decide (y = x)) (x := sT t) (y := sT (y :: t)) (vt_test (vl_op (vl_op (y := .int ((0 : Nat) : Int)) (d := .str y) (vl_var rfl) vl_c (v2_ixT rfl)) (vl_var rfl) v2_eqS)) (fun _ => vl_sl (lo := some ((1 : Nat) : Int)) (vl_var rfl) (vo_some vl_c) vo_no vs_T) fun _ => vl_var rfl) ?_
        by_cases e : y = x
        · subst e; simp [cutx]
        · simp [cutx, e]
    refine st_asg (left_val (cutx x) nl rfl (show 3 < 5 by decide) (fun v hv s e => by rw [List.mem_singleton.mp hv] at e; cases e; exact hs)) ?_
    have e2 : ((ne rows).filter fun r => !decide (cutx x r = [])).map (fun r => sT (cutx x r)) = (ne (VL.without x rows)).map sT := by
      rw [← ne_without fun r hr => cut_row g hr, List.map_map]
      rfl
    rw [e2]
    exact hn
theorem rdl_merged {ds : List D} {Q : D → Prop} (h : F_merged ds Q) : rd_merged { nx := fun _ => Q .non, rt := Q } (startG N_merged ds) := by
  obtain ⟨rows, rfl, ok, q⟩ := h
  obtain ⟨o, ho⟩ := mrg_any rows
  unfold rd_merged
  have l := left_val (rows := rows) (Γ := startG N_merged [.lst (rows.map sT)]) (i := 0) id (by have := ok.1; omega) rfl (show 3 < 5 by decide) (noOwn_of (by rfl))
  refine sq_par (va_cons (vl_tup va_nil (small_of (by decide))) (va_cons l va_nil)) (sq_while ?_)
  refine merged_loop ho [] _ .no .no ok (by have := size_rows ok; show 0 + _ ≤ _; omega) rfl ?_
  have : o.map ([] ++ ·) = o := by cases o <;> rfl
  rw [this]
  exact q o ho
end TB

set_option Elab.async false
set_option linter.all false
set_option maxRecDepth 100000
set_option maxHeartbeats 1000000
namespace TB
open PySem PySem.Spec L2 VL
open PyProof.Rows hiding St
/-! ### the law's own merging -/
def hd (r : List Str) : Str := r.head?.getD Str.empty
def tls (rows : Rows') : List Str := (rows.map List.tail).flatten
def hp (rows : Rows') (r : List Str) : Bool := !decide (r = []) && !decide (hd r ∈ tls rows)
theorem mem_tls {rows : Rows'} {x : Str} : x ∈ tls rows ↔ ∃ o ∈ rows, x ∈ o.tail := by
  unfold tls
  rw [List.mem_flatten]
  constructor
  · intro ⟨l, hl, hx⟩
    obtain ⟨o, ho, rfl⟩ := List.mem_map.mp hl
    exact ⟨o, ho, hx⟩
  · intro ⟨o, ho, hx⟩
    exact ⟨o.tail, List.mem_map.mpr ⟨o, ho, rfl⟩, hx⟩
def heads (rows : Rows') : List Str := (rows.filter (hp rows)).map hd
theorem heads_hd (rows : Rows') : (heads rows).head? = hdOf rows := by
  have key : ∀ L : Rows', ((L.filter (hp rows)).map hd).head? = L.findSome? (hdF rows) := by
    intro L
    induction L with
    | nil => rfl
    | cons r t ih =>
      cases r with
      | nil =>
        rw [List.filter_cons_of_neg (by simp [hp]), List.findSome?_cons]
        exact ih
      | cons x q =>
        by_cases g : ∀ o ∈ rows, x ∉ o.tail
        · have h1 : hp rows (x :: q) = true := by
            have : x ∉ tls rows := fun m => by
              obtain ⟨o, ho, hx⟩ := mem_tls.mp m
              exact g o ho hx
            simp [hp, hd, this]
          rw [List.filter_cons_of_pos h1, List.findSome?_cons, show hdF rows (x :: q) = some x from if_pos g]
          rfl
        · have h1 : ¬ hp rows (x :: q) = true := by
            have : x ∈ tls rows := Classical.byContradiction fun n => g fun o ho hx => n (mem_tls.mpr ⟨o, ho, hx⟩)
            simp [hp, hd, this]
          rw [List.filter_cons_of_neg h1, List.findSome?_cons, show hdF rows (x :: q) = none from if_neg g]
          exact ih
  exact key rows
theorem tls_len {rows : Rows'} (ok : okRows rows) : (tls rows).length ≤ 400 := by
  have := size_rows ok
  have key : ∀ L : Rows', (tls L).length ≤ size L := by
    intro L
    induction L with
    | nil => exact Nat.le_refl _
    | cons r t ih =>
      unfold tls size at *
      rw [List.map_cons, List.flatten_cons, List.length_append, List.map_cons, List.sum_cons]
      have : r.tail.length ≤ r.length := by rw [List.length_tail]; omega
      omega
  exact Nat.le_trans (key rows) this
theorem tls_ok {rows : Rows'} (ok : okRows rows) : okTs (tls rows) := fun x hx => by
  obtain ⟨o, ho, hx⟩ := mem_tls.mp hx
  exact (ok.2 o ho).2 x (List.mem_of_mem_tail hx)
theorem heads_ok {rows : Rows'} (ok : okRows rows) : okTs (heads rows) := fun x hx => by
  obtain ⟨r, hr, rfl⟩ := List.mem_map.mp hx
  have h := List.mem_filter.mp hr
  cases r with
  | nil => have := h.2; simp [hp] at this
  | cons y q => exact (ok.2 _ h.1).2 y List.mem_cons_self
theorem len__law_merge {ds : List D} {Q : D → Prop} (h : F__law_merge ds Q) : ds.length = 1 := by obtain ⟨rows, rfl, _⟩ := h; rfl
theorem merge_loop {rows : Rows'} {o : Option (List Str)} (h : Mrg rows o) {Q : D → Prop} : ∀ (acc : List Str) (s2 s3 s4 s5 : Sl), okRows rows → acc.length + size rows ≤ 500 → s2.isOwn = false → s5.isOwn = false → Q (asO (o.map (acc ++ ·))) →
    ∃ n, goW (rdTest (rdOp rdNe (rdShare (rdLc (rdIAny (rdVar 0)) (rgName 2) (rdTest (rdOp rdNe (rdVar 2) (rdShare (rdLst rdNil)))) (rdVar 2) [2])) (rdShare (rdLst rdNil)))) (rdSeq (rdAsg (rdCB rdSumL (rdCons (rdShare (rdLc (rdIAny (rdVar 0)) (rgName 2) (fun Γ Q => Q true Γ) (rdSl rdSlB (rdVar 2) (rdPart (rdC (.int 1))) rdNoPart) [2])) (rdCons (rdShare (rdLst rdNil)) rdNil))) (rgName 3))
    (rdSeq (rdAsg (rdShare (rdLc (rdIAny (rdVar 0)) (rgName 2) (rdAnd (rdTest (rdOp rdNe (rdVar 2) (rdShare (rdLst rdNil)))) (rdTest (rdOp (rdInB true) (rdOp rdIxA (rdVar 2) (rdC (.int 0))) (rdVar 3)))) (rdOp rdIxA (rdVar 2) (rdC (.int 0))) [2])) (rgName 4))
    (rdSeq (rdIfS (rdTest (rdOp rdEq (rdVar 4) (rdShare (rdLst rdNil)))) (rdRet (rdC .non)) rdNext)
    (rdSeq (rdAsg (rdOp rdAddB (rdVar 1) (rdTup (rdCons (rdOp rdIxA (rdVar 4) (rdC (.int 0))) rdNil))) (rgName 1))
    (rdAsg (rdShare (rdLc (rdIAny (rdVar 0)) (rgName 2) (fun Γ Q => Q true Γ) (rdShare (rdLc (rdIAny (rdVar 2)) (rgName 5) (rdTest (rdOp rdNe (rdVar 5) (rdOp rdIxA (rdVar 4) (rdC (.int 0))))) (rdVar 5) [5])) [2])) (rgName 0))))))
      { nx := rdRet (rdVar 1) { nx := fun _ => Q .non, rt := Q }, rt := Q } n [.dat (.lst (rows.map sL)), .dat (sT acc), s2, s3, s4, s5] := by
  have own1 : ∀ {a b c d e f : Sl}, c.isOwn = false → noOwn [a, b, c, d, e, f] [2] := fun h v hv s e => by rw [List.mem_singleton.mp hv] at e; cases e; exact h
  have test : ∀ {rows : Rows'} {b c d e f : Sl}, okRows rows → c.isOwn = false → VT (rdTest (rdOp rdNe (rdShare (rdLc (rdIAny (rdVar 0)) (rgName 2) (rdTest (rdOp rdNe (rdVar 2) (rdShare (rdLst rdNil)))) (rdVar 2) [2])) (rdShare (rdLst rdNil)))) [.dat (.lst (rows.map sL)), b, c, d, e, f] (!(ne rows).isEmpty) := by
    intro rows b c d e f ok hc
    have nl : rows.length ≤ 1000 := by have := ok.1; omega
    refine vt_eq (vt_test (vl_op (vl_sh (vl_lc (g := sL) (f := sL) (p := fun r => !decide (r = [])) (L := rows) (vi_any (vl_var rfl) fun k hk => hk) (show 2 < 6 by decide) (own1 hc) (small_n nl) (fun r hr => vt_test (vl_op (vl_var rfl) (vl_sh (vl_lst va_nil (small_of (by decide)))) (v2_neSL0 (ok.2 r hr).2))) fun r hr _ => vl_var rfl)) (vl_sh (vl_lst va_nil (small_of (by decide)))) (v2_neL0 (okE_rowsL fun r hr => (ok.ne.2 r hr).2)))) ?_
    rw [List.isEmpty_map]
    rfl
  have pre : ∀ {rows : Rows'} {b c d e f : Sl} {t : TDS} {E : EndsD}, okRows rows → c.isOwn = false → t E [.dat (.lst (rows.map sL)), b, c, .dat (sL (tls rows)), .dat (sL (heads rows)), f] →
      rdSeq (rdAsg (rdCB rdSumL (rdCons (rdShare (rdLc (rdIAny (rdVar 0)) (rgName 2) (fun Γ Q => Q true Γ) (rdSl rdSlB (rdVar 2) (rdPart (rdC (.int 1))) rdNoPart) [2])) (rdCons (rdShare (rdLst rdNil)) rdNil))) (rgName 3))
        (rdSeq (rdAsg (rdShare (rdLc (rdIAny (rdVar 0)) (rgName 2) (rdAnd (rdTest (rdOp rdNe (rdVar 2) (rdShare (rdLst rdNil)))) (rdTest (rdOp (rdInB true) (rdOp rdIxA (rdVar 2) (rdC (.int 0))) (rdVar 3)))) (rdOp rdIxA (rdVar 2) (rdC (.int 0))) [2])) (rgName 4)) t) E [.dat (.lst (rows.map sL)), b, c, d, e, f] := by
    intro rows b c d e f t E ok hc q
    have nl : rows.length ≤ 1000 := by have := ok.1; omega
    have e1 : (rows.map fun r : List Str => D.lst (sS r.tail)) = (rows.map fun r => sS r.tail).map D.lst := by rw [List.map_map]; rfl
    have e2 : (rows.map fun r : List Str => sS r.tail).flatten = sS (tls rows) := by
      unfold tls sS
      rw [List.map_flatten, List.map_map]
      rfl
    refine sq_asg (d := sL (tls rows)) (vl_cb (ds := [.lst ((rows.map fun r : List Str => sS r.tail).map D.lst), .lst []]) (va_cons (vl_sh ?_) (va_cons (vl_sh (vl_lst va_nil (small_of (by decide)))) va_nil)) fun K k => ?_) ?_
    · rw [← e1]
      refine vl_lcm (g := sL) (f := fun r => .lst (sS r.tail)) (L := rows) (vi_any (vl_var rfl) fun k hk => hk) (show 2 < 6 by decide) (own1 hc) (small_n nl) fun r hr => ?_
      refine vl_eq (vl_sl (lo := some ((1 : Nat) : Int)) (vl_var rfl) (vo_some vl_c) vo_no vs_L) ?_
      rw [← List.map_drop, List.drop_one]
    · refine vc_sum ?_ K ?_
      · rw [e2, List.length_map]
        exact small_n (by have := tls_len ok; show 0 + _ ≤ _; omega)
      · rw [e2]; exact k
    refine sq_asg (d := sL (heads rows)) (vl_eq (vl_sh (vl_lc (g := sL) (f := fun r => .str (hd r)) (p := hp rows) (L := rows) (vi_any (vl_var rfl) fun k hk => hk) (show 2 < 6 by decide) (own1 hc) (small_n nl) (fun r hr => ?_) fun r hr hr2 => ?_)) ?_) q
    · refine vt_and (vt_test (vl_op (vl_var rfl) (vl_sh (vl_lst va_nil (small_of (by decide)))) (v2_neSL0 (ok.2 r hr).2))) fun hne => ?_
      cases r with
      | nil => cases hne
      | cons x t => exact vt_eq (vt_test (vl_op (vl_op (y := .int ((0 : Nat) : Int)) (d := .str x) (vl_var rfl) vl_c (v2_ixL rfl)) (vl_var rfl) (v2_inL ((ok.2 _ hr).2 x List.mem_cons_self) (tls_ok ok)))) (Bool.true_xor _)
    · cases r with
      | nil => simp [hp] at hr2
      | cons x t => exact vl_op (y := .int ((0 : Nat) : Int)) (d := .str x) (vl_var rfl) vl_c (v2_ixL rfl)
    · show _ = D.lst ((((rows.filter (hp rows)).map hd)).map D.str)
      rw [List.map_map]
      rfl
  induction h with
  | done e =>
    rename_i rows
    intro acc s2 s3 s4 s5 ok hb hs hs5 q
    refine ⟨1, ?_⟩
    refine goW_stop (c := rdTest (rdOp rdNe (rdShare (rdLc (rdIAny (rdVar 0)) (rgName 2) (rdTest (rdOp rdNe (rdVar 2) (rdShare (rdLst rdNil)))) (rdVar 2) [2])) (rdShare (rdLst rdNil)))) (vt_eq (test ok hs) ?_) ?_
    · rw [ne_nil.mpr e]; rfl
    · dsimp only
      refine st_ret (vl_var rfl) ?_
      have q : Q (sT (acc ++ [])) := q
      rw [List.append_nil] at q
      exact q
  | stuck ex hh =>
    rename_i rows
    intro acc s2 s3 s4 s5 ok hb hs hs5 q
    have hne : ne rows ≠ [] := fun z => by
      obtain ⟨r, hr, hn⟩ := ex
      exact hn (ne_nil.mp z r hr)
    refine ⟨1 + 1, goW_go (vt_eq (test ok hs) ?_) ?_⟩
    · cases e : ne rows with
      | nil => exact absurd e hne
      | cons _ _ => rfl
    · refine pre ok hs ?_
      refine sq_ifR (d := .non) (b := true) (vt_eq (vt_test (vl_op (vl_var rfl) (vl_sh (vl_lst va_nil (small_of (by decide)))) (v2_eqSL0 (heads_ok ok)))) ?_) (fun _ => vl_c) (fun _ => q) fun h => by cases h
      have := heads_hd rows
      rw [hh, List.head?_eq_none_iff] at this
      rw [this]
      rfl
  | step hh hm ih =>
    rename_i rows x o
    intro acc s2 s3 s4 s5 ok hb hs hs5 q
    have g := hdOf_good hh
    have lt := size_lt (good_mem g)
    have nl : rows.length ≤ 1000 := by have := ok.1; omega
    have hne : ne rows ≠ [] := fun z => by
      obtain ⟨r, hr, hx⟩ := good_mem g
      rw [ne_nil.mp z r hr] at hx
      cases hx
    obtain ⟨t, et⟩ : ∃ t, heads rows = x :: t := by
      have := heads_hd rows
      rw [hh] at this
      cases e : heads rows with
      | nil => rw [e] at this; cases this
      | cons y t => rw [e] at this; cases this; exact ⟨t, rfl⟩
    have hx : okT x := heads_ok ok x (by rw [et]; exact List.mem_cons_self)
    obtain ⟨n, hn⟩ := ih (acc ++ [x]) s2 (.dat (sL (tls rows))) (.dat (sL (heads rows))) s5 ok.without (by rw [List.length_append]; show acc.length + 1 + _ ≤ _; omega) hs hs5 (by
      cases o with
      | none => exact q
      | some l =>
        show Q (sT ((acc ++ [x]) ++ l))
        rw [List.append_assoc]
        exact q)
    refine ⟨n + 1, goW_go (vt_eq (test ok hs) ?_) ?_⟩
    · cases e : ne rows with
      | nil => exact absurd e hne
      | cons _ _ => rfl
    refine pre ok hs ?_
    have h0 : ∀ {a b c d f : Sl}, Vl (rdOp rdIxA (rdVar 4) (rdC (.int 0))) [a, b, c, d, .dat (sL (heads rows)), f] (.str x) := vl_op (y := .int ((0 : Nat) : Int)) (vl_var rfl) vl_c (v2_ixL (by rw [et]; rfl))
    refine sq_ifR (d := .non) (b := false) (vt_eq (vt_test (vl_op (vl_var rfl) (vl_sh (vl_lst va_nil (small_of (by decide)))) (v2_eqSL0 (heads_ok ok)))) ?_) (fun h => by cases h) (fun h => by cases h) fun _ => ?_
    · rw [et]; rfl
    refine sq_asg (d := sT (acc ++ [x])) (vl_op (vl_var rfl) (vl_tup (va_cons h0 va_nil) (small_of (show 1 ≤ 1000 by decide))) fun K k => ⟨?_, ?_⟩) ?_
    · rw [List.length_map]
      exact small_n (by show acc.length + 1 ≤ 1000; omega)
    · have : sS acc ++ [D.str x] = sS (acc ++ [x]) := by unfold sS; rw [List.map_append]; rfl
      rw [this]; exact k
    refine st_asg (d := .lst ((VL.without x rows).map sL)) (vl_eq (vl_sh (vl_lcm (g := sL) (f := fun r => sL (r.filter fun y => !decide (y = x))) (L := rows) (vi_any (vl_var rfl) fun k hk => hk) (show 2 < 6 by decide) (own1 hs) (small_n nl) fun r hr => ?_)) ?_) hn
    · refine vl_sh (vl_lc (g := D.str) (f := D.str) (p := fun y => !decide (y = x)) (L := r) (vi_any (vl_var rfl) fun k hk => hk) (show 5 < 6 by decide) (fun v hv s e => by rw [List.mem_singleton.mp hv] at e; cases e; exact hs5) (small_n (by have := (ok.2 r hr).1; omega)) (fun y hy => vt_test (vl_op (vl_var rfl) h0 v2_neS)) fun y hy _ => vl_var rfl)
    · unfold VL.without
      rw [List.map_map]
      rfl
theorem rdl__law_merge {ds : List D} {Q : D → Prop} (h : F__law_merge ds Q) : rd__law_merge { nx := fun _ => Q .non, rt := Q } (startG N__law_merge ds) := by
  obtain ⟨rows, rfl, ok, q⟩ := h
  obtain ⟨o, ho⟩ := mrg_any rows
  unfold rd__law_merge
  refine sq_asg (vl_tup va_nil (small_of (by decide))) (sq_while ?_)
  refine merge_loop ho [] .no .no .no .no ok (by have := size_rows ok; show 0 + _ ≤ _; omega) rfl rfl ?_
  have : o.map ([] ++ ·) = o := by cases o <;> rfl
  rw [this]
  exact q o ho
end TB

set_option Elab.async false
set_option linter.all false
set_option maxRecDepth 100000
set_option maxHeartbeats 1000000
namespace TB
open PySem PySem.Spec L2 VL
open PyProof.Rows hiding St
theorem sq_asgN {te : TDE} {t : TDS} {E : EndsD} {Γ : Gm} {i : Nat} (h : te Γ fun d Γ1 => t E (Γ1.set i (.dat d))) : rdSeq (rdAsg te (rgName i)) t E Γ := h
theorem sq_tupO {is : List Nat} {bs : List Bool} {tf : TDF} {ds : List D} {t : TDS} {E : EndsD} {Γ : Gm} (h : VA tf Γ ds) (n : t E (setsG is bs ds Γ)) : rdSeq (rdTupO is bs tf) t E Γ := h _ n
theorem vl_dic0 {Γ : Gm} : Vl rdDic0 Γ (.dic [] []) := fun Q q => q
theorem st_asgN {te : TDE} {E : EndsD} {Γ : Gm} {i : Nat} (h : te Γ fun d Γ1 => E.nx (Γ1.set i (.dat d))) : rdAsg te (rgName i) E Γ := h
theorem nodup_le : ∀ {xs ys : List Str}, xs.Nodup → (∀ x ∈ xs, x ∈ ys) → xs.length ≤ ys.length
  | [], _, _, _ => Nat.zero_le _
  | x :: xs, ys, nd, h => by
    have nd2 := List.nodup_cons.mp nd
    have hx := h x List.mem_cons_self
    have := nodup_le (ys := ys.erase x) nd2.2 fun y hy => by
      have ne : y ≠ x := fun e => nd2.1 (by rw [← e]; exact hy)
      exact (List.mem_erase_of_ne ne).mpr (h y (List.mem_cons_of_mem _ hy))
    rw [List.length_erase_of_mem hx] at this
    have pos : 0 < ys.length := List.length_pos_of_mem hx
    rw [List.length_cons]
    omega
def Fail (B K : Bs) (n : Str) : Prop := ∃ bs, get B n = some bs ∧ (∀ b ∈ bs, b ∈ dom K) ∧ Mrg (rowsOf K bs) none
theorem Fail.mono {B K L : Bs} {n : Str} (h : Fail B K n) : Fail B (K ++ L) n := by
  obtain ⟨bs, h1, h2, h3⟩ := h
  refine ⟨bs, h1, fun b hb => by rw [dom_app]; exact List.mem_append_left _ (h2 b hb), ?_⟩
  rw [rowsOf_same fun b hb => get_app_l (h2 b hb)]
  exact h3
theorem line_len {B K : Bs} (ok : BOk B) (g : Good B K) {n : Str} {l : List Str} (h : get K n = some l) : l.length ≤ 10 ∧ okTs l := by
  obtain ⟨a1, a2, _⟩ := g.lines n l h
  have sub : ∀ x ∈ l, x ∈ dom B := fun x hx => g.dom_sub x (a2 x hx)
  refine ⟨?_, fun x hx => ok.nm x (sub x hx)⟩
  have := nodup_le a1 sub
  unfold dom at this
  rw [List.length_map] at this
  exact Nat.le_trans this ok.len
theorem bs_ok {B : Bs} (ok : BOk B) {n : Str} {bs : List Str} (h : get B n = some bs) : bs.length ≤ 3 ∧ okTs bs := ⟨(ok.ok n bs h).1, fun b hb => ok.nm b ((ok.ok n bs h).2 b hb)⟩
theorem okRows_of {B K : Bs} (ok : BOk B) (g : Good B K) {n : Str} {bs : List Str} (h : get B n = some bs) (hs : ∀ b ∈ bs, b ∈ dom K) : okRows (rowsOf K bs) := by
  obtain ⟨l3, hb⟩ := bs_ok ok h
  refine ⟨?_, fun r hr => ?_⟩
  · unfold rowsOf
    rw [List.length_append, List.length_map]
    show bs.length + 1 ≤ 20
    omega
  · rcases List.mem_append.mp hr with hr | hr
    · obtain ⟨b, hb2, rfl⟩ := List.mem_map.mp hr
      obtain ⟨l, el⟩ := get_some.mpr (hs b hb2)
      rw [el]
      obtain ⟨h1, h2⟩ := line_len ok g el
      exact ⟨Nat.le_trans h1 (by decide), h2⟩
    · rw [List.mem_singleton.mp hr]
      exact ⟨by omega, hb⟩
theorem good_len {B K : Bs} (ok : BOk B) (g : Good B K) : K.length ≤ 10 := by
  have := nodup_le g.nodup g.dom_sub
  unfold dom at this
  rw [List.length_map, List.length_map] at this
  exact Nat.le_trans this ok.len
theorem putB_new {K : Bs} {n : Str} {v : List Str} (h : n ∉ dom K) : putB K n v = K ++ [(n, v)] := if_neg h
/-! ### orders_of: the names that are ready -/
def ordBody : TDS :=
  (rdSeq (rdAsg (rdCall F_merged [] (rdCons (rdOp rdAddB (rdShare (rdLc (rdIAny (rdOp rdIxA (rdVar 0) (rdVar 5))) (rgName 6) (fun Γ Q => Q true Γ) (rdPkIx 1 (rdVar 6)) [6])) (rdShare (rdLst (rdCons (rdOp rdIxA (rdVar 0) (rdVar 5)) rdNil)))) rdNil)) (rgName 7))
    (rdIfS (rdTest (rdOp (rdIsN true) (rdVar 7) (rdC .non))) (rdPut 1 (rdVar 5) (rdOp rdAddB (rdTup (rdCons (rdVar 5) rdNil)) (rdVar 7))) rdNext))
theorem bases_val {B : Bs} {Γ : Gm} {n : Str} {bs : List Str} (h0 : Γ[0]? = some (.dat (dB sT B))) (h5 : Γ[5]? = some (.dat (.str n))) (e : get B n = some bs) : Vl (rdOp rdIxA (rdVar 0) (rdVar 5)) Γ (sT bs) := vl_op (vl_var h0) (vl_var h5) (v2_ixD e rfl)
theorem ord_for {B : Bs} (ok : BOk B) {E : EndsD} {w dn rd s6 : Sl} (h6 : s6.isOwn = false) : ∀ (R : List Str) (K : Bs) (s5 s7 : Sl), Good B K → R.Nodup → (∀ n ∈ R, n ∉ dom K ∧ ∃ bs, get B n = some bs ∧ ∀ b ∈ bs, b ∈ dom K) → s5.isOwn = false →
    (∀ (L : Bs) (s5 s7 : Sl), s5.isOwn = false → Good B (K ++ L) → (∀ n ∈ dom L, n ∈ R) → (∀ n ∈ R, n ∈ dom (K ++ L) ∨ Fail B (K ++ L) n) → E.nx [.dat (dB sT B), .own (dB sT (K ++ L)), w, dn, rd, s5, s6, s7]) →
    goFor (rgName 5) ordBody E (sS R) [.dat (dB sT B), .own (dB sT K), w, dn, rd, s5, s6, s7]
  | [], K, s5, s7, g, _, _, h5, q => by
    have := q [] s5 s7 h5 (by rw [List.append_nil]; exact g) (fun n h => by cases h) (fun n h => by cases h)
    rw [List.append_nil] at this
    exact this
  | n :: R, K, s5, s7, g, nd, hr, h5, q => by
    have nd2 := List.nodup_cons.mp nd
    obtain ⟨hn, bs, eb, hs⟩ := hr n List.mem_cons_self
    have okr := okRows_of ok g eb hs
    obtain ⟨l3, hb⟩ := bs_ok ok eb
    show ordBody _ [.dat (dB sT B), .own (dB sT K), w, dn, rd, .dat (.str n), s6, s7]
    unfold ordBody
    have bv : ∀ {x6 x7 : Sl} {o : Sl}, Vl (rdOp rdIxA (rdVar 0) (rdVar 5)) [.dat (dB sT B), o, w, dn, rd, .dat (.str n), x6, x7] (sT bs) := bases_val rfl rfl eb
    refine sq_asgN (nd_call (F := F_merged) (ds := [.lst ((rowsOf K bs).map sT)]) (va_cons (vl_eq (vl_op (vl_sh (vl_lcm (g := D.str) (f := fun b => sT ((get K b).getD [])) (L := bs) (vi_any bv fun k hk => hk) (show 6 < 8 by decide) (fun v hv s e => by rw [List.mem_singleton.mp hv] at e; cases e; exact h6) (small_n (by omega)) fun b hb2 => ?_)) (vl_sh (vl_lst (va_cons bv va_nil) (small_of (show 1 ≤ 1000 by decide)))) (v2_addL ?_)) ?_) va_nil) ⟨rowsOf K bs, rfl, okr, fun o ho => ?_⟩)
    · obtain ⟨l, el⟩ := get_some.mpr (hs b hb2)
      rw [el]
      exact vl_pkIx rfl (vl_var rfl) (v2_ixD el rfl)
    · rw [List.length_map]
      exact small_n (by show bs.length + 1 ≤ 1000; omega)
    · unfold rowsOf
      rw [List.map_append, List.map_map]
      rfl
    dsimp only [List.set]
    cases o with
    | none =>
      refine if_N (b := false) (vt_test (vl_op (vl_var rfl) vl_c v2_isN)) (fun h => by cases h) fun _ => ?_
      refine ord_for ok h6 R K (.dat (.str n)) (.dat (asO none)) g nd2.2 (fun m hm => hr m (List.mem_cons_of_mem _ hm)) rfl fun L s5 s7 x5 gL dL fL => ?_
      refine q L s5 s7 x5 gL (fun m hm => List.mem_cons_of_mem _ (dL m hm)) fun m hm => ?_
      rcases List.mem_cons.mp hm with rfl | hm
      · exact .inr (Fail.mono ⟨bs, eb, hs, ho⟩)
      · exact fL m hm
    | some t =>
      refine if_N (b := true) (vt_test (vl_op (vl_var rfl) vl_c v2_isN)) (fun _ => ?_) fun h => by cases h
      have tl : t.length ≤ 500 := by
        have g2 : Good B (K ++ [(n, n :: t)]) := .snoc g hn eb hs ho
        have e2 : get (K ++ [(n, n :: t)]) n = some (n :: t) := by
          rw [get_app hn]
          show (if n = n then some (n :: t) else none) = _
          rw [if_pos rfl]
        have := (line_len ok g2 e2).1
        rw [List.length_cons] at this
        omega
      refine st_put (f := sT) (B := K) (n := n) (v := n :: t) (vl_op (vl_tup (va_cons (vl_var rfl) va_nil) (small_of (show 1 ≤ 1000 by decide))) (vl_var rfl) (v2_addT ?_)) (vl_var rfl) rfl (by have := good_len ok g; omega) ?_
      · rw [List.length_map]
        exact small_n (by show 1 + t.length ≤ 1000; omega)
      · rw [putB_new hn]
        refine ord_for ok h6 R (K ++ [(n, n :: t)]) (.dat (.str n)) _ (.snoc g hn eb hs ho) nd2.2 (fun m hm => ?_) rfl fun L s5 s7 x5 gL dL fL => ?_
        · obtain ⟨h1, bs2, e2, h2⟩ := hr m (List.mem_cons_of_mem _ hm)
          refine ⟨fun hq => ?_, bs2, e2, fun b hb => by rw [dom_app]; exact List.mem_append_left _ (h2 b hb)⟩
          rw [dom_app] at hq
          rcases List.mem_append.mp hq with hq | hq
          · exact h1 hq
          · exact nd2.1 (by rw [← show m = n from List.mem_singleton.mp hq]; exact hm)
        · have e3 : K ++ [(n, n :: t)] ++ L = K ++ ((n, n :: t) :: L) := by rw [List.append_assoc]; rfl
          rw [e3] at gL fL ⊢
          refine q ((n, n :: t) :: L) s5 s7 x5 gL (fun m hm => ?_) fun m hm => ?_
          · rcases List.mem_cons.mp hm with rfl | hm
            · exact List.mem_cons_self
            · exact List.mem_cons_of_mem _ (dL m hm)
          · rcases List.mem_cons.mp hm with rfl | hm
            · refine .inl ?_
              rw [dom_app]
              exact List.mem_append_right _ List.mem_cons_self
            · exact fL m hm
theorem goW_end {c : TDT} {tb : TDS} {E : EndsD} {n : Nat} {Γ : Gm} (h : VT c Γ false) (q : E.nx Γ) : goW c tb E (n + 1) Γ := h _ q
def rdyB (B K : Bs) (n : Str) : Bool := ((get B n).getD []).all fun b => decide (b ∈ dom K)
structure OInv (B K : Bs) (w : List Str) : Prop where
  g : Good B K
  nd : w.Nodup
  ww : ∀ n ∈ w, n ∈ dom B ∧ n ∉ dom K
  all : ∀ n ∈ dom B, n ∈ dom K ∨ n ∈ w ∨ Fail B K n
theorem ord_loop {B : Bs} (ok : BOk B) {Q : D → Prop} (q : ∀ K, Good B K → Closed B K → Q (dB sT K)) {s6 : Sl} (h6 : s6.isOwn = false) : ∀ (n : Nat) (w : List Str) (K : Bs) (s4 s5 s7 : Sl), w.length + 2 ≤ n → OInv B K w → s5.isOwn = false →
    goW (rdNot (rdTest (rdVar 3))) (rdSeq (rdAsg (rdShare (rdLc (rdIAny (rdVar 2)) (rgName 5) (rdTest (rdCB rdAll (rdCons (rdShare (rdLc (rdIAny (rdOp rdIxA (rdVar 0) (rdVar 5))) (rgName 6) (fun Γ Q => Q true Γ) (rdPkR (rdInB false) (rdVar 6) 1) [6])) rdNil))) (rdVar 5) [5])) (rgName 4))
    (rdSeq (rdAsg (rdShare (rdLc (rdIAny (rdVar 2)) (rgName 5) (rdTest (rdOp (rdInB true) (rdVar 5) (rdVar 4))) (rdVar 5) [5])) (rgName 2))
    (rdSeq (rdAsg (rdOp rdEq (rdVar 4) (rdShare (rdLst rdNil))) (rgName 3))
    (rdFor (rdIAny (rdVar 4)) (rgName 5) ordBody))))
      { nx := rdRet (rdVar 1) { nx := fun _ => Q .non, rt := Q }, rt := Q } n [.dat (dB sT B), .own (dB sT K), .dat (sL w), .dat (.bl false), s4, s5, s6, s7] := by
  intro n
  induction n with
  | zero => intro w K s4 s5 s7 h; omega
  | succ n ih =>
    intro w K s4 s5 s7 hl I h5
    have own5 : ∀ {a b c d e g h : Sl}, noOwn [a, b, c, d, e, s5, g, h] [5] := fun v hv s e => by rw [List.mem_singleton.mp hv] at e; cases e; exact h5
    have wl : w.length ≤ 1000 := by
      have := nodup_le I.nd fun x hx => (I.ww x hx).1
      unfold dom at this
      rw [List.length_map] at this
      have := ok.len
      omega
    have wt : okTs w := fun x hx => ok.nm x (I.ww x hx).1
    have rt : okTs (w.filter (rdyB B K)) := fun x hx => wt x (List.mem_filter.mp hx).1
    refine goW_go (vt_not (vt_test (b := false) (vl_var rfl))) ?_
    refine sq_asg (d := sL (w.filter (rdyB B K))) (vl_sh (vl_lc (g := D.str) (f := D.str) (p := rdyB B K) (L := w) (vi_any (vl_var rfl) fun k hk => hk) (show 5 < 8 by decide) own5 (small_n wl) (fun x hx => ?_) fun x hx _ => vl_var rfl)) ?_
    · obtain ⟨bs, eb⟩ := get_some.mpr (I.ww x hx).1
      obtain ⟨l3, hb⟩ := bs_ok ok eb
      unfold rdyB
      rw [eb]
      refine vt_test (vl_cb (va_cons (vl_sh (vl_lcm (g := D.str) (f := fun b => .bl (decide (b ∈ dom K))) (L := bs) (vi_any (bases_val rfl rfl eb) fun k hk => hk) (show 6 < 8 by decide) (fun v hv s e => by rw [List.mem_singleton.mp hv] at e; cases e; exact h6) (small_n (by omega)) fun b hb2 => ?_)) va_nil) vc_all)
      exact vl_eq (vl_pkR (vl_var rfl) rfl v2_inD) (by rw [Bool.false_xor])
    refine sq_asg (d := sL (w.filter fun x => !decide (x ∈ w.filter (rdyB B K)))) (vl_sh (vl_lc (g := D.str) (f := D.str) (p := fun x => !decide (x ∈ w.filter (rdyB B K))) (L := w) (vi_any (vl_var rfl) fun k hk => hk) (show 5 < 8 by decide) own5 (small_n wl) (fun x hx => vt_eq (vt_test (vl_op (vl_var rfl) (vl_var rfl) (v2_inL (wt x hx) rt))) (Bool.true_xor _)) fun x hx _ => vl_var rfl)) ?_
    refine sq_asg (vl_op (vl_var rfl) (vl_sh (vl_lst va_nil (small_of (by decide)))) (v2_eqSL0 rt)) ?_
    refine (vi_any (d := sL (w.filter (rdyB B K))) (vl_var rfl) (L := sS (w.filter (rdyB B K))) fun k hk => hk) _ ?_
    refine ord_for ok h6 _ K s5 s7 I.g (I.nd.filter _) (fun x hx => ?_) h5 fun L s5' s7' h5' gL dL fL => ?_
    · obtain ⟨hx, hr⟩ := List.mem_filter.mp hx
      obtain ⟨bs, eb⟩ := get_some.mpr (I.ww x hx).1
      refine ⟨(I.ww x hx).2, bs, eb, fun b hb => ?_⟩
      unfold rdyB at hr
      rw [eb] at hr
      exact of_decide_eq_true (List.all_eq_true.mp hr b hb)
    dsimp only
    by_cases e : w.filter (rdyB B K) = []
    · have eL : L = [] := by
        cases L with
        | nil => rfl
        | cons p r =>
          have := dL p.1 List.mem_cons_self
          rw [e] at this
          cases this
      rw [eL, List.append_nil, decide_eq_true e]
      obtain ⟨n, rfl⟩ : ∃ m, n = m + 1 := ⟨n - 1, by omega⟩
      refine goW_end (c := rdNot (rdTest (rdVar 3))) (vt_not (vt_test (b := true) (vl_var rfl))) ?_
      dsimp only
      show Q (dB sT K)
      refine q K I.g fun x bs eb hx hs => ?_
      rcases I.all x (get_dom eb) with h | h | ⟨bs', eb', _, hm⟩
      · exact absurd h hx
      · have : x ∈ w.filter (rdyB B K) := List.mem_filter.mpr ⟨h, by
          unfold rdyB
          rw [eb]
          exact List.all_eq_true.mpr fun b hb => decide_eq_true (hs b hb)⟩
        rw [e] at this
        cases this
      · rw [eb] at eb'
        cases eb'
        exact hm
    · rw [decide_eq_false e]
      refine ih _ (K ++ L) _ s5' s7' ?_ ⟨gL, I.nd.filter _, fun x hx => ?_, fun x hx => ?_⟩ h5'
      · have : (w.filter fun x => !decide (x ∈ w.filter (rdyB B K))).length < w.length := by
          obtain ⟨y, hy⟩ := List.exists_mem_of_ne_nil _ e
          exact List.length_filter_lt_length_iff_exists.mpr ⟨y, (List.mem_filter.mp hy).1, by simpa using hy⟩
        omega
      · obtain ⟨h1, h2⟩ := List.mem_filter.mp hx
        refine ⟨(I.ww x h1).1, fun hq => ?_⟩
        rw [dom_app] at hq
        rcases List.mem_append.mp hq with hq | hq
        · exact (I.ww x h1).2 hq
        · have := dL x hq
          rw [decide_eq_true this] at h2
          cases h2
      · rcases I.all x hx with h | h | h
        · exact .inl (by rw [dom_app]; exact List.mem_append_left _ h)
        · by_cases hr : x ∈ w.filter (rdyB B K)
          · rcases fL x hr with z | z
            · exact .inl z
            · exact .inr (.inr z)
          · exact .inr (.inl (List.mem_filter.mpr ⟨h, by rw [decide_eq_false hr]; rfl⟩))
        · exact .inr (.inr h.mono)
theorem len_orders_of {ds : List D} {Q : D → Prop} (h : F_orders_of ds Q) : ds.length = 1 := by obtain ⟨B, rfl, _⟩ := h; rfl
theorem rdl_orders_of {ds : List D} {Q : D → Prop} (h : F_orders_of ds Q) : rd_orders_of { nx := fun _ => Q .non, rt := Q } (startG N_orders_of ds) := by
  obtain ⟨B, rfl, ok, q⟩ := h
  unfold rd_orders_of
  refine sq_tupO (va_cons vl_dic0 (va_cons (vl_sh (vl_cf (va_cons (vl_var rfl) va_nil) vc_listB)) (va_cons vl_c va_nil))) ?_
  refine sq_while ⟨B.length + 2, ?_⟩
  refine ord_loop ok q rfl (B.length + 2) (dom B) [] .no .no .no ?_ ⟨.nil, ok.nd, fun n hn => ⟨hn, by intro h; cases h⟩, fun n hn => .inr (.inl hn)⟩ rfl
  unfold dom
  rw [List.length_map]
  exact Nat.le_refl _
end TB

set_option Elab.async false
set_option linter.all false
set_option maxRecDepth 100000
set_option maxHeartbeats 1000000
namespace TB
open PySem PySem.Spec L2 VL
open PyProof.Rows hiding St
/-! ### the law's own lines -/
def linB (IX : TDE) : TDS :=
  (rdIfS (rdAnd (rdTest (rdPkR (rdInB true) (rdVar 3) 1)) (rdTest (rdOp rdEq (rdShare (rdLc (rdIAny IX) (rgName 4) (rdTest (rdPkR (rdInB true) (rdVar 4) 1)) (rdVar 4) [4])) (rdShare (rdLst rdNil))))) (rdSeq (rdAsg (rdCall F__law_merge [] (rdCons (rdOp rdAddB (rdShare (rdLc (rdIAny IX) (rgName 4) (fun Γ Q => Q true Γ) (rdShare (rdCF rdListB (rdCons (rdPkIx 1 (rdVar 4)) rdNil))) [4])) (rdShare (rdLst (rdCons (rdShare (rdCF rdListB (rdCons IX rdNil))) rdNil)))) rdNil)) (rgName 5))
    (rdIfS (rdTest (rdOp (rdIsN true) (rdVar 5) (rdC .non))) (rdPut 1 (rdVar 3) (rdOp rdAddB (rdTup (rdCons (rdVar 3) rdNil)) (rdVar 5))) rdNext)) rdNext)
def linG (LEN SRT IX : TDE) : TDS :=
  (rdSeq (rdSetOwn rdDic0 1)
    (rdSeq (rdFor (rdIRng (rdCons LEN rdNil)) (rgName 2) (rdFor (rdIAny (rdShare SRT)) (rgName 3) (linB IX)))
    (rdRet (rdVar 1))))
theorem lin_dat : rd__law_lines = linG (rdCB rdLenB (rdCons (rdVar 0) rdNil)) (rdCF rdSortC (rdCons (rdVar 0) rdNil)) (rdOp rdIxA (rdVar 0) (rdVar 3)) := rfl
theorem lin_bor : rd__law_lines_bor = linG (rdPkLen 0) (rdPk1 rdSortC 0) (rdPkIx 0 (rdVar 3)) := rfl
def Addable (B K : Bs) (n : Str) : Prop := n ∉ dom K ∧ ∃ bs t, get B n = some bs ∧ (∀ b ∈ bs, b ∈ dom K) ∧ Mrg (rowsOf K bs) (some t)
theorem closed_of {B K : Bs} (h : ∀ n ∈ dom B, ¬ Addable B K n) : Closed B K := fun n bs eb hn hs => by
  obtain ⟨o, ho⟩ := mrg_any (rowsOf K bs)
  cases o with
  | none => exact ho
  | some t => exact absurd ⟨hn, bs, t, eb, hs, ho⟩ (h n (get_dom eb))
theorem closed_full {B K : Bs} (g : Good B K) (h : B.length ≤ K.length) : ∀ n ∈ dom B, n ∈ dom K := fun n hn => Classical.byContradiction fun no => by
  have := nodup_le (xs := n :: dom K) (ys := dom B) (List.nodup_cons.mpr ⟨no, g.nodup⟩) fun x hx => by
    rcases List.mem_cons.mp hx with rfl | hx
    · exact hn
    · exact g.dom_sub x hx
  unfold dom at this
  rw [List.length_cons, List.length_map, List.length_map] at this
  omega
theorem closed_stays {B K L : Bs} (g : Good B K) (c : Closed B K) (g2 : Good B (K ++ L)) : L = [] := by
  cases L with
  | nil => rfl
  | cons p r =>
    have h := (g2.unique g c) p.1 (by rw [dom_app]; exact List.mem_append_right _ List.mem_cons_self)
    have nd := g2.nodup
    rw [dom_app] at nd
    exact absurd rfl ((List.nodup_append.mp nd).2.2 p.1 h.1 p.1 List.mem_cons_self)
theorem lin_for {B : Bs} (ok : BOk B) {E : EndsD} {IX : TDE} {s0 s2 : Sl} (hix : ∀ (n : Str) (bs : List Str) (Γ : Gm), Γ[0]? = some s0 → Γ[3]? = some (.dat (.str n)) → get B n = some bs → Vl IX Γ (sT bs)) (K0 : Bs) (g0 : Good B K0) :
    ∀ (R : List Str) (L : Bs) (s3 s4 s5 : Sl), (∀ n ∈ R, n ∈ dom B) → Good B (K0 ++ L) → s4.isOwn = false → (L ≠ [] ∨ ∀ n ∈ dom B, n ∉ R → ¬ Addable B K0 n) →
      (∀ (L : Bs) (s3 s4 s5 : Sl), s4.isOwn = false → Good B (K0 ++ L) → (L ≠ [] ∨ Closed B K0) → E.nx [s0, .own (dB sT (K0 ++ L)), s2, s3, s4, s5]) →
      goFor (rgName 3) (linB IX) E (sS R) [s0, .own (dB sT (K0 ++ L)), s2, s3, s4, s5]
  | [], L, s3, s4, s5, _, g, h4, hc, q => q L s3 s4 s5 h4 g (by
      rcases hc with h | h
      · exact .inl h
      · exact .inr (closed_of fun n hn => h n hn (by intro z; cases z)))
  | n :: R, L, s3, s4, s5, hR, g, h4, hc, q => by
    obtain ⟨bs, eb⟩ := get_some.mpr (hR n List.mem_cons_self)
    obtain ⟨l3, hb⟩ := bs_ok ok eb
    have hR2 : ∀ m ∈ R, m ∈ dom B := fun m hm => hR m (List.mem_cons_of_mem _ hm)
    show linB IX _ [s0, .own (dB sT (K0 ++ L)), s2, .dat (.str n), s4, s5]
    unfold linB
    have bv : ∀ {x4 x5 o : Sl}, Vl IX [s0, o, s2, .dat (.str n), x4, x5] (sT bs) := hix n bs _ rfl rfl eb
    have own4 : noOwn [s0, .own (dB sT (K0 ++ L)), s2, .dat (.str n), s4, s5] [4] := fun v hv s e => by rw [List.mem_singleton.mp hv] at e; cases e; exact h4
    refine if_N (b := !decide (n ∈ dom (K0 ++ L)) && decide (bs.filter (fun b => !decide (b ∈ dom (K0 ++ L))) = [])) (vt_and (vt_eq (vt_test (vl_pkR (vl_var rfl) rfl v2_inD)) (Bool.true_xor _)) fun _ => vt_test (vl_op (vl_sh (vl_lc (g := D.str) (f := D.str) (p := fun b => !decide (b ∈ dom (K0 ++ L))) (L := bs) (vi_any bv fun k hk => hk) (show 4 < 6 by decide) own4 (small_n (by omega)) (fun b hb2 => vt_eq (vt_test (vl_pkR (vl_var rfl) rfl v2_inD)) (Bool.true_xor _)) fun b hb2 _ => vl_var rfl)) (vl_sh (vl_lst va_nil (small_of (by decide)))) (v2_eqSL0 fun x hx => hb x (List.mem_filter.mp hx).1))) (fun hb1 => ?_) fun hb1 => ?_
    · rw [Bool.and_eq_true] at hb1
      have hn : n ∉ dom (K0 ++ L) := by simpa using hb1.1
      have hs : ∀ b ∈ bs, b ∈ dom (K0 ++ L) := fun b hb2 => by
        have := List.filter_eq_nil_iff.mp (of_decide_eq_true hb1.2) b hb2
        simpa using this
      have okr := okRows_of ok g eb hs
      refine sq_asgN (nd_call (F := F__law_merge) (ds := [.lst ((rowsOf (K0 ++ L) bs).map sL)]) (va_cons (vl_eq (vl_op (vl_sh (vl_lcm (g := D.str) (f := fun b => sL ((get (K0 ++ L) b).getD [])) (L := bs) (vi_any bv fun k hk => hk) (show 4 < 6 by decide) own4 (small_n (by omega)) fun b hb2 => ?_)) (vl_sh (vl_lst (va_cons (vl_sh (vl_cf (va_cons bv va_nil) vc_listT)) va_nil) (small_of (show 1 ≤ 1000 by decide)))) (v2_addL ?_)) ?_) va_nil) ⟨rowsOf (K0 ++ L) bs, rfl, okr, fun o ho => ?_⟩)
      · obtain ⟨l, el⟩ := get_some.mpr (hs b hb2)
        rw [el]
        exact vl_sh (vl_cf (va_cons (vl_pkIx rfl (vl_var rfl) (v2_ixD el rfl)) va_nil) vc_listT)
      · rw [List.length_map]
        exact small_n (by show bs.length + 1 ≤ 1000; omega)
      · unfold rowsOf
        rw [List.map_append, List.map_map]
        rfl
      dsimp only [List.set]
      cases o with
      | none =>
        refine if_N (b := false) (vt_test (vl_op (vl_var rfl) vl_c v2_isN)) (fun h => by cases h) fun _ => ?_
        refine lin_for ok hix K0 g0 R L (.dat (.str n)) s4 (.dat (asO none)) hR2 g h4 ?_ q
        rcases hc with h | h
        · exact .inl h
        · by_cases eL : L = []
          · refine .inr fun m hm hmR => ?_
            by_cases e : m = n
            · subst e
              subst eL
              rw [List.append_nil] at ho
              intro ⟨_, bs2, t2, e2, _, m2⟩
              rw [eb] at e2
              cases e2
              cases mrg_one ho m2
            · exact h m hm (fun z => by
                rcases List.mem_cons.mp z with z | z
                · exact e z
                · exact hmR z)
          · exact .inl eL
      | some t =>
        refine if_N (b := true) (vt_test (vl_op (vl_var rfl) vl_c v2_isN)) (fun _ => ?_) fun h => by cases h
        have g2 : Good B ((K0 ++ L) ++ [(n, n :: t)]) := .snoc g hn eb hs ho
        have tl : t.length ≤ 500 := by
          have e2 : get ((K0 ++ L) ++ [(n, n :: t)]) n = some (n :: t) := by
            rw [get_app hn]
            show (if n = n then some (n :: t) else none) = _
            rw [if_pos rfl]
          have := (line_len ok g2 e2).1
          rw [List.length_cons] at this
          omega
        refine st_put (f := sT) (B := K0 ++ L) (n := n) (v := n :: t) (vl_op (vl_tup (va_cons (vl_var rfl) va_nil) (small_of (show 1 ≤ 1000 by decide))) (vl_var rfl) (v2_addT ?_)) (vl_var rfl) rfl (by have := good_len ok g; omega) ?_
        · rw [List.length_map]
          exact small_n (by show 1 + t.length ≤ 1000; omega)
        · rw [putB_new hn]
          rw [List.append_assoc] at g2 ⊢
          exact lin_for ok hix K0 g0 R (L ++ [(n, n :: t)]) (.dat (.str n)) s4 _ hR2 g2 h4 (.inl (by simp)) q
    · refine lin_for ok hix K0 g0 R L (.dat (.str n)) s4 s5 hR2 g h4 ?_ q
      rcases hc with h | h
      · exact .inl h
      · by_cases eL : L = []
        · refine .inr fun m hm hmR => ?_
          by_cases e : m = n
          · subst e
            subst eL
            rw [List.append_nil] at hb1
            intro ⟨h1, bs2, t2, e2, h2, m2⟩
            rw [eb] at e2
            cases e2
            rw [decide_eq_false h1, show decide (bs.filter (fun b => !decide (b ∈ dom K0)) = []) = true from decide_eq_true (List.filter_eq_nil_iff.mpr fun b hb => by simpa using h2 b hb)] at hb1
            cases hb1
          · exact h m hm (fun z => by
              rcases List.mem_cons.mp z with z | z
              · exact e z
              · exact hmR z)
        · exact .inl eL
theorem lin_main {B : Bs} (ok : BOk B) {Q : D → Prop} (q : ∀ K, Good B K → Closed B K → Q (dB sT K)) {LEN SRT IX : TDE} {s0 : Sl} (hlen : ∀ Γ : Gm, Γ[0]? = some s0 → Vl LEN Γ (.int B.length)) (hsrt : ∀ Γ : Gm, Γ[0]? = some s0 → Vl SRT Γ (sL (sortT (dom B))))
    (hix : ∀ (n : Str) (bs : List Str) (Γ : Gm), Γ[0]? = some s0 → Γ[3]? = some (.dat (.str n)) → get B n = some bs → Vl IX Γ (sT bs)) : linG LEN SRT IX { nx := fun _ => Q .non, rt := Q } [s0, .no, .no, .no, .no, .no] := by
  unfold linG
  refine sq_own vl_dic0 ?_
  refine sq_for (vi_rng (n := B.length) (va_cons (hlen _ rfl) va_nil) (by have := ok.len; omega)) ?_
  refine goFor_n (fun j Γ => ∃ K s2 s3 s4 s5, Γ = [s0, .own (dB sT K), s2, s3, s4, s5] ∧ s4.isOwn = false ∧ Good B K ∧ (Closed B K ∨ j ≤ K.length)) _ 0 _ ⟨[], .no, .no, .no, .no, rfl, rfl, .nil, .inr (Nat.le_refl _)⟩ ?_ ?_
  · rintro j e _ hj _ ⟨K, s2, s3, s4, s5, rfl, h4, g, hc⟩ N hN
    refine (vi_any (d := sL (sortT (dom B))) (L := sS (sortT (dom B))) (vl_sh (hsrt _ rfl)) fun k hk => hk) _ ?_
    show goFor (rgName 3) (linB IX) _ (sS (sortT (dom B))) [s0, .own (dB sT K), .dat e, s3, s4, s5]
    have gk : Good B (K ++ []) := by rw [List.append_nil]; exact g
    have ek : dB sT K = dB sT (K ++ []) := by rw [List.append_nil]
    rw [ek]
    refine lin_for ok hix K g (sortT (dom B)) [] s3 s4 s5 (fun n hn => sortT_mem.mp hn) gk h4 (.inr fun n hn hx => absurd (sortT_mem.mpr hn) hx) fun L s3 s4 s5 h4 gL hL => ?_
    refine hN _ ⟨K ++ L, _, s3, s4, s5, rfl, h4, gL, ?_⟩
    rcases hL with hL | hL
    · rcases hc with hc | hc
      · exact absurd (closed_stays g hc gL) hL
      · refine .inr ?_
        have : 0 < L.length := List.length_pos_iff.mpr hL
        rw [List.length_append]
        omega
    · rw [closed_stays g hL gL, List.append_nil]
      exact .inl hL
  · rintro _ ⟨K, s2, s3, s4, s5, rfl, h4, g, hc⟩
    show Q (dB sT K)
    refine q K g ?_
    rcases hc with hc | hc
    · exact hc
    · have hl : (rangeD B.length).length = B.length := by unfold rangeD; rw [List.length_map, List.length_range]
      rw [hl] at hc
      intro n bs eb hn
      exact absurd (closed_full g (by omega) n (get_dom eb)) hn
theorem len__law_lines {ds : List D} {Q : D → Prop} (h : F__law_lines ds Q) : ds.length = 1 := len_orders_of h
theorem rdl__law_lines {ds : List D} {Q : D → Prop} (h : F__law_lines ds Q) : rd__law_lines { nx := fun _ => Q .non, rt := Q } (startG N__law_lines ds) := by
  obtain ⟨B, rfl, ok, q⟩ := h
  rw [lin_dat]
  exact lin_main ok q (fun Γ h => vl_cb (va_cons (vl_var h) va_nil) vc_lenB) (fun Γ h => vl_cf (va_cons (vl_var h) va_nil) (vc_sortB (by have := ok.len; omega))) fun n bs Γ h0 h3 e => vl_op (vl_var h0) (vl_var h3) (v2_ixD e rfl)
theorem pk_bor {Γ : Gm} {i : Nat} {d : D} (h : Γ[i]? = some (.bor d)) : pkG Γ i fun x => x = d := by unfold pkG; rw [h]
theorem rdl__law_lines_bor {ds : List D} {Q : D → Prop} (h : F__law_lines ds Q) : rd__law_lines_bor { nx := fun _ => Q .non, rt := Q } (startB N__law_lines [true] ds) := by
  obtain ⟨B, rfl, ok, q⟩ := h
  rw [lin_bor]
  exact lin_main ok q (fun Γ h => vl_pkLen (pk_bor h) vc_lenB) (fun Γ h => vl_pk1 (pk_bor h) (vc_sortB (by have := ok.len; omega))) fun n bs Γ h0 h3 e => vl_pkIx (pk_bor h0) (vl_var h3) (v2_ixD e rfl)
end TB

set_option Elab.async false
set_option linter.all false
set_option maxRecDepth 100000
set_option maxHeartbeats 1000000
namespace TB
open PySem PySem.Spec L2 VL
open PyProof.Rows hiding St
theorem sq_par2 {i j : Nat} {o1 o2 : Bool} {d1 d2 : TDE} {d e : D} {t : TDS} {E : EndsD} {Γ : Gm} (h1 : Vl d1 Γ d) (h2 : Vl d2 Γ e) (n : t E ((Γ.set i (if o1 then .own d else .dat d)).set j (if o2 then .own e else .dat e))) : rdSeq (rdPar2 i j o1 o2 d1 d2) t E Γ := h1 _ (h2 _ n)
/-! ### drawn orders -/
theorem erase_perm {α : Type} : ∀ (xs : List α) (k : Nat) (h : k < xs.length), (xs[k] :: xs.eraseIdx k).Perm xs
  | x :: xs, 0, _ => List.Perm.refl _
  | x :: xs, k + 1, h => by
    have := erase_perm xs k (by simpa using h)
    show (xs[k]'(by simpa using h) :: x :: xs.eraseIdx k).Perm (x :: xs)
    exact (List.Perm.swap _ _ _).trans (this.cons x)
theorem erase_map {α β : Type} (f : α → β) : ∀ (xs : List α) (k : Nat), (xs.map f).eraseIdx k = (xs.eraseIdx k).map f
  | [], _ => rfl
  | x :: xs, 0 => rfl
  | x :: xs, k + 1 => by show f x :: (xs.map f).eraseIdx k = f x :: (xs.eraseIdx k).map f; rw [erase_map f xs k]
theorem len__law_mixed {d : Addr} {ds : List D} {Q : D → Prop} (h : F__law_mixed d ds Q) : ds.length = 2 := by obtain ⟨xs, rfl, _⟩ := h; rfl
theorem mixed_loop {d : Addr} {Q : D → Prop} {s1 : Sl} : ∀ (n : Nat) (left found : List Str), left.length + 1 ≤ n → left.length + found.length ≤ 100 → okTs left → (∀ ys, ys.Perm (found ++ left) → Q (sL ys)) →
    goW (rdTest (rdPkL rdNe 2 (rdShare (rdLst rdNil)))) (rdDrop (rdApp 3 (rdPop 2 (rdCall (Ftake d) [] (rdCons (rdVar 0) (rdCons (rdPkLen 2) rdNil)))))) { nx := rdRet (rdVar 3) { nx := fun _ => Q .non, rt := Q }, rt := Q } n [.dat (.ref d), s1, .own (sL left), .own (sL found)] := by
  intro n
  induction n with
  | zero => intro left found h; omega
  | succ n ih =>
    intro left found hl hb ok q
    have test : VT (rdTest (rdPkL rdNe 2 (rdShare (rdLst rdNil)))) [.dat (.ref d), s1, .own (sL left), .own (sL found)] (!decide (left = [])) := vt_test (vl_pkL rfl (vl_sh (vl_lst va_nil (small_of (by decide)))) (v2_neSL0 ok))
    by_cases e : left = []
    · subst e
      refine goW_end (c := rdTest (rdPkL rdNe 2 (rdShare (rdLst rdNil)))) test ?_
      show Q (sL found)
      exact q found (by rw [List.append_nil])
    · refine goW_go (vt_eq test (by rw [decide_eq_false e]; rfl)) ?_
      have pos : 0 < left.length := List.length_pos_iff.mpr e
      show rdApp 3 _ _ _
      refine ⟨⟨_, rfl⟩, ?_⟩
      show rdPop 2 _ _ _
      refine ⟨⟨_, rfl⟩, ?_⟩
      refine nd_call (ds := [.ref d, .int (left.length : Nat)]) (va_cons (vl_var rfl) (va_cons (vl_pkLen rfl fun K k => ?_) va_nil)) (take_ok (by omega) (by omega) fun r hr => ?_)
      · show K (.int ((sS left).length : Nat))
        rw [List.length_map]; exact k
      have hr' : r < left.length := by omega
      refine ⟨r, .str left[r], by omega, by omega, by simp, by rw [List.getElem?_map, List.getElem?_eq_getElem hr']; rfl, ?_⟩
      refine ⟨?_, ?_⟩
      · rw [List.length_map]
        exact Nat.lt_of_lt_of_le (show found.length < 1000 by omega) (by decide)
      have e1 : (sS left).eraseIdx r = sS (left.eraseIdx r) := erase_map _ _ _
      have e2 : sS found ++ [D.str left[r]] = sS (found ++ [left[r]]) := by unfold sS; rw [List.map_append]; rfl
      rw [e1, e2]
      have p := erase_perm left r hr'
      have pl := p.length_eq
      rw [List.length_cons] at pl
      refine ih (left.eraseIdx r) (found ++ [left[r]]) (by omega) (by rw [List.length_append]; show _ + (found.length + 1) ≤ _; omega) (fun x hx => ok x (p.mem_iff.mp (List.mem_cons_of_mem _ hx))) fun ys hy => q ys (hy.trans ?_)
      rw [List.append_assoc]
      exact p.append_left found
theorem rdl__law_mixed {d : Addr} {ds : List D} {Q : D → Prop} (h : F__law_mixed d ds Q) : rd__law_mixed d { nx := fun _ => Q .non, rt := Q } (startG N__law_mixed ds) := by
  obtain ⟨xs, rfl, hl, ok, q⟩ := h
  refine sq_par2 (vl_cf (d := sL xs) (va_cons (vl_var rfl) va_nil) vc_listL) (vl_lst (ds := []) va_nil (small_of (by decide))) ?_
  exact ⟨xs.length + 1, mixed_loop _ xs [] (Nat.le_refl _) (by show xs.length + 0 ≤ 100; omega) ok fun ys hy => q ys hy⟩
theorem len__law_class_names {d : Addr} {ds : List D} {Q : D → Prop} (h : F__law_class_names d ds Q) : ds.length = 2 := by obtain ⟨k, rfl, _⟩ := h; rfl
theorem len__law_word_list {d : Addr} {ds : List D} {Q : D → Prop} (h : F__law_word_list d ds Q) : ds.length = 2 := by obtain ⟨k, rfl, _⟩ := h; rfl
theorem some_of {xs ys : List Str} {k : Nat} (p : ys.Perm xs) (nd : xs.Nodup) : (ys.take k).Nodup ∧ (∀ y ∈ ys.take k, y ∈ xs) ∧ (ys.take k).length = min k xs.length := by
  refine ⟨(p.nodup_iff.mpr nd).sublist (List.take_sublist _ _), fun y hy => p.mem_iff.mp (List.mem_of_mem_take hy), ?_⟩
  rw [List.length_take, p.length_eq]
theorem ten_ok : okTs ten ∧ ten.Nodup ∧ ten.length = 10 ∧ ∀ x ∈ ten, isCs x = true := by unfold okTs okT; decide +kernel
theorem eight_ok : okTs eight ∧ eight.Nodup ∧ eight.length = 8 ∧ ∀ x ∈ eight, isWs x = true := by unfold okTs okT; decide +kernel
theorem rdl__law_class_names {d : Addr} {ds : List D} {Q : D → Prop} (h : F__law_class_names d ds Q) : rd__law_class_names d { nx := fun _ => Q .non, rt := Q } (startG N__law_class_names ds) := by
  obtain ⟨k, rfl, q⟩ := h
  refine nd_call (F := F__law_mixed d) (ds := [.ref d, sL ten]) (va_cons (vl_var rfl) (va_cons (vl_sh (vl_lst ?_ (small_of (show 10 ≤ 1000 by decide)))) va_nil)) ⟨ten, rfl, by decide, ten_ok.1, fun ys p => ?_⟩
  · exact va_cons vl_c (va_cons vl_c (va_cons vl_c (va_cons vl_c (va_cons vl_c (va_cons vl_c (va_cons vl_c (va_cons vl_c (va_cons vl_c (va_cons vl_c va_nil)))))))))
  · obtain ⟨h1, h2, h3⟩ := some_of (k := k) p ten_ok.2.1
    refine vs_Lto (k := k) _ ?_
    rw [← List.map_take]
    exact q (ys.take k) h1 h2 (by rw [h3, ten_ok.2.2.1])
theorem rdl__law_word_list {d : Addr} {ds : List D} {Q : D → Prop} (h : F__law_word_list d ds Q) : rd__law_word_list d { nx := fun _ => Q .non, rt := Q } (startG N__law_word_list ds) := by
  obtain ⟨k, rfl, q⟩ := h
  refine nd_call (F := F__law_mixed d) (ds := [.ref d, sL eight]) (va_cons (vl_var rfl) (va_cons (vl_sh (vl_lst ?_ (small_of (show 8 ≤ 1000 by decide)))) va_nil)) ⟨eight, rfl, by decide, eight_ok.1, fun ys p => ?_⟩
  · exact va_cons vl_c (va_cons vl_c (va_cons vl_c (va_cons vl_c (va_cons vl_c (va_cons vl_c (va_cons vl_c (va_cons vl_c va_nil)))))))
  · obtain ⟨h1, h2, h3⟩ := some_of (k := k) p eight_ok.2.1
    refine vs_Lto (k := k) _ ?_
    rw [← List.map_take]
    exact q (ys.take k) h1 h2 (by rw [h3, eight_ok.2.2.1])
end TB

set_option Elab.async false
set_option linter.all false
set_option maxRecDepth 100000
set_option maxHeartbeats 1000000
namespace TB
open PySem PySem.Spec L2 VL
open PyProof.Rows hiding St
/-! ### tables made -/
theorem dom_names {α : Type} (L : List Str) (g : Str → α) : dom (L.map fun n => (n, g n)) = L := by
  unfold dom
  rw [List.map_map]
  exact List.map_id' _
theorem get_names {α : Type} {g : Str → α} {m : Str} : ∀ {L : List Str}, get (L.map fun n => (n, g n)) m = if m ∈ L then some (g m) else none
  | [] => rfl
  | n :: L => by
    show (if n = m then some (g n) else get (L.map fun n => (n, g n)) m) = _
    rw [get_names]
    by_cases e : n = m
    · subst e; simp
    · have e2 : ¬ m = n := fun z => e z.symm
      simp [e, e2]
theorem get_map {α β : Type} {f : α → β} {m : Str} : ∀ {B : List (Str × α)}, get (B.map fun p => (p.1, f p.2)) m = (get B m).map f
  | [] => rfl
  | (k, v) :: B => by
    show (if k = m then some (f v) else get (B.map fun p => (p.1, f p.2)) m) = (if k = m then some v else get B m).map f
    by_cases e : k = m
    · rw [if_pos e, if_pos e]; rfl
    · rw [if_neg e, if_neg e]; exact get_map
theorem Good.congr {B B' K : Bs} (h : ∀ n, get B n = get B' n) (g : Good B K) : Good B' K := by
  induction g with
  | nil => exact .nil
  | snoc g hn hb hs hm ih => exact .snoc ih hn (by rw [← h]; exact hb) hs hm
theorem Closed.congr {B B' K : Bs} (h : ∀ n, get B n = get B' n) (c : Closed B K) : Closed B' K := fun n bs e => c n bs (by rw [h]; exact e)
theorem sort_nodup {xs : List Str} (h : xs.Nodup) : (sortT xs).Nodup := (sortT_perm xs).nodup_iff.mpr h
abbrev TDPs := TDP
def VP (t : TDP) (Γ : Gm) (ps : List (Key × D)) : Prop := ∀ Q : List (Key × D) → Gm → Prop, Q ps Γ → t Γ Q
theorem vp_nil {Γ : Gm} : VP rdPsNil Γ [] := fun Q q => q
theorem vp_cons {Γ : Gm} {dk dv : TDE} {r : TDP} {n : Str} {v : D} {ps : List (Key × D)} (hk : Vl dk Γ (.str n)) (hv : Vl dv Γ v) (hr : VP r Γ ps) : VP (rdPsCons dk dv r) Γ ((.inr n, v) :: ps) := fun Q q => hk _ (hv _ ⟨.inr n, rfl, hr _ q⟩)
theorem vl_disp {Γ : Gm} {t : TDP} {ps : List (Key × D)} (h : VP t Γ ps) : Vl (rdDisp t) Γ (.dic (dispD ps).1 (dispD ps).2) := fun Q q => h _ q
theorem disp2 {a b : Str} {x y : D} (h : a ≠ b) : D.dic (dispD [(.inr a, x), (.inr b, y)]).1 (dispD [(.inr a, x), (.inr b, y)]).2 = dB (fun d : D => d) [(a, x), (b, y)] := by
  have h1 : hasK [.inr a] (.inr b) = false := by
    show ((decide ((Sum.inr a : Key) = .inr b)) || false) = false
    rw [decide_eq_false fun e => h (Sum.inr.inj e)]
    rfl
  unfold dispD
  simp only [List.foldl_cons, List.foldl_nil]
  have e1 : putKs [] (.inr a) = [.inr a] := rfl
  have e2 : putDs [] [] (.inr a) x = [x] := rfl
  rw [e1, e2]
  unfold putKs putDs
  rw [h1]
  rfl
theorem vc_dictN {α : Type} {f : α → D} {L : List Str} {g : Str → α} (nd : L.Nodup) : VC rdDictP [.lst (L.map fun n => D.tup [.str n, f (g n)])] (dB f (L.map fun n => (n, g n))) := by
  have := vc_dictP (f := f) (L := L.map fun n => (n, g n)) (by rw [dom_names]; exact nd)
  rw [List.map_map] at this
  exact this
theorem len__law_model {ds : List D} {Q : D → Prop} (h : F__law_model ds Q) : ds.length = 2 := by obtain ⟨B, W, rfl, _⟩ := h; rfl
theorem rdl__law_model {ds : List D} {Q : D → Prop} (h : F__law_model ds Q) : rd__law_model { nx := fun _ => Q .non, rt := Q } (startG N__law_model ds) := by
  obtain ⟨B, W, rfl, ok, dw, q⟩ := h
  have snd : (sortT (dom B)).Nodup := sort_nodup ok.nd
  have sl : (sortT (dom B)).length ≤ 1000 := by
    have := ok.len
    rw [sortT_len]
    unfold dom
    rw [List.length_map]
    omega
  unfold rd__law_model
  refine sq_asg (vl_sh (vl_cf (va_cons (vl_var rfl) va_nil) (vc_sortB (by have := ok.len; omega)))) ?_
  refine sq_asgN (nd_call (F := F__law_lines) (va_cons (vl_var rfl) va_nil) ⟨B, rfl, ok, fun K g c => ?_⟩)
  dsimp only [List.set]
  refine sq_own (d := dB (fun d : D => d) [("bases", dB sT ((sortT (dom B)).map fun n => (n, (get B n).getD []))), ("lines", dB sT K)]) (vl_eq (vl_disp (vp_cons vl_c (vl_sh (vl_cf (va_cons (vl_sh (vl_lcm (g := D.str) (f := fun n => .tup [.str n, sT ((get B n).getD [])]) (L := sortT (dom B)) (vi_any (vl_var rfl) fun k hk => hk) (show 5 < 6 by decide) (noOwn_of (by rfl)) (small_n sl) fun n hn => ?_)) va_nil) (vc_dictN snd))) (vp_cons vl_c (vl_var rfl) vp_nil))) (disp2 (by decide))) ?_
  · obtain ⟨bs, eb⟩ := get_some.mpr (sortT_mem.mp hn)
    rw [eb]
    exact vl_tup (va_cons (vl_var rfl) (va_cons (vl_cb (va_cons (vl_op (vl_var rfl) (vl_var rfl) (v2_ixD eb rfl)) va_nil) vc_tupT) va_nil)) (small_of (show 2 ≤ 1000 by decide))
  refine sq_put (f := fun d : D => d) (B := [("bases", dB sT ((sortT (dom B)).map fun n => (n, (get B n).getD []))), ("lines", dB sT K)]) (n := "words") (v := dB sT ((sortT (dom B)).map fun n => (n, sortT ((get W n).getD [])))) (vl_sh (vl_cf (va_cons (vl_sh (vl_lcm (g := D.str) (f := fun n => .tup [.str n, sT (sortT ((get W n).getD []))]) (L := sortT (dom B)) (vi_any (vl_var rfl) fun k hk => hk) (show 5 < 6 by decide) (noOwn_of (by rfl)) (small_n sl) fun n hn => ?_)) va_nil) (vc_dictN snd))) vl_c rfl (by show 2 < 1000; decide) ?_
  · obtain ⟨ws, ew⟩ := get_some.mpr (show n ∈ dom W by rw [dw]; exact sortT_mem.mp hn)
    rw [ew]
    exact vl_tup (va_cons (vl_var rfl) (va_cons (vl_cb (va_cons (vl_sh (vl_cf (va_cons (vl_op (vl_var rfl) (vl_var rfl) (v2_ixD ew rfl)) va_nil) vc_sortL)) va_nil) vc_tupL) va_nil)) (small_of (show 2 ≤ 1000 by decide))
  · have e : ∀ x y z : D, putB (α := D) [("bases", x), ("lines", y)] "words" z = ([("bases", x), ("lines", y), ("words", z)] : List (Str × D)) := fun x y z => if_neg (by show ¬ ("words" : Str) ∈ (["bases", "lines"] : List Str); decide)
    rw [e]
    exact q K g c
end TB

set_option Elab.async false
set_option linter.all false
set_option maxRecDepth 100000
set_option maxHeartbeats 1000000
namespace TB
open PySem PySem.Spec L2 VL
open PyProof.Rows hiding St
theorem st_putF {i : Nat} {cn f : Str} {dv : TDE} {E : EndsD} {Γ : Gm} {y : Addr} {ns : List Str} {es : List D} {d : D} (hv : Vl dv Γ d) (hs : Γ[i]? = some (.slf y (.obj cn ns es))) (hl : ns.length < 1000) (q : E.nx (Γ.set i (.slf y (.obj cn (putNs ns f) (putEs ns es f d))))) : rdPutF i cn f dv E Γ := hv _ ⟨y, ns, es, hs, hl, q⟩
theorem sq_putF {i : Nat} {cn f : Str} {dv : TDE} {t : TDS} {E : EndsD} {Γ : Gm} {y : Addr} {ns : List Str} {es : List D} {d : D} (hv : Vl dv Γ d) (hs : Γ[i]? = some (.slf y (.obj cn ns es))) (hl : ns.length < 1000) (q : t E (Γ.set i (.slf y (.obj cn (putNs ns f) (putEs ns es f d))))) : rdSeq (rdPutF i cn f dv) t E Γ := hv _ ⟨y, ns, es, hs, hl, q⟩
theorem sq_putFN {i : Nat} {cn f : Str} {dv : TDE} {t : TDS} {E : EndsD} {Γ : Gm} (h : dv Γ fun d Γ1 => ∃ y ns es, Γ1[i]? = some (.slf y (.obj cn ns es)) ∧ ns.length < 1000 ∧ t E (Γ1.set i (.slf y (.obj cn (putNs ns f) (putEs ns es f d))))) : rdSeq (rdPutF i cn f dv) t E Γ := h
theorem get_bases {C : List (Str × Pr)} {n : Str} : get (basesOf C) n = get (C.map fun p => (p.1, p.2.1)) n := by
  unfold basesOf
  rw [get_names, get_map (f := fun p : Pr => p.1)]
  by_cases h : n ∈ dom C
  · rw [if_pos (sortT_mem.mpr h)]
    obtain ⟨p, e⟩ := get_some.mpr h
    rw [e]; rfl
  · rw [if_neg (fun z => h (sortT_mem.mp z)), get_none.mpr h]; rfl
theorem get_bases' {C : List (Str × Pr)} {n : Str} : get (basesOf C) n = (get C n).map (·.1) := by
  rw [get_bases, get_map (f := fun p : Pr => p.1)]
theorem get_words {C : List (Str × Pr)} {n : Str} : get (wordsOf C) n = (get C n).map fun p => sortT p.2.1 := by
  unfold wordsOf
  rw [get_names]
  by_cases h : n ∈ dom C
  · rw [if_pos (sortT_mem.mpr h)]
    obtain ⟨p, e⟩ := get_some.mpr h
    rw [e]; rfl
  · rw [if_neg (fun z => h (sortT_mem.mp z)), get_none.mpr h]; rfl
theorem dom_bases {C : List (Str × Pr)} : dom (basesOf C) = sortT (dom C) := dom_names _ _
theorem dom_words {C : List (Str × Pr)} : dom (wordsOf C) = sortT (dom C) := dom_names _ _
theorem areS_same {ns ms : List Str} (h : ∀ x, x ∈ ns ↔ x ∈ ms) (n : Str) (bs : List Str) : areS ns n bs = areS ms n bs := by
  unfold areS
  have : ∀ b : Str, decide (b ∈ ns) = decide (b ∈ ms) := fun b => decide_eq_decide.mpr (h b)
  simp only [this]
theorem areS_mem {ns : List Str} {n : Str} {bs : List Str} (h : areS ns n bs = true) : bs.length ≤ 3 ∧ (∀ b ∈ bs, b ∈ ns ∧ b ≠ n) ∧ bs.Nodup := by
  unfold areS at h
  simp only [Bool.and_eq_true, decide_eq_true_eq, List.all_eq_true, Bool.not_eq_true', decide_eq_false_iff_not] at h
  exact ⟨h.1.1, h.1.2, h.2⟩
theorem COk.bok {C : List (Str × Pr)} {K : Bs} (c : COk C K) : BOk (basesOf C) := by
  refine ⟨by rw [dom_bases]; exact sort_nodup c.nd, ?_, fun n hn => ?_, fun n bs e => ?_⟩
  · unfold basesOf
    rw [List.length_map, sortT_len]
    unfold dom
    rw [List.length_map]
    have := c.len.2
    omega
  · rw [dom_bases] at hn
    exact (c.cn n (sortT_mem.mp hn)).2
  · rw [get_bases'] at e
    cases h : get C n with
    | none => rw [h] at e; cases e
    | some p =>
      rw [h] at e
      cases e
      have a := areS_mem (c.ok n p h).1
      exact ⟨a.1, fun b hb => by rw [dom_bases]; exact sortT_mem.mpr (a.2.1 b hb).1⟩
theorem COk.tab {C : List (Str × Pr)} {K0 K : Bs} (c : COk C K0) (g : Good (basesOf C) K) (cl : Closed (basesOf C) K) : TabOk (basesOf C) (wordsOf C) K := by
  refine ⟨by rw [dom_bases]; exact sort_nodup c.nd, ?_, by rw [dom_bases, dom_words], fun n hn => ?_, fun n bs e => ?_, fun n ws e => ?_, g, fun n hn => ?_⟩
  · unfold basesOf
    rw [List.length_map, sortT_len]
    unfold dom
    rw [List.length_map]
    exact c.len
  · rw [dom_bases] at hn
    exact c.cn n (sortT_mem.mp hn)
  · rw [get_bases'] at e
    cases h : get C n with
    | none => rw [h] at e; cases e
    | some p =>
      rw [h] at e
      cases e
      rw [dom_bases, areS_same fun x => sortT_mem]
      exact (c.ok n p h).1
  · rw [get_words] at e
    cases h : get C n with
    | none => rw [h] at e; cases e
    | some p =>
      rw [h] at e
      cases e
      obtain ⟨_, h1, h2, h3⟩ := c.ok n p h
      exact ⟨by rw [sortT_len]; exact h1, sort_nodup h2, fun w hw => h3 w (sortT_mem.mp hw)⟩
  · rw [dom_bases] at hn
    have g0 : Good (basesOf C) K0 := Good.congr (fun n => get_bases.symm) c.g
    exact (g0.unique g cl n (c.all n (sortT_mem.mp hn))).1
theorem len_Table___init__ {ds : List D} {Q : D → Prop} (h : F_Table___init__ ds Q) : ds.length = 1 := by obtain ⟨C, K0, rfl, _⟩ := h; rfl
theorem cname_ok {w : Str} (h : w.length ≤ 100) : VC F_is_class_name [.str w] (.bl (isCs w)) := fun Q q => ⟨.str w, rfl, h, q⟩
theorem isCs_len {w : Str} (h : isCs w = true) : w.length ≤ 8 := by
  unfold isCs at h
  simp only [Bool.and_eq_true, decide_eq_true_eq] at h
  exact h.1.2
theorem prD_0 {p : Pr} : VC (fun ds Q => match ds with | [d] => rdIxA d (.int ((0 : Nat) : Int)) Q | _ => False) [prD p] (sT p.1) := fun Q q => v2_ixT (k := 0) rfl Q q
theorem ix_pr0 {p : Pr} : V2 rdIxA (prD p) (.int 0) (sT p.1) := v2_ixT (k := 0) rfl
theorem ix_pr1 {p : Pr} : V2 rdIxA (prD p) (.int 1) (if p.2.2 = true then sL p.2.1 else sT p.2.1) := v2_ixT (k := 1) rfl
theorem sort_pr {k : Bool} {ws : List Str} : VC rdSortC [if k = true then sL ws else sT ws] (sL (sortT ws)) := by cases k; exact vc_sortT; exact vc_sortL
theorem putNs_1 : putNs [] "own_bases" = (["own_bases"] : List Str) := rfl
theorem putNs_2 : putNs ["own_bases"] "own_words" = (["own_bases", "own_words"] : List Str) := by decide +kernel
theorem putNs_3 : putNs ["own_bases", "own_words"] "own_orders" = (["own_bases", "own_words", "own_orders"] : List Str) := by decide +kernel
theorem putEs_1 {d : D} : putEs [] [] "own_bases" d = [d] := rfl
theorem putEs_2 {x d : D} : putEs ["own_bases"] [x] "own_words" d = [x, d] := by
  unfold putEs
  rw [if_neg (by decide +kernel)]
  rfl
theorem putEs_3 {x y d : D} : putEs ["own_bases", "own_words"] [x, y] "own_orders" d = [x, y, d] := by
  unfold putEs
  rw [if_neg (by decide +kernel)]
  unfold putEs
  rw [if_neg (by decide +kernel)]
  rfl
theorem rdl_Table___init__ {y : Addr} {ds : List D} {Q : D → Prop} (h : F_Table___init__ ds Q) : rd_Table___init__ { nx := fun Γ => ∃ d, Γ[0]? = some (.slf y d) ∧ Q d, rt := fun _ => False } (.slf y (.obj "Table" [] []) :: startG N_Table___init__.tail ds) := by
  obtain ⟨C, K0, rfl, c, q⟩ := h
  have cl : C.length < 64 := by have := c.len.2; omega
  have nl : (sortT (dom C)).length ≤ 1000 := by
    rw [sortT_len]
    unfold dom
    rw [List.length_map]
    omega
  have dl : (dom C).length ≤ 1000 := by
    unfold dom
    rw [List.length_map]
    omega
  have snd := sort_nodup c.nd
  unfold rd_Table___init__
  refine sq_if (b := false) (vt_or (b1 := !true) (b2 := !(true && true)) (vt_not (vt_test (vl_cb (va_cons (vl_var rfl) (va_cons vl_c va_nil)) (vc_isi rfl rfl)))) fun _ => vt_not (vt_test (vl_chain vl_c (vl_cb (va_cons (vl_var rfl) va_nil) vc_lenB) (fun K k => ?_) (fun _ => vl_c) fun _ K k => ?_))) (fun h => by cases h) fun _ => ?_
  · show K (.bl (decide ((1 : Int) ≤ (C.length : Int))))
    rw [decide_eq_true (by have := c.len.1; omega)]
    exact k
  · show K (.bl (decide ((C.length : Int) ≤ 6)))
    rw [decide_eq_true (by have := c.len.2; omega)]
    exact k
  refine sq_if (b := false) (vt_eq (vt_not (vt_test (vl_cb (va_cons (vl_sh (vl_lcm (g := D.str) (f := fun n => .bl (isCs n)) (L := dom C) (vi_any (vl_var rfl) fun k hk => it_dB hk) (show 2 < 4 by decide) (noOwn_of (by rfl)) (small_n dl) fun n hn => vl_call (va_cons (vl_var rfl) va_nil) (cname_ok (by have := isCs_len (c.cn n hn).1; omega)))) va_nil) vc_all))) ?_) (fun h => by cases h) fun _ => ?_
  · rw [List.all_eq_true.mpr fun n hn => (c.cn n hn).1]; rfl
  refine sq_asg (vl_sh (vl_cf (va_cons (vl_var rfl) va_nil) (vc_sortB cl))) ?_
  refine sq_for (vi_any (d := sL (sortT (dom C))) (L := sS (sortT (dom C))) (vl_var rfl) fun k hk => hk) ?_
  refine goFor_inv (fun Γ => ∃ s2 : Sl, s2.isOwn = false ∧ Γ = [.slf y (.obj "Table" [] []), .dat (dB prD C), s2, .dat (sL (sortT (dom C)))]) _ _ ⟨.no, rfl, rfl⟩ ?_ ?_
  · rintro d hd _ ⟨s2, h2, rfl⟩ N hN
    obtain ⟨n, hn, rfl⟩ := List.mem_map.mp hd
    obtain ⟨p, e⟩ := get_some.mpr (sortT_mem.mp hn)
    obtain ⟨a1, a2, a3, a4⟩ := c.ok n p e
    dsimp only [rgName, List.set]
    refine if_N (b := false) (vt_not (vt_test (b := true) (vl_call (va_cons (vl_var rfl) (va_cons (vl_var rfl) (va_cons (vl_op (vl_var rfl) (vl_var rfl) (v2_ixD e rfl)) va_nil))) fun K k => ?_))) (fun h => by cases h) fun _ => hN _ ⟨_, rfl, rfl⟩
    exact ⟨dom C, _, n, p, rfl, fun b hb => (c.cn b ((areS_mem a1).2.1 b hb).1).2, a1, a2, a3, a4, k⟩
  rintro _ ⟨s2, h2, rfl⟩
  dsimp only
  have own2 : ∀ {a b d : Sl}, noOwn [a, b, s2, d] [2] := fun v hv s e => by rw [List.mem_singleton.mp hv] at e; cases e; exact h2
  refine sq_putF (ns := []) (es := []) (f := "own_bases") (d := dB sT (basesOf C)) (vl_sh (vl_dc (f := sT) (g := fun n => ((get C n).map (·.1)).getD []) (L := sortT (dom C)) (vi_any (d := sL (sortT (dom C))) (vl_var rfl) fun k hk => hk) (show 2 < 4 by decide) own2 snd nl (fun n hn => vl_var rfl) fun n hn => ?_)) rfl (by show 0 < 1000; decide) ?_
  · obtain ⟨p, e⟩ := get_some.mpr (sortT_mem.mp hn)
    rw [e]
    exact vl_op (vl_op (vl_var rfl) (vl_var rfl) (v2_ixD e rfl)) vl_c ix_pr0
  rw [putNs_1, putEs_1]
  refine sq_putF (ns := ["own_bases"]) (es := [dB sT (basesOf C)]) (f := "own_words") (d := dB sT (wordsOf C)) (vl_sh (vl_dc (f := sT) (g := fun n => sortT (((get C n).map (·.2.1)).getD [])) (L := sortT (dom C)) (vi_any (d := sL (sortT (dom C))) (vl_var rfl) fun k hk => hk) (show 2 < 4 by decide) own2 snd nl (fun n hn => vl_var rfl) fun n hn => ?_)) rfl (by show 1 < 1000; decide) ?_
  · obtain ⟨p, e⟩ := get_some.mpr (sortT_mem.mp hn)
    rw [e]
    exact vl_cb (va_cons (vl_sh (vl_cf (va_cons (vl_op (vl_op (vl_var rfl) (vl_var rfl) (v2_ixD e rfl)) vl_c ix_pr1) va_nil) sort_pr)) va_nil) vc_tupL
  rw [putNs_2, putEs_2]
  refine sq_putFN (nd_call (F := F_orders_of) (va_cons (vl_pkFld rfl rfl) va_nil) ⟨basesOf C, rfl, c.bok, fun K g cl => ⟨y, _, _, rfl, by show 2 < 1000; decide, ?_⟩⟩)
  rw [putNs_3, putEs_3]
  have tab := c.tab g cl
  refine (vi_any (d := sL (sortT (dom C))) (L := sS (sortT (dom C))) (vl_var rfl) fun k hk => hk) _ ?_
  refine goFor_inv (fun Γ => ∃ s2 : Sl, Γ = [.slf y (tabD (basesOf C) (wordsOf C) K), .dat (dB prD C), s2, .dat (sL (sortT (dom C)))]) _ _ ⟨s2, rfl⟩ ?_ ?_
  · rintro d hd _ ⟨s2, rfl⟩ N hN
    obtain ⟨n, hn, rfl⟩ := List.mem_map.mp hd
    dsimp only [rgName, List.set]
    refine if_N (b := false) (vt_eq (vt_test (vl_op (vl_var rfl) (vl_pkFld rfl rfl) v2_inD)) ?_) (fun h => by cases h) fun _ => hN _ ⟨_, rfl⟩
    rw [decide_eq_true (tab.all n (by rw [dom_bases]; exact hn))]
    rfl
  · rintro _ ⟨s2, rfl⟩
    exact ⟨_, rfl, q K tab⟩
end TB

set_option Elab.async false
set_option linter.all false
set_option maxRecDepth 100000
set_option maxHeartbeats 1000000
namespace TB
open PySem PySem.Spec L2 VL
open PyProof.Rows hiding St
/-! ### deeds -/
theorem sq_tup3 {i j k : Nat} {a b c : D} {ta : TDE} {t : TDS} {E : EndsD} {Γ : Gm} (h : Vl ta Γ (.tup [a, b, c])) (n : t E (((Γ.set i (.dat a)).set j (.dat b)).set k (.dat c))) : rdSeq (rdAsg ta (rgTup 3 (rgCons (rgName i) (rgCons (rgName j) (rgCons (rgName k) rgNil))))) t E Γ := h _ ⟨rfl, rfl, n⟩
theorem sq_tup2 {i j : Nat} {a b : D} {ta : TDE} {t : TDS} {E : EndsD} {Γ : Gm} (h : Vl ta Γ (.tup [a, b])) (n : t E ((Γ.set i (.dat a)).set j (.dat b))) : rdSeq (rdAsg ta (rgTup 2 (rgCons (rgName i) (rgCons (rgName j) rgNil)))) t E Γ := h _ ⟨rfl, rfl, n⟩
theorem own_in {B W K : Bs} {n : Str} {neg : Bool} : V2 (rdOwnIn "Table" F_Table___contains__ neg) (.str n) (tabD B W K) (.bl (neg ^^ decide (n ∈ dom B))) := fun Q q => ⟨rfl, B, W, K, n, rfl, q⟩
theorem vl_up {dd dk dv : TDE} {Γ : Gm} {B : Bs} {n : Str} {v : List Str} (hd : Vl dd Γ (dB sT B)) (hl : B.length < 1000) (hk : Vl dk Γ (.str n)) (hv : Vl dv Γ (sT v)) : Vl (rdUp dd dk dv) Γ (dB sT (putB B n v)) := fun Q q => by
  refine hd _ ⟨?_, hk _ (hv _ ⟨.inr n, rfl, by rw [put_dB]; exact q⟩)⟩
  rw [List.length_map]
  unfold dom
  rw [List.length_map]
  exact Nat.lt_of_lt_of_le hl (by decide)
theorem TabOk.bok {B W K : Bs} (t : TabOk B W K) : BOk B := ⟨t.nd, by have := t.len.2; omega, fun n hn => (t.cn n hn).2, fun n bs e => by
  have a := areS_mem (t.ok n bs e)
  exact ⟨a.1, fun b hb => (a.2.1 b hb).1⟩⟩
theorem len_setB {α : Type} {B : List (Str × α)} {n : Str} {v : α} : (setB B n v).length = B.length := List.length_map _
theorem putB_old {α : Type} {B : List (Str × α)} {n : Str} {v : α} (h : n ∈ dom B) : putB B n v = setB B n v := if_pos h
theorem BOk.put {B : Bs} (ok : BOk B) {n : Str} {bs : List Str} (hn : n ∈ dom B) (h : areS (dom B) n bs = true) : BOk (putB B n bs) := by
  have hd : dom (putB B n bs) = dom B := by rw [dom_putB, if_pos hn]
  refine ⟨by rw [hd]; exact ok.nd, by rw [putB_old hn, len_setB]; exact ok.len, fun m hm => ok.nm m (by rw [← hd]; exact hm), fun m l e => ?_⟩
  rw [get_putB] at e
  by_cases q : m = n
  · rw [if_pos q] at e
    cases e
    have a := areS_mem h
    exact ⟨a.1, fun b hb => by rw [hd]; exact (a.2.1 b hb).1⟩
  · rw [if_neg q] at e
    exact ⟨(ok.ok m l e).1, fun b hb => by rw [hd]; exact (ok.ok m l e).2 b hb⟩
theorem all_iff {B K : Bs} (nd : (dom B).Nodup) (g : Good B K) : K.length = B.length ↔ ∀ m ∈ dom B, m ∈ dom K := by
  constructor
  · intro h
    exact closed_full g (by omega)
  · intro h
    have h1 := nodup_le nd h
    have h2 := nodup_le g.nodup g.dom_sub
    unfold dom at h1 h2
    rw [List.length_map, List.length_map] at h1 h2
    omega
theorem len_Table_is_deed {ds : List D} {Q : D → Prop} (h : F_Table_is_deed ds Q) : ds.length = 2 := by obtain ⟨B, W, K, e, rfl, _⟩ := h; rfl
theorem is_deed_first {B W K : Bs} {k n : Str} {part : D} {E : EndsD} {t : TDS} (hn : n ∈ dom B) (q : t E [.dat (tabD B W K), .dat (.tup [.str k, .str n, part]), .dat (.str k), .dat (.str n), .dat part]) :
    rdSeq (rdIfS (rdOr (rdNot (rdTest (rdCB rdIsi (rdCons (rdVar 1) (rdCons (rdC (.ty "tuple")) rdNil))))) (rdOr (rdTest (rdOp rdNe (rdCB rdLenB (rdCons (rdVar 1) rdNil)) (rdC (.int 3)))) (rdOr (rdNot (rdTest (rdCB rdIsi (rdCons (rdOp rdIxA (rdVar 1) (rdC (.int 0))) (rdCons (rdC (.ty "str")) rdNil))))) (rdTest (rdOp (rdOwnIn "Table" F_Table___contains__ true) (rdOp rdIxA (rdVar 1) (rdC (.int 1))) (rdVar 0)))))) (rdRet (rdC (.bl false))) rdNext)
    (rdSeq (rdAsg (rdVar 1) (rgTup 3 (rgCons (rgName 2) (rgCons (rgName 3) (rgCons (rgName 4) rgNil))))) t) E [.dat (tabD B W K), .dat (.tup [.str k, .str n, part]), .no, .no, .no] := by
  refine sq_ifR (d := .bl false) (b := false) ?_ (fun h => by cases h) (fun h => by cases h) fun _ => sq_tup3 (vl_var rfl) q
  refine vt_or (b1 := !true) (b2 := false) (vt_not (vt_test (vl_cb (va_cons (vl_var rfl) (va_cons vl_c va_nil)) (vc_isi rfl rfl)))) fun _ => ?_
  refine vt_or (b1 := false) (b2 := false) (vt_test (vl_op (vl_cb (va_cons (vl_var rfl) va_nil) vc_lenT) vl_c v2_neI)) fun _ => ?_
  refine vt_or (b1 := !true) (b2 := false) (vt_not (vt_test (vl_cb (va_cons (vl_op (y := .int ((0 : Nat) : Int)) (d := .str k) (vl_var rfl) vl_c (v2_ixT rfl)) (va_cons vl_c va_nil)) (vc_isi rfl rfl)))) fun _ => ?_
  refine vt_eq (vt_test (vl_op (vl_op (y := .int ((1 : Nat) : Int)) (d := .str n) (vl_var rfl) vl_c (v2_ixT rfl)) (vl_var rfl) own_in)) ?_
  rw [decide_eq_true hn]
  rfl
theorem rdl_Table_is_deed {ds : List D} {Q : D → Prop} (h : F_Table_is_deed ds Q) : rd_Table_is_deed { nx := fun _ => Q .non, rt := Q } (startG N_Table_is_deed ds) := by
  obtain ⟨B, W, K, e, rfl, tb, od, q1, q2⟩ := h
  unfold rd_Table_is_deed
  cases e with
  | put n w =>
    obtain ⟨hn, hw, tw⟩ := od
    obtain ⟨ws, ew⟩ := get_some.mpr (show n ∈ dom W by rw [tb.dw]; exact hn)
    obtain ⟨wl, wnd, wok⟩ := tb.wk n ws ew
    have wt : okTs ws := fun x hx => (wok x hx).2
    refine is_deed_first hn ?_
    refine sq_ifR (b := true) (d := .bl (isWs w && (decide (w ∈ ws) || decide (((sS ws).length : Int) < 4)))) (vt_eq (vt_test (vl_op (vl_var rfl) vl_c v2_eqS)) (by decide)) (fun _ => ?_) (fun _ => ?_) fun h => by cases h
    · refine vl_and (vl_call (va_cons (vl_var rfl) va_nil) (word_ok (by have := isWs_len hw; omega))) fun _ => vl_or (vl_eq (vl_op (vl_var rfl) (vl_op (vl_fld (vl_var rfl) rfl) (vl_var rfl) (v2_ixD ew rfl)) (v2_inT tw wt)) (by rw [Bool.false_xor])) fun _ => vl_op (vl_cb (va_cons (vl_op (vl_fld (vl_var rfl) rfl) (vl_var rfl) (v2_ixD ew rfl)) va_nil) vc_lenT) vl_c v2_i0
    · rw [hw, Bool.true_and, List.length_map]
      by_cases h : w ∈ ws ∨ ws.length < 4
      · have : (decide (w ∈ ws) || decide ((ws.length : Int) < 4)) = true := by
          rcases h with h | h
          · simp [h]
          · have : (ws.length : Int) < 4 := by omega
            simp [this]
        rw [this]
        exact q1 ⟨ws, ew, h⟩
      · have : (decide (w ∈ ws) || decide ((ws.length : Int) < 4)) = false := by
          have h1 : ¬ w ∈ ws := fun z => h (.inl z)
          have h2 : ¬ (ws.length : Int) < 4 := fun z => h (.inr (by omega))
          rw [decide_eq_false h1, decide_eq_false h2]
          rfl
        rw [this]
        refine q2 fun ⟨ws2, e2, h2⟩ => h ?_
        rw [ew] at e2
        cases e2
        exact h2
  | bases n bs =>
    obtain ⟨hn, hb, hl⟩ := od
    have bl : B.length < 1000 := by have := tb.len.2; omega
    refine is_deed_first hn ?_
    refine sq_if (b := false) (vt_eq (vt_test (vl_op (vl_var rfl) vl_c v2_eqS)) (by decide)) (fun h => by cases h) fun _ => ?_
    refine sq_if (b := false) (vt_eq (vt_test (vl_op (vl_var rfl) vl_c v2_eqS)) (by decide)) (fun h => by cases h) fun _ => ?_
    refine sq_ifR (b := !areS (dom B) n bs) (d := .bl false) (vt_eq (b' := false || !areS (dom B) n bs) (vt_or (vt_eq (vt_test (vl_op (vl_var rfl) vl_c v2_neS)) (by decide)) fun _ => vt_not (vt_test (vl_call (va_cons (vl_fld (vl_var rfl) rfl) (va_cons (vl_var rfl) (va_cons (vl_var rfl) va_nil))) (are_ok hb hl)))) (Bool.false_or _)) (fun _ => vl_c) (fun h => ?_) fun h => ?_
    · have h := (Bool.not_eq_true' _).mp h
      refine q2 fun c => ?_
      rw [c.1] at h
      cases h
    · have ha := (Bool.not_eq_false' _).mp h
      have bok := tb.bok.put hn ha
      have hd : dom (putB B n bs) = dom B := by rw [dom_putB, if_pos hn]
      refine nd_op1 (nd_cb (nd_cons (nd_call (F := F_orders_of) (va_cons (vl_sh (vl_up (vl_fld (vl_var rfl) rfl) bl (vl_var rfl) (vl_var rfl))) va_nil) ⟨putB B n bs, rfl, bok, fun K' g c => ?_⟩)))
      dsimp only [rdNil]
      refine vc_lenB _ ?_
      refine (vl_cb (d := .int B.length) (va_cons (vl_fld (vl_var rfl) rfl) va_nil) vc_lenB) _ ?_
      refine v2_eqI _ ?_
      have hlen : (putB B n bs).length = B.length := by rw [putB_old hn, len_setB]
      by_cases hk : K'.length = B.length
      · rw [hk, decide_eq_true rfl]
        refine q1 ⟨ha, K', g, fun m hm => ?_⟩
        exact (all_iff bok.nd g).mp (by omega) m (by rw [hd]; exact hm)
      · rw [decide_eq_false (by omega)]
        refine q2 fun ⟨_, K2, g2, h2⟩ => hk ?_
        have := (all_iff bok.nd g).mpr fun m hm => (g2.unique g c m (h2 m (by rw [← hd]; exact hm))).1
        omega
end TB

set_option Elab.async false
set_option linter.all false
set_option maxRecDepth 100000
set_option maxHeartbeats 1000000
namespace TB
open PySem PySem.Spec L2 VL
open PyProof.Rows hiding St
/-! ### Table.done, the law's table made -/
def pairOf (B W : Bs) (k : Bool) (n : Str) : Pr := ((get B n).getD [], (get W n).getD [], k)
def C0 (B W : Bs) (k : Bool) : List (Str × Pr) := (dom B).map fun n => (n, pairOf B W k n)
theorem dom_C0 {B W : Bs} {k : Bool} : dom (C0 B W k) = dom B := dom_names _ _
theorem get_C0 {B W : Bs} {k : Bool} {m : Str} : get (C0 B W k) m = if m ∈ dom B then some (pairOf B W k m) else none := get_names
theorem get_C0b {B W : Bs} {k : Bool} {m : Str} : (get (C0 B W k) m).map (·.1) = get B m := by
  rw [get_C0]
  by_cases h : m ∈ dom B
  · obtain ⟨bs, e⟩ := get_some.mpr h
    rw [if_pos h, e]
    show some ((get B m).getD []) = _
    rw [e]; rfl
  · rw [if_neg h, get_none.mpr h]; rfl
theorem len_C0 {B W : Bs} {k : Bool} : (C0 B W k).length = B.length := by
  unfold C0 dom
  rw [List.length_map, List.length_map]
theorem c1_ok {B W K B1 K1 : Bs} {k : Bool} {n : Str} {p : Pr} (t : TabOk B W K) (hn : n ∈ dom B) (h1 : areS (dom B) n p.1 = true) (h2 : p.2.1.length ≤ 4 ∧ p.2.1.Nodup ∧ ∀ w ∈ p.2.1, isWs w = true ∧ okT w)
    (g : Good B1 K1) (hb : ∀ m, get B1 m = if m = n then some p.1 else get B m) (all : ∀ m ∈ dom B, m ∈ dom K1) : COk (putB (C0 B W k) n p) K1 ∧ ∀ m, get (basesOf (putB (C0 B W k) n p)) m = get B1 m := by
  have hn2 : n ∈ dom (C0 B W k) := by rw [dom_C0]; exact hn
  have hd : dom (putB (C0 B W k) n p) = dom B := by rw [dom_putB, if_pos hn2, dom_C0]
  have hg : ∀ m, get (basesOf (putB (C0 B W k) n p)) m = get B1 m := fun m => by
    rw [get_bases', get_putB, hb]
    by_cases e : m = n
    · rw [if_pos e, if_pos e]; rfl
    · rw [if_neg e, if_neg e, get_C0b]
  refine ⟨⟨by rw [hd]; exact t.nd, by rw [putB_old hn2, len_setB, len_C0]; exact t.len, fun m hm => t.cn m (by rw [← hd]; exact hm), fun m q e => ?_, ?_, fun m hm => all m (by rw [← hd]; exact hm)⟩, hg⟩
  · rw [hd]
    rw [get_putB] at e
    by_cases z : m = n
    · rw [if_pos z] at e
      cases e
      subst z
      exact ⟨h1, h2⟩
    · rw [if_neg z, get_C0] at e
      by_cases hm : m ∈ dom B
      · rw [if_pos hm] at e
        cases e
        obtain ⟨bs, eb⟩ := get_some.mpr hm
        obtain ⟨ws, ew⟩ := get_some.mpr (show m ∈ dom W by rw [t.dw]; exact hm)
        show areS (dom B) m ((get B m).getD []) = true ∧ ((get W m).getD []).length ≤ 4 ∧ ((get W m).getD []).Nodup ∧ ∀ w ∈ (get W m).getD [], isWs w = true ∧ okT w
        rw [eb, ew]
        exact ⟨t.ok m bs eb, t.wk m ws ew⟩
      · rw [if_neg hm] at e; cases e
  · exact Good.congr (fun m => by rw [← hg m, get_bases]) g
theorem c0_ok {B W K : Bs} {k : Bool} (t : TabOk B W K) : COk (C0 B W k) K ∧ ∀ m, get (basesOf (C0 B W k)) m = get B m := by
  have hg : ∀ m, get (basesOf (C0 B W k)) m = get B m := fun m => by rw [get_bases', get_C0b]
  refine ⟨⟨by rw [dom_C0]; exact t.nd, by rw [len_C0]; exact t.len, fun m hm => t.cn m (by rw [← dom_C0]; exact hm), fun m q e => ?_, ?_, fun m hm => t.all m (by rw [← dom_C0]; exact hm)⟩, hg⟩
  · rw [dom_C0]
    rw [get_C0] at e
    by_cases hm : m ∈ dom B
    · rw [if_pos hm] at e
      cases e
      obtain ⟨bs, eb⟩ := get_some.mpr hm
      obtain ⟨ws, ew⟩ := get_some.mpr (show m ∈ dom W by rw [t.dw]; exact hm)
      show areS (dom B) m ((get B m).getD []) = true ∧ ((get W m).getD []).length ≤ 4 ∧ ((get W m).getD []).Nodup ∧ ∀ w ∈ (get W m).getD [], isWs w = true ∧ okT w
      rw [eb, ew]
      exact ⟨t.ok m bs eb, t.wk m ws ew⟩
    · rw [if_neg hm] at e; cases e
  · exact Good.congr (fun m => by rw [← hg m, get_bases]) t.g
theorem ret_own {F : FD} {i : Nat} {d : D} {E : EndsD} {Γ : Gm} (h : Γ[i]? = some (.own d)) (hc : F [d] E.rt) : rdRet (rdCall F [] (rdCons (rdVar i) rdNil)) E Γ := by
  unfold rdRet rdCall rdCons rdNil rdVar
  rw [h]
  exact hc
theorem len_Table_done {ds : List D} {Q : D → Prop} (h : F_Table_done ds Q) : ds.length = 2 := by obtain ⟨B, W, K, e, rfl, _⟩ := h; rfl
theorem rdl_Table_done {ds : List D} {Q : D → Prop} (h : F_Table_done ds Q) : rd_Table_done { nx := fun _ => Q .non, rt := Q } (startG N_Table_done ds) := by
  obtain ⟨B, W, K, e, rfl, tb, od, cn, q⟩ := h
  unfold rd_Table_done
  refine sq_if (b := false) (vt_not (vt_test (b := true) (vl_meth (vl_var rfl) (by decide +kernel) (va_cons (vl_var rfl) va_nil) fun K' k' => ⟨B, W, K, e, rfl, tb, od, fun _ => k', fun z => absurd cn z⟩))) (fun h => by cases h) fun _ => ?_
  have dl : (dom B).length ≤ 1000 := by
    have := tb.len.2
    unfold dom
    rw [List.length_map]
    omega
  have cmp : ∀ {a b c d e2 f g h i j : Sl}, f.isOwn = false → Vl (rdDc (rdIAny (rdFld "Table" "own_bases" (rdVar 0))) (rgName 6) (fun Γ Q => Q true Γ) (rdVar 6) (rdTup (rdCons (rdOp rdIxA (rdFld "Table" "own_bases" (rdVar 0)) (rdVar 6)) (rdCons (rdOp rdIxA (rdFld "Table" "own_words" (rdVar 0)) (rdVar 6)) rdNil))) [6]) [.dat (tabD B W K), a, b, c, d, e2, f, g, h, i, j] (dB prD (C0 B W false)) := fun hf => by
    refine vl_dc (f := prD) (g := pairOf B W false) (L := dom B) (vi_any (vl_fld (vl_var rfl) rfl) fun k hk => it_dB hk) (show 6 < 11 by decide) (fun v hv s e => by rw [List.mem_singleton.mp hv] at e; cases e; exact hf) tb.nd dl (fun n hn => vl_var rfl) fun n hn => ?_
    obtain ⟨bs, eb⟩ := get_some.mpr hn
    obtain ⟨ws, ew⟩ := get_some.mpr (show n ∈ dom W by rw [tb.dw]; exact hn)
    have ep : pairOf B W false n = (bs, ws, false) := by unfold pairOf; rw [eb, ew]; rfl
    rw [ep]
    exact vl_tup (ds := [sT bs, sT ws]) (va_cons (vl_op (vl_fld (vl_var rfl) rfl) (vl_var rfl) (v2_ixD eb rfl)) (va_cons (vl_op (vl_fld (vl_var rfl) rfl) (vl_var rfl) (v2_ixD ew rfl)) va_nil)) (small_of (show 2 ≤ 1000 by decide))
  have cl : (C0 B W false).length < 1000 := by rw [len_C0]; have := tb.len.2; omega
  cases e with
  | bases n bs =>
    obtain ⟨hn, hb, hl⟩ := od
    obtain ⟨ha, K', gK, aK⟩ := cn
    obtain ⟨ws, ew⟩ := get_some.mpr (show n ∈ dom W by rw [tb.dw]; exact hn)
    obtain ⟨b0, eb⟩ := get_some.mpr hn
    have ep : get (C0 B W false) n = some (b0, ws, false) := by
      rw [get_C0, if_pos hn]
      unfold pairOf
      rw [eb, ew]; rfl
    refine sq_tup3 (a := .str "bases") (b := .str n) (c := sT bs) (vl_var rfl) (sq_own (cmp rfl) ?_)
    refine sq_tup2 (a := sT b0) (b := sT ws) (vl_pkIx rfl (vl_var rfl) (v2_ixD (f := prD) ep rfl)) ?_
    refine st_if (b := true) (vt_eq (vt_test (vl_op (vl_var rfl) vl_c v2_eqS)) (by decide)) (fun _ => ?_) fun h => by cases h
    refine st_put (f := prD) (B := C0 B W false) (n := n) (v := (bs, ws, false)) (vl_tup (ds := [sT bs, sT ws]) (va_cons (vl_var rfl) (va_cons (vl_var rfl) va_nil)) (small_of (show 2 ≤ 1000 by decide))) (vl_var rfl) rfl cl ?_
    obtain ⟨co, hg⟩ := c1_ok (k := false) (p := (bs, ws, false)) tb hn ha (tb.wk n ws ew) gK (fun m => get_putB) aK
    dsimp only
    exact ret_own (F := F_Table___init__) (i := 5) (d := dB prD (putB (C0 B W false) n (bs, ws, false))) rfl ⟨_, K', rfl, co, fun K2 t2 => q _ _ _ t2 hg⟩
  | put n w =>
    obtain ⟨hn, hw, tw⟩ := od
    obtain ⟨ws, ew, hc⟩ := cn
    obtain ⟨b0, eb⟩ := get_some.mpr hn
    have ep : get (C0 B W false) n = some (b0, ws, false) := by
      rw [get_C0, if_pos hn]
      unfold pairOf
      rw [eb, ew]; rfl
    obtain ⟨wl, wnd, wok⟩ := tb.wk n ws ew
    have nw : (ws.filter (fun x => !decide (x = w)) ++ [w]).length ≤ 4 ∧ (ws.filter (fun x => !decide (x = w)) ++ [w]).Nodup ∧ ∀ x ∈ ws.filter (fun x => !decide (x = w)) ++ [w], isWs x = true ∧ okT x := by
      refine ⟨?_, List.nodup_append.mpr ⟨wnd.filter _, List.pairwise_singleton _ _, fun a ha b hb => ?_⟩, fun x hx => ?_⟩
      · rw [List.length_append]
        show (ws.filter _).length + 1 ≤ 4
        rcases hc with h | h
        · have : (ws.filter fun x => !decide (x = w)).length < ws.length := List.length_filter_lt_length_iff_exists.mpr ⟨w, h, by simp⟩
          omega
        · have := List.length_filter_le (fun x => !decide (x = w)) ws
          omega
      · rw [List.mem_singleton.mp hb]
        have := (List.mem_filter.mp ha).2
        simpa using this
      · rcases List.mem_append.mp hx with hx | hx
        · exact wok x (List.mem_filter.mp hx).1
        · rw [List.mem_singleton.mp hx]; exact ⟨hw, tw⟩
    refine sq_tup3 (a := .str "put") (b := .str n) (c := .str w) (vl_var rfl) (sq_own (cmp rfl) ?_)
    refine sq_tup2 (a := sT b0) (b := sT ws) (vl_pkIx rfl (vl_var rfl) (v2_ixD (f := prD) ep rfl)) ?_
    refine st_if (b := false) (vt_eq (vt_test (vl_op (vl_var rfl) vl_c v2_eqS)) (by decide)) (fun h => by cases h) fun _ => ?_
    refine sq_asg (d := sT (ws.filter fun x => !decide (x = w))) (vl_cb (va_cons (vl_sh (vl_lc (g := D.str) (f := D.str) (p := fun x => !decide (x = w)) (L := ws) (vi_any (vl_var rfl) fun k hk => hk) (show 10 < 11 by decide) (noOwn_of (by rfl)) (small_n (by omega)) (fun x hx => vt_test (vl_op (vl_var rfl) (vl_var rfl) v2_neS)) fun x hx _ => vl_var rfl)) va_nil) vc_tupL) ?_
    have ea : sS (ws.filter fun x => !decide (x = w)) ++ [D.str w] = sS (ws.filter (fun x => !decide (x = w)) ++ [w]) := by unfold sS; rw [List.map_append]; rfl
    refine st_put (f := prD) (B := C0 B W false) (n := n) (v := (b0, ws.filter (fun x => !decide (x = w)) ++ [w], false)) (vl_tup (ds := [sT b0, sT (ws.filter (fun x => !decide (x = w)) ++ [w])]) (va_cons (vl_var rfl) (va_cons (vl_eq (vl_if (b := true) (x := .tup (sS (ws.filter fun x => !decide (x = w)) ++ [D.str w])) (y := .non) (vt_eq (vt_test (vl_op (vl_var rfl) vl_c v2_eqS)) (by decide)) (fun _ => vl_op (vl_var rfl) (vl_tup (va_cons (vl_var rfl) va_nil) (small_of (show 1 ≤ 1000 by decide))) (v2_addT ?_)) fun h => by cases h) ?_) va_nil)) (small_of (show 2 ≤ 1000 by decide))) (vl_var rfl) rfl cl ?_
    · rw [List.length_map]
      exact small_n (by have := List.length_filter_le (fun x => !decide (x = w)) ws; show _ + 1 ≤ 1000; omega)
    · rw [if_pos rfl, ea]
    obtain ⟨co, hg⟩ := c1_ok (k := false) (p := (b0, ws.filter (fun x => !decide (x = w)) ++ [w], false)) tb hn (tb.ok n b0 eb) nw tb.g (fun m => by
      by_cases e : m = n
      · rw [if_pos e, e]; exact eb
      · rw [if_neg e]) tb.all
    dsimp only
    exact ret_own (F := F_Table___init__) (i := 5) (d := dB prD (putB (C0 B W false) n (b0, ws.filter (fun x => !decide (x = w)) ++ [w], false))) rfl ⟨_, K, rfl, co, fun K2 t2 => q _ _ _ t2 hg⟩
theorem mod_bases {B K W : Bs} : V2 rdIxA (modD B K W) (.str "bases") (dB sT B) := v2_ixD (f := fun d : D => d) (B := [("bases", dB sT B), ("lines", dB sT K), ("words", dB sT W)]) (if_pos rfl) rfl
theorem mod_words {B K W : Bs} : V2 rdIxA (modD B K W) (.str "words") (dB sT W) := v2_ixD (f := fun d : D => d) (B := [("bases", dB sT B), ("lines", dB sT K), ("words", dB sT W)]) (by
  unfold VL.get
  rw [if_neg (by decide)]
  unfold VL.get
  rw [if_neg (by decide)]
  exact if_pos rfl) rfl
theorem len__law_real {ds : List D} {Q : D → Prop} (h : F__law_real ds Q) : ds.length = 1 := by obtain ⟨B, W, K, rfl, _⟩ := h; rfl
theorem rdl__law_real {ds : List D} {Q : D → Prop} (h : F__law_real ds Q) : rd__law_real { nx := fun _ => Q .non, rt := Q } (startG N__law_real ds) := by
  obtain ⟨B, W, K, rfl, tb, q⟩ := h
  have dl : (dom B).length ≤ 1000 := by
    have := tb.len.2
    unfold dom
    rw [List.length_map]
    omega
  obtain ⟨co, hg⟩ := c0_ok (k := true) tb
  refine nd_call (F := F_Table___init__) (va_cons (vl_sh (vl_cf (va_cons (vl_sh (vl_lcm (g := D.str) (f := fun n => .tup [.str n, prD (pairOf B W true n)]) (L := dom B) (vi_any (vl_op (vl_var rfl) vl_c mod_bases) fun k hk => it_dB hk) (show 1 < 2 by decide) (noOwn_of (by rfl)) (small_n dl) fun n hn => ?_)) va_nil) (vc_dictN tb.nd))) va_nil) ⟨C0 B W true, K, rfl, co, fun K2 t2 => q _ _ _ t2 hg⟩
  obtain ⟨bs, eb⟩ := get_some.mpr hn
  obtain ⟨ws, ew⟩ := get_some.mpr (show n ∈ dom W by rw [tb.dw]; exact hn)
  have ep : pairOf B W true n = (bs, ws, true) := by unfold pairOf; rw [eb, ew]; rfl
  rw [ep]
  exact vl_tup (va_cons (vl_var rfl) (va_cons (vl_tup (ds := [sT bs, sL ws]) (va_cons (vl_op (vl_op (vl_var rfl) vl_c mod_bases) (vl_var rfl) (v2_ixD eb rfl)) (va_cons (vl_sh (vl_cf (va_cons (vl_op (vl_op (vl_var rfl) vl_c mod_words) (vl_var rfl) (v2_ixD ew rfl)) va_nil) vc_listT)) va_nil)) (small_of (show 2 ≤ 1000 by decide))) va_nil)) (small_of (show 2 ≤ 1000 by decide))
end TB

set_option Elab.async false
set_option linter.all false
set_option maxRecDepth 100000
set_option maxHeartbeats 1000000
namespace TB
open PySem PySem.Spec L2 VL
open PyProof.Rows hiding St
/-! ### the law's table -/
theorem sq_parN {i j : Nat} {ta tb : TDE} {t : TDS} {E : EndsD} {Γ : Gm} (h : ta Γ fun x Γ1 => tb Γ1 fun y Γ2 => t E ((Γ2.set i (.dat x)).set j (.dat y))) : rdSeq (rdPar i j (rdCons ta (rdCons tb rdNil))) t E Γ := h
theorem nd_call2 {F : FD} {ta tb : TDE} {x : D} {Γ : Gm} {Q : D → Gm → Prop} (ha : Vl ta Γ x) (h : tb Γ fun y Γ1 => F [x, y] fun d => Q d Γ1) : rdCall F [] (rdCons ta (rdCons tb rdNil)) Γ Q := ha _ h
theorem put_fin {α : Type} {f : α → D} {B : List (Str × α)} {n : Str} {v : α} {i : Nat} {tk : TDE} {Γ : Gm} {N : Gm → Prop} (hk : Vl tk Γ (.str n)) (hs : Γ[i]? = some (.own (dB f B))) (hl : B.length < 1000) (q : N (Γ.set i (.own (dB f (putB B n v))))) :
    (∃ d0, Γ[i]? = some (.own d0)) ∧ tk Γ fun kd Γ2 => ∃ ks ds ky, Γ2[i]? = some (.own (.dic ks ds)) ∧ keyOf kd = some ky ∧ ks.length < sizeLine ∧ N (Γ2.set i (.own (.dic (putKs ks ky) (putDs ks ds ky (f v))))) := by
  refine ⟨⟨_, hs⟩, hk _ ⟨_, _, .inr n, hs, rfl, ?_, ?_⟩⟩
  · rw [List.length_map]
    unfold dom
    rw [List.length_map]
    exact Nat.lt_of_lt_of_le hl (by decide)
  · rw [put_dB]; exact q
theorem goLc_any {α : Type} {tt : TDT} {te : TDE} {i : Nat} {Q : D → Gm → Prop} {Γ : Gm} (g f : α → D) (hi : i < Γ.length) : ∀ (L : List α) (acc : List D), acc.length + L.length ≤ sizeLine →
    (∀ a ∈ L, ∀ k : Bool → Gm → Prop, k true (Γ.set i (.dat (g a))) → k false (Γ.set i (.dat (g a))) → tt (Γ.set i (.dat (g a))) k) → (∀ a ∈ L, Vl te (Γ.set i (.dat (g a))) (f a)) →
    (∀ sub : List α, sub.Sublist L → Q (.lst (acc ++ sub.map f)) Γ) → goLc (rgName i) tt te [i] Q (L.map g) acc Γ
  | [], acc, _, _, _, q => by
    have := q [] (List.Sublist.refl _)
    rw [List.map_nil, List.append_nil] at this
    exact this
  | a :: L, acc, hl, ht, he, q => by
    have eb : ∀ s : Sl, backG Γ (Γ.set i s) [i] = Γ := fun s => by
      show (Γ.set i s).set i ((Γ[i]?).getD .no) = Γ
      rw [List.set_set, List.getElem?_eq_getElem hi]
      exact List.set_getElem_self hi
    show tt ((Γ.set i .no).set i (.dat (g a))) _
    rw [List.set_set]
    rw [List.length_cons] at hl
    refine ht a List.mem_cons_self _ ?_ ?_
    · rw [if_pos rfl]
      refine he a List.mem_cons_self _ ⟨by omega, ?_⟩
      rw [eb]
      refine goLc_any g f hi L (acc ++ [f a]) (by rw [List.length_append]; show acc.length + 1 + L.length ≤ _; omega) (fun b hb => ht b (List.mem_cons_of_mem _ hb)) (fun b hb => he b (List.mem_cons_of_mem _ hb)) fun sub hs => ?_
      rw [List.append_assoc]
      exact q (a :: sub) (hs.cons_cons a)
    · rw [if_neg Bool.false_ne_true, eb]
      exact goLc_any g f hi L acc (by omega) (fun b hb => ht b (List.mem_cons_of_mem _ hb)) (fun b hb => he b (List.mem_cons_of_mem _ hb)) fun sub hs => q sub (hs.cons a)
theorem ret_own2 {F : FD} {i j : Nat} {d e : D} {E : EndsD} {Γ : Gm} (ne : i ≠ j) (h : Γ[i]? = some (.own d)) (h2 : Γ[j]? = some (.own e)) (hc : F [d, e] E.rt) : rdRet (rdCall F [] (rdCons (rdVar i) (rdCons (rdVar j) rdNil))) E Γ := by
  unfold rdRet rdCall rdCons rdNil
  unfold rdVar
  rw [h]
  dsimp only
  rw [List.getElem?_set_ne ne, h2]
  exact hc
theorem areS_mono {ns ms : List Str} {n : Str} {bs : List Str} (h : ∀ x ∈ ns, x ∈ ms) (a : areS ns n bs = true) : areS ms n bs = true := by
  obtain ⟨a1, a2, a3⟩ := areS_mem a
  unfold areS
  simp only [Bool.and_eq_true, decide_eq_true_eq, List.all_eq_true, Bool.not_eq_true', decide_eq_false_iff_not]
  exact ⟨⟨a1, fun b hb => ⟨h b (a2 b hb).1, (a2 b hb).2⟩⟩, a3⟩
theorem areS_of {ns : List Str} {n : Str} {bs : List Str} (h1 : bs.length ≤ 3) (h2 : ∀ b ∈ bs, b ∈ ns ∧ b ≠ n) (h3 : bs.Nodup) : areS ns n bs = true := by
  unfold areS
  simp only [Bool.and_eq_true, decide_eq_true_eq, List.all_eq_true, Bool.not_eq_true', decide_eq_false_iff_not]
  exact ⟨⟨h1, h2⟩, h3⟩
theorem Good.more {B B1 K : Bs} (h : ∀ n ∈ dom B, get B1 n = get B n) (g : Good B K) : Good B1 K := by
  induction g with
  | nil => exact .nil
  | snoc g hn hb hs hm ih => exact .snoc ih hn (by rw [h _ (get_dom hb)]; exact hb) hs hm
theorem mrg_one0 {K : Bs} : Mrg (rowsOf K []) (some []) := .done fun r hr => List.mem_singleton.mp hr
/-- a table in the making -/
structure Mk1 (B W K : Bs) (done : List Str) : Prop where
  db : dom B = done
  dw : dom W = done
  ok : ∀ n bs, get B n = some bs → areS (dom B) n bs = true
  wk : ∀ n ws, get W n = some ws → ws.length ≤ 4 ∧ ws.Nodup ∧ ∀ w ∈ ws, isWs w = true ∧ okT w
  g : Good B K
  all : ∀ n ∈ dom B, n ∈ dom K
theorem bok_of {B : Bs} {nm : List Str} (nd : nm.Nodup) (hl : nm.length ≤ 10) (hn : ∀ n ∈ nm, okT n) (db : dom B = nm) (ok : ∀ n bs, get B n = some bs → areS (dom B) n bs = true) : BOk B := by
  refine ⟨by rw [db]; exact nd, ?_, fun n h => hn n (by rw [← db]; exact h), fun n bs e => ?_⟩
  · have : (dom B).length = B.length := List.length_map _
    rw [db] at this
    omega
  · have a := areS_mem (ok n bs e)
    exact ⟨a.1, fun b hb => (a.2.1 b hb).1⟩
theorem get_snoc {B : Bs} {n m : Str} {v : List Str} (h : n ∉ dom B) : get (B ++ [(n, v)]) m = if m = n then some v else get B m := by
  have := get_putB (B := B) (n := n) (v := v) (m := m)
  rw [putB_new h] at this
  exact this
/-- the bases of a new name, till its line is known -/
theorem new_loop {d : Addr} {B W K : Bs} {nm : List Str} {w : Str} {s1 s2 s3 s5 s6 s8 s9 : Sl} {E : EndsD} (nd : (nm ++ [w]).Nodup) (hl : (nm ++ [w]).length ≤ 10) (hn : ∀ n ∈ nm ++ [w], okT n) (mk : Mk1 B W K nm)
    (q : ∀ bs K', areS nm w bs = true → Good (B ++ [(w, bs)]) K' → (∀ n ∈ nm ++ [w], n ∈ dom K') → E.nx [.dat (.ref d), s1, s2, s3, .own (dB sT (B ++ [(w, bs)])), s5, s6, .dat (.str w), s8, s9]) : ∀ (n : Nat) (bs : List Str), bs.length + 2 ≤ n → areS nm w bs = true →
      goW (rdTest (rdOp (rdInB true) (rdVar 7) (rdCall F__law_lines [] (rdConsB 4 rdNil)))) (rdPut 4 (rdVar 7) (rdSl rdSlB (rdPkIx 4 (rdVar 7)) rdNoPart (rdPart (rdNeg (rdC (.int 1)))))) E n [.dat (.ref d), s1, s2, s3, .own (dB sT (B ++ [(w, bs)])), s5, s6, .dat (.str w), s8, s9] := by
  intro n
  induction n with
  | zero => intro bs h; omega
  | succ n ih =>
    intro bs hb ha
    have hw : w ∉ dom B := by
      rw [mk.db]
      exact fun h => (List.nodup_append.mp nd).2.2 w h w (List.mem_singleton.mpr rfl) rfl
    have db1 : dom (B ++ [(w, bs)]) = nm ++ [w] := by rw [dom_app, mk.db]; rfl
    have ok1 : ∀ m l, get (B ++ [(w, bs)]) m = some l → areS (dom (B ++ [(w, bs)])) m l = true := fun m l e => by
      rw [db1]
      rw [get_snoc hw] at e
      by_cases z : m = w
      · rw [if_pos z] at e
        cases e
        subst z
        exact areS_mono (fun x hx => List.mem_append_left _ hx) ha
      · rw [if_neg z] at e
        have := mk.ok m l e
        rw [mk.db] at this
        exact areS_mono (fun x hx => List.mem_append_left _ hx) this
    have bok := bok_of nd hl hn db1 ok1
    show rdTest _ _ _
    refine nd_op (vl_var rfl) (nd_call (F := F__law_lines) (va_bor rfl va_nil) ⟨B ++ [(w, bs)], rfl, bok, fun K' g c => v2_inD _ ?_⟩)
    have g0 : Good (B ++ [(w, bs)]) K := Good.more (fun m hm => get_app_l hm) mk.g
    have old : ∀ m ∈ nm, m ∈ dom K' := fun m hm => (g0.unique g c m (mk.all m (by rw [mk.db]; exact hm))).1
    by_cases hk : w ∈ dom K'
    · rw [decide_eq_true hk]
      refine q bs K' ha g fun m hm => ?_
      rcases List.mem_append.mp hm with hm | hm
      · exact old m hm
      · rw [List.mem_singleton.mp hm]; exact hk
    · rw [decide_eq_false hk]
      have ne : bs ≠ [] := fun z => by
        subst z
        have e := get_snoc (m := w) (v := []) hw
        rw [if_pos rfl] at e
        exact nomatch mrg_one (c w [] e hk fun b hb => by cases hb) mrg_one0
      have hd : (sS bs).dropLast = sS bs.dropLast := (List.map_dropLast).symm
      have gw : get (B ++ [(w, bs)]) w = some bs := by rw [get_snoc hw, if_pos rfl]
      dsimp only [asB]
      rw [if_pos (by rfl)]
      refine st_put (f := sT) (B := B ++ [(w, bs)]) (n := w) (v := bs.dropLast) (vl_eq (vl_sl (vl_pkIx rfl (vl_var rfl) (v2_ixD gw rfl)) vo_no (vo_some (vl_neg vl_c)) vs_Tinit) (by rw [hd])) (vl_var rfl) rfl (by have := bok.len; omega) ?_
      have hin : w ∈ dom (B ++ [(w, bs)]) := by rw [db1]; exact List.mem_append_right _ (List.mem_singleton.mpr rfl)
      have ep : putB (B ++ [(w, bs)]) w bs.dropLast = B ++ [(w, bs.dropLast)] := by
        rw [putB_old hin]
        unfold setB
        rw [List.map_append]
        congr 1
        · refine (List.map_congr_left fun p hp => ?_).trans (List.map_id _)
          exact if_neg fun z => hw (by rw [← z]; exact List.mem_map.mpr ⟨p, hp, rfl⟩)
        · show [if w = w then (w, bs.dropLast) else (w, bs)] = _
          rw [if_pos rfl]
      rw [ep]
      obtain ⟨a1, a2, a3⟩ := areS_mem ha
      refine ih bs.dropLast ?_ (areS_of (by rw [List.length_dropLast]; omega) (fun b hb => a2 b ((List.dropLast_sublist bs).subset hb)) (a3.sublist (List.dropLast_sublist _)))
      rw [List.length_dropLast]
      have := List.length_pos_iff.mpr ne
      omega
end TB

set_option Elab.async false
set_option linter.all false
set_option maxRecDepth 100000
set_option maxHeartbeats 1000000
namespace TB
open PySem PySem.Spec L2 VL
open PyProof.Rows hiding St
theorem len__law_table {d : Addr} {ds : List D} {Q : D → Prop} (h : F__law_table d ds Q) : ds.length = 2 := by obtain ⟨k, rfl, _⟩ := h; rfl
theorem nd_sl2 {ta : TDE} {Γ : Gm} {Q : D → Gm → Prop} {r : D → Option Int → Option Int → (D → Prop) → Prop} {tl th : TDO} (h : ta Γ fun x Γ' => tl Γ' fun lo Γ2 => th Γ2 fun hi Γ3 => r x lo hi fun d => Q d Γ3) : rdSl r ta tl th Γ Q := h
theorem put_N {i : Nat} {tk tv : TDE} {E : EndsD} {Γ : Gm} (h : tv Γ fun d Γ1 => (∃ d0, Γ1[i]? = some (.own d0)) ∧ tk Γ1 fun kd Γ2 => ∃ ks ds ky, Γ2[i]? = some (.own (.dic ks ds)) ∧ keyOf kd = some ky ∧ ks.length < sizeLine ∧ E.nx (Γ2.set i (.own (.dic (putKs ks ky) (putDs ks ds ky d))))) : rdPut i tk tv E Γ := h
theorem lc_N {tf : TDF} {gd : TDG} {tt : TDT} {te : TDE} {vs : List Nat} {L : List D} {Γ : Gm} {Q : D → Gm → Prop} (hi : VA tf Γ L) (ho : noOwn Γ vs) (h : goLc gd tt te vs Q L [] Γ) : rdShare (rdLc tf gd tt te vs) Γ Q := hi _ ⟨ho, h⟩
theorem plus_one (r : Nat) : (1 : Int) + (r : Int) = ((1 + r : Nat) : Int) := by omega
def tabInv (d : Addr) (k : Int) (nm sm : List Str) (j : Nat) (Γ : Gm) : Prop := ∃ B W K s6 s7 s8 s9, Γ = [.dat (.ref d), .dat (.int k), .dat (sL nm), .dat (sL sm), .own (dB sT B), .own (dB sL W), s6, s7, s8, s9] ∧ s9.isOwn = false ∧ Mk1 B W K (nm.take j)
theorem tab_step {d : Addr} {k : Int} {nm sm : List Str} (nd : nm.Nodup) (hl : nm.length ≤ 6) (hn : ∀ n ∈ nm, okT n) (sd : sm.Nodup) (sl : sm.length ≤ 4) (sk : ∀ w ∈ sm, isWs w = true ∧ okT w) {j : Nat} (hj : j < nm.length) {Γ : Gm} (I : tabInv d k nm sm j Γ) {E : EndsD} (q : ∀ Γ', tabInv d k nm sm (j + 1) Γ' → E.nx Γ') :
    (rdSeq (rdAsg (rdOp rdIxA (rdVar 2) (rdVar 6)) (rgName 7))
    (rdSeq (rdPut 4 (rdVar 7) (rdCB rdTuple (rdCons (rdSl rdSlB (rdCall (F__law_mixed d) [] (rdCons (rdVar 0) (rdCons (rdSl rdSlB (rdVar 2) rdNoPart (rdPart (rdVar 6))) rdNil))) rdNoPart (rdPart (rdCall (FpickS d) [] (rdCons (rdVar 0) (rdCons (rdShare (rdLst (rdCons (rdC (.int 0)) (rdCons (rdC (.int 1)) (rdCons (rdC (.int 1)) (rdCons (rdC (.int 2)) (rdCons (rdC (.int 2)) (rdCons (rdC (.int 3)) rdNil)))))))) rdNil))))) rdNil)))
    (rdSeq (rdWhile (rdTest (rdOp (rdInB true) (rdVar 7) (rdCall F__law_lines [] (rdConsB 4 rdNil)))) (rdPut 4 (rdVar 7) (rdSl rdSlB (rdPkIx 4 (rdVar 7)) rdNoPart (rdPart (rdNeg (rdC (.int 1)))))))
    (rdSeq (rdAsg (rdCall (FpickS d) [] (rdCons (rdVar 0) (rdCons (rdShare (rdLst (rdCons (rdC (.int 3)) (rdCons (rdC (.int 3)) (rdCons (rdC (.int 3)) (rdCons (rdC (.int 1)) rdNil)))))) rdNil))) (rgName 8))
    (rdPut 5 (rdVar 7) (rdShare (rdLc (rdIAny (rdVar 3)) (rgName 9) (rdTest (rdOp rdEq (rdCall (Ftake d) [] (rdCons (rdVar 0) (rdCons (rdVar 8) rdNil))) (rdC (.int 0)))) (rdVar 9) [9]))))))) E (Γ.set 6 (.dat (.int (j : Nat)))) := by
  obtain ⟨B, W, K, s6, s7, s8, s9, rfl, h9, mk⟩ := I
  have et : nm.take (j + 1) = nm.take j ++ [nm[j]] := by rw [List.take_succ_eq_append_getElem hj]
  have ndt : (nm.take j ++ [nm[j]]).Nodup := by rw [← et]; exact nd.sublist (List.take_sublist _ _)
  have hlt : (nm.take j ++ [nm[j]]).length ≤ 10 := by
    rw [← et, List.length_take]
    omega
  have hnt : ∀ n ∈ nm.take j ++ [nm[j]], okT n := fun n h => hn n (List.mem_of_mem_take (by rw [et]; exact h))
  have hw : nm[j] ∉ dom B := by
    rw [mk.db]
    exact fun h => (List.nodup_append.mp ndt).2.2 _ h _ (List.mem_singleton.mpr rfl) rfl
  have hB : B.length < 1000 := by
    have : (dom B).length = B.length := List.length_map _
    rw [mk.db, List.length_take] at this
    omega
  have hW : W.length < 1000 := by
    have : (dom W).length = W.length := List.length_map _
    rw [mk.dw, List.length_take] at this
    omega
  refine sq_asg (d := .str nm[j]) (vl_op (vl_var rfl) (vl_var rfl) (v2_ixL (by rw [List.getElem?_map, List.getElem?_eq_getElem hj]; rfl))) ?_
  -- the bases drawn
  refine nd_cb (nd_cons (nd_sl2 (nd_call (F := F__law_mixed d) (va_cons (vl_var rfl) (va_cons (vl_eq (vl_sl (vl_var rfl) vo_no (vo_some (vl_var rfl)) vs_Lto) (by rw [← List.map_take])) va_nil)) ⟨nm.take j, rfl, by rw [List.length_take]; omega, fun x hx => hn x (List.mem_of_mem_take hx), fun ys p => ?_⟩)))
  dsimp only [rdNoPart]
  show rdCall (FpickS d) [] _ _ _
  refine nd_call (F := FpickS d) (va_cons (vl_var rfl) (va_cons (vl_sh (vl_lst (va_cons vl_c (va_cons vl_c (va_cons vl_c (va_cons vl_c (va_cons vl_c (va_cons vl_c va_nil)))))) (small_of (show 6 ≤ 1000 by decide)))) va_nil)) (pickS_lst (by simp) (by show 6 < 1000; decide) fun x hx => ?_)
  obtain ⟨m, rfl, hm⟩ : ∃ m : Nat, x = .int (m : Nat) ∧ m ≤ 3 := by
    simp only [List.mem_cons, List.not_mem_nil, or_false] at hx
    rcases hx with rfl | rfl | rfl | rfl | rfl | rfl
    · exact ⟨0, rfl, by decide⟩
    · exact ⟨1, rfl, by decide⟩
    · exact ⟨1, rfl, by decide⟩
    · exact ⟨2, rfl, by decide⟩
    · exact ⟨2, rfl, by decide⟩
    · exact ⟨3, rfl, by decide⟩
  dsimp only [asI]
  refine vs_Lto (k := m) _ ?_
  rw [← List.map_take]
  have ha : areS (nm.take j) nm[j] (ys.take m) = true := by
    refine areS_of (by rw [List.length_take]; omega) (fun b hb => ?_) (((p.nodup_iff).mpr (nd.sublist (List.take_sublist _ _))).sublist (List.take_sublist _ _))
    have hb2 : b ∈ nm.take j := p.mem_iff.mp (List.mem_of_mem_take hb)
    refine ⟨hb2, fun z => hw ?_⟩
    rw [mk.db, ← z]
    exact hb2
  dsimp only [rdNil]
  refine vc_tupL _ ?_
  refine put_fin (f := sT) (B := B) (n := nm[j]) (v := ys.take m) (vl_var rfl) rfl hB ?_
  rw [putB_new hw]
  refine sq_while ⟨(ys.take m).length + 2, ?_⟩
  refine new_loop (E := _) ndt hlt hnt mk (fun bs K' ha2 g2 all2 => ?_) _ _ (Nat.le_refl _) ha
  -- the words drawn
  dsimp only
  refine sq_asgN (nd_call (F := FpickS d) (va_cons (vl_var rfl) (va_cons (vl_sh (vl_lst (va_cons vl_c (va_cons vl_c (va_cons vl_c (va_cons vl_c va_nil)))) (small_of (show 4 ≤ 1000 by decide)))) va_nil)) (pickS_lst (by simp) (by show 4 < 1000; decide) fun x hx => ?_))
  obtain ⟨c, rfl, hc⟩ : ∃ c : Int, x = .int c ∧ 0 < c ∧ c < 1073741824 := by
    simp only [List.mem_cons, List.not_mem_nil, or_false] at hx
    rcases hx with rfl | rfl | rfl | rfl
    · exact ⟨3, rfl, by decide⟩
    · exact ⟨3, rfl, by decide⟩
    · exact ⟨3, rfl, by decide⟩
    · exact ⟨1, rfl, by decide⟩
  dsimp only [List.set]
  refine put_N (lc_N (vi_any (d := sL sm) (L := sS sm) (vl_var rfl) fun k hk => hk) (fun v hv s e => by rw [List.mem_singleton.mp hv] at e; cases e; exact h9) ?_)
  refine goLc_any D.str D.str (show 9 < 10 by decide) sm [] (small_n (by show 0 + sm.length ≤ 1000; omega)) (fun w hw2 kk h1 h2 => ?_) (fun w hw2 => vl_var rfl) fun sub hsub => ?_
  · refine nd_op1 (nd_call (F := Ftake d) (va_cons (vl_var rfl) (va_cons (vl_var rfl) va_nil)) (take_ok hc.1 hc.2 fun r hr => ?_))
    dsimp only [rdC]
    refine v2_eqI _ ?_
    dsimp only [asB]
    by_cases z : (r : Int) = 0
    · rw [decide_eq_true z]; exact h1
    · rw [decide_eq_false z]; exact h2
  · have hw3 : nm[j] ∉ dom W := by rw [mk.dw, ← mk.db]; exact hw
    rw [List.nil_append]
    refine put_fin (f := sL) (B := W) (n := nm[j]) (v := sub) (vl_var rfl) rfl hW ?_
    rw [putB_new hw3]
    refine q _ ⟨B ++ [(nm[j], bs)], W ++ [(nm[j], sub)], K', _, _, _, _, rfl, h9, ?_⟩
    rw [et]
    have db1 : dom (B ++ [(nm[j], bs)]) = nm.take j ++ [nm[j]] := by rw [dom_app, mk.db]; rfl
    refine ⟨db1, by rw [dom_app, mk.dw]; rfl, fun n l e => ?_, fun n l e => ?_, g2, fun n h => all2 n (by rw [← db1]; exact h)⟩
    · rw [db1]
      rw [get_snoc hw] at e
      by_cases z : n = nm[j]
      · rw [if_pos z] at e
        cases e
        rw [z]
        exact areS_mono (fun x hx => List.mem_append_left _ hx) ha2
      · rw [if_neg z] at e
        have := mk.ok n l e
        rw [mk.db] at this
        exact areS_mono (fun x hx => List.mem_append_left _ hx) this
    · rw [get_snoc hw3] at e
      by_cases z : n = nm[j]
      · rw [if_pos z] at e
        cases e
        exact ⟨Nat.le_trans hsub.length_le sl, sd.sublist hsub, fun w hw => sk w (hsub.subset hw)⟩
      · rw [if_neg z] at e
        exact mk.wk n l e
theorem rdl__law_table {d : Addr} {ds : List D} {Q : D → Prop} (h : F__law_table d ds Q) : rd__law_table d { nx := fun _ => Q .non, rt := Q } (startG N__law_table ds) := by
  obtain ⟨k, rfl, k1, k6, q⟩ := h
  unfold rd__law_table
  refine sq_parN (nd_call2 (vl_var rfl) (nd_op vl_c (nd_call (F := Ftake d) (ds := [.ref d, .int (k : Nat)]) (va_cons (vl_var rfl) (va_cons (vl_var rfl) va_nil)) (take_ok (by omega) (by omega) fun r hr => ?_))))
  refine v2_addI _ ?_
  rw [plus_one]
  refine ⟨1 + r, rfl, fun nm nd ht hl => ?_⟩
  refine nd_call2 (vl_var rfl) (nd_op vl_c (nd_call (F := Ftake d) (ds := [.ref d, .int 4]) (va_cons (vl_var rfl) (va_cons vl_c va_nil)) (take_ok (by decide) (by decide) fun r2 hr2 => ?_)))
  refine v2_addI _ ?_
  rw [plus_one]
  refine ⟨1 + r2, rfl, fun sm sd hs sl => ?_⟩
  dsimp only [List.set]
  have nl : 1 ≤ nm.length ∧ nm.length ≤ 6 := by omega
  have sl4 : sm.length ≤ 4 := by omega
  have nk : ∀ n ∈ nm, isCs n = true ∧ okT n := fun n h => ⟨ten_ok.2.2.2 n (ht n h), ten_ok.1 n (ht n h)⟩
  have sk : ∀ w ∈ sm, isWs w = true ∧ okT w := fun w h => ⟨eight_ok.2.2.2 w (hs w h), eight_ok.1 w (hs w h)⟩
  refine sq_par2 vl_dic0 vl_dic0 ?_
  refine sq_for (vi_rng (n := nm.length) (va_cons (vl_eq (vl_cb (va_cons (vl_var rfl) va_nil) vc_lenL) (by rw [List.length_map])) va_nil) (by omega)) ?_
  refine goFor_n (tabInv d k nm sm) _ 0 _ ⟨[], [], [], .no, .no, .no, .no, rfl, rfl, ⟨rfl, rfl, (fun _ _ e => by cases e), (fun _ _ e => by cases e), VL.Good.nil, (fun _ h => by cases h)⟩⟩ ?_ ?_
  · intro j e _ hj Γ I N hN
    rw [Nat.sub_zero] at hj
    unfold rangeD at hj
    rw [List.getElem?_map] at hj
    cases hr3 : (List.range nm.length)[j]? with
    | none => rw [hr3] at hj; cases hj
    | some i =>
      rw [hr3] at hj
      obtain ⟨h1, h2⟩ := List.getElem?_eq_some_iff.mp hr3
      rw [List.getElem_range] at h2
      subst h2
      cases hj
      rw [List.length_range] at h1
      exact tab_step nd nl.2 (fun n h => (nk n h).2) sd sl4 sk h1 I hN
  · intro Γ I
    have hl2 : (rangeD nm.length).length = nm.length := by unfold rangeD; rw [List.length_map, List.length_range]
    rw [hl2, Nat.zero_add] at I
    obtain ⟨B, W, K, s6, s7, s8, s9, rfl, h9, mk⟩ := I
    rw [List.take_length] at mk
    have bok := bok_of nd (by omega) (fun n h => (nk n h).2) mk.db mk.ok
    dsimp only
    refine ret_own2 (F := F__law_model) (i := 4) (j := 5) (by decide) rfl rfl ⟨B, W, rfl, bok, by rw [mk.dw, mk.db], fun K' g c => q _ _ K' ?_⟩
    have hgB : ∀ m, get ((sortT (dom B)).map fun n => (n, (get B n).getD [])) m = get B m := fun m => by
      rw [get_names]
      by_cases h : m ∈ dom B
      · obtain ⟨bs, e⟩ := get_some.mpr h
        rw [if_pos (sortT_mem.mpr h), e]; rfl
      · rw [if_neg (fun z => h (sortT_mem.mp z)), get_none.mpr h]
    have hdB : dom ((sortT (dom B)).map fun n => (n, (get B n).getD [])) = sortT (dom B) := dom_names _ _
    have hdW : dom ((sortT (dom B)).map fun n => (n, sortT ((get W n).getD []))) = sortT (dom B) := dom_names _ _
    refine ⟨by rw [hdB]; exact sort_nodup bok.nd, ?_, by rw [hdB, hdW], fun n hn => nk n ?_, fun n bs e => ?_, fun n ws e => ?_, Good.congr (fun m => (hgB m).symm) g, fun n hn => ?_⟩
    · rw [List.length_map, sortT_len, mk.db]
      exact nl
    · rw [hdB] at hn
      rw [← mk.db]
      exact sortT_mem.mp hn
    · rw [hgB] at e
      rw [hdB, areS_same fun x => sortT_mem]
      exact mk.ok n bs e
    · rw [get_names] at e
      by_cases h : n ∈ sortT (dom B)
      · rw [if_pos h] at e
        cases e
        obtain ⟨ws, ew⟩ := get_some.mpr (show n ∈ dom W by rw [mk.dw, ← mk.db]; exact sortT_mem.mp h)
        rw [ew]
        obtain ⟨w1, w2, w3⟩ := mk.wk n ws ew
        exact ⟨by rw [show (some ws).getD [] = ws from rfl, sortT_len]; exact w1, sort_nodup w2, fun w hw => w3 w (sortT_mem.mp hw)⟩
      · rw [if_neg h] at e; cases e
    · rw [hdB] at hn
      exact (mk.g.unique g c n (mk.all n (sortT_mem.mp hn))).1
end TB

set_option Elab.async false
set_option linter.all false
set_option maxRecDepth 100000
set_option maxHeartbeats 1000000
namespace TB
open PySem PySem.Spec L2 VL
open PyProof.Rows hiding St
/-! ### the orders are right -/
theorem kept_of {l w : List Str} (s : l.Sublist w) : w.Nodup → w.filter (fun x => decide (x ∈ l)) = l := by
  induction s with
  | slnil => intro _; rfl
  | @cons l w a s ih =>
    intro nd
    have nd2 := List.nodup_cons.mp nd
    rw [List.filter_cons_of_neg (by
      have : a ∉ l := fun h => nd2.1 (s.subset h)
      simp [this])]
    exact ih nd2.2
  | @cons_cons l w a s ih =>
    intro nd
    have nd2 := List.nodup_cons.mp nd
    rw [List.filter_cons_of_pos (by simp)]
    congr 1
    have e := ih nd2.2
    refine (List.filter_congr fun x hx => ?_).trans e
    have ne : x ≠ a := fun z => nd2.1 (by rw [← z]; exact hx)
    rw [decide_eq_decide, List.mem_cons]
    exact ⟨fun h => h.resolve_left ne, .inr⟩
theorem perm_of {xs ys : List Str} (h1 : xs.Nodup) (h2 : ys.Nodup) (h : ∀ x, x ∈ xs ↔ x ∈ ys) : xs.Perm ys := (List.perm_ext_iff_of_nodup h1 h2).mpr h
theorem asTx_t (xs : List Str) : asTx (sT xs) = some xs := asSs_map xs
theorem asTx_l (xs : List Str) : asTx (sL xs) = some xs := asSs_map xs
theorem vl_lenSet {ta : TDE} {Γ : Gm} {d : D} {xs : List Str} (h : Vl ta Γ d) (hx : asTx d = some xs) (hl : xs.length < 4000) : Vl (rdLenSet ta) Γ (.int (ddT xs).length) := fun Q q => h _ ⟨xs, hx, hl, q⟩
theorem vl_sortSet {ta : TDE} {Γ : Gm} {d : D} {xs : List Str} (h : Vl ta Γ d) (hx : asTx d = some xs) (hl : xs.length < 4000) : Vl (rdSortSet ta) Γ (sL (sortT (ddT xs))) := fun Q q => h _ ⟨xs, hx, hl, q⟩
theorem len__law_orders_right {ds : List D} {Q : D → Prop} (h : F__law_orders_right ds Q) : ds.length = 1 := by obtain ⟨B, W, K, rfl, _⟩ := h; rfl
theorem kept_ok {l w : List Str} (h1 : okTs l) (h2 : okTs w) (h3 : l.length ≤ 100) (h4 : w.length ≤ 100) (s : l.Sublist w) (nd : w.Nodup) : VC F__law_kept [sT l, sT w] (.bl true) := fun Q q => ⟨l, w, rfl, h1, h2, h3, h4, by rw [decide_eq_true (kept_of s nd)]; exact q⟩
theorem ord_val {B W K : Bs} {Γ : Gm} {n : Str} {l : List Str} {i j : Nat} (h0 : Γ[i]? = some (.dat (tabD B W K))) (h1 : Γ[j]? = some (.dat (.str n))) (hn : n ∈ dom B) (e : get K n = some l) : Vl (rdMeth "Table" "order" F_Table_order [] (rdVar i) (rdCons (rdVar j) rdNil)) Γ (sT l) :=
  vl_meth (vl_var h0) (by decide +kernel) (va_cons (vl_var h1) va_nil) fun Q q => ⟨B, W, K, n, l, rfl, hn, e, q⟩
theorem bas_val {B W K : Bs} {Γ : Gm} {n : Str} {l : List Str} {i j : Nat} (h0 : Γ[i]? = some (.dat (tabD B W K))) (h1 : Γ[j]? = some (.dat (.str n))) (e : get B n = some l) : Vl (rdMeth "Table" "bases" F_Table_bases [] (rdVar i) (rdCons (rdVar j) rdNil)) Γ (sT l) :=
  vl_meth (vl_var h0) (by decide +kernel) (va_cons (vl_var h1) va_nil) fun Q q => ⟨B, W, K, n, l, rfl, e, q⟩
/-- the elements of a line -/
theorem line_mem {B K : Bs} (g : Good B K) {n : Str} {bs t : List Str} (eb : get B n = some bs) (hs : ∀ b ∈ bs, b ∈ dom K) (m : Mrg (rowsOf K bs) (some t)) (x : Str) : x ∈ t ↔ ∃ b ∈ bs, ∃ l, get K b = some l ∧ x ∈ l := by
  rw [(mrg_mem m rfl).1 x]
  constructor
  · intro ⟨r, hr, hx⟩
    rcases List.mem_append.mp hr with hr | hr
    · obtain ⟨b, hb, rfl⟩ := List.mem_map.mp hr
      obtain ⟨l, el⟩ := get_some.mpr (hs b hb)
      rw [el] at hx
      exact ⟨b, hb, l, el, hx⟩
    · rw [List.mem_singleton.mp hr] at hx
      obtain ⟨bs2, t2, _, _, e2, _⟩ := g.entry x (hs x hx)
      exact ⟨x, hx, _, e2, List.mem_cons_self⟩
  · intro ⟨b, hb, l, el, hx⟩
    exact ⟨_, List.mem_append_left _ (List.mem_map.mpr ⟨b, hb, rfl⟩), by rw [el]; exact hx⟩
theorem rdl__law_orders_right {ds : List D} {Q : D → Prop} (h : F__law_orders_right ds Q) : rd__law_orders_right { nx := fun _ => Q .non, rt := Q } (startG N__law_orders_right ds) := by
  obtain ⟨B, W, K, rfl, tb, q⟩ := h
  unfold rd__law_orders_right
  refine sq_for (vi_any (d := sL (dom B)) (L := sS (dom B)) (vl_meth (vl_var rfl) (by decide +kernel) va_nil fun Q q => ⟨B, W, K, rfl, q⟩) fun k hk => hk) ?_
  refine goFor_inv (fun Γ => ∃ s1 s2 s3 s4 s5 : Sl, s3.isOwn = false ∧ s5.isOwn = false ∧ Γ = [.dat (tabD B W K), s1, s2, s3, s4, s5]) _ _ ⟨.no, .no, .no, .no, .no, rfl, rfl, rfl⟩ ?_ (fun Γ ⟨_, _, _, _, _, _, _, e⟩ => by subst e; exact q)
  rintro d hd _ ⟨s1, s2, s3, s4, s5, h3, h5, rfl⟩ N hN
  obtain ⟨n, hn, rfl⟩ := List.mem_map.mp hd
  obtain ⟨bs, t, eb, hs, el, mg⟩ := tb.g.entry n (tb.all n hn)
  obtain ⟨nd, hin, hsub⟩ := tb.g.lines n _ el
  obtain ⟨l10, lok⟩ := line_len tb.bok tb.g el
  obtain ⟨l3, bok⟩ := bs_ok tb.bok eb
  have nd2 := List.nodup_cons.mp nd
  have tl : t.length ≤ 100 := by rw [List.length_cons] at l10; omega
  have tok : okTs t := fun x hx => lok x (List.mem_cons_of_mem _ hx)
  have sbt : bs.Sublist t := (mrg_mem mg rfl).2.2 bs (List.mem_append_right _ (List.mem_singleton.mpr rfl))
  dsimp only [rgName, List.set]
  refine sq_asg (ord_val rfl rfl hn el) ?_
  have el2 : (ddT (n :: t)).length = (n :: t).length := by
    have p := perm_of (ddT_nodup (n :: t)) nd fun x => ddT_mem _ _
    exact p.length_eq
  refine sq_ifR (d := .bl false) (b := false) ?_ (fun h => by cases h) (fun h => by cases h) fun _ => ?_
  · refine vt_or (b1 := false) (b2 := false) (vt_eq (vt_test (vl_op (vl_op (y := .int ((0 : Nat) : Int)) (d := .str n) (vl_var rfl) vl_c (v2_ixT rfl)) (vl_var rfl) v2_neS)) (by simp)) fun _ => ?_
    refine vt_or (b1 := false) (b2 := !true) (vt_eq (vt_test (vl_op (vl_lenSet (vl_var rfl) (asTx_t _) (by omega)) (vl_cb (va_cons (vl_var rfl) va_nil) vc_lenT) v2_neI)) ?_) fun _ => vt_not (vt_test (vl_call (va_cons (bas_val rfl rfl eb) (va_cons (vl_eq (vl_sl (lo := some ((1 : Nat) : Int)) (vl_var rfl) (vo_some vl_c) vo_no vs_T) rfl) va_nil)) (kept_ok bok tok (by omega) tl sbt nd2.2)))
    rw [el2, List.length_map]
    simp
  refine sq_for (vi_any (d := sT (n :: t)) (L := sS (n :: t)) (vl_var rfl) fun k hk => hk) ?_
  refine goFor_inv (fun Γ => ∃ s3 s5 : Sl, s5.isOwn = false ∧ s3.isOwn = false ∧ Γ = [.dat (tabD B W K), .dat (.str n), .dat (sT (n :: t)), s3, s4, s5]) _ _ ⟨s3, s5, h5, h3, rfl⟩ ?_ ?_
  · rintro d hd _ ⟨s3, s5, h5, h3, rfl⟩ N2 hN2
    obtain ⟨x, hx, rfl⟩ := List.mem_map.mp hd
    have hxd := hin x hx
    obtain ⟨lx, ex⟩ := get_some.mpr hxd
    obtain ⟨lx10, lxok⟩ := line_len tb.bok tb.g ex
    dsimp only [rgName, List.set]
    refine if_R (d := .bl false) (b := !true) (vt_not (vt_test (vl_call (va_cons (ord_val rfl rfl (tb.g.dom_sub x hxd) ex) (va_cons (vl_var rfl) va_nil)) (kept_ok lxok lok (by omega) (by omega) (hsub x hx lx ex) nd)))) (fun h => by cases h) (fun h => by cases h) fun _ => hN2 _ ⟨_, s5, h5, rfl, rfl⟩
  rintro _ ⟨s3, s5, h5, h3, rfl⟩
  dsimp only
  have ab : ((bs.map fun b => sS ((get K b).getD []))).flatten = sS ((bs.map fun b => (get K b).getD []).flatten) := by
    show _ = ((bs.map fun b => (get K b).getD []).flatten).map D.str
    rw [List.map_flatten, List.map_map]
    rfl
  have abl : ((bs.map fun b => (get K b).getD []).flatten).length ≤ 100 := by
    have key : ∀ L : List Str, (∀ b ∈ L, b ∈ dom K) → ((L.map fun b => (get K b).getD []).flatten).length ≤ 10 * L.length := by
      intro L
      induction L with
      | nil => intro _; exact Nat.le_refl _
      | cons b r ih =>
        intro h
        obtain ⟨l, e⟩ := get_some.mpr (h b List.mem_cons_self)
        have := (line_len tb.bok tb.g e).1
        have := ih fun b hb => h b (List.mem_cons_of_mem _ hb)
        rw [List.map_cons, List.flatten_cons, List.length_append, e, List.length_cons]
        show l.length + _ ≤ _
        omega
    have := key bs hs
    omega
  refine sq_asg (d := sL (n :: (bs.map fun b => (get K b).getD []).flatten)) (vl_cb (ds := [.lst ((bs.map fun b => sS ((get K b).getD [])).map D.lst), .lst [.str n]]) (va_cons (vl_sh ?_) (va_cons (vl_sh (vl_lst (va_cons (vl_var rfl) va_nil) (small_of (show 1 ≤ 1000 by decide)))) va_nil)) fun K2 k2 => vc_sum ?_ K2 ?_) ?_
  · have e1 : (bs.map fun b => sS ((get K b).getD [])).map D.lst = bs.map fun b => D.lst (sS ((get K b).getD [])) := by rw [List.map_map]; rfl
    rw [e1]
    refine vl_lcm (g := D.str) (f := fun b => .lst (sS ((get K b).getD []))) (L := bs) (vi_any (bas_val rfl rfl eb) fun k hk => hk) (show 5 < 6 by decide) (fun v hv s e => by rw [List.mem_singleton.mp hv] at e; cases e; exact h5) (small_n (by omega)) fun b hb => ?_
    obtain ⟨l, e⟩ := get_some.mpr (hs b hb)
    rw [e]
    exact vl_sh (vl_cf (va_cons (ord_val rfl rfl (tb.g.dom_sub b (hs b hb)) e) va_nil) vc_listT)
  · rw [ab, List.length_map]
    exact small_n (by show 1 + _ ≤ 1000; omega)
  · rw [ab]; exact k2
  have same : sortT (ddT (n :: (bs.map fun b => (get K b).getD []).flatten)) = sortT (n :: t) := by
    refine sortT_of (perm_of (ddT_nodup _) nd fun x => ?_)
    rw [ddT_mem, List.mem_cons, List.mem_cons, line_mem tb.g eb hs mg x, List.mem_flatten]
    constructor
    · rintro (h | ⟨l, hl, hx⟩)
      · exact .inl h
      · obtain ⟨b, hb, rfl⟩ := List.mem_map.mp hl
        obtain ⟨l, e⟩ := get_some.mpr (hs b hb)
        rw [e] at hx
        exact .inr ⟨b, hb, l, e, hx⟩
    · rintro (h | ⟨b, hb, l, e, hx⟩)
      · exact .inl h
      · exact .inr ⟨_, List.mem_map.mpr ⟨b, hb, rfl⟩, by rw [e]; exact hx⟩
  have sok : okTs (sortT (n :: t)) := fun x hx => lok x (sortT_mem.mp hx)
  refine if_R (d := .bl false) (b := false) (vt_eq (vt_test (vl_op (vl_sh (vl_sortSet (vl_var rfl) (asTx_l _) (by rw [List.length_cons]; omega))) (vl_sh (vl_cf (va_cons (vl_var rfl) va_nil) vc_sortT)) (v2_neSL ?_ sok))) ?_) (fun h => by cases h) (fun h => by cases h) fun _ => hN _ ⟨_, _, s3, _, s5, h3, h5, rfl⟩
  · rw [same]; exact sok
  · rw [same]; simp
end TB

set_option Elab.async false
set_option linter.all false
set_option maxRecDepth 100000
set_option maxHeartbeats 4000000
namespace K07
open PySem PySem.Spec L2 VL TB
open PyProof.Rows hiding St
/-! ### the text -/
def topS (i : Nat) : Stmt := PySem.Challenge.pw_guardlots_k07_whole_orders.main.body.getD i (.Pass ⟨0, 0, 0, 0⟩)
abbrev s_is_word : Stmt := topS 13
abbrev N_is_word : List Str := ["value", "sign"]
theorem sc_is_word : FnScope N_is_word ["value"] (defScope s_is_word) := ⟨rfl, rfl, rfl, by decide +kernel, rfl, by decide +kernel, by decide +kernel⟩
abbrev s_is_class_name : Stmt := topS 14
abbrev N_is_class_name : List Str := ["value", "sign"]
theorem sc_is_class_name : FnScope N_is_class_name ["value"] (defScope s_is_class_name) := ⟨rfl, rfl, rfl, by decide +kernel, rfl, by decide +kernel, by decide +kernel⟩
abbrev s_is_list : Stmt := topS 15
abbrev N_is_list : List Str := ["value"]
theorem sc_is_list : FnScope N_is_list ["value"] (defScope s_is_list) := ⟨rfl, rfl, rfl, by decide +kernel, rfl, by decide +kernel, by decide +kernel⟩
abbrev s_are_bases : Stmt := topS 16
abbrev N_are_bases : List Str := ["names", "name", "value", "base", "at"]
theorem sc_are_bases : FnScope N_are_bases ["names", "name", "value"] (defScope s_are_bases) := ⟨rfl, rfl, rfl, by decide +kernel, rfl, by decide +kernel, by decide +kernel⟩
abbrev s_first_head : Stmt := topS 18
abbrev N_first_head : List Str := ["rows", "row", "other"]
theorem sc_first_head : FnScope N_first_head ["rows"] (defScope s_first_head) := ⟨rfl, rfl, rfl, by decide +kernel, rfl, by decide +kernel, by decide +kernel⟩
abbrev s_Table_names : Stmt := inClass (topS 21) 1
abbrev N_Table_names : List Str := ["self"]
theorem sc_Table_names : FnScope N_Table_names ["self"] (defScope s_Table_names) := ⟨rfl, rfl, rfl, by decide +kernel, rfl, by decide +kernel, by decide +kernel⟩
abbrev s_Table___contains__ : Stmt := inClass (topS 21) 3
abbrev N_Table___contains__ : List Str := ["self", "name"]
theorem sc_Table___contains__ : FnScope N_Table___contains__ ["self", "name"] (defScope s_Table___contains__) := ⟨rfl, rfl, rfl, by decide +kernel, rfl, by decide +kernel, by decide +kernel⟩
abbrev s__law_begin : Stmt := topS 26
abbrev N__law_begin : List Str := ["_law_script", "_law_cell"]
theorem sc__law_begin : FnScope N__law_begin ["_law_script"] (defScope s__law_begin) := ⟨rfl, rfl, rfl, by decide +kernel, rfl, by decide +kernel, by decide +kernel⟩
abbrev s__law_take : Stmt := topS 27
abbrev N__law_take : List Str := ["_law_draw", "_law_many", "_law_cells", "_law_place", "_law_cell", "_law_mixed_here"]
theorem sc__law_take : FnScope N__law_take ["_law_draw", "_law_many"] (defScope s__law_take) := ⟨rfl, rfl, rfl, by decide +kernel, rfl, by decide +kernel, by decide +kernel⟩
abbrev s__law_merge : Stmt := topS 32
abbrev N__law_merge : List Str := ["_law_heaps", "_law_found", "_law_step", "_law_tails", "_law_heads", "_law_unit"]
theorem sc__law_merge : FnScope N__law_merge ["_law_heaps"] (defScope s__law_merge) := ⟨rfl, rfl, rfl, by decide +kernel, rfl, by decide +kernel, by decide +kernel⟩
abbrev s__law_kept : Stmt := topS 37
abbrev N__law_kept : List Str := ["_law_line", "_law_within", "_law_one"]
theorem sc__law_kept : FnScope N__law_kept ["_law_line", "_law_within"] (defScope s__law_kept) := ⟨rfl, rfl, rfl, by decide +kernel, rfl, by decide +kernel, by decide +kernel⟩
abbrev s_is_pair : Stmt := topS 17
abbrev N_is_pair : List Str := ["classes", "name", "value", "words", "word", "at"]
theorem sc_is_pair : FnScope N_is_pair ["classes", "name", "value"] (defScope s_is_pair) := ⟨rfl, rfl, rfl, by decide +kernel, rfl, by decide +kernel, by decide +kernel⟩
abbrev s_merged : Stmt := topS 19
abbrev N_merged : List Str := ["rows", "found", "left", "row", "name"]
theorem sc_merged : FnScope N_merged ["rows"] (defScope s_merged) := ⟨rfl, rfl, rfl, by decide +kernel, rfl, by decide +kernel, by decide +kernel⟩
abbrev s_need_class : Stmt := topS 23
abbrev N_need_class : List Str := ["table", "name"]
theorem sc_need_class : FnScope N_need_class ["table", "name"] (defScope s_need_class) := ⟨rfl, rfl, rfl, by decide +kernel, rfl, by decide +kernel, by decide +kernel⟩
abbrev s__law_pick : Stmt := topS 28
abbrev N__law_pick : List Str := ["_law_draw", "_law_some"]
theorem sc__law_pick : FnScope N__law_pick ["_law_draw", "_law_some"] (defScope s__law_pick) := ⟨rfl, rfl, rfl, by decide +kernel, rfl, by decide +kernel, by decide +kernel⟩
abbrev s__law_mixed : Stmt := topS 29
abbrev N__law_mixed : List Str := ["_law_draw", "_law_some", "_law_left", "_law_found"]
theorem sc__law_mixed : FnScope N__law_mixed ["_law_draw", "_law_some"] (defScope s__law_mixed) := ⟨rfl, rfl, rfl, by decide +kernel, rfl, by decide +kernel, by decide +kernel⟩
abbrev s__law_lines : Stmt := topS 33
abbrev N__law_lines : List Str := ["_law_bases", "_law_known", "_law_turn", "_law_who", "_law_base", "_law_line"]
theorem sc__law_lines : FnScope N__law_lines ["_law_bases"] (defScope s__law_lines) := ⟨rfl, rfl, rfl, by decide +kernel, rfl, by decide +kernel, by decide +kernel⟩
abbrev s_orders_of : Stmt := topS 20
abbrev N_orders_of : List Str := ["bases", "known", "waiting", "is_done", "ready", "name", "base", "rest"]
theorem sc_orders_of : FnScope N_orders_of ["bases"] (defScope s_orders_of) := ⟨rfl, rfl, rfl, by decide +kernel, rfl, by decide +kernel, by decide +kernel⟩
abbrev s_Table_bases : Stmt := inClass (topS 21) 5
abbrev N_Table_bases : List Str := ["self", "name"]
theorem sc_Table_bases : FnScope N_Table_bases ["self", "name"] (defScope s_Table_bases) := ⟨rfl, rfl, rfl, by decide +kernel, rfl, by decide +kernel, by decide +kernel⟩
abbrev s_Table_order : Stmt := inClass (topS 21) 7
abbrev N_Table_order : List Str := ["self", "name"]
theorem sc_Table_order : FnScope N_Table_order ["self", "name"] (defScope s_Table_order) := ⟨rfl, rfl, rfl, by decide +kernel, rfl, by decide +kernel, by decide +kernel⟩
abbrev s__law_class_names : Stmt := topS 30
abbrev N__law_class_names : List Str := ["_law_draw", "_law_many"]
theorem sc__law_class_names : FnScope N__law_class_names ["_law_draw", "_law_many"] (defScope s__law_class_names) := ⟨rfl, rfl, rfl, by decide +kernel, rfl, by decide +kernel, by decide +kernel⟩
abbrev s__law_word_list : Stmt := topS 31
abbrev N__law_word_list : List Str := ["_law_draw", "_law_many"]
theorem sc__law_word_list : FnScope N__law_word_list ["_law_draw", "_law_many"] (defScope s__law_word_list) := ⟨rfl, rfl, rfl, by decide +kernel, rfl, by decide +kernel, by decide +kernel⟩
abbrev s__law_model : Stmt := topS 34
abbrev N__law_model : List Str := ["_law_bases", "_law_words", "_law_names", "_law_tracks", "_law_found", "_law_who"]
theorem sc__law_model : FnScope N__law_model ["_law_bases", "_law_words"] (defScope s__law_model) := ⟨rfl, rfl, rfl, by decide +kernel, rfl, by decide +kernel, by decide +kernel⟩
abbrev s_Table___init__ : Stmt := inClass (topS 21) 0
abbrev N_Table___init__ : List Str := ["self", "classes", "name", "names"]
theorem sc_Table___init__ : FnScope N_Table___init__ ["self", "classes"] (defScope s_Table___init__) := ⟨rfl, rfl, rfl, by decide +kernel, rfl, by decide +kernel, by decide +kernel⟩
abbrev s_Table_is_deed : Stmt := inClass (topS 21) 9
abbrev N_Table_is_deed : List Str := ["self", "value", "kind", "name", "part"]
theorem sc_Table_is_deed : FnScope N_Table_is_deed ["self", "value"] (defScope s_Table_is_deed) := ⟨rfl, rfl, rfl, by decide +kernel, rfl, by decide +kernel, by decide +kernel⟩
abbrev s__law_table : Stmt := topS 35
abbrev N__law_table : List Str := ["_law_draw", "_law_upto", "_law_names", "_law_some", "_law_bases", "_law_words", "_law_at", "_law_who", "_law_thin", "_law_term"]
theorem sc__law_table : FnScope N__law_table ["_law_draw", "_law_upto"] (defScope s__law_table) := ⟨rfl, rfl, rfl, by decide +kernel, rfl, by decide +kernel, by decide +kernel⟩
abbrev s__law_orders_right : Stmt := topS 38
abbrev N__law_orders_right : List Str := ["_law_side", "_law_who", "_law_line", "_law_one", "_law_above", "_law_base"]
theorem sc__law_orders_right : FnScope N__law_orders_right ["_law_side"] (defScope s__law_orders_right) := ⟨rfl, rfl, rfl, by decide +kernel, rfl, by decide +kernel, by decide +kernel⟩
abbrev s_Table_done : Stmt := inClass (topS 21) 10
abbrev N_Table_done : List Str := ["self", "deed", "kind", "name", "part", "classes", "one", "bases", "words", "rest", "word"]
theorem sc_Table_done : FnScope N_Table_done ["self", "deed"] (defScope s_Table_done) := ⟨rfl, rfl, rfl, by decide +kernel, rfl, by decide +kernel, by decide +kernel⟩
abbrev s__law_real : Stmt := topS 36
abbrev N__law_real : List Str := ["_law_model_here", "_law_who"]
theorem sc__law_real : FnScope N__law_real ["_law_model_here"] (defScope s__law_real) := ⟨rfl, rfl, rfl, by decide +kernel, rfl, by decide +kernel, by decide +kernel⟩
abbrev s_law : Stmt := topS 39
abbrev N_law : List Str := ["_law_script", "_law_draw", "_law_turn", "_law_side", "_law_names", "_law_lap", "_law_who", "_law_others", "_law_one", "_law_act", "_law_later"]
theorem sc_law : FnScope N_law ["_law_script"] (defScope s_law) := ⟨rfl, rfl, rfl, by decide +kernel, rfl, by decide +kernel, by decide +kernel⟩
/-! ### what the top has left -/
structure Txt (K : PySem.W.Frag) (mg : Str → Option Value) where
  a_is_word : Addr
  fd_is_word : FuncData
  F_is_word : Fun K "is_word" "is_word" s_is_word a_is_word fd_is_word
  g_is_word : mg "is_word" = some (.ref a_is_word)
  b_is_word : Binds K fd_is_word ["value"] []
  a_is_class_name : Addr
  fd_is_class_name : FuncData
  F_is_class_name : Fun K "is_class_name" "is_class_name" s_is_class_name a_is_class_name fd_is_class_name
  g_is_class_name : mg "is_class_name" = some (.ref a_is_class_name)
  b_is_class_name : Binds K fd_is_class_name ["value"] []
  a_is_list : Addr
  fd_is_list : FuncData
  F_is_list : Fun K "is_list" "is_list" s_is_list a_is_list fd_is_list
  g_is_list : mg "is_list" = some (.ref a_is_list)
  b_is_list : Binds K fd_is_list ["value"] []
  a_are_bases : Addr
  fd_are_bases : FuncData
  F_are_bases : Fun K "are_bases" "are_bases" s_are_bases a_are_bases fd_are_bases
  g_are_bases : mg "are_bases" = some (.ref a_are_bases)
  b_are_bases : Binds K fd_are_bases ["names", "name", "value"] []
  a_first_head : Addr
  fd_first_head : FuncData
  F_first_head : Fun K "first_head" "first_head" s_first_head a_first_head fd_first_head
  g_first_head : mg "first_head" = some (.ref a_first_head)
  b_first_head : Binds K fd_first_head ["rows"] []
  a_Table_names : Addr
  fd_Table_names : FuncData
  F_Table_names : Fun K "names" "Table.names" s_Table_names a_Table_names fd_Table_names
  b_Table_names : Binds K fd_Table_names ["self"] []
  a_Table___contains__ : Addr
  fd_Table___contains__ : FuncData
  F_Table___contains__ : Fun K "__contains__" "Table.__contains__" s_Table___contains__ a_Table___contains__ fd_Table___contains__
  b_Table___contains__ : Binds K fd_Table___contains__ ["self", "name"] []
  a__law_begin : Addr
  fd__law_begin : FuncData
  F__law_begin : Fun K "_law_begin" "_law_begin" s__law_begin a__law_begin fd__law_begin
  g__law_begin : mg "_law_begin" = some (.ref a__law_begin)
  b__law_begin : Binds K fd__law_begin ["_law_script"] []
  a__law_take : Addr
  fd__law_take : FuncData
  F__law_take : Fun K "_law_take" "_law_take" s__law_take a__law_take fd__law_take
  g__law_take : mg "_law_take" = some (.ref a__law_take)
  b__law_take : Binds K fd__law_take ["_law_draw", "_law_many"] []
  a__law_merge : Addr
  fd__law_merge : FuncData
  F__law_merge : Fun K "_law_merge" "_law_merge" s__law_merge a__law_merge fd__law_merge
  g__law_merge : mg "_law_merge" = some (.ref a__law_merge)
  b__law_merge : Binds K fd__law_merge ["_law_heaps"] []
  a__law_kept : Addr
  fd__law_kept : FuncData
  F__law_kept : Fun K "_law_kept" "_law_kept" s__law_kept a__law_kept fd__law_kept
  g__law_kept : mg "_law_kept" = some (.ref a__law_kept)
  b__law_kept : Binds K fd__law_kept ["_law_line", "_law_within"] []
  a_is_pair : Addr
  fd_is_pair : FuncData
  F_is_pair : Fun K "is_pair" "is_pair" s_is_pair a_is_pair fd_is_pair
  g_is_pair : mg "is_pair" = some (.ref a_is_pair)
  b_is_pair : Binds K fd_is_pair ["classes", "name", "value"] []
  a_merged : Addr
  fd_merged : FuncData
  F_merged : Fun K "merged" "merged" s_merged a_merged fd_merged
  g_merged : mg "merged" = some (.ref a_merged)
  b_merged : Binds K fd_merged ["rows"] []
  a_need_class : Addr
  fd_need_class : FuncData
  F_need_class : Fun K "need_class" "need_class" s_need_class a_need_class fd_need_class
  g_need_class : mg "need_class" = some (.ref a_need_class)
  b_need_class : Binds K fd_need_class ["table", "name"] []
  a__law_pick : Addr
  fd__law_pick : FuncData
  F__law_pick : Fun K "_law_pick" "_law_pick" s__law_pick a__law_pick fd__law_pick
  g__law_pick : mg "_law_pick" = some (.ref a__law_pick)
  b__law_pick : Binds K fd__law_pick ["_law_draw", "_law_some"] []
  a__law_mixed : Addr
  fd__law_mixed : FuncData
  F__law_mixed : Fun K "_law_mixed" "_law_mixed" s__law_mixed a__law_mixed fd__law_mixed
  g__law_mixed : mg "_law_mixed" = some (.ref a__law_mixed)
  b__law_mixed : Binds K fd__law_mixed ["_law_draw", "_law_some"] []
  a__law_lines : Addr
  fd__law_lines : FuncData
  F__law_lines : Fun K "_law_lines" "_law_lines" s__law_lines a__law_lines fd__law_lines
  g__law_lines : mg "_law_lines" = some (.ref a__law_lines)
  b__law_lines : Binds K fd__law_lines ["_law_bases"] []
  a_orders_of : Addr
  fd_orders_of : FuncData
  F_orders_of : Fun K "orders_of" "orders_of" s_orders_of a_orders_of fd_orders_of
  g_orders_of : mg "orders_of" = some (.ref a_orders_of)
  b_orders_of : Binds K fd_orders_of ["bases"] []
  a_Table_bases : Addr
  fd_Table_bases : FuncData
  F_Table_bases : Fun K "bases" "Table.bases" s_Table_bases a_Table_bases fd_Table_bases
  b_Table_bases : Binds K fd_Table_bases ["self", "name"] []
  a_Table_order : Addr
  fd_Table_order : FuncData
  F_Table_order : Fun K "order" "Table.order" s_Table_order a_Table_order fd_Table_order
  b_Table_order : Binds K fd_Table_order ["self", "name"] []
  a__law_class_names : Addr
  fd__law_class_names : FuncData
  F__law_class_names : Fun K "_law_class_names" "_law_class_names" s__law_class_names a__law_class_names fd__law_class_names
  g__law_class_names : mg "_law_class_names" = some (.ref a__law_class_names)
  b__law_class_names : Binds K fd__law_class_names ["_law_draw", "_law_many"] []
  a__law_word_list : Addr
  fd__law_word_list : FuncData
  F__law_word_list : Fun K "_law_word_list" "_law_word_list" s__law_word_list a__law_word_list fd__law_word_list
  g__law_word_list : mg "_law_word_list" = some (.ref a__law_word_list)
  b__law_word_list : Binds K fd__law_word_list ["_law_draw", "_law_many"] []
  a__law_model : Addr
  fd__law_model : FuncData
  F__law_model : Fun K "_law_model" "_law_model" s__law_model a__law_model fd__law_model
  g__law_model : mg "_law_model" = some (.ref a__law_model)
  b__law_model : Binds K fd__law_model ["_law_bases", "_law_words"] []
  a_Table___init__ : Addr
  fd_Table___init__ : FuncData
  F_Table___init__ : Fun K "__init__" "Table.__init__" s_Table___init__ a_Table___init__ fd_Table___init__
  b_Table___init__ : Binds K fd_Table___init__ ["self", "classes"] []
  a_Table_is_deed : Addr
  fd_Table_is_deed : FuncData
  F_Table_is_deed : Fun K "is_deed" "Table.is_deed" s_Table_is_deed a_Table_is_deed fd_Table_is_deed
  b_Table_is_deed : Binds K fd_Table_is_deed ["self", "value"] []
  a__law_table : Addr
  fd__law_table : FuncData
  F__law_table : Fun K "_law_table" "_law_table" s__law_table a__law_table fd__law_table
  g__law_table : mg "_law_table" = some (.ref a__law_table)
  b__law_table : Binds K fd__law_table ["_law_draw", "_law_upto"] []
  a__law_orders_right : Addr
  fd__law_orders_right : FuncData
  F__law_orders_right : Fun K "_law_orders_right" "_law_orders_right" s__law_orders_right a__law_orders_right fd__law_orders_right
  g__law_orders_right : mg "_law_orders_right" = some (.ref a__law_orders_right)
  b__law_orders_right : Binds K fd__law_orders_right ["_law_side"] []
  a_Table_done : Addr
  fd_Table_done : FuncData
  F_Table_done : Fun K "done" "Table.done" s_Table_done a_Table_done fd_Table_done
  b_Table_done : Binds K fd_Table_done ["self", "deed"] []
  a__law_real : Addr
  fd__law_real : FuncData
  F__law_real : Fun K "_law_real" "_law_real" s__law_real a__law_real fd__law_real
  g__law_real : mg "_law_real" = some (.ref a__law_real)
  b__law_real : Binds K fd__law_real ["_law_model_here"] []
  a_law : Addr
  fd_law : FuncData
  F_law : Fun K "law" "law" s_law a_law fd_law
  g_law : mg "law" = some (.ref a_law)
  b_law : Binds K fd_law ["_law_script"] []
  c_Table : Addr
  cn_Table : CN K "Table" c_Table
  g_Table : mg "Table" = some (.ref c_Table)
  cl_Table : Cls K c_Table
  mk_Table : Mk K c_Table a_Table___init__
  me_Table_bases : Meth K c_Table "bases" a_Table_bases
  me_Table_done : Meth K c_Table "done" a_Table_done
  me_Table_is_deed : Meth K c_Table "is_deed" a_Table_is_deed
  me_Table_names : Meth K c_Table "names" a_Table_names
  me_Table_order : Meth K c_Table "order" a_Table_order
  du_Table___contains__ : Dun K c_Table "__contains__" a_Table___contains__
  na_Table_own_bases : NoAttr K c_Table "own_bases"
  na_Table_own_orders : NoAttr K c_Table "own_orders"
  na_Table_own_words : NoAttr K c_Table "own_words"
  t_LARGE : Tok
  m_LARGE : mg "LARGE" = some (.str "ABCDEFGHIJKLMNOPQRSTUVWXYZ" t_LARGE)
  t_LONGEST : Tok
  m_LONGEST : mg "LONGEST" = some (.int 8 t_LONGEST)
  t_MOST_BASES : Tok
  m_MOST_BASES : mg "MOST_BASES" = some (.int 3 t_MOST_BASES)
  t_MOST_CLASSES : Tok
  m_MOST_CLASSES : mg "MOST_CLASSES" = some (.int 6 t_MOST_CLASSES)
  t_MOST_WORDS : Tok
  m_MOST_WORDS : mg "MOST_WORDS" = some (.int 4 t_MOST_WORDS)
  t_SMALL : Tok
  m_SMALL : mg "SMALL" = some (.str "abcdefghijklmnopqrstuvwxyz" t_SMALL)
  n_abs : mg "abs" = none
  n_all : mg "all" = none
  n_any : mg "any" = none
  n_dict : mg "dict" = none
  n_enumerate : mg "enumerate" = none
  n_int : mg "int" = none
  n_isinstance : mg "isinstance" = none
  n_len : mg "len" = none
  n_list : mg "list" = none
  n_min : mg "min" = none
  n_range : mg "range" = none
  n_set : mg "set" = none
  n_sorted : mg "sorted" = none
  n_str : mg "str" = none
  n_sum : mg "sum" = none
  n_tuple : mg "tuple" = none
def rd_law_1 (d : Addr) : TDS :=
    (rdAsg (rdCall F__law_real [] (rdCons (rdCall (F__law_table d) [] (rdCons (rdVar 1) (rdCons (rdC (.int 6)) rdNil))) rdNil)) (rgName 3))
def rd_law_2 (d : Addr) : TDS :=
    (rdAsg (rdMeth "Table" "names" F_Table_names [] (rdVar 3) rdNil) (rgName 4))
def rd_law_5 (d : Addr) : TDS :=
    (rdRet (rdC (.bl false)))
def rd_law_4 (d : Addr) : TDS :=
    (rdIfS (rdNot (rdTest (rdCall F__law_orders_right [] (rdCons (rdVar 3) rdNil)))) (rd_law_5 d) rdNext)
def rd_law_6 (d : Addr) : TDS :=
    (rdAsg (rdCall (FpickS d) [] (rdCons (rdVar 1) (rdCons (rdVar 4) rdNil))) (rgName 6))
def rd_law_7 (d : Addr) : TDS :=
    (rdAsg (rdShare (rdLc (rdIAny (rdVar 4)) (rgName 8) (rdTest (rdOp rdNe (rdVar 8) (rdVar 6))) (rdVar 8) [8])) (rgName 7))
def rd_law_8 (d : Addr) : TDS :=
    (rdAsg (rdTup (rdCons (rdC (.str "bases")) (rdCons (rdVar 6) (rdCons (rdCB rdTuple (rdCons (rdSl rdSlB (rdCall (F__law_mixed d) [] (rdCons (rdVar 1) (rdCons (rdVar 7) rdNil))) rdNoPart (rdPart (rdCall (Ftake d) [] (rdCons (rdVar 1) (rdCons (rdC (.int 4)) rdNil))))) rdNil)) rdNil)))) (rgName 9))
def rd_law_10 (d : Addr) : TDS :=
    (rdAsg (rdTup (rdCons (rdC (.str "put")) (rdCons (rdVar 6) (rdCons (rdCall (FpickS d) [] (rdCons (rdVar 1) (rdCons (rdShare (rdLst (rdCons (rdC (.str "m")) (rdCons (rdC (.str "n")) rdNil)))) rdNil))) rdNil)))) (rgName 9))
def rd_law_9 (d : Addr) : TDS :=
    (rdIfS (rdTest (rdOp rdEq (rdCall (Ftake d) [] (rdCons (rdVar 1) (rdCons (rdC (.int 4)) rdNil))) (rdC (.int 0)))) (rd_law_10 d) rdNext)
def rd_law_11 (d : Addr) : TDS :=
    (rdIfS (rdNot (rdTest (rdMeth "Table" "is_deed" F_Table_is_deed [] (rdVar 3) (rdCons (rdVar 9) rdNil)))) rdCont rdNext)
def rd_law_13 (d : Addr) : TDS :=
    (rdAsg (rdMeth "Table" "done" F_Table_done [] (rdVar 3) (rdCons (rdVar 9) rdNil)) (rgName 10))
def rd_law_16 (d : Addr) : TDS :=
    (rdRet (rdC (.bl false)))
def rd_law_15 (d : Addr) : TDS :=
    (rdIfS (rdTest (rdOp rdNe (rdOp (rdInB false) (rdVar 6) (rdMeth "Table" "order" F_Table_order [] (rdVar 3) (rdCons (rdVar 8) rdNil))) (rdOp (rdInB false) (rdVar 6) (rdMeth "Table" "order" F_Table_order [] (rdVar 10) (rdCons (rdVar 8) rdNil))))) (rd_law_16 d) rdNext)
def rd_law_18 (d : Addr) : TDS :=
    (rdRet (rdC (.bl false)))
def rd_law_17 (d : Addr) : TDS :=
    (rdIfS (rdAnd (rdTest (rdOp rdNe (rdMeth "Table" "order" F_Table_order [] (rdVar 3) (rdCons (rdVar 8) rdNil)) (rdMeth "Table" "order" F_Table_order [] (rdVar 10) (rdCons (rdVar 8) rdNil)))) (rdOr (rdTest (rdOp (rdInB true) (rdVar 6) (rdMeth "Table" "order" F_Table_order [] (rdVar 3) (rdCons (rdVar 8) rdNil)))) (rdTest (rdOp rdNe (rdOp rdIxA (rdVar 9) (rdC (.int 0))) (rdC (.str "bases")))))) (rd_law_18 d) rdNext)
def rd_law_14 (d : Addr) : TDS :=
    (rdFor (rdIAny (rdVar 4)) (rgName 8) (rdSeq (rd_law_15 d)
    (rd_law_17 d)))
def rd_law_19 (d : Addr) : TDS :=
    (rdAsg (rdVar 10) (rgName 3))
def rd_law_3 (d : Addr) : TDS :=
    (rdFor (rdIRng (rdCons (rdC (.int 10)) rdNil)) (rgName 5) (rdSeq (rd_law_4 d)
    (rdSeq (rd_law_6 d)
    (rdSeq (rd_law_7 d)
    (rdSeq (rd_law_8 d)
    (rdSeq (rd_law_9 d)
    (rdSeq (rd_law_11 d)
    (rdSeq (rd_law_13 d)
    (rdSeq (rd_law_14 d)
    (rd_law_19 d))))))))))
def rd_law_0 (d : Addr) : TDS :=
    (rdFor (rdIRng (rdCons (rdOp rdAddB (rdC (.int 2)) (rdCB rdMin2 (rdCons (rdCB rdLenB (rdCons (rdVar 0) rdNil)) (rdCons (rdC (.int 6)) rdNil)))) rdNil)) (rgName 2) (rdSeq (rd_law_1 d)
    (rdSeq (rd_law_2 d)
    (rd_law_3 d))))
def rd_law_20 (d : Addr) : TDS :=
    (rdRet (rdC (.bl true)))
def rd_law (d : Addr) : TDS :=
    (rdSeq (rd_law_0 d)
    (rd_law_20 d))
end K07

set_option Elab.async false
set_option linter.all false
set_option maxRecDepth 100000
set_option maxHeartbeats 1000000
namespace K07
open PySem PySem.Spec L2 VL TB
open PyProof.Rows hiding St
/-! ### what a deed leaves as it was -/
theorem kept_lines {B B' K K' : Bs} {w : Str} (hB : ∀ m, m ≠ w → get B' m = get B m) (g : VL.Good B K) (g' : VL.Good B' K') : (∀ m ∈ dom K, m ∈ dom K') →
    ∀ n l l', get K n = some l → get K' n = some l' → (w ∈ l ↔ w ∈ l') ∧ (w ∉ l → l = l') := by
  induction g with
  | nil => intro _ n l l' e; cases e
  | snoc g hn hb hs hm ih =>
    rename_i K n bs t
    intro hd
    have hd0 : ∀ m ∈ dom K, m ∈ dom K' := fun m h => hd m (by rw [dom_app]; exact List.mem_append_left _ h)
    have ih := ih hd0
    intro m l l' e e'
    by_cases hmK : m ∈ dom K
    · rw [get_app_l hmK] at e
      exact ih m l l' e e'
    · rw [get_app hmK] at e
      have e : (if n = m then some (n :: t) else none) = some l := e
      by_cases z : n = m
      · rw [if_pos z] at e
        cases e
        subst z
        obtain ⟨bs', t', eb', hs', el', mg'⟩ := g'.entry n (hd n (by rw [dom_app]; exact List.mem_append_right _ (List.mem_singleton.mpr rfl)))
        rw [el'] at e'
        cases e'
        by_cases hw : n = w
        · subst hw
          exact ⟨⟨fun _ => List.mem_cons_self, fun _ => List.mem_cons_self⟩, fun h => absurd List.mem_cons_self h⟩
        · rw [hB n hw, hb] at eb'
          cases eb'
          have key : ∀ b ∈ bs, ∃ lb lb', get K b = some lb ∧ get K' b = some lb' ∧ (w ∈ lb ↔ w ∈ lb') ∧ (w ∉ lb → lb = lb') := fun b hbb => by
            obtain ⟨lb, e1⟩ := get_some.mpr (hs b hbb)
            obtain ⟨lb', e2⟩ := get_some.mpr (hd0 b (hs b hbb))
            exact ⟨lb, lb', e1, e2, ih b lb lb' e1 e2⟩
          have mem : w ∈ t ↔ w ∈ t' := by
            rw [line_mem g hb hs hm w, line_mem g' (hB n hw ▸ hb) hs' mg' w]
            constructor
            · rintro ⟨b, hbb, l, el, hx⟩
              obtain ⟨lb, lb', e1, e2, h1, _⟩ := key b hbb
              rw [el] at e1
              cases e1
              exact ⟨b, hbb, lb', e2, h1.mp hx⟩
            · rintro ⟨b, hbb, l, el, hx⟩
              obtain ⟨lb, lb', e1, e2, h1, _⟩ := key b hbb
              rw [el] at e2
              cases e2
              exact ⟨b, hbb, lb, e1, h1.mpr hx⟩
          refine ⟨?_, fun hnot => ?_⟩
          · rw [List.mem_cons, List.mem_cons]
            exact or_congr Iff.rfl mem
          · have hnt : w ∉ t := fun h => hnot (List.mem_cons_of_mem _ h)
            have same : rowsOf K' bs = rowsOf K bs := rowsOf_same fun b hbb => by
              obtain ⟨lb, lb', e1, e2, _, h2⟩ := key b hbb
              rw [e1, e2, h2 fun h => hnt ((line_mem g hb hs hm w).mpr ⟨b, hbb, lb, e1, h⟩)]
            rw [same] at mg'
            cases mrg_one hm mg'
            rfl
      · rw [if_neg z] at e; cases e
theorem same_lines {B B' K K' : Bs} (hB : ∀ m, get B' m = get B m) (g : VL.Good B K) (g' : VL.Good B' K') (h : ∀ m ∈ dom B', m ∈ dom K') {n : Str} {l l' : List Str} (e : get K n = some l) (e' : get K' n = some l') : l = l' := by
  have c : VL.Closed B K' := fun m bs eb hm => absurd (h m (get_dom (by rw [hB]; exact eb))) hm
  have := (g.unique (TB.Good.congr hB g') c n (get_dom e)).2
  rw [e, e'] at this
  cases this
  rfl
def who : Deed → Str
  | .bases n _ => n
  | .put n _ => n
def kind : Deed → Str
  | .bases _ _ => "bases"
  | .put _ _ => "put"
theorem after_get {B : Bs} {e : Deed} {m : Str} (h : m ≠ who e) : get (afterB B e) m = get B m := by
  cases e with
  | bases n bs => show get (putB B n bs) m = _; rw [get_putB]; exact if_neg h
  | put n w => rfl
theorem deed_0 {e : Deed} : V2 rdIxA (deedD e) (.int 0) (.str (kind e)) := by
  cases e with
  | bases n bs => exact v2_ixT (k := 0) rfl
  | put n w => exact v2_ixT (k := 0) rfl
theorem v2_neB {a b : Bool} : V2 rdNe (.bl a) (.bl b) (.bl (!decide (a = b))) := fun Q q => ⟨(okN_bl a).e (by decide), (okN_bl b).e (by decide), by
  have : eqD (.bl a) (.bl b) = decide (a = b) := by cases a <;> cases b <;> rfl
  rw [this]; exact q⟩
theorem nd_tup {dt : TDF} {Γ : Gm} {Q : D → Gm → Prop} (h : dt Γ fun ds Γ1 => small ds.length ∧ Q (.tup ds) Γ1) : rdTup dt Γ Q := h
theorem dom_get {B B' : Bs} (h : ∀ m, (∃ v, get B' m = some v) ↔ ∃ v, get B m = some v) (m : Str) : m ∈ dom B' ↔ m ∈ dom B := by rw [← get_some, ← get_some]; exact h m
theorem dom_after {B B' : Bs} {e : Deed} (hw : who e ∈ dom B) (h : ∀ m, get B' m = get (afterB B e) m) (m : Str) : m ∈ dom B' ↔ m ∈ dom B := by
  rw [← get_some, ← get_some, h]
  cases e with
  | bases n bs =>
    show (∃ v, get (putB B n bs) m = some v) ↔ _
    rw [get_putB]
    by_cases z : m = n
    · rw [if_pos z]
      refine ⟨fun _ => ?_, fun _ => ⟨_, rfl⟩⟩
      rw [z]
      exact get_some.mpr hw
    · rw [if_neg z]
  | put n w => exact Iff.rfl
section
variable {d : Addr} {ns : List Int}
/-- one lap's last loop -/
theorem lap_names {B W K B' W' K' : Bs} {nm : List Str} {e : Deed} {s2 s5 s7 s8 : Sl} {E : EndsD} (tb : TabOk B W K) (tb' : TabOk B' W' K') (hnm : ∀ x ∈ nm, x ∈ dom B) (hw : who e ∈ dom B) (hB : ∀ m, get B' m = get (afterB B e) m)
    (h8 : s8.isOwn = false) (q : ∀ s8 : Sl, s8.isOwn = false → E.nx [.dat (.fz ns), .dat (.ref d), s2, .dat (tabD B W K), .dat (sL nm), s5, .dat (.str (who e)), s7, s8, .dat (deedD e), .dat (tabD B' W' K')]) :
    rd_law_14 d E [.dat (.fz ns), .dat (.ref d), s2, .dat (tabD B W K), .dat (sL nm), s5, .dat (.str (who e)), s7, s8, .dat (deedD e), .dat (tabD B' W' K')] := by
  unfold rd_law_14
  refine (vi_any (d := sL nm) (L := sS nm) (vl_var rfl) fun k hk => hk) _ ?_
  refine goFor_inv (fun Γ => ∃ s8 : Sl, s8.isOwn = false ∧ Γ = [.dat (.fz ns), .dat (.ref d), s2, .dat (tabD B W K), .dat (sL nm), s5, .dat (.str (who e)), s7, s8, .dat (deedD e), .dat (tabD B' W' K')]) _ _ ⟨s8, h8, rfl⟩ ?_ (fun Γ ⟨s8, h8, z⟩ => by subst z; exact q s8 h8)
  rintro x hx _ ⟨s8, h8, rfl⟩ N hN
  obtain ⟨n, hn, rfl⟩ := List.mem_map.mp hx
  have hnB := hnm n hn
  have hnB' : n ∈ dom B' := (dom_after hw hB n).mpr hnB
  obtain ⟨l, el⟩ := get_some.mpr (tb.all n hnB)
  obtain ⟨l', el'⟩ := get_some.mpr (tb'.all n hnB')
  have lok := (line_len tb.bok tb.g el).2
  have lok' := (line_len tb'.bok tb'.g el').2
  have wok : okT (who e) := (tb.cn _ hw).2
  have sub : ∀ m ∈ dom K, m ∈ dom K' := fun m hm => tb'.all m ((dom_after hw hB m).mpr (tb.g.dom_sub m hm))
  obtain ⟨r1, r2⟩ := kept_lines (w := who e) (fun m hm => by rw [hB, after_get hm]) tb.g tb'.g sub n l l' el el'
  have r3 : kind e ≠ "bases" → l = l' := fun hk => by
    cases e with
    | bases n bs => exact absurd rfl hk
    | put n w => exact same_lines hB tb.g tb'.g tb'.all el el'
  dsimp only [rgName, List.set]
  unfold rd_law_15 rd_law_17 rd_law_16 rd_law_18
  refine sq_ifR (d := .bl false) (b := false) (vt_eq (vt_test (vl_op (vl_op (vl_var rfl) (ord_val rfl rfl hnB el) (v2_inT wok lok)) (vl_op (vl_var rfl) (ord_val rfl rfl hnB' el') (v2_inT wok lok')) v2_neB)) ?_) (fun h => by cases h) (fun h => by cases h) fun _ => ?_
  · rw [decide_eq_true]
    · rfl
    · rw [Bool.false_xor, Bool.false_xor, decide_eq_decide]
      exact r1
  · refine if_R (d := .bl false) (b := !decide (l = l') && ((true ^^ decide (who e ∈ l)) || !decide (kind e = "bases"))) (vt_and (vt_test (vl_op (ord_val rfl rfl hnB el) (ord_val rfl rfl hnB' el') (v2_neST lok lok'))) fun _ => vt_or (vt_test (vl_op (vl_var rfl) (ord_val rfl rfl hnB el) (v2_inT wok lok))) fun _ => vt_test (vl_op (vl_op (vl_var rfl) vl_c deed_0) vl_c v2_neS)) (fun _ => vl_c) (fun h => ?_) fun _ => hN _ ⟨_, rfl, rfl⟩
    exfalso
    rw [Bool.and_eq_true, Bool.or_eq_true, Bool.true_xor, Bool.not_eq_true', Bool.not_eq_true', Bool.not_eq_true', decide_eq_false_iff_not, decide_eq_false_iff_not, decide_eq_false_iff_not] at h
    rcases h.2 with h2 | h2
    · exact h.1 (r2 h2)
    · exact h.1 (r3 h2)
theorem sq_ifN {tt : TDT} {s t : TDS} {E : EndsD} {Γ : Gm} (h : tt Γ fun b Γ1 => if b = true then s { E with nx := t E } Γ1 else t E Γ1) : rdSeq (rdIfS tt s rdNext) t E Γ := h
theorem nd_call1 {F : FD} {ta : TDE} {Γ : Gm} {Q : D → Gm → Prop} (h : ta Γ fun y Γ1 => F [y] fun d => Q d Γ1) : rdCall F [] (rdCons ta rdNil) Γ Q := h
def LapI (d : Addr) (ns : List Int) (nm : List Str) (Γ : Gm) : Prop := ∃ B W K s2 s5 s6 s7 s8 s9 s10, Γ = [.dat (.fz ns), .dat (.ref d), s2, .dat (tabD B W K), .dat (sL nm), s5, s6, s7, s8, s9, s10] ∧ s8.isOwn = false ∧ TabOk B W K ∧ ∀ x, x ∈ nm ↔ x ∈ dom B
theorem mn_ok : ∀ x : Str, (x = "m" ∨ x = "n") → isWs x = true ∧ okT x := by
  unfold okT
  rintro x (rfl | rfl) <;> decide +kernel
theorem lap {nm : List Str} (n1 : nm ≠ []) (n6 : nm.length ≤ 6) (nok : okTs nm) {Γ : Gm} {x : D} {R : D → Prop} {N M : Gm → Prop} (I : LapI d ns nm Γ) (hN : ∀ Γ', LapI d ns nm Γ' → N Γ') :
    (rdSeq (rd_law_4 d) (rdSeq (rd_law_6 d) (rdSeq (rd_law_7 d) (rdSeq (rd_law_8 d) (rdSeq (rd_law_9 d) (rdSeq (rd_law_11 d) (rdSeq (rd_law_13 d) (rdSeq (rd_law_14 d) (rd_law_19 d))))))))) { nx := N, rt := R, bk := M, ct := N } (Γ.set 5 (.dat x)) := by
  obtain ⟨B, W, K, s2, s5, s6, s7, s8, s9, s10, rfl, h8, tb, hnm⟩ := I
  unfold rd_law_4 rd_law_5
  refine sq_ifR (d := .bl false) (b := !true) (vt_not (vt_test (vl_call (va_cons (vl_var rfl) va_nil) fun Q q => ⟨B, W, K, rfl, tb, q⟩))) (fun h => by cases h) (fun h => by cases h) fun _ => ?_
  unfold rd_law_6
  refine sq_asgN (nd_call (F := FpickS d) (va_cons (vl_var rfl) (va_cons (vl_var rfl) va_nil)) (pickS_lst (by simpa using n1) (by rw [List.length_map]; omega) fun y hy => ?_))
  obtain ⟨w, hw, rfl⟩ := List.mem_map.mp hy
  have hwB : w ∈ dom B := (hnm w).mp hw
  have wok := nok w hw
  dsimp only [List.set]
  unfold rd_law_7
  refine sq_asg (d := sL (nm.filter fun y => !decide (y = w))) (vl_sh (vl_lc (g := D.str) (f := D.str) (p := fun y => !decide (y = w)) (L := nm) (vi_any (vl_var rfl) fun k hk => hk) (show 8 < 11 by decide) (fun v hv s e => by rw [List.mem_singleton.mp hv] at e; cases e; exact h8) (small_n (by omega)) (fun y hy => vt_test (vl_op (vl_var rfl) (vl_var rfl) v2_neS)) fun y hy _ => vl_var rfl)) ?_
  have fok : okTs (nm.filter fun y => !decide (y = w)) := fun y hy => nok y (List.mem_filter.mp hy).1
  have rest : ∀ e : Deed, okDeed B e → who e = w → (rdSeq (rd_law_11 d) (rdSeq (rd_law_13 d) (rdSeq (rd_law_14 d) (rd_law_19 d)))) { nx := N, rt := R, bk := M, ct := N } [.dat (.fz ns), .dat (.ref d), s2, .dat (tabD B W K), .dat (sL nm), .dat x, .dat (.str w), .dat (sL (nm.filter fun y => !decide (y = w))), s8, .dat (deedD e), s10] := by
    intro e od hwe
    subst hwe
    unfold rd_law_11
    by_cases cn : can B W e
    · refine sq_if (b := !true) (vt_not (vt_test (vl_meth (vl_var rfl) (by decide +kernel) (va_cons (vl_var rfl) va_nil) fun Q q => ⟨B, W, K, e, rfl, tb, od, fun _ => q, fun z => absurd cn z⟩))) (fun h => by cases h) fun _ => ?_
      unfold rd_law_13
      refine sq_asgN ((vl_var rfl : Vl (rdVar 3) _ (tabD B W K)) _ ⟨rfl, by decide +kernel, (va_cons (vl_var rfl) va_nil : VA (rdCons (rdVar 9) rdNil) _ [deedD e]) _ ?_⟩)
      refine ⟨B, W, K, e, rfl, tb, od, cn, fun B' W' K' tb' hB => ?_⟩
      dsimp only [List.set]
      refine lap_names tb tb' (fun y hy => (hnm y).mp hy) hwB hB h8 fun s8' h8' => ?_
      dsimp only
      unfold rd_law_19
      refine st_asg (vl_var rfl) (hN _ ⟨B', W', K', _, _, _, _, s8', _, _, rfl, h8', tb', fun y => ?_⟩)
      rw [hnm, dom_after hwB hB]
    · refine sq_if (b := !false) (vt_not (vt_test (vl_meth (vl_var rfl) (by decide +kernel) (va_cons (vl_var rfl) va_nil) fun Q q => ⟨B, W, K, e, rfl, tb, od, fun z => absurd z cn, fun _ => q⟩))) (fun _ => ?_) fun h => by cases h
      exact hN _ ⟨B, W, K, _, _, _, _, s8, _, _, rfl, h8, tb, hnm⟩
  unfold rd_law_8
  refine sq_asgN (nd_tup (nd_cons1 vl_c (nd_cons1 (vl_var rfl) (nd_cons (nd_cb (nd_cons (nd_sl2 (nd_call (F := F__law_mixed d) (va_cons (vl_var rfl) (va_cons (vl_var rfl) va_nil)) ⟨_, rfl, Nat.le_trans (List.length_filter_le _ _) (by omega), fok, fun ys p => ?_⟩))))))))
  dsimp only [rdNoPart]
  show rdCall (Ftake d) [] _ _ _
  refine nd_call (F := Ftake d) (ds := [.ref d, .int 4]) (va_cons (vl_var rfl) (va_cons vl_c va_nil)) (take_ok (by decide) (by decide) fun r hr => ?_)
  dsimp only [asI]
  refine vs_Lto (k := r) _ ?_
  rw [← List.map_take]
  dsimp only [rdNil]
  refine vc_tupL _ ?_
  refine ⟨small_of (by show 3 ≤ 1000; decide), ?_⟩
  dsimp only [List.set]
  have od1 : okDeed B (.bases w (ys.take r)) := ⟨hwB, fun y hy => fok y (p.mem_iff.mp (List.mem_of_mem_take hy)), by
    have := p.length_eq
    have := List.length_filter_le (fun y => !decide (y = w)) nm
    rw [List.length_take]
    omega⟩
  unfold rd_law_9 rd_law_10
  refine sq_ifN (nd_op1 (nd_call (F := Ftake d) (ds := [.ref d, .int 4]) (va_cons (vl_var rfl) (va_cons vl_c va_nil)) (take_ok (by decide) (by decide) fun r2 hr2 => ?_)))
  dsimp only [rdC]
  refine v2_eqI _ ?_
  dsimp only [asB]
  by_cases z : (r2 : Int) = 0
  · rw [decide_eq_true z, if_pos rfl]
    refine st_asgN (nd_tup (nd_cons1 vl_c (nd_cons1 (vl_var rfl) (nd_cons (nd_call (F := FpickS d) (va_cons (vl_var rfl) (va_cons (vl_sh (vl_lst (va_cons vl_c (va_cons vl_c va_nil)) (small_of (show 2 ≤ 1000 by decide)))) va_nil)) (pickS_lst (by simp) (by show 2 < 1000; decide) fun y hy => ?_))))))
    obtain ⟨u, rfl, hu⟩ : ∃ u : Str, y = .str u ∧ (u = "m" ∨ u = "n") := by
      simp only [List.mem_cons, List.not_mem_nil, or_false] at hy
      rcases hy with rfl | rfl
      · exact ⟨_, rfl, .inl rfl⟩
      · exact ⟨_, rfl, .inr rfl⟩
    refine ⟨small_of (by show 3 ≤ 1000; decide), ?_⟩
    exact rest (.put w u) ⟨hwB, mn_ok u hu⟩ rfl
  · rw [decide_eq_false z, if_neg Bool.false_ne_true]
    exact rest (.bases w (ys.take r)) od1 rfl
theorem rdl_law (d : Addr) (ns : List Int) (hl : ns.length ≤ 63) : rd_law d { nx := fun _ => False, rt := fun r => r = .bl true } (.dat (.fz ns) :: .dat (.ref d) :: List.replicate 9 .no) := by
  unfold rd_law rd_law_0
  refine sq_for (vi_rng (n := 2 + (if 6 < ns.length then 6 else ns.length)) (va_cons (vl_eq (vl_op vl_c (vl_cb (va_cons (vl_cb (va_cons (vl_var rfl) va_nil) (fun Q q => q : VC rdLenB [.fz ns] (.int ns.length))) (va_cons vl_c va_nil)) (fun Q q => q : VC rdMin2 [.int ns.length, .int 6] (.int (if (6 : Int) < ns.length then 6 else ns.length)))) v2_addI) ?_) va_nil) (by split <;> omega)) ?_
  · congr 1
    by_cases h : 6 < ns.length
    · rw [if_pos h, if_pos (by omega)]; rfl
    · rw [if_neg h, if_neg (by omega)]; omega
  refine goFor_inv (fun Γ => ∃ s2 s3 s4 s5 s6 s7 s8 s9 s10 : Sl, s8.isOwn = false ∧ Γ = [.dat (.fz ns), .dat (.ref d), s2, s3, s4, s5, s6, s7, s8, s9, s10]) _ _ ⟨_, _, _, _, _, _, _, _, _, rfl, rfl⟩ ?_ (fun Γ ⟨_, _, _, _, _, _, _, _, _, _, e⟩ => by subst e; exact rfl)
  rintro x _ _ ⟨s2, s3, s4, s5, s6, s7, s8, s9, s10, h8, rfl⟩ N hN
  dsimp only [rgName, List.set]
  unfold rd_law_1
  refine sq_asgN (nd_call1 (nd_call (F := F__law_table d) (ds := [.ref d, .int ((6 : Nat) : Int)]) (va_cons (vl_var rfl) (va_cons vl_c va_nil)) ⟨6, rfl, by decide, by decide, fun B0 W0 K0 t0 => ?_⟩))
  refine ⟨B0, W0, K0, rfl, t0, fun B W K tb _ => ?_⟩
  dsimp only [List.set]
  unfold rd_law_2
  refine sq_asg (d := sL (dom B)) (vl_meth (vl_var rfl) (by decide +kernel) va_nil fun Q q => ⟨B, W, K, rfl, q⟩) ?_
  have hd : (dom B).length = B.length := List.length_map _
  have n1 : dom B ≠ [] := fun z => by
    rw [z] at hd
    have := tb.len.1
    rw [List.length_nil] at hd
    omega
  unfold rd_law_3
  refine (vi_rng (n := 10) (va_cons vl_c va_nil) (by decide) : VA (rdIRng (rdCons (rdC (.int 10)) rdNil)) _ _) _ ?_
  refine goFor_inv (LapI d ns (dom B)) _ _ ⟨B, W, K, _, _, _, _, s8, _, _, rfl, h8, tb, fun _ => Iff.rfl⟩ ?_ ?_
  · intro y _ Γ I N2 hN2
    exact lap n1 (by rw [hd]; exact tb.len.2) (fun y hy => (tb.cn y hy).2) I hN2
  · rintro Γ ⟨B, W, K, s2, s5, s6, s7, s8, s9, s10, rfl, h8, _, _⟩
    exact hN _ ⟨_, _, _, _, _, _, _, _, _, h8, rfl⟩
end
end K07

set_option Elab.async false
set_option linter.all false
set_option maxRecDepth 100000
set_option maxHeartbeats 4000000
namespace K07
open PySem PySem.Spec L2 VL TB
open PyProof.Rows hiding St
variable {P : Program} {w : World} {K : PySem.W.Frag} {mg : Str → Option Value} {base : Heap}
theorem ok_is_word (T : Txt K mg) : FnOk P w K mg base CX0 1 T.a_is_word T.fd_is_word ["value"] (spD Vol.no K F_is_word) := by
  refine fn_d Vol.no T.F_is_word sc_is_word (fun ds Q h => len_is_word h) (fun cdv A outer s H E W hJ hr => ?_)
  exact ⟨_, rd_is_word, (dss_one (ds_ret (d_and (d_callB (crK rIsi rfl call_isi) (cd_isi (K := K)) (by rfl) T.n_isinstance (by decide +kernel) (da_cons (d_var (i := 0)) (da_cons (d_bltn (v := .ty "str") (d := .ty "str") (u := .type "str") (by rfl) T.n_str (by decide +kernel) rfl (fun _ => .ty _)) da_nil))) (d_and (d_chain op_le od_le op_le od_le d_int (d_callB (crK rLenB rfl cr_lenB) (cd_lenB (K := K)) (by rfl) T.n_len (by decide +kernel) (da_cons (d_var (i := 0)) da_nil)) (d_glob (v := (.int 8)) (d := (.int 8)) (by rfl) T.m_LONGEST ⟨_, rfl⟩ (fun _ => .int _))) (d_one (d_callB (crK rAll rfl (cr_all rfl)) (cd_all (K := K)) (by rfl) T.n_all (by decide +kernel) (da_cons (d_share (d_lc (own := [("sign", 1)]) rfl sc_is_word.nd (di_any rfl (d_var (i := 0))) (blkOk_by (own := [("sign", 1)]) (by kernel_rfl)) (fun _ _ _ _ _ => (dg_name (j := 1) sc_is_word.nd rfl (by first | exact Or.inl rfl | exact Or.inr rfl))) (fun _ _ _ _ _ => dts_nil) (fun _ _ _ _ _ => (d_cmp (opK rInB rfl (op_inB (hu65 hr))) (od_inB (K := K)) (d_var (i := 1)) (d_glob (v := (.str "abcdefghijklmnopqrstuvwxyz")) (d := (.str "abcdefghijklmnopqrstuvwxyz")) (by rfl) T.m_SMALL ⟨_, rfl⟩ (fun _ => .str _)) (by rfl))) (by decide))) da_nil))))))), fun ds Q h => rdl_is_word h⟩
theorem ok_is_class_name (T : Txt K mg) : FnOk P w K mg base CX0 1 T.a_is_class_name T.fd_is_class_name ["value"] (spD Vol.no K F_is_class_name) := by
  refine fn_d Vol.no T.F_is_class_name sc_is_class_name (fun ds Q h => len_is_class_name h) (fun cdv A outer s H E W hJ hr => ?_)
  exact ⟨_, rd_is_class_name, (dss_cons (ds_if (DW.dt (dw_or (dt_not (dt_val (d_callB (crK rIsi rfl call_isi) (cd_isi (K := K)) (by rfl) T.n_isinstance (by decide +kernel) (da_cons (d_var (i := 0)) (da_cons (d_bltn (v := .ty "str") (d := .ty "str") (u := .type "str") (by rfl) T.n_str (by decide +kernel) rfl (fun _ => .ty _)) da_nil))))) (dw_or (dt_not (dt_chain op_le od_le op_le od_le d_int (d_callB (crK rLenB rfl cr_lenB) (cd_lenB (K := K)) (by rfl) T.n_len (by decide +kernel) (da_cons (d_var (i := 0)) da_nil)) (d_glob (v := (.int 8)) (d := (.int 8)) (by rfl) T.m_LONGEST ⟨_, rfl⟩ (fun _ => .int _)))) (dw_or1 (dt_cmp (opK rNotInB rfl (op_notInB (hu65 hr))) (od_notInB (K := K)) (d_ix (ixK rIxA rfl (ix_any (hu1 hr))) (od_ixA (K := K)) (d_var (i := 0)) d_int (fun _ _ => rfl)) (d_glob (v := (.str "ABCDEFGHIJKLMNOPQRSTUVWXYZ")) (d := (.str "ABCDEFGHIJKLMNOPQRSTUVWXYZ")) (by rfl) T.m_LARGE ⟨_, rfl⟩ (fun _ => .str _)) (by rfl)))))) (dss_one (ds_ret d_bl)) dss_nil)
      (dss_one (ds_ret (d_callB (crK rAll rfl (cr_all rfl)) (cd_all (K := K)) (by rfl) T.n_all (by decide +kernel) (da_cons (d_share (d_lc (own := [("sign", 1)]) rfl sc_is_class_name.nd (di_any rfl (d_slice (slK rCutB rfl sl_allB) (sd_allB (K := K)) (d_var (i := 0)) (do_some d_int) do_none)) (blkOk_by (own := [("sign", 1)]) (by kernel_rfl)) (fun _ _ _ _ _ => (dg_name (j := 1) sc_is_class_name.nd rfl (by first | exact Or.inl rfl | exact Or.inr rfl))) (fun _ _ _ _ _ => dts_nil) (fun _ _ _ _ _ => (d_cmp (opK rInB rfl (op_inB (hu65 hr))) (od_inB (K := K)) (d_var (i := 1)) (d_glob (v := (.str "abcdefghijklmnopqrstuvwxyz")) (d := (.str "abcdefghijklmnopqrstuvwxyz")) (by rfl) T.m_SMALL ⟨_, rfl⟩ (fun _ => .str _)) (by rfl))) (by decide))) da_nil))))), fun ds Q h => rdl_is_class_name h⟩
theorem ok_is_list (T : Txt K mg) : FnOk P w K mg base CX0 1 T.a_is_list T.fd_is_list ["value"] (spD Vol.no K F_is_list) := by
  refine fn_d Vol.no T.F_is_list sc_is_list (fun ds Q h => len_is_list h) (fun cdv A outer s H E W hJ hr => ?_)
  exact ⟨_, rd_is_list, (dss_one (ds_ret (d_isiT2 rfl (by rfl) T.n_isinstance (by decide +kernel) (d_var (i := 0)) (by rfl) T.n_list (by decide +kernel) (by rfl) T.n_tuple (by decide +kernel)))), fun ds Q h => rdl_is_list h⟩
theorem ok_are_bases (T : Txt K mg) : FnOk P w K mg base CX0 1 T.a_are_bases T.fd_are_bases ["names", "name", "value"] (spD Vol.no K F_are_bases) := by
  refine fn_d Vol.no T.F_are_bases sc_are_bases (fun ds Q h => len_are_bases h) (fun cdv A outer s H E W hJ hr => ?_)
  exact ⟨_, rd_are_bases, (dss_cons (ds_if (DW.dt (dw_or (dt_not (dt_val (d_callB (crK rIsi rfl call_isi) (cd_isi (K := K)) (by rfl) T.n_isinstance (by decide +kernel) (da_cons (d_var (i := 2)) (da_cons (d_bltn (v := .ty "tuple") (d := .ty "tuple") (u := .type "tuple") (by rfl) T.n_tuple (by decide +kernel) rfl (fun _ => .ty _)) da_nil))))) (dw_or1 (dt_cmp op_gt od_gt (d_callB (crK rLenB rfl cr_lenB) (cd_lenB (K := K)) (by rfl) T.n_len (by decide +kernel) (da_cons (d_var (i := 2)) da_nil)) (d_glob (v := (.int 3)) (d := (.int 3)) (by rfl) T.m_MOST_BASES ⟨_, rfl⟩ (fun _ => .int _)) (nomark _))))) (dss_one (ds_ret d_bl)) dss_nil)
      (dss_cons (ds_if (dt_not (dt_val (d_callB (crK rAll rfl (cr_all rfl)) (cd_all (K := K)) (by rfl) T.n_all (by decide +kernel) (da_cons (d_share (d_lc (own := [("base", 3)]) rfl sc_are_bases.nd (di_any rfl (d_var (i := 2))) (blkOk_by (own := [("base", 3)]) (by kernel_rfl)) (fun _ _ _ _ _ => (dg_name (j := 3) sc_are_bases.nd rfl (by first | exact Or.inl rfl | exact Or.inr rfl))) (fun _ _ _ _ _ => dts_nil) (fun _ _ _ _ _ => (d_and (d_callB (crK rIsi rfl call_isi) (cd_isi (K := K)) (by rfl) T.n_isinstance (by decide +kernel) (da_cons (d_var (i := 3)) (da_cons (d_bltn (v := .ty "str") (d := .ty "str") (u := .type "str") (by rfl) T.n_str (by decide +kernel) rfl (fun _ => .ty _)) da_nil))) (d_and (d_cmp (opK rInB rfl (op_inB (hu65 hr))) (od_inB (K := K)) (d_var (i := 3)) (d_var (i := 0)) (by rfl)) (d_one (d_cmp (opK rNeA rfl (op_neA (hu64 hr))) (od_ne (K := K)) (d_var (i := 3)) (d_var (i := 1)) (nomark _)))))) (by decide))) da_nil)))) (dss_one (ds_ret d_bl)) dss_nil)
      (dss_one (ds_ret (d_callB (crK rAll rfl (cr_all rfl)) (cd_all (K := K)) (by rfl) T.n_all (by decide +kernel) (da_cons (d_share (d_lc (own := [("at", 4), ("base", 3)]) rfl sc_are_bases.nd (di_enumT rfl (by rfl) T.n_enumerate (da_cons (d_var (i := 2)) da_nil)) (blkOk_by (own := [("at", 4), ("base", 3)]) (by kernel_rfl)) (fun _ _ _ _ _ => (dg_tupK rfl rfl (dgs_cons (dg_name (j := 4) sc_are_bases.nd rfl (by first | exact Or.inl rfl | exact Or.inr rfl)) (dgs_cons (dg_name (j := 3) sc_are_bases.nd rfl (by first | exact Or.inl rfl | exact Or.inr rfl)) dgs_nil)))) (fun _ _ _ _ _ => dts_nil) (fun _ _ _ _ _ => (d_cmp (opK rNotInB rfl (op_notInB (hu65 hr))) (od_notInB (K := K)) (d_var (i := 3)) (d_slice (slK rCutB rfl sl_allB) (sd_allB (K := K)) (d_var (i := 2)) do_none (do_some (d_var (i := 4)))) (by rfl))) (by decide))) da_nil)))))), fun ds Q h => rdl_are_bases h⟩
theorem ok_first_head (T : Txt K mg) : FnOk P w K mg base CX0 1 T.a_first_head T.fd_first_head ["rows"] (spD Vol.no K F_first_head) := by
  refine fn_d Vol.no T.F_first_head sc_first_head (fun ds Q h => len_first_head h) (fun cdv A outer s H E W hJ hr => ?_)
  exact ⟨_, rd_first_head, (dss_cons (ds_for PassesOwn.never rfl (di_any rfl (d_var (i := 0))) (dg_name (j := 1) sc_first_head.nd rfl (by first | exact Or.inl rfl | exact Or.inr rfl)) (dss_one (ds_if (dt_not (dt_val (d_callB (crK rAny rfl (cr_any rfl)) (cd_any (K := K)) (by rfl) T.n_any (by decide +kernel) (da_cons (d_share (d_lc (own := [("other", 2)]) rfl sc_first_head.nd (di_any rfl (d_var (i := 0))) (blkOk_by (own := [("other", 2)]) (by kernel_rfl)) (fun _ _ _ _ _ => (dg_name (j := 2) sc_first_head.nd rfl (by first | exact Or.inl rfl | exact Or.inr rfl))) (fun _ _ _ _ _ => dts_nil) (fun _ _ _ _ _ => (d_cmp (opK rInB rfl (op_inB (hu65 hr))) (od_inB (K := K)) (d_ix (ixK rIxA rfl (ix_any (hu1 hr))) (od_ixA (K := K)) (d_var (i := 1)) d_int (fun _ _ => rfl)) (d_slice (slK rCutB rfl sl_allB) (sd_allB (K := K)) (d_var (i := 2)) (do_some d_int) do_none) (by rfl))) (by decide))) da_nil)))) (dss_one (ds_ret (d_ix (ixK rIxA rfl (ix_any (hu1 hr))) (od_ixA (K := K)) (d_var (i := 1)) d_int (fun _ _ => rfl)))) dss_nil)))
      (dss_one (ds_ret d_non))), fun ds Q h => rdl_first_head h⟩
theorem ok_Table_names (T : Txt K mg) : FnOk P w K mg base CX0 1 T.a_Table_names T.fd_Table_names ["self"] (spD Vol.no K F_Table_names) := by
  refine fn_d Vol.no T.F_Table_names sc_Table_names (fun ds Q h => len_Table_names h) (fun cdv A outer s H E W hJ hr => ?_)
  exact ⟨_, rd_Table_names, (dss_one (ds_ret (d_share (df_callTy (crK rListB rfl (cr_listB rfl)) (cf_listB (K := K)) (by rfl) T.n_list (by decide +kernel) (da_cons (d_fld rfl T.cn_Table T.cl_Table T.na_Table_own_bases (d_var (i := 0))) da_nil))))), fun ds Q h => rdl_Table_names h⟩
theorem ok_Table___contains__ (T : Txt K mg) : FnOk P w K mg base CX0 1 T.a_Table___contains__ T.fd_Table___contains__ ["self", "name"] (spD Vol.no K F_Table___contains__) := by
  refine fn_d Vol.no T.F_Table___contains__ sc_Table___contains__ (fun ds Q h => len_Table___contains__ h) (fun cdv A outer s H E W hJ hr => ?_)
  exact ⟨_, rd_Table___contains__, (dss_one (ds_ret (d_and (d_callB (crK rIsi rfl call_isi) (cd_isi (K := K)) (by rfl) T.n_isinstance (by decide +kernel) (da_cons (d_var (i := 1)) (da_cons (d_bltn (v := .ty "str") (d := .ty "str") (u := .type "str") (by rfl) T.n_str (by decide +kernel) rfl (fun _ => .ty _)) da_nil))) (d_one (d_cmp (opK rInB rfl (op_inB (hu65 hr))) (od_inB (K := K)) (d_var (i := 1)) (d_fld rfl T.cn_Table T.cl_Table T.na_Table_own_bases (d_var (i := 0))) (by rfl)))))), fun ds Q h => rdl_Table___contains__ h⟩
theorem ok__law_begin (T : Txt K mg) : FnOk P w K mg base CX0 1 T.a__law_begin T.fd__law_begin ["_law_script"] (spD Vol.no K Fbegin) := by
  refine fn_d Vol.no T.F__law_begin sc__law_begin (fun ds Q h => len_begin h) (fun cdv A outer s H E W hJ hr => ?_)
  exact ⟨_, rd__law_begin, (dss_one (ds_ret (d_share (d_lst (da_cons (d_orTK rfl (d_share (d_lc (own := [("_law_cell", 1)]) rfl sc__law_begin.nd (di_any rfl (d_slice (slK rCutB rfl sl_allB) (sd_allB (K := K)) (d_var (i := 0)) do_none (do_some d_int))) (blkOk_by (own := [("_law_cell", 1)]) (by kernel_rfl)) (fun _ _ _ _ _ => (dg_name (j := 1) sc__law_begin.nd rfl (by first | exact Or.inl rfl | exact Or.inr rfl))) (fun _ _ _ _ _ => dts_nil) (fun _ _ _ _ _ => (d_callB call_abs cd_abs (by rfl) T.n_abs (by decide +kernel) (da_cons (d_var (i := 1)) da_nil))) (by decide))) (d_one (d_share (d_lst (da_cons d_int da_nil))))) (da_cons d_int (da_cons d_int (da_cons d_int da_nil)))))))), fun ds Q h => rdl__law_begin h⟩
theorem ok__law_take (T : Txt K mg) (d c : Addr) : FnOk P w K mg base CX0 1 T.a__law_take T.fd__law_take ["_law_draw", "_law_many"] (spD (drawJ d c) K (Ftake d)) := by
  refine T.F__law_take.ok sc__law_take (fun vs H Q E h => ?_) (fun cdv A outer s H vs Q E hr h => ⟨tTake K, ?_, take_sem (by rfl) h⟩)
  · obtain ⟨Hv, ds, Qd, _, _, _, r, hf, _⟩ := h
    rw [r.length, len_take hf]
    rfl
  · have nd := sc__law_take.nd
    exact pss_cons (ps_set (i := 2) nd rfl (Or.inl rfl) (pe_ix ix_seq (p_var (i := 0)) pe_int (fun _ _ => rfl))) <|
      pss_cons (ps_set (i := 3) nd rfl (Or.inl rfl) (pe_op op_mod (pe_callTy call_int1 (by rfl) T.n_int (by decide +kernel) (pa_cons (pe_ix ix_seq (p_var (i := 0)) pe_int (fun _ _ => rfl)) pa_nil)) (pe_callB cr_len (by rfl) T.n_len (by decide +kernel) (pa_cons (p_var (i := 2)) pa_nil)))) <|
      pss_cons (ps_set (i := 4) nd rfl (Or.inl rfl) (pe_ix ix_seq (p_var (i := 2)) (p_var (i := 3)) (fun _ _ => rfl))) <|
      pss_cons (ps_if (pt_cmpR op_ge (p_var (i := 4)) (pe_op op_pow pe_int pe_int) (nomark _))
        (pss_cons (ps_asg (pe_op op_fdiv (p_var (i := 4)) (p_var (i := 1))) (pg_sub (p_var (i := 2)) (p_var (i := 3)) set_list)) (pss_one (ps_ret (pe_op op_mod (pe_callTy call_int1 (by rfl) T.n_int (by decide +kernel) (pa_cons (p_var (i := 4)) pa_nil)) (p_var (i := 1)))))) pss_nil) <|
      pss_cons (ps_asg (pe_op op_add (pe_ix ix_seq (p_var (i := 0)) pe_int (fun _ _ => rfl)) pe_int) (pg_sub (p_var (i := 0)) pe_int set_list)) <|
      pss_cons (ps_asg (pe_op op_add (pe_ix ix_seq (p_var (i := 0)) pe_int (fun _ _ => rfl)) pe_int) (pg_sub (p_var (i := 0)) pe_int set_list)) <|
      pss_cons (ps_asg (pe_op op_mod (pe_callTy call_int1 (by rfl) T.n_int (by decide +kernel) (pa_cons (pe_op op_add (pe_op op_add (pe_op op_add (pe_op op_mul (pe_ix ix_seq (p_var (i := 0)) pe_int (fun _ _ => rfl)) pe_int) (p_var (i := 4))) (pe_op op_mul pe_int (pe_ix ix_seq (p_var (i := 0)) pe_int (fun _ _ => rfl)))) pe_int) pa_nil)) pe_int) (pg_sub (p_var (i := 0)) pe_int set_list)) <|
      pss_cons (ps_set (i := 5) nd rfl (Or.inl rfl) (pe_op op_mod (pe_callTy call_int1 (by rfl) T.n_int (by decide +kernel) (pa_cons (pe_op op_mul (pe_ix ix_seq (p_var (i := 0)) pe_int (fun _ _ => rfl)) (pe_ix ix_seq (p_var (i := 0)) pe_int (fun _ _ => rfl))) pa_nil)) pe_int)) <|
      pss_one (ps_ret (pe_op op_mod (pe_callTy call_int1 (by rfl) T.n_int (by decide +kernel) (pa_cons (pe_op op_fdiv (p_var (i := 5)) pe_int) pa_nil)) (p_var (i := 1))))
theorem ok__law_merge (T : Txt K mg) : FnOk P w K mg base CX0 1 T.a__law_merge T.fd__law_merge ["_law_heaps"] (spD Vol.no K F__law_merge) := by
  refine fn_d Vol.no T.F__law_merge sc__law_merge (fun ds Q h => len__law_merge h) (fun cdv A outer s H E W hJ hr => ?_)
  exact ⟨_, rd__law_merge, (dss_cons (ds_set (j := 1) sc__law_merge.nd rfl (by first | exact Or.inl rfl | exact Or.inr rfl) (d_tup da_nil))
      (dss_cons (ds_while PassesOwn.never (dt_cmp (opK rNeA rfl (op_neA (hu64 hr))) (od_ne (K := K)) (d_share (d_lc (own := [("_law_step", 2)]) rfl sc__law_merge.nd (di_any rfl (d_var (i := 0))) (blkOk_by (own := [("_law_step", 2)]) (by kernel_rfl)) (fun _ _ _ _ _ => (dg_name (j := 2) sc__law_merge.nd rfl (by first | exact Or.inl rfl | exact Or.inr rfl))) (fun _ _ _ _ _ => (dts_one (dt_cmp (opK rNeA rfl (op_neA (hu64 hr))) (od_ne (K := K)) (d_var (i := 2)) (d_share (d_lst da_nil)) (nomark _)))) (fun _ _ _ _ _ => (d_var (i := 2))) (by decide))) (d_share (d_lst da_nil)) (nomark _)) (dss_cons (ds_set (j := 3) sc__law_merge.nd rfl (by first | exact Or.inl rfl | exact Or.inr rfl) (d_callB (crK rSumL rfl (cr_sumL rfl)) (cd_sumL (K := K)) (by rfl) T.n_sum (by decide +kernel) (da_cons (d_share (d_lc (own := [("_law_step", 2)]) rfl sc__law_merge.nd (di_any rfl (d_var (i := 0))) (blkOk_by (own := [("_law_step", 2)]) (by kernel_rfl)) (fun _ _ _ _ _ => (dg_name (j := 2) sc__law_merge.nd rfl (by first | exact Or.inl rfl | exact Or.inr rfl))) (fun _ _ _ _ _ => dts_nil) (fun _ _ _ _ _ => (d_slice (slK rCutB rfl sl_allB) (sd_allB (K := K)) (d_var (i := 2)) (do_some d_int) do_none)) (by decide))) (da_cons (d_share (d_lst da_nil)) da_nil))))
      (dss_cons (ds_set (j := 4) sc__law_merge.nd rfl (by first | exact Or.inl rfl | exact Or.inr rfl) (d_share (d_lc (own := [("_law_step", 2)]) rfl sc__law_merge.nd (di_any rfl (d_var (i := 0))) (blkOk_by (own := [("_law_step", 2)]) (by kernel_rfl)) (fun _ _ _ _ _ => (dg_name (j := 2) sc__law_merge.nd rfl (by first | exact Or.inl rfl | exact Or.inr rfl))) (fun _ _ _ _ _ => (dts_one (DW.dt (dw_and (dt_cmp (opK rNeA rfl (op_neA (hu64 hr))) (od_ne (K := K)) (d_var (i := 2)) (d_share (d_lst da_nil)) (nomark _)) (dw_and1 (dt_cmp (opK rNotInB rfl (op_notInB (hu65 hr))) (od_notInB (K := K)) (d_ix (ixK rIxA rfl (ix_any (hu1 hr))) (od_ixA (K := K)) (d_var (i := 2)) d_int (fun _ _ => rfl)) (d_var (i := 3)) (by rfl))))))) (fun _ _ _ _ _ => (d_ix (ixK rIxA rfl (ix_any (hu1 hr))) (od_ixA (K := K)) (d_var (i := 2)) d_int (fun _ _ => rfl))) (by decide))))
      (dss_cons (ds_if (dt_cmp (opK rEqA rfl (op_eqA (hu64 hr))) (od_eq (K := K)) (d_var (i := 4)) (d_share (d_lst da_nil)) (nomark _)) (dss_one (ds_ret d_non)) dss_nil)
      (dss_cons (ds_set (j := 1) sc__law_merge.nd rfl (by first | exact Or.inl rfl | exact Or.inr rfl) (d_op (opK rAddB rfl op_addB) (od_addB (K := K)) (d_var (i := 1)) (d_tup (da_cons (d_ix (ixK rIxA rfl (ix_any (hu1 hr))) (od_ixA (K := K)) (d_var (i := 4)) d_int (fun _ _ => rfl)) da_nil))))
      (dss_one (ds_setLcD (own := [("_law_step", 2)]) (j := 0) rfl sc__law_merge.nd rfl rfl (sw_true rfl rfl rfl (by decide +kernel)) (di_any rfl (d_var (i := 0))) (blkOk_by (own := [("_law_step", 2)]) (by kernel_rfl)) (fun _ _ _ _ _ => (dg_name (j := 2) sc__law_merge.nd rfl (by first | exact Or.inl rfl | exact Or.inr rfl))) (fun _ _ _ _ _ => dts_nil) (fun _ _ _ _ _ => (d_share (d_lc (own := [("_law_unit", 5)]) rfl sc__law_merge.nd (di_any rfl (d_var (i := 2))) (blkOk_by (own := [("_law_unit", 5)]) (by kernel_rfl)) (fun _ _ _ _ _ => (dg_name (j := 5) sc__law_merge.nd rfl (by first | exact Or.inl rfl | exact Or.inr rfl))) (fun _ _ _ _ _ => (dts_one (dt_cmp (opK rNeA rfl (op_neA (hu64 hr))) (od_ne (K := K)) (d_var (i := 5)) (d_ix (ixK rIxA rfl (ix_any (hu1 hr))) (od_ixA (K := K)) (d_var (i := 4)) d_int (fun _ _ => rfl)) (nomark _)))) (fun _ _ _ _ _ => (d_var (i := 5))) (by decide)))) (by decide))))))))
      (dss_one (ds_ret (d_var (i := 1)))))), fun ds Q h => rdl__law_merge h⟩
theorem ok__law_kept (T : Txt K mg) : FnOk P w K mg base CX0 1 T.a__law_kept T.fd__law_kept ["_law_line", "_law_within"] (spD Vol.no K F__law_kept) := by
  refine fn_d Vol.no T.F__law_kept sc__law_kept (fun ds Q h => len__law_kept h) (fun cdv A outer s H E W hJ hr => ?_)
  exact ⟨_, rd__law_kept, (dss_one (ds_ret (d_cmp (opK rEqA rfl (op_eqA (hu64 hr))) (od_eq (K := K)) (d_callTy (crK rTupOf rfl call_tuple_of) (cd_tuple (K := K)) (by rfl) T.n_tuple (by decide +kernel) (da_cons (d_share (d_lc (own := [("_law_one", 2)]) rfl sc__law_kept.nd (di_any rfl (d_var (i := 1))) (blkOk_by (own := [("_law_one", 2)]) (by kernel_rfl)) (fun _ _ _ _ _ => (dg_name (j := 2) sc__law_kept.nd rfl (by first | exact Or.inl rfl | exact Or.inr rfl))) (fun _ _ _ _ _ => (dts_one (dt_cmp (opK rInB rfl (op_inB (hu65 hr))) (od_inB (K := K)) (d_var (i := 2)) (d_var (i := 0)) (by rfl)))) (fun _ _ _ _ _ => (d_var (i := 2))) (by decide))) da_nil)) (d_callTy (crK rTupOf rfl call_tuple_of) (cd_tuple (K := K)) (by rfl) T.n_tuple (by decide +kernel) (da_cons (d_var (i := 0)) da_nil)) (nomark _)))), fun ds Q h => rdl__law_kept h⟩
theorem ok_is_pair (T : Txt K mg) : FnOk P w K mg base CX0 2 T.a_is_pair T.fd_is_pair ["classes", "name", "value"] (spD Vol.no K F_is_pair) := by
  refine fn_d Vol.no T.F_is_pair sc_is_pair (fun ds Q h => len_is_pair h) (fun cdv A outer s H E W hJ hr => ?_)
  exact ⟨_, rd_is_pair, (dss_cons (ds_if (DW.dt (dw_or (dt_not (dt_val (d_callB (crK rIsi rfl call_isi) (cd_isi (K := K)) (by rfl) T.n_isinstance (by decide +kernel) (da_cons (d_var (i := 2)) (da_cons (d_bltn (v := .ty "tuple") (d := .ty "tuple") (u := .type "tuple") (by rfl) T.n_tuple (by decide +kernel) rfl (fun _ => .ty _)) da_nil))))) (dw_or (dt_cmp (opK rNeA rfl (op_neA (hu64 hr))) (od_ne (K := K)) (d_callB (crK rLenB rfl cr_lenB) (cd_lenB (K := K)) (by rfl) T.n_len (by decide +kernel) (da_cons (d_var (i := 2)) da_nil)) d_int (nomark _)) (dw_or1 (dt_not (dt_val (d_callPK rfl (ok_are_bases T) (hr.mono (by decide)) (by rfl) T.g_are_bases T.F_are_bases.kp T.b_are_bases .nil (fun _ => .nil) pass0 (da_cons (d_var (i := 0)) (da_cons (d_var (i := 1)) (da_cons (d_ix (ixK rIxA rfl (ix_any (hu1 hr))) (od_ixA (K := K)) (d_var (i := 2)) d_int (fun _ _ => rfl)) da_nil)))))))))) (dss_one (ds_ret d_bl)) dss_nil)
      (dss_cons (ds_set (j := 3) sc_is_pair.nd rfl (by first | exact Or.inl rfl | exact Or.inr rfl) (d_ix (ixK rIxA rfl (ix_any (hu1 hr))) (od_ixA (K := K)) (d_var (i := 2)) d_int (fun _ _ => rfl)))
      (dss_cons (ds_if (DW.dt (dw_or (dt_not (dt_val (d_callPK rfl (ok_is_list T) (hr.mono (by decide)) (by rfl) T.g_is_list T.F_is_list.kp T.b_is_list .nil (fun _ => .nil) pass0 (da_cons (d_var (i := 3)) da_nil)))) (dw_or (dt_cmp op_gt od_gt (d_callB (crK rLenB rfl cr_lenB) (cd_lenB (K := K)) (by rfl) T.n_len (by decide +kernel) (da_cons (d_var (i := 3)) da_nil)) (d_glob (v := (.int 4)) (d := (.int 4)) (by rfl) T.m_MOST_WORDS ⟨_, rfl⟩ (fun _ => .int _)) (nomark _)) (dw_or1 (dt_not (dt_val (d_callB (crK rAll rfl (cr_all rfl)) (cd_all (K := K)) (by rfl) T.n_all (by decide +kernel) (da_cons (d_share (d_lc (own := [("word", 4)]) rfl sc_is_pair.nd (di_any rfl (d_var (i := 3))) (blkOk_by (own := [("word", 4)]) (by kernel_rfl)) (fun _ _ _ _ _ => (dg_name (j := 4) sc_is_pair.nd rfl (by first | exact Or.inl rfl | exact Or.inr rfl))) (fun _ _ _ _ _ => dts_nil) (fun _ _ _ _ _ => (d_callPK rfl (ok_is_word T) (hr.mono (by decide)) (by rfl) T.g_is_word T.F_is_word.kp T.b_is_word .nil (fun _ => .nil) pass0 (da_cons (d_var (i := 4)) da_nil))) (by decide))) da_nil)))))))) (dss_one (ds_ret d_bl)) dss_nil)
      (dss_one (ds_ret (d_callB (crK rAll rfl (cr_all rfl)) (cd_all (K := K)) (by rfl) T.n_all (by decide +kernel) (da_cons (d_share (d_lc (own := [("at", 5), ("word", 4)]) rfl sc_is_pair.nd (di_enumT rfl (by rfl) T.n_enumerate (da_cons (d_var (i := 3)) da_nil)) (blkOk_by (own := [("at", 5), ("word", 4)]) (by kernel_rfl)) (fun _ _ _ _ _ => (dg_tupK rfl rfl (dgs_cons (dg_name (j := 5) sc_is_pair.nd rfl (by first | exact Or.inl rfl | exact Or.inr rfl)) (dgs_cons (dg_name (j := 4) sc_is_pair.nd rfl (by first | exact Or.inl rfl | exact Or.inr rfl)) dgs_nil)))) (fun _ _ _ _ _ => dts_nil) (fun _ _ _ _ _ => (d_cmp (opK rNotInB rfl (op_notInB (hu65 hr))) (od_notInB (K := K)) (d_var (i := 4)) (d_slice (slK rCutB rfl sl_allB) (sd_allB (K := K)) (d_var (i := 3)) do_none (do_some (d_var (i := 5)))) (by rfl))) (by decide))) da_nil))))))), fun ds Q h => rdl_is_pair h⟩
theorem ok_merged (T : Txt K mg) : FnOk P w K mg base CX0 2 T.a_merged T.fd_merged ["rows"] (spD Vol.no K F_merged) := by
  refine fn_d Vol.no T.F_merged sc_merged (fun ds Q h => len_merged h) (fun cdv A outer s H E W hJ hr => ?_)
  exact ⟨_, rd_merged, (dss_cons (ds_par (i := 1) (j := 2) rfl sc_merged.nd rfl rfl (by decide) rfl rfl (da_cons (d_tup da_nil) (da_cons (d_share (d_lc (own := [("row", 3)]) rfl sc_merged.nd (di_any rfl (d_var (i := 0))) (blkOk_by (own := [("row", 3)]) (by kernel_rfl)) (fun _ _ _ _ _ => (dg_name (j := 3) sc_merged.nd rfl (by first | exact Or.inl rfl | exact Or.inr rfl))) (fun _ _ _ _ _ => (dts_one (dt_cmp op_gt od_gt (d_callB (crK rLenB rfl cr_lenB) (cd_lenB (K := K)) (by rfl) T.n_len (by decide +kernel) (da_cons (d_var (i := 3)) da_nil)) d_int (nomark _)))) (fun _ _ _ _ _ => (d_var (i := 3))) (by decide))) da_nil)) (by rfl))
      (dss_cons (ds_while PassesOwn.never (dt_cmp (opK rNeA rfl (op_neA (hu64 hr))) (od_ne (K := K)) (d_var (i := 2)) (d_share (d_lst da_nil)) (nomark _)) (dss_cons (ds_set (j := 4) sc_merged.nd rfl (by first | exact Or.inl rfl | exact Or.inr rfl) (d_callPK rfl (ok_first_head T) (hr.mono (by decide)) (by rfl) T.g_first_head T.F_first_head.kp T.b_first_head .nil (fun _ => .nil) pass0 (da_cons (d_var (i := 2)) da_nil)))
      (dss_cons (ds_if (dt_cmp op_isN (od_isN (K := K)) (d_var (i := 4)) d_non (nomark _)) (dss_one (ds_ret d_non)) dss_nil)
      (dss_cons (ds_set (j := 1) sc_merged.nd rfl (by first | exact Or.inl rfl | exact Or.inr rfl) (d_op (opK rAddB rfl op_addB) (od_addB (K := K)) (d_var (i := 1)) (d_tup (da_cons (d_var (i := 4)) da_nil))))
      (dss_cons (ds_setLcD (own := [("row", 3)]) (j := 2) rfl sc_merged.nd rfl rfl (sw_true rfl rfl rfl (by decide +kernel)) (di_any rfl (d_var (i := 2))) (blkOk_by (own := [("row", 3)]) (by kernel_rfl)) (fun _ _ _ _ _ => (dg_name (j := 3) sc_merged.nd rfl (by first | exact Or.inl rfl | exact Or.inr rfl))) (fun _ _ _ _ _ => dts_nil) (fun _ _ _ _ _ => (d_ifExp (dt_cmp (opK rEqA rfl (op_eqA (hu64 hr))) (od_eq (K := K)) (d_ix (ixK rIxA rfl (ix_any (hu1 hr))) (od_ixA (K := K)) (d_var (i := 3)) d_int (fun _ _ => rfl)) (d_var (i := 4)) (nomark _)) (d_slice (slK rCutB rfl sl_allB) (sd_allB (K := K)) (d_var (i := 3)) (do_some d_int) do_none) (d_var (i := 3)))) (by decide))
      (dss_one (ds_setLcD (own := [("row", 3)]) (j := 2) rfl sc_merged.nd rfl rfl (sw_true rfl rfl rfl (by decide +kernel)) (di_any rfl (d_var (i := 2))) (blkOk_by (own := [("row", 3)]) (by kernel_rfl)) (fun _ _ _ _ _ => (dg_name (j := 3) sc_merged.nd rfl (by first | exact Or.inl rfl | exact Or.inr rfl))) (fun _ _ _ _ _ => (dts_one (dt_cmp op_gt od_gt (d_callB (crK rLenB rfl cr_lenB) (cd_lenB (K := K)) (by rfl) T.n_len (by decide +kernel) (da_cons (d_var (i := 3)) da_nil)) d_int (nomark _)))) (fun _ _ _ _ _ => (d_var (i := 3))) (by decide))))))))
      (dss_one (ds_ret (d_var (i := 1)))))), fun ds Q h => rdl_merged h⟩
theorem ok_need_class (T : Txt K mg) : FnOk P w K mg base CX0 2 T.a_need_class T.fd_need_class ["table", "name"] (spD Vol.no K F_need_class) := by
  refine fn_d Vol.no T.F_need_class sc_need_class (fun ds Q h => len_need_class h) (fun cdv A outer s H E W hJ hr => ?_)
  exact ⟨_, rd_need_class, (dss_one (ds_if (dt_cmp (op_ownNotIn (VL.FnOk.r0 (ok_Table___contains__ T) T.b_Table___contains__) (hr.mono (by decide)) pass0 T.du_Table___contains__) (od_ownIn T.cn_Table true) (d_var (i := 1)) (d_var (i := 0)) (by rfl)) (dss_one ds_never) dss_nil)), fun ds Q h => rdl_need_class h⟩
theorem ok__law_pick (T : Txt K mg) (d c : Addr) : FnOk P w K mg base CX0 2 T.a__law_pick T.fd__law_pick ["_law_draw", "_law_some"] (spD (drawJ d c) K (FpickS d)) := by
  refine fn_d (drawJ d c) T.F__law_pick sc__law_pick (fun ds Q h => len_pickS h) (fun cdv A outer s H E W hJ hr => ?_)
  exact ⟨_, rd__law_pick d, (dss_one (ds_ret (d_ix (ixK rIxA rfl (ix_any (hu1 hr))) (od_ixA (K := K)) (d_var (i := 1)) (d_callVK rfl (fnV fun d c => ok__law_take T d c) hJ (hr.mono (by decide)) (by rfl) T.g__law_take T.F__law_take.kp T.b__law_take .nil (fun _ => .nil) pass0 (da_cons (d_var (i := 0)) (da_cons (d_callB (crK rLenB rfl cr_lenB) (cd_lenB (K := K)) (by rfl) T.n_len (by decide +kernel) (da_cons (d_var (i := 1)) da_nil)) da_nil))) (fun _ _ => rfl)))), fun ds Q h => rdl__law_pick h⟩
theorem ok__law_mixed (T : Txt K mg) (d c : Addr) : FnOk P w K mg base CX0 2 T.a__law_mixed T.fd__law_mixed ["_law_draw", "_law_some"] (spD (drawJ d c) K (F__law_mixed d)) := by
  refine fn_d (drawJ d c) T.F__law_mixed sc__law_mixed (fun ds Q h => len__law_mixed h) (fun cdv A outer s H E W hJ hr => ?_)
  exact ⟨_, rd__law_mixed d, (dss_cons (ds_parOO (i := 2) (j := 3) rfl sc__law_mixed.nd rfl rfl (by decide) rfl rfl (df_callTy (crK rListB rfl (cr_listB rfl)) (cf_listB (K := K)) (by rfl) T.n_list (by decide +kernel) (da_cons (d_var (i := 1)) da_nil)) (d_lst da_nil) (by rfl))
      (dss_cons (ds_while PassesOwn.never (dt_cmpPkL (i := 2) (opK rNeA rfl (op_neA (hu64 hr))) oh_ne (d_share (d_lst da_nil)) (nomark _)) (dss_one (ds_expr (d_append (i := 3) (d_pop (i := 2) rfl (d_callVK rfl (fnV fun d c => ok__law_take T d c) hJ (hr.mono (by decide)) (by rfl) T.g__law_take T.F__law_take.kp T.b__law_take .nil (fun _ => .nil) pass0 (da_cons (d_var (i := 0)) (da_cons (d_pkLen (i := 2) rfl (by rfl) T.n_len) da_nil))))))))
      (dss_one (ds_ret (d_var (i := 3)))))), fun ds Q h => rdl__law_mixed h⟩
theorem ok__law_lines (T : Txt K mg) : FnOk P w K mg base CX0 2 T.a__law_lines T.fd__law_lines ["_law_bases"] (spD Vol.no K F__law_lines) := by
  refine fn_d Vol.no T.F__law_lines sc__law_lines (fun ds Q h => len__law_lines h) (fun cdv A outer s H E W hJ hr => ?_)
  exact ⟨_, rd__law_lines, (dss_cons (ds_setOwn (j := 1) sc__law_lines.nd rfl (by first | exact Or.inl rfl | exact Or.inr rfl) df_dic0)
      (dss_cons (ds_for PassesOwn.never rfl (di_range (by rfl) T.n_range (da_cons (d_callB (crK rLenB rfl cr_lenB) (cd_lenB (K := K)) (by rfl) T.n_len (by decide +kernel) (da_cons (d_var (i := 0)) da_nil)) da_nil)) (dg_name (j := 2) sc__law_lines.nd rfl (by first | exact Or.inl rfl | exact Or.inr rfl)) (dss_one (ds_for PassesOwn.never rfl (di_any rfl (d_share (df_callB (crK rSortC rfl (cr_sortC rfl hr)) (cf_sortC (K := K)) (by rfl) T.n_sorted (by decide +kernel) (da_cons (d_var (i := 0)) da_nil)))) (dg_name (j := 3) sc__law_lines.nd rfl (by first | exact Or.inl rfl | exact Or.inr rfl)) (dss_one (ds_if (DW.dt (dw_and (dt_cmpPkR (i := 1) (opK rNotInB rfl (op_notInB (hu65 hr))) oh_notIn (d_var (i := 3)) (by rfl)) (dw_and1 (dt_cmp (opK rEqA rfl (op_eqA (hu64 hr))) (od_eq (K := K)) (d_share (d_lc (own := [("_law_base", 4)]) rfl sc__law_lines.nd (di_any rfl (d_ix (ixK rIxA rfl (ix_any (hu1 hr))) (od_ixA (K := K)) (d_var (i := 0)) (d_var (i := 3)) (fun _ _ => rfl))) (blkOk_by (own := [("_law_base", 4)]) (by kernel_rfl)) (fun _ _ _ _ _ => (dg_name (j := 4) sc__law_lines.nd rfl (by first | exact Or.inl rfl | exact Or.inr rfl))) (fun _ _ _ _ _ => (dts_one (dt_cmpPkR (i := 1) (opK rNotInB rfl (op_notInB (hu65 hr))) oh_notIn (d_var (i := 4)) (by rfl)))) (fun _ _ _ _ _ => (d_var (i := 4))) (by decide))) (d_share (d_lst da_nil)) (nomark _))))) (dss_cons (ds_set (j := 5) sc__law_lines.nd rfl (by first | exact Or.inl rfl | exact Or.inr rfl) (d_callPK rfl (ok__law_merge T) (hr.mono (by decide)) (by rfl) T.g__law_merge T.F__law_merge.kp T.b__law_merge .nil (fun _ => .nil) pass0 (da_cons (d_op (opK rAddB rfl op_addB) (od_addB (K := K)) (d_share (d_lc (own := [("_law_base", 4)]) rfl sc__law_lines.nd (di_any rfl (d_ix (ixK rIxA rfl (ix_any (hu1 hr))) (od_ixA (K := K)) (d_var (i := 0)) (d_var (i := 3)) (fun _ _ => rfl))) (blkOk_by (own := [("_law_base", 4)]) (by kernel_rfl)) (fun _ _ _ _ _ => (dg_name (j := 4) sc__law_lines.nd rfl (by first | exact Or.inl rfl | exact Or.inr rfl))) (fun _ _ _ _ _ => dts_nil) (fun _ _ _ _ _ => (d_share (df_callTy (crK rListB rfl (cr_listB rfl)) (cf_listB (K := K)) (by rfl) T.n_list (by decide +kernel) (da_cons (d_pkIx (i := 1) rfl (hu1 hr) (d_var (i := 4)) (fun _ _ => rfl)) da_nil)))) (by decide))) (d_share (d_lst (da_cons (d_share (df_callTy (crK rListB rfl (cr_listB rfl)) (cf_listB (K := K)) (by rfl) T.n_list (by decide +kernel) (da_cons (d_ix (ixK rIxA rfl (ix_any (hu1 hr))) (od_ixA (K := K)) (d_var (i := 0)) (d_var (i := 3)) (fun _ _ => rfl)) da_nil))) da_nil)))) da_nil)))
      (dss_one (ds_if (dt_cmp op_notN (od_notN (K := K)) (d_var (i := 5)) d_non (nomark _)) (dss_one (ds_put (i := 1) (hu1 hr) (d_var (i := 3)) (d_op (opK rAddB rfl op_addB) (od_addB (K := K)) (d_tup (da_cons (d_var (i := 3)) da_nil)) (d_var (i := 5))))) dss_nil))) dss_nil)))))
      (dss_one (ds_ret (d_var (i := 1)))))), fun ds Q h => rdl__law_lines h⟩
theorem ok__law_lines_bor (T : Txt K mg) : FnOk P w K mg base CX0 2 T.a__law_lines T.fd__law_lines ["_law_bases"] (spB Vol.no K [true] F__law_lines) := by
  refine fn_b Vol.no [true] T.F__law_lines sc__law_lines (fun ds Q h => len__law_lines h) (fun cdv A outer s H E W hJ hr => ?_)
  exact ⟨_, rd__law_lines_bor, (dss_cons (ds_setOwn (j := 1) sc__law_lines.nd rfl (by first | exact Or.inl rfl | exact Or.inr rfl) df_dic0)
      (dss_cons (ds_for PassesOwn.never rfl (di_range (by rfl) T.n_range (da_cons (d_pkLen (i := 0) rfl (by rfl) T.n_len) da_nil)) (dg_name (j := 2) sc__law_lines.nd rfl (by first | exact Or.inl rfl | exact Or.inr rfl)) (dss_one (ds_for PassesOwn.never rfl (di_any rfl (d_share (df_pkB (i := 0) (crK rSortC rfl (cr_sortC rfl hr)) (cp_sortC (K := K)) (by rfl) T.n_sorted (by decide +kernel)))) (dg_name (j := 3) sc__law_lines.nd rfl (by first | exact Or.inl rfl | exact Or.inr rfl)) (dss_one (ds_if (DW.dt (dw_and (dt_cmpPkR (i := 1) (opK rNotInB rfl (op_notInB (hu65 hr))) oh_notIn (d_var (i := 3)) (by rfl)) (dw_and1 (dt_cmp (opK rEqA rfl (op_eqA (hu64 hr))) (od_eq (K := K)) (d_share (d_lc (own := [("_law_base", 4)]) rfl sc__law_lines.nd (di_any rfl (d_pkIx (i := 0) rfl (hu1 hr) (d_var (i := 3)) (fun _ _ => rfl))) (blkOk_by (own := [("_law_base", 4)]) (by kernel_rfl)) (fun _ _ _ _ _ => (dg_name (j := 4) sc__law_lines.nd rfl (by first | exact Or.inl rfl | exact Or.inr rfl))) (fun _ _ _ _ _ => (dts_one (dt_cmpPkR (i := 1) (opK rNotInB rfl (op_notInB (hu65 hr))) oh_notIn (d_var (i := 4)) (by rfl)))) (fun _ _ _ _ _ => (d_var (i := 4))) (by decide))) (d_share (d_lst da_nil)) (nomark _))))) (dss_cons (ds_set (j := 5) sc__law_lines.nd rfl (by first | exact Or.inl rfl | exact Or.inr rfl) (d_callPK rfl (ok__law_merge T) (hr.mono (by decide)) (by rfl) T.g__law_merge T.F__law_merge.kp T.b__law_merge .nil (fun _ => .nil) pass0 (da_cons (d_op (opK rAddB rfl op_addB) (od_addB (K := K)) (d_share (d_lc (own := [("_law_base", 4)]) rfl sc__law_lines.nd (di_any rfl (d_pkIx (i := 0) rfl (hu1 hr) (d_var (i := 3)) (fun _ _ => rfl))) (blkOk_by (own := [("_law_base", 4)]) (by kernel_rfl)) (fun _ _ _ _ _ => (dg_name (j := 4) sc__law_lines.nd rfl (by first | exact Or.inl rfl | exact Or.inr rfl))) (fun _ _ _ _ _ => dts_nil) (fun _ _ _ _ _ => (d_share (df_callTy (crK rListB rfl (cr_listB rfl)) (cf_listB (K := K)) (by rfl) T.n_list (by decide +kernel) (da_cons (d_pkIx (i := 1) rfl (hu1 hr) (d_var (i := 4)) (fun _ _ => rfl)) da_nil)))) (by decide))) (d_share (d_lst (da_cons (d_share (df_callTy (crK rListB rfl (cr_listB rfl)) (cf_listB (K := K)) (by rfl) T.n_list (by decide +kernel) (da_cons (d_pkIx (i := 0) rfl (hu1 hr) (d_var (i := 3)) (fun _ _ => rfl)) da_nil))) da_nil)))) da_nil)))
      (dss_one (ds_if (dt_cmp op_notN (od_notN (K := K)) (d_var (i := 5)) d_non (nomark _)) (dss_one (ds_put (i := 1) (hu1 hr) (d_var (i := 3)) (d_op (opK rAddB rfl op_addB) (od_addB (K := K)) (d_tup (da_cons (d_var (i := 3)) da_nil)) (d_var (i := 5))))) dss_nil))) dss_nil)))))
      (dss_one (ds_ret (d_var (i := 1)))))), fun ds Q h => rdl__law_lines_bor h⟩
theorem ok_orders_of (T : Txt K mg) : FnOk P w K mg base CX0 3 T.a_orders_of T.fd_orders_of ["bases"] (spD Vol.no K F_orders_of) := by
  refine fn_d Vol.no T.F_orders_of sc_orders_of (fun ds Q h => len_orders_of h) (fun cdv A outer s H E W hJ hr => ?_)
  exact ⟨_, rd_orders_of, (dss_cons (ds_tupO (n := 0) (is := [1, 2, 3]) (bs := [true, false, false]) rfl (dao_own df_dic0 (dao_dat (d_share (df_callTy (crK rListB rfl (cr_listB rfl)) (cf_listB (K := K)) (by rfl) T.n_list (by decide +kernel) (da_cons (d_var (i := 0)) da_nil))) (dao_dat d_bl dao_nil))) (pgs_cons (pg_name (i := 1) sc_orders_of.nd rfl (by first | exact Or.inl rfl | exact Or.inr rfl)) (pgs_cons (pg_name (i := 2) sc_orders_of.nd rfl (by first | exact Or.inl rfl | exact Or.inr rfl)) (pgs_cons (pg_name (i := 3) sc_orders_of.nd rfl (by first | exact Or.inl rfl | exact Or.inr rfl)) pgs_nil))) (.cons (.cons (.cons .nil))) rfl (by decide))
      (dss_cons (ds_while PassesOwn.never (dt_not (dt_val (d_var (i := 3)))) (dss_cons (ds_set (j := 4) sc_orders_of.nd rfl (by first | exact Or.inl rfl | exact Or.inr rfl) (d_share (d_lc (own := [("name", 5)]) rfl sc_orders_of.nd (di_any rfl (d_var (i := 2))) (blkOk_by (own := [("name", 5)]) (by kernel_rfl)) (fun _ _ _ _ _ => (dg_name (j := 5) sc_orders_of.nd rfl (by first | exact Or.inl rfl | exact Or.inr rfl))) (fun _ _ _ _ _ => (dts_one (dt_val (d_callB (crK rAll rfl (cr_all rfl)) (cd_all (K := K)) (by rfl) T.n_all (by decide +kernel) (da_cons (d_share (d_lc (own := [("base", 6)]) rfl sc_orders_of.nd (di_any rfl (d_ix (ixK rIxA rfl (ix_any (hu1 hr))) (od_ixA (K := K)) (d_var (i := 0)) (d_var (i := 5)) (fun _ _ => rfl))) (blkOk_by (own := [("base", 6)]) (by kernel_rfl)) (fun _ _ _ _ _ => (dg_name (j := 6) sc_orders_of.nd rfl (by first | exact Or.inl rfl | exact Or.inr rfl))) (fun _ _ _ _ _ => dts_nil) (fun _ _ _ _ _ => (d_cmpPkR (i := 1) (opK rInB rfl (op_inB (hu65 hr))) oh_in (d_var (i := 6)) (by rfl))) (by decide))) da_nil))))) (fun _ _ _ _ _ => (d_var (i := 5))) (by decide))))
      (dss_cons (ds_setLcD (own := [("name", 5)]) (j := 2) rfl sc_orders_of.nd rfl rfl (sw_true rfl rfl rfl (by decide +kernel)) (di_any rfl (d_var (i := 2))) (blkOk_by (own := [("name", 5)]) (by kernel_rfl)) (fun _ _ _ _ _ => (dg_name (j := 5) sc_orders_of.nd rfl (by first | exact Or.inl rfl | exact Or.inr rfl))) (fun _ _ _ _ _ => (dts_one (dt_cmp (opK rNotInB rfl (op_notInB (hu65 hr))) (od_notInB (K := K)) (d_var (i := 5)) (d_var (i := 4)) (by rfl)))) (fun _ _ _ _ _ => (d_var (i := 5))) (by decide))
      (dss_cons (ds_set (j := 3) sc_orders_of.nd rfl (by first | exact Or.inl rfl | exact Or.inr rfl) (d_cmp (opK rEqA rfl (op_eqA (hu64 hr))) (od_eq (K := K)) (d_var (i := 4)) (d_share (d_lst da_nil)) (nomark _)))
      (dss_one (ds_for PassesOwn.never rfl (di_any rfl (d_var (i := 4))) (dg_name (j := 5) sc_orders_of.nd rfl (by first | exact Or.inl rfl | exact Or.inr rfl)) (dss_cons (ds_set (j := 7) sc_orders_of.nd rfl (by first | exact Or.inl rfl | exact Or.inr rfl) (d_callPK rfl (ok_merged T) (hr.mono (by decide)) (by rfl) T.g_merged T.F_merged.kp T.b_merged .nil (fun _ => .nil) pass0 (da_cons (d_op (opK rAddB rfl op_addB) (od_addB (K := K)) (d_share (d_lc (own := [("base", 6)]) rfl sc_orders_of.nd (di_any rfl (d_ix (ixK rIxA rfl (ix_any (hu1 hr))) (od_ixA (K := K)) (d_var (i := 0)) (d_var (i := 5)) (fun _ _ => rfl))) (blkOk_by (own := [("base", 6)]) (by kernel_rfl)) (fun _ _ _ _ _ => (dg_name (j := 6) sc_orders_of.nd rfl (by first | exact Or.inl rfl | exact Or.inr rfl))) (fun _ _ _ _ _ => dts_nil) (fun _ _ _ _ _ => (d_pkIx (i := 1) rfl (hu1 hr) (d_var (i := 6)) (fun _ _ => rfl))) (by decide))) (d_share (d_lst (da_cons (d_ix (ixK rIxA rfl (ix_any (hu1 hr))) (od_ixA (K := K)) (d_var (i := 0)) (d_var (i := 5)) (fun _ _ => rfl)) da_nil)))) da_nil)))
      (dss_one (ds_if (dt_cmp op_notN (od_notN (K := K)) (d_var (i := 7)) d_non (nomark _)) (dss_one (ds_put (i := 1) (hu1 hr) (d_var (i := 5)) (d_op (opK rAddB rfl op_addB) (od_addB (K := K)) (d_tup (da_cons (d_var (i := 5)) da_nil)) (d_var (i := 7))))) dss_nil)))))))))
      (dss_one (ds_ret (d_var (i := 1)))))), fun ds Q h => rdl_orders_of h⟩
theorem ok_Table_bases (T : Txt K mg) : FnOk P w K mg base CX0 3 T.a_Table_bases T.fd_Table_bases ["self", "name"] (spD Vol.no K F_Table_bases) := by
  refine fn_d Vol.no T.F_Table_bases sc_Table_bases (fun ds Q h => len_Table_bases h) (fun cdv A outer s H E W hJ hr => ?_)
  exact ⟨_, rd_Table_bases, (dss_cons (ds_expr (d_callPK rfl (ok_need_class T) (hr.mono (by decide)) (by rfl) T.g_need_class T.F_need_class.kp T.b_need_class .nil (fun _ => .nil) pass0 (da_cons (d_var (i := 0)) (da_cons (d_var (i := 1)) da_nil))))
      (dss_one (ds_ret (d_ix (ixK rIxA rfl (ix_any (hu1 hr))) (od_ixA (K := K)) (d_fld rfl T.cn_Table T.cl_Table T.na_Table_own_bases (d_var (i := 0))) (d_var (i := 1)) (fun _ _ => rfl))))), fun ds Q h => rdl_Table_bases h⟩
theorem ok_Table_order (T : Txt K mg) : FnOk P w K mg base CX0 3 T.a_Table_order T.fd_Table_order ["self", "name"] (spD Vol.no K F_Table_order) := by
  refine fn_d Vol.no T.F_Table_order sc_Table_order (fun ds Q h => len_Table_order h) (fun cdv A outer s H E W hJ hr => ?_)
  exact ⟨_, rd_Table_order, (dss_cons (ds_expr (d_callPK rfl (ok_need_class T) (hr.mono (by decide)) (by rfl) T.g_need_class T.F_need_class.kp T.b_need_class .nil (fun _ => .nil) pass0 (da_cons (d_var (i := 0)) (da_cons (d_var (i := 1)) da_nil))))
      (dss_one (ds_ret (d_ix (ixK rIxA rfl (ix_any (hu1 hr))) (od_ixA (K := K)) (d_fld rfl T.cn_Table T.cl_Table T.na_Table_own_orders (d_var (i := 0))) (d_var (i := 1)) (fun _ _ => rfl))))), fun ds Q h => rdl_Table_order h⟩
theorem ok__law_class_names (T : Txt K mg) (d c : Addr) : FnOk P w K mg base CX0 3 T.a__law_class_names T.fd__law_class_names ["_law_draw", "_law_many"] (spD (drawJ d c) K (F__law_class_names d)) := by
  refine fn_d (drawJ d c) T.F__law_class_names sc__law_class_names (fun ds Q h => len__law_class_names h) (fun cdv A outer s H E W hJ hr => ?_)
  exact ⟨_, rd__law_class_names d, (dss_one (ds_ret (d_slice (slK rCutB rfl sl_allB) (sd_allB (K := K)) (d_callVK rfl (fnV fun d c => ok__law_mixed T d c) hJ (hr.mono (by decide)) (by rfl) T.g__law_mixed T.F__law_mixed.kp T.b__law_mixed .nil (fun _ => .nil) pass0 (da_cons (d_var (i := 0)) (da_cons (d_share (d_lst (da_cons d_str (da_cons d_str (da_cons d_str (da_cons d_str (da_cons d_str (da_cons d_str (da_cons d_str (da_cons d_str (da_cons d_str (da_cons d_str da_nil)))))))))))) da_nil))) do_none (do_some (d_var (i := 1)))))), fun ds Q h => rdl__law_class_names h⟩
theorem ok__law_word_list (T : Txt K mg) (d c : Addr) : FnOk P w K mg base CX0 3 T.a__law_word_list T.fd__law_word_list ["_law_draw", "_law_many"] (spD (drawJ d c) K (F__law_word_list d)) := by
  refine fn_d (drawJ d c) T.F__law_word_list sc__law_word_list (fun ds Q h => len__law_word_list h) (fun cdv A outer s H E W hJ hr => ?_)
  exact ⟨_, rd__law_word_list d, (dss_one (ds_ret (d_slice (slK rCutB rfl sl_allB) (sd_allB (K := K)) (d_callVK rfl (fnV fun d c => ok__law_mixed T d c) hJ (hr.mono (by decide)) (by rfl) T.g__law_mixed T.F__law_mixed.kp T.b__law_mixed .nil (fun _ => .nil) pass0 (da_cons (d_var (i := 0)) (da_cons (d_share (d_lst (da_cons d_str (da_cons d_str (da_cons d_str (da_cons d_str (da_cons d_str (da_cons d_str (da_cons d_str (da_cons d_str da_nil)))))))))) da_nil))) do_none (do_some (d_var (i := 1)))))), fun ds Q h => rdl__law_word_list h⟩
theorem ok__law_model (T : Txt K mg) : FnOk P w K mg base CX0 3 T.a__law_model T.fd__law_model ["_law_bases", "_law_words"] (spD Vol.no K F__law_model) := by
  refine fn_d Vol.no T.F__law_model sc__law_model (fun ds Q h => len__law_model h) (fun cdv A outer s H E W hJ hr => ?_)
  exact ⟨_, rd__law_model, (dss_cons (ds_set (j := 2) sc__law_model.nd rfl (by first | exact Or.inl rfl | exact Or.inr rfl) (d_share (df_callB (crK rSortC rfl (cr_sortC rfl hr)) (cf_sortC (K := K)) (by rfl) T.n_sorted (by decide +kernel) (da_cons (d_var (i := 0)) da_nil))))
      (dss_cons (ds_set (j := 3) sc__law_model.nd rfl (by first | exact Or.inl rfl | exact Or.inr rfl) (d_callPK rfl (ok__law_lines T) (hr.mono (by decide)) (by rfl) T.g__law_lines T.F__law_lines.kp T.b__law_lines .nil (fun _ => .nil) pass0 (da_cons (d_var (i := 0)) da_nil)))
      (dss_cons (ds_setOwn (j := 4) sc__law_model.nd rfl (by first | exact Or.inl rfl | exact Or.inr rfl) (df_disp (dps_cons d_str (d_share (df_callTy (crK rDictP rfl (cr_dictP rfl)) (cf_dictP (K := K)) (by rfl) T.n_dict (by decide +kernel) (da_cons (d_share (d_lc (own := [("_law_who", 5)]) rfl sc__law_model.nd (di_any rfl (d_var (i := 2))) (blkOk_by (own := [("_law_who", 5)]) (by kernel_rfl)) (fun _ _ _ _ _ => (dg_name (j := 5) sc__law_model.nd rfl (by first | exact Or.inl rfl | exact Or.inr rfl))) (fun _ _ _ _ _ => dts_nil) (fun _ _ _ _ _ => (d_tup (da_cons (d_var (i := 5)) (da_cons (d_callTy (crK rTupOf rfl call_tuple_of) (cd_tuple (K := K)) (by rfl) T.n_tuple (by decide +kernel) (da_cons (d_ix (ixK rIxA rfl (ix_any (hu1 hr))) (od_ixA (K := K)) (d_var (i := 0)) (d_var (i := 5)) (fun _ _ => rfl)) da_nil)) da_nil)))) (by decide))) da_nil))) (dps_cons d_str (d_var (i := 3)) dps_nil))))
      (dss_cons (ds_put (i := 4) (hu1 hr) d_str (d_share (df_callTy (crK rDictP rfl (cr_dictP rfl)) (cf_dictP (K := K)) (by rfl) T.n_dict (by decide +kernel) (da_cons (d_share (d_lc (own := [("_law_who", 5)]) rfl sc__law_model.nd (di_any rfl (d_var (i := 2))) (blkOk_by (own := [("_law_who", 5)]) (by kernel_rfl)) (fun _ _ _ _ _ => (dg_name (j := 5) sc__law_model.nd rfl (by first | exact Or.inl rfl | exact Or.inr rfl))) (fun _ _ _ _ _ => dts_nil) (fun _ _ _ _ _ => (d_tup (da_cons (d_var (i := 5)) (da_cons (d_callTy (crK rTupOf rfl call_tuple_of) (cd_tuple (K := K)) (by rfl) T.n_tuple (by decide +kernel) (da_cons (d_share (df_callB (crK rSortC rfl (cr_sortC rfl hr)) (cf_sortC (K := K)) (by rfl) T.n_sorted (by decide +kernel) (da_cons (d_ix (ixK rIxA rfl (ix_any (hu1 hr))) (od_ixA (K := K)) (d_var (i := 1)) (d_var (i := 5)) (fun _ _ => rfl)) da_nil))) da_nil)) da_nil)))) (by decide))) da_nil))))
      (dss_one (ds_ret (d_var (i := 4)))))))), fun ds Q h => rdl__law_model h⟩
theorem ok_Table___init__ (T : Txt K mg) : FnOk P w K mg base CX0 4 T.a_Table___init__ T.fd_Table___init__ ["self", "classes"] (spInit Vol.no K T.c_Table F_Table___init__) := by
  refine fn_init Vol.no T.cn_Table T.F_Table___init__ sc_Table___init__ (fun ds Q h => len_Table___init__ h) (fun cdv A outer s H E W y hJ hr => ?_) (by simp)
  exact ⟨_, rd_Table___init__, (dss_cons (ds_if (DW.dt (dw_or (dt_not (dt_val (d_callB (crK rIsi rfl call_isi) (cd_isi (K := K)) (by rfl) T.n_isinstance (by decide +kernel) (da_cons (d_var (i := 1)) (da_cons (d_bltn (v := .ty "dict") (d := .ty "dict") (u := .type "dict") (by rfl) T.n_dict (by decide +kernel) rfl (fun _ => .ty _)) da_nil))))) (dw_or1 (dt_not (dt_chain op_le od_le op_le od_le d_int (d_callB (crK rLenB rfl cr_lenB) (cd_lenB (K := K)) (by rfl) T.n_len (by decide +kernel) (da_cons (d_var (i := 1)) da_nil)) (d_glob (v := (.int 6)) (d := (.int 6)) (by rfl) T.m_MOST_CLASSES ⟨_, rfl⟩ (fun _ => .int _))))))) (dss_one ds_never) dss_nil)
      (dss_cons (ds_if (dt_not (dt_val (d_callB (crK rAll rfl (cr_all rfl)) (cd_all (K := K)) (by rfl) T.n_all (by decide +kernel) (da_cons (d_share (d_lc (own := [("name", 2)]) rfl sc_Table___init__.nd (di_any rfl (d_var (i := 1))) (blkOk_by (own := [("name", 2)]) (by kernel_rfl)) (fun _ _ _ _ _ => (dg_name (j := 2) sc_Table___init__.nd rfl (by first | exact Or.inl rfl | exact Or.inr rfl))) (fun _ _ _ _ _ => dts_nil) (fun _ _ _ _ _ => (d_callPK rfl (ok_is_class_name T) (hr.mono (by decide)) (by rfl) T.g_is_class_name T.F_is_class_name.kp T.b_is_class_name .nil (fun _ => .nil) pass0 (da_cons (d_var (i := 2)) da_nil))) (by decide))) da_nil)))) (dss_one ds_never) dss_nil)
      (dss_cons (ds_set (j := 3) sc_Table___init__.nd rfl (by first | exact Or.inl rfl | exact Or.inr rfl) (d_share (df_callB (crK rSortC rfl (cr_sortC rfl hr)) (cf_sortC (K := K)) (by rfl) T.n_sorted (by decide +kernel) (da_cons (d_var (i := 1)) da_nil))))
      (dss_cons (ds_for PassesOwn.never rfl (di_any rfl (d_var (i := 3))) (dg_name (j := 2) sc_Table___init__.nd rfl (by first | exact Or.inl rfl | exact Or.inr rfl)) (dss_one (ds_if (dt_not (dt_val (d_callPK rfl (ok_is_pair T) (hr.mono (by decide)) (by rfl) T.g_is_pair T.F_is_pair.kp T.b_is_pair .nil (fun _ => .nil) pass0 (da_cons (d_var (i := 1)) (da_cons (d_var (i := 2)) (da_cons (d_ix (ixK rIxA rfl (ix_any (hu1 hr))) (od_ixA (K := K)) (d_var (i := 1)) (d_var (i := 2)) (fun _ _ => rfl)) da_nil)))))) (dss_one ds_never) dss_nil)))
      (dss_cons (ds_putF (i := 0) rfl T.cn_Table T.cl_Table T.na_Table_own_bases (d_share (df_dc (own := [("name", 2)]) rfl sc_Table___init__.nd (di_any rfl (d_var (i := 3))) (blkOk_by (own := [("name", 2)]) (by kernel_rfl)) (fun _ _ _ _ _ => (dg_name (j := 2) sc_Table___init__.nd rfl (by first | exact Or.inl rfl | exact Or.inr rfl))) (fun _ _ _ _ _ => dts_nil) (fun _ _ _ _ _ => (d_var (i := 2))) (fun _ _ _ _ _ => (d_ix (ixK rIxA rfl (ix_any (hu1 hr))) (od_ixA (K := K)) (d_ix (ixK rIxA rfl (ix_any (hu1 hr))) (od_ixA (K := K)) (d_var (i := 1)) (d_var (i := 2)) (fun _ _ => rfl)) d_int (fun _ _ => rfl))) (by decide))))
      (dss_cons (ds_putF (i := 0) rfl T.cn_Table T.cl_Table T.na_Table_own_words (d_share (df_dc (own := [("name", 2)]) rfl sc_Table___init__.nd (di_any rfl (d_var (i := 3))) (blkOk_by (own := [("name", 2)]) (by kernel_rfl)) (fun _ _ _ _ _ => (dg_name (j := 2) sc_Table___init__.nd rfl (by first | exact Or.inl rfl | exact Or.inr rfl))) (fun _ _ _ _ _ => dts_nil) (fun _ _ _ _ _ => (d_var (i := 2))) (fun _ _ _ _ _ => (d_callTy (crK rTupOf rfl call_tuple_of) (cd_tuple (K := K)) (by rfl) T.n_tuple (by decide +kernel) (da_cons (d_share (df_callB (crK rSortC rfl (cr_sortC rfl hr)) (cf_sortC (K := K)) (by rfl) T.n_sorted (by decide +kernel) (da_cons (d_ix (ixK rIxA rfl (ix_any (hu1 hr))) (od_ixA (K := K)) (d_ix (ixK rIxA rfl (ix_any (hu1 hr))) (od_ixA (K := K)) (d_var (i := 1)) (d_var (i := 2)) (fun _ _ => rfl)) d_int (fun _ _ => rfl)) da_nil))) da_nil))) (by decide))))
      (dss_cons (ds_putF (i := 0) rfl T.cn_Table T.cl_Table T.na_Table_own_orders (d_callPK rfl (ok_orders_of T) (hr.mono (by decide)) (by rfl) T.g_orders_of T.F_orders_of.kp T.b_orders_of .nil (fun _ => .nil) pass0 (da_cons (d_pkFld (i := 0) rfl T.cn_Table T.cl_Table T.na_Table_own_bases) da_nil)))
      (dss_one (ds_for PassesOwn.never rfl (di_any rfl (d_var (i := 3))) (dg_name (j := 2) sc_Table___init__.nd rfl (by first | exact Or.inl rfl | exact Or.inr rfl)) (dss_one (ds_if (dt_cmp (opK rNotInB rfl (op_notInB (hu65 hr))) (od_notInB (K := K)) (d_var (i := 2)) (d_pkFld (i := 0) rfl T.cn_Table T.cl_Table T.na_Table_own_orders) (by rfl)) (dss_one ds_never) dss_nil))))))))))), fun ds Q h => rdl_Table___init__ h⟩
theorem ok_Table_is_deed (T : Txt K mg) : FnOk P w K mg base CX0 4 T.a_Table_is_deed T.fd_Table_is_deed ["self", "value"] (spD Vol.no K F_Table_is_deed) := by
  refine fn_d Vol.no T.F_Table_is_deed sc_Table_is_deed (fun ds Q h => len_Table_is_deed h) (fun cdv A outer s H E W hJ hr => ?_)
  exact ⟨_, rd_Table_is_deed, (dss_cons (ds_if (DW.dt (dw_or (dt_not (dt_val (d_callB (crK rIsi rfl call_isi) (cd_isi (K := K)) (by rfl) T.n_isinstance (by decide +kernel) (da_cons (d_var (i := 1)) (da_cons (d_bltn (v := .ty "tuple") (d := .ty "tuple") (u := .type "tuple") (by rfl) T.n_tuple (by decide +kernel) rfl (fun _ => .ty _)) da_nil))))) (dw_or (dt_cmp (opK rNeA rfl (op_neA (hu64 hr))) (od_ne (K := K)) (d_callB (crK rLenB rfl cr_lenB) (cd_lenB (K := K)) (by rfl) T.n_len (by decide +kernel) (da_cons (d_var (i := 1)) da_nil)) d_int (nomark _)) (dw_or (dt_not (dt_val (d_callB (crK rIsi rfl call_isi) (cd_isi (K := K)) (by rfl) T.n_isinstance (by decide +kernel) (da_cons (d_ix (ixK rIxA rfl (ix_any (hu1 hr))) (od_ixA (K := K)) (d_var (i := 1)) d_int (fun _ _ => rfl)) (da_cons (d_bltn (v := .ty "str") (d := .ty "str") (u := .type "str") (by rfl) T.n_str (by decide +kernel) rfl (fun _ => .ty _)) da_nil))))) (dw_or1 (dt_cmp (op_ownNotIn (VL.FnOk.r0 (ok_Table___contains__ T) T.b_Table___contains__) (hr.mono (by decide)) pass0 T.du_Table___contains__) (od_ownIn T.cn_Table true) (d_ix (ixK rIxA rfl (ix_any (hu1 hr))) (od_ixA (K := K)) (d_var (i := 1)) d_int (fun _ _ => rfl)) (d_var (i := 0)) (by rfl))))))) (dss_one (ds_ret d_bl)) dss_nil)
      (dss_cons (ds_asg (d_var (i := 1)) (dg_tupK rfl rfl (dgs_cons (dg_name (j := 2) sc_Table_is_deed.nd rfl (by first | exact Or.inl rfl | exact Or.inr rfl)) (dgs_cons (dg_name (j := 3) sc_Table_is_deed.nd rfl (by first | exact Or.inl rfl | exact Or.inr rfl)) (dgs_cons (dg_name (j := 4) sc_Table_is_deed.nd rfl (by first | exact Or.inl rfl | exact Or.inr rfl)) dgs_nil)))))
      (dss_cons (ds_if (dt_cmp (opK rEqA rfl (op_eqA (hu64 hr))) (od_eq (K := K)) (d_var (i := 2)) d_str (nomark _)) (dss_one (ds_ret (d_and (d_callPK rfl (ok_is_word T) (hr.mono (by decide)) (by rfl) T.g_is_word T.F_is_word.kp T.b_is_word .nil (fun _ => .nil) pass0 (da_cons (d_var (i := 4)) da_nil)) (d_one (d_or (d_cmp (opK rInB rfl (op_inB (hu65 hr))) (od_inB (K := K)) (d_var (i := 4)) (d_ix (ixK rIxA rfl (ix_any (hu1 hr))) (od_ixA (K := K)) (d_fld rfl T.cn_Table T.cl_Table T.na_Table_own_words (d_var (i := 0))) (d_var (i := 3)) (fun _ _ => rfl)) (by rfl)) (d_one (d_cmp op_lt od_lt (d_callB (crK rLenB rfl cr_lenB) (cd_lenB (K := K)) (by rfl) T.n_len (by decide +kernel) (da_cons (d_ix (ixK rIxA rfl (ix_any (hu1 hr))) (od_ixA (K := K)) (d_fld rfl T.cn_Table T.cl_Table T.na_Table_own_words (d_var (i := 0))) (d_var (i := 3)) (fun _ _ => rfl)) da_nil)) (d_glob (v := (.int 4)) (d := (.int 4)) (by rfl) T.m_MOST_WORDS ⟨_, rfl⟩ (fun _ => .int _)) (nomark _)))))))) dss_nil)
      (dss_cons (ds_if (dt_cmp (opK rEqA rfl (op_eqA (hu64 hr))) (od_eq (K := K)) (d_var (i := 2)) d_str (nomark _)) (dss_one (ds_ret (d_and (d_callPK rfl (ok_is_word T) (hr.mono (by decide)) (by rfl) T.g_is_word T.F_is_word.kp T.b_is_word .nil (fun _ => .nil) pass0 (da_cons (d_var (i := 4)) da_nil)) (d_one (d_cmp (opK rInB rfl (op_inB (hu65 hr))) (od_inB (K := K)) (d_var (i := 4)) (d_ix (ixK rIxA rfl (ix_any (hu1 hr))) (od_ixA (K := K)) (d_fld rfl T.cn_Table T.cl_Table T.na_Table_own_words (d_var (i := 0))) (d_var (i := 3)) (fun _ _ => rfl)) (by rfl)))))) dss_nil)
      (dss_cons (ds_if (DW.dt (dw_or (dt_cmp (opK rNeA rfl (op_neA (hu64 hr))) (od_ne (K := K)) (d_var (i := 2)) d_str (nomark _)) (dw_or1 (dt_not (dt_val (d_callPK rfl (ok_are_bases T) (hr.mono (by decide)) (by rfl) T.g_are_bases T.F_are_bases.kp T.b_are_bases .nil (fun _ => .nil) pass0 (da_cons (d_fld rfl T.cn_Table T.cl_Table T.na_Table_own_bases (d_var (i := 0))) (da_cons (d_var (i := 3)) (da_cons (d_var (i := 4)) da_nil))))))))) (dss_one (ds_ret d_bl)) dss_nil)
      (dss_one (ds_ret (d_cmp (opK rEqA rfl (op_eqA (hu64 hr))) (od_eq (K := K)) (d_callB (crK rLenB rfl cr_lenB) (cd_lenB (K := K)) (by rfl) T.n_len (by decide +kernel) (da_cons (d_callPK rfl (ok_orders_of T) (hr.mono (by decide)) (by rfl) T.g_orders_of T.F_orders_of.kp T.b_orders_of .nil (fun _ => .nil) pass0 (da_cons (d_share (df_up (d_fld rfl T.cn_Table T.cl_Table T.na_Table_own_bases (d_var (i := 0))) (d_var (i := 3)) (d_var (i := 4)))) da_nil)) da_nil)) (d_callB (crK rLenB rfl cr_lenB) (cd_lenB (K := K)) (by rfl) T.n_len (by decide +kernel) (da_cons (d_fld rfl T.cn_Table T.cl_Table T.na_Table_own_bases (d_var (i := 0))) da_nil)) (nomark _))))))))), fun ds Q h => rdl_Table_is_deed h⟩
theorem ok__law_table (T : Txt K mg) (d c : Addr) : FnOk P w K mg base CX0 4 T.a__law_table T.fd__law_table ["_law_draw", "_law_upto"] (spD (drawJ d c) K (F__law_table d)) := by
  refine fn_d (drawJ d c) T.F__law_table sc__law_table (fun ds Q h => len__law_table h) (fun cdv A outer s H E W hJ hr => ?_)
  exact ⟨_, rd__law_table d, (dss_cons (ds_par (i := 2) (j := 3) rfl sc__law_table.nd rfl rfl (by decide) rfl rfl (da_cons (d_callVK rfl (fnV fun d c => ok__law_class_names T d c) hJ (hr.mono (by decide)) (by rfl) T.g__law_class_names T.F__law_class_names.kp T.b__law_class_names .nil (fun _ => .nil) pass0 (da_cons (d_var (i := 0)) (da_cons (d_op (opK rAddB rfl op_addB) (od_addB (K := K)) d_int (d_callVK rfl (fnV fun d c => ok__law_take T d c) hJ (hr.mono (by decide)) (by rfl) T.g__law_take T.F__law_take.kp T.b__law_take .nil (fun _ => .nil) pass0 (da_cons (d_var (i := 0)) (da_cons (d_var (i := 1)) da_nil)))) da_nil))) (da_cons (d_callVK rfl (fnV fun d c => ok__law_word_list T d c) hJ (hr.mono (by decide)) (by rfl) T.g__law_word_list T.F__law_word_list.kp T.b__law_word_list .nil (fun _ => .nil) pass0 (da_cons (d_var (i := 0)) (da_cons (d_op (opK rAddB rfl op_addB) (od_addB (K := K)) d_int (d_callVK rfl (fnV fun d c => ok__law_take T d c) hJ (hr.mono (by decide)) (by rfl) T.g__law_take T.F__law_take.kp T.b__law_take .nil (fun _ => .nil) pass0 (da_cons (d_var (i := 0)) (da_cons d_int da_nil)))) da_nil))) da_nil)) (by rfl))
      (dss_cons (ds_parOO (i := 4) (j := 5) rfl sc__law_table.nd rfl rfl (by decide) rfl rfl df_dic0 df_dic0 (by rfl))
      (dss_cons (ds_for PassesOwn.never rfl (di_range (by rfl) T.n_range (da_cons (d_callB (crK rLenB rfl cr_lenB) (cd_lenB (K := K)) (by rfl) T.n_len (by decide +kernel) (da_cons (d_var (i := 2)) da_nil)) da_nil)) (dg_name (j := 6) sc__law_table.nd rfl (by first | exact Or.inl rfl | exact Or.inr rfl)) (dss_cons (ds_set (j := 7) sc__law_table.nd rfl (by first | exact Or.inl rfl | exact Or.inr rfl) (d_ix (ixK rIxA rfl (ix_any (hu1 hr))) (od_ixA (K := K)) (d_var (i := 2)) (d_var (i := 6)) (fun _ _ => rfl)))
      (dss_cons (ds_put (i := 4) (hu1 hr) (d_var (i := 7)) (d_callTy (crK rTupOf rfl call_tuple_of) (cd_tuple (K := K)) (by rfl) T.n_tuple (by decide +kernel) (da_cons (d_slice (slK rCutB rfl sl_allB) (sd_allB (K := K)) (d_callVK rfl (fnV fun d c => ok__law_mixed T d c) hJ (hr.mono (by decide)) (by rfl) T.g__law_mixed T.F__law_mixed.kp T.b__law_mixed .nil (fun _ => .nil) pass0 (da_cons (d_var (i := 0)) (da_cons (d_slice (slK rCutB rfl sl_allB) (sd_allB (K := K)) (d_var (i := 2)) do_none (do_some (d_var (i := 6)))) da_nil))) do_none (do_some (d_callVK rfl (fnV fun d c => ok__law_pick T d c) hJ (hr.mono (by decide)) (by rfl) T.g__law_pick T.F__law_pick.kp T.b__law_pick .nil (fun _ => .nil) pass0 (da_cons (d_var (i := 0)) (da_cons (d_share (d_lst (da_cons d_int (da_cons d_int (da_cons d_int (da_cons d_int (da_cons d_int (da_cons d_int da_nil)))))))) da_nil))))) da_nil)))
      (dss_cons (ds_while PassesOwn.never (dt_cmp (opK rNotInB rfl (op_notInB (hu65 hr))) (od_notInB (K := K)) (d_var (i := 7)) (d_callB2 rfl (ok__law_lines_bor T) (hr.mono (by decide)) (by rfl) T.g__law_lines T.F__law_lines.kp T.b__law_lines pass0 (db_bor (i := 4) db_nil)) (by rfl)) (dss_one (ds_put (i := 4) (hu1 hr) (d_var (i := 7)) (d_slice (slK rCutB rfl sl_allB) (sd_allB (K := K)) (d_pkIx (i := 4) rfl (hu1 hr) (d_var (i := 7)) (fun _ _ => rfl)) do_none (do_some (d_neg d_int))))))
      (dss_cons (ds_set (j := 8) sc__law_table.nd rfl (by first | exact Or.inl rfl | exact Or.inr rfl) (d_callVK rfl (fnV fun d c => ok__law_pick T d c) hJ (hr.mono (by decide)) (by rfl) T.g__law_pick T.F__law_pick.kp T.b__law_pick .nil (fun _ => .nil) pass0 (da_cons (d_var (i := 0)) (da_cons (d_share (d_lst (da_cons d_int (da_cons d_int (da_cons d_int (da_cons d_int da_nil)))))) da_nil))))
      (dss_one (ds_put (i := 5) (hu1 hr) (d_var (i := 7)) (d_share (d_lc (own := [("_law_term", 9)]) rfl sc__law_table.nd (di_any rfl (d_var (i := 3))) (blkOk_by (own := [("_law_term", 9)]) (by kernel_rfl)) (fun _ _ _ _ _ => (dg_name (j := 9) sc__law_table.nd rfl (by first | exact Or.inl rfl | exact Or.inr rfl))) (fun _ _ _ _ _ => (dts_one (dt_cmp (opK rEqA rfl (op_eqA (hu64 hr))) (od_eq (K := K)) (d_callVK rfl (fnV fun d c => ok__law_take T d c) hJ (hr.mono (by decide)) (by rfl) T.g__law_take T.F__law_take.kp T.b__law_take .nil (fun _ => .nil) pass0 (da_cons (d_var (i := 0)) (da_cons (d_var (i := 8)) da_nil))) d_int (nomark _)))) (fun _ _ _ _ _ => (d_var (i := 9))) (by decide))))))))))
      (dss_one (ds_ret (d_callPK rfl (ok__law_model T) (hr.mono (by decide)) (by rfl) T.g__law_model T.F__law_model.kp T.b__law_model .nil (fun _ => .nil) pass0 (da_cons (d_var (i := 4)) (da_cons (d_var (i := 5)) da_nil)))))))), fun ds Q h => rdl__law_table h⟩
theorem ok__law_orders_right (T : Txt K mg) : FnOk P w K mg base CX0 4 T.a__law_orders_right T.fd__law_orders_right ["_law_side"] (spD Vol.no K F__law_orders_right) := by
  refine fn_d Vol.no T.F__law_orders_right sc__law_orders_right (fun ds Q h => len__law_orders_right h) (fun cdv A outer s H E W hJ hr => ?_)
  exact ⟨_, rd__law_orders_right, (dss_cons (ds_for PassesOwn.never rfl (di_any rfl (d_meth rfl T.cn_Table (fun _ => .nil) (fun po pa => pe_meth0 po T.cl_Table T.me_Table_names (ok_Table_names T) (hr.mono (by decide)) T.b_Table_names .nil pass0) (d_var (i := 0)) da_nil)) (dg_name (j := 1) sc__law_orders_right.nd rfl (by first | exact Or.inl rfl | exact Or.inr rfl)) (dss_cons (ds_set (j := 2) sc__law_orders_right.nd rfl (by first | exact Or.inl rfl | exact Or.inr rfl) (d_meth rfl T.cn_Table (fun _ => .nil) (fun po pa => pe_meth po T.cl_Table T.me_Table_order (ok_Table_order T) (hr.mono (by decide)) T.b_Table_order .nil pass0 pa) (d_var (i := 0)) (da_cons (d_var (i := 1)) da_nil)))
      (dss_cons (ds_if (DW.dt (dw_or (dt_cmp (opK rNeA rfl (op_neA (hu64 hr))) (od_ne (K := K)) (d_ix (ixK rIxA rfl (ix_any (hu1 hr))) (od_ixA (K := K)) (d_var (i := 2)) d_int (fun _ _ => rfl)) (d_var (i := 1)) (nomark _)) (dw_or (dt_cmp (opK rNeA rfl (op_neA (hu64 hr))) (od_ne (K := K)) (d_lenSet rfl rfl (by rfl) T.n_len (by rfl) T.n_set (d_var (i := 2))) (d_callB (crK rLenB rfl cr_lenB) (cd_lenB (K := K)) (by rfl) T.n_len (by decide +kernel) (da_cons (d_var (i := 2)) da_nil)) (nomark _)) (dw_or1 (dt_not (dt_val (d_callPK rfl (ok__law_kept T) (hr.mono (by decide)) (by rfl) T.g__law_kept T.F__law_kept.kp T.b__law_kept .nil (fun _ => .nil) pass0 (da_cons (d_meth rfl T.cn_Table (fun _ => .nil) (fun po pa => pe_meth po T.cl_Table T.me_Table_bases (ok_Table_bases T) (hr.mono (by decide)) T.b_Table_bases .nil pass0 pa) (d_var (i := 0)) (da_cons (d_var (i := 1)) da_nil)) (da_cons (d_slice (slK rCutB rfl sl_allB) (sd_allB (K := K)) (d_var (i := 2)) (do_some d_int) do_none) da_nil))))))))) (dss_one (ds_ret d_bl)) dss_nil)
      (dss_cons (ds_for PassesOwn.never rfl (di_any rfl (d_var (i := 2))) (dg_name (j := 3) sc__law_orders_right.nd rfl (by first | exact Or.inl rfl | exact Or.inr rfl)) (dss_one (ds_if (dt_not (dt_val (d_callPK rfl (ok__law_kept T) (hr.mono (by decide)) (by rfl) T.g__law_kept T.F__law_kept.kp T.b__law_kept .nil (fun _ => .nil) pass0 (da_cons (d_meth rfl T.cn_Table (fun _ => .nil) (fun po pa => pe_meth po T.cl_Table T.me_Table_order (ok_Table_order T) (hr.mono (by decide)) T.b_Table_order .nil pass0 pa) (d_var (i := 0)) (da_cons (d_var (i := 3)) da_nil)) (da_cons (d_var (i := 2)) da_nil))))) (dss_one (ds_ret d_bl)) dss_nil)))
      (dss_cons (ds_set (j := 4) sc__law_orders_right.nd rfl (by first | exact Or.inl rfl | exact Or.inr rfl) (d_callB (crK rSumL rfl (cr_sumL rfl)) (cd_sumL (K := K)) (by rfl) T.n_sum (by decide +kernel) (da_cons (d_share (d_lc (own := [("_law_base", 5)]) rfl sc__law_orders_right.nd (di_any rfl (d_meth rfl T.cn_Table (fun _ => .nil) (fun po pa => pe_meth po T.cl_Table T.me_Table_bases (ok_Table_bases T) (hr.mono (by decide)) T.b_Table_bases .nil pass0 pa) (d_var (i := 0)) (da_cons (d_var (i := 1)) da_nil))) (blkOk_by (own := [("_law_base", 5)]) (by kernel_rfl)) (fun _ _ _ _ _ => (dg_name (j := 5) sc__law_orders_right.nd rfl (by first | exact Or.inl rfl | exact Or.inr rfl))) (fun _ _ _ _ _ => dts_nil) (fun _ _ _ _ _ => (d_share (df_callTy (crK rListB rfl (cr_listB rfl)) (cf_listB (K := K)) (by rfl) T.n_list (by decide +kernel) (da_cons (d_meth rfl T.cn_Table (fun _ => .nil) (fun po pa => pe_meth po T.cl_Table T.me_Table_order (ok_Table_order T) (hr.mono (by decide)) T.b_Table_order .nil pass0 pa) (d_var (i := 0)) (da_cons (d_var (i := 5)) da_nil)) da_nil)))) (by decide))) (da_cons (d_share (d_lst (da_cons (d_var (i := 1)) da_nil))) da_nil))))
      (dss_one (ds_if (dt_cmp (opK rNeA rfl (op_neA (hu64 hr))) (od_ne (K := K)) (d_share (df_sortSet rfl rfl hr (by rfl) T.n_sorted (by decide +kernel) (by rfl) T.n_set (d_var (i := 4)))) (d_share (df_callB (crK rSortC rfl (cr_sortC rfl hr)) (cf_sortC (K := K)) (by rfl) T.n_sorted (by decide +kernel) (da_cons (d_var (i := 2)) da_nil))) (nomark _)) (dss_one (ds_ret d_bl)) dss_nil)))))))
      (dss_one (ds_ret d_bl))), fun ds Q h => rdl__law_orders_right h⟩
theorem ok_Table_done (T : Txt K mg) : FnOk P w K mg base CX0 6 T.a_Table_done T.fd_Table_done ["self", "deed"] (spD Vol.no K F_Table_done) := by
  refine fn_d Vol.no T.F_Table_done sc_Table_done (fun ds Q h => len_Table_done h) (fun cdv A outer s H E W hJ hr => ?_)
  exact ⟨_, rd_Table_done, (dss_cons (ds_if (dt_not (dt_val (d_meth rfl T.cn_Table (fun _ => .nil) (fun po pa => pe_meth po T.cl_Table T.me_Table_is_deed (ok_Table_is_deed T) (hr.mono (by decide)) T.b_Table_is_deed .nil pass0 pa) (d_var (i := 0)) (da_cons (d_var (i := 1)) da_nil)))) (dss_one ds_never) dss_nil)
      (dss_cons (ds_asg (d_var (i := 1)) (dg_tupK rfl rfl (dgs_cons (dg_name (j := 2) sc_Table_done.nd rfl (by first | exact Or.inl rfl | exact Or.inr rfl)) (dgs_cons (dg_name (j := 3) sc_Table_done.nd rfl (by first | exact Or.inl rfl | exact Or.inr rfl)) (dgs_cons (dg_name (j := 4) sc_Table_done.nd rfl (by first | exact Or.inl rfl | exact Or.inr rfl)) dgs_nil)))))
      (dss_cons (ds_setDc (own := [("one", 6)]) (j := 5) rfl sc_Table_done.nd rfl rfl (sw_trueD rfl rfl rfl (by decide +kernel)) (di_any rfl (d_fld rfl T.cn_Table T.cl_Table T.na_Table_own_bases (d_var (i := 0)))) (blkOk_by (own := [("one", 6)]) (by kernel_rfl)) (fun _ _ _ _ _ => (dg_name (j := 6) sc_Table_done.nd rfl (by first | exact Or.inl rfl | exact Or.inr rfl))) (fun _ _ _ _ _ => dts_nil) (fun _ _ _ _ _ => (d_var (i := 6))) (fun _ _ _ _ _ => (d_tup (da_cons (d_ix (ixK rIxA rfl (ix_any (hu1 hr))) (od_ixA (K := K)) (d_fld rfl T.cn_Table T.cl_Table T.na_Table_own_bases (d_var (i := 0))) (d_var (i := 6)) (fun _ _ => rfl)) (da_cons (d_ix (ixK rIxA rfl (ix_any (hu1 hr))) (od_ixA (K := K)) (d_fld rfl T.cn_Table T.cl_Table T.na_Table_own_words (d_var (i := 0))) (d_var (i := 6)) (fun _ _ => rfl)) da_nil)))) (by decide))
      (dss_cons (ds_asg (d_pkIx (i := 5) rfl (hu1 hr) (d_var (i := 3)) (fun _ _ => rfl)) (dg_tupK rfl rfl (dgs_cons (dg_name (j := 7) sc_Table_done.nd rfl (by first | exact Or.inl rfl | exact Or.inr rfl)) (dgs_cons (dg_name (j := 8) sc_Table_done.nd rfl (by first | exact Or.inl rfl | exact Or.inr rfl)) dgs_nil))))
      (dss_cons (ds_if (dt_cmp (opK rEqA rfl (op_eqA (hu64 hr))) (od_eq (K := K)) (d_var (i := 2)) d_str (nomark _)) (dss_one (ds_put (i := 5) (hu1 hr) (d_var (i := 3)) (d_tup (da_cons (d_var (i := 4)) (da_cons (d_var (i := 8)) da_nil))))) (dss_cons (ds_set (j := 9) sc_Table_done.nd rfl (by first | exact Or.inl rfl | exact Or.inr rfl) (d_callTy (crK rTupOf rfl call_tuple_of) (cd_tuple (K := K)) (by rfl) T.n_tuple (by decide +kernel) (da_cons (d_share (d_lc (own := [("word", 10)]) rfl sc_Table_done.nd (di_any rfl (d_var (i := 8))) (blkOk_by (own := [("word", 10)]) (by kernel_rfl)) (fun _ _ _ _ _ => (dg_name (j := 10) sc_Table_done.nd rfl (by first | exact Or.inl rfl | exact Or.inr rfl))) (fun _ _ _ _ _ => (dts_one (dt_cmp (opK rNeA rfl (op_neA (hu64 hr))) (od_ne (K := K)) (d_var (i := 10)) (d_var (i := 4)) (nomark _)))) (fun _ _ _ _ _ => (d_var (i := 10))) (by decide))) da_nil)))
      (dss_one (ds_put (i := 5) (hu1 hr) (d_var (i := 3)) (d_tup (da_cons (d_var (i := 7)) (da_cons (d_ifExp (dt_cmp (opK rEqA rfl (op_eqA (hu64 hr))) (od_eq (K := K)) (d_var (i := 2)) d_str (nomark _)) (d_op (opK rAddB rfl op_addB) (od_addB (K := K)) (d_var (i := 9)) (d_tup (da_cons (d_var (i := 4)) da_nil))) (d_var (i := 9))) da_nil)))))))
      (dss_one (ds_ret (d_makeP rfl T.mk_Table (ok_Table___init__ T) (hr.mono (by decide)) (by rfl) T.g_Table T.b_Table___init__ .nil (fun _ => .nil) pass0 (da_cons (d_var (i := 5)) da_nil))))))))), fun ds Q h => rdl_Table_done h⟩
theorem ok__law_real (T : Txt K mg) : FnOk P w K mg base CX0 6 T.a__law_real T.fd__law_real ["_law_model_here"] (spD Vol.no K F__law_real) := by
  refine fn_d Vol.no T.F__law_real sc__law_real (fun ds Q h => len__law_real h) (fun cdv A outer s H E W hJ hr => ?_)
  exact ⟨_, rd__law_real, (dss_one (ds_ret (d_makeP rfl T.mk_Table (ok_Table___init__ T) (hr.mono (by decide)) (by rfl) T.g_Table T.b_Table___init__ .nil (fun _ => .nil) pass0 (da_cons (d_share (df_callTy (crK rDictP rfl (cr_dictP rfl)) (cf_dictP (K := K)) (by rfl) T.n_dict (by decide +kernel) (da_cons (d_share (d_lc (own := [("_law_who", 1)]) rfl sc__law_real.nd (di_any rfl (d_ix (ixK rIxA rfl (ix_any (hu1 hr))) (od_ixA (K := K)) (d_var (i := 0)) d_str (fun _ _ => rfl))) (blkOk_by (own := [("_law_who", 1)]) (by kernel_rfl)) (fun _ _ _ _ _ => (dg_name (j := 1) sc__law_real.nd rfl (by first | exact Or.inl rfl | exact Or.inr rfl))) (fun _ _ _ _ _ => dts_nil) (fun _ _ _ _ _ => (d_tup (da_cons (d_var (i := 1)) (da_cons (d_tup (da_cons (d_ix (ixK rIxA rfl (ix_any (hu1 hr))) (od_ixA (K := K)) (d_ix (ixK rIxA rfl (ix_any (hu1 hr))) (od_ixA (K := K)) (d_var (i := 0)) d_str (fun _ _ => rfl)) (d_var (i := 1)) (fun _ _ => rfl)) (da_cons (d_share (df_callTy (crK rListB rfl (cr_listB rfl)) (cf_listB (K := K)) (by rfl) T.n_list (by decide +kernel) (da_cons (d_ix (ixK rIxA rfl (ix_any (hu1 hr))) (od_ixA (K := K)) (d_ix (ixK rIxA rfl (ix_any (hu1 hr))) (od_ixA (K := K)) (d_var (i := 0)) d_str (fun _ _ => rfl)) (d_var (i := 1)) (fun _ _ => rfl)) da_nil))) da_nil))) da_nil)))) (by decide))) da_nil))) da_nil)))), fun ds Q h => rdl__law_real h⟩
theorem ok_law (T : Txt K mg) : FnG P w K mg base CX0 7 T.a_law T.fd_law ["_law_script"] (spLaw K) := by
  have F := T.F_law
  generalize T.fd_law = fd at F
  obtain ⟨oc, od, kV, doc, pm, an, cdv, ct, osl, rfl, lk, hcd⟩ := F.ex
  refine fn_ofG lk hcd sc_law (fun vs H Q E h => ?_) (fun A outer s H vs Q E hgd0 hr h => ?_)
  · obtain ⟨a, ns, rfl, _⟩ := h
    rfl
  · have rest : ∃ ts, ∀ (W : Wc) (d c : Addr), W.J = drawJ d c → DSs W (cxOf CX0 P w K mg base N_law "law" (defScope s_law) T.a_law cdv A outer s H E).nox ((defBody s_law).tail) ts (rd_law d) := ⟨_, fun W d c hJ => (dss_cons (ds_for PassesOwn.never rfl (di_range (by rfl) T.n_range (da_cons (d_op (opK rAddB rfl op_addB) (od_addB (K := K)) d_int (d_callB (call_min2 rfl) cd_min2 (by rfl) T.n_min (by decide +kernel) (da_cons (d_callB (crK rLenB rfl cr_lenB) (cd_lenB (K := K)) (by rfl) T.n_len (by decide +kernel) (da_cons (d_var (i := 0)) da_nil)) (da_cons d_int da_nil)))) da_nil)) (dg_name (j := 2) sc_law.nd rfl (by first | exact Or.inl rfl | exact Or.inr rfl)) (dss_cons (ds_set (j := 3) sc_law.nd rfl (by first | exact Or.inl rfl | exact Or.inr rfl) (d_callPK rfl (ok__law_real T) (hr.mono (by decide)) (by rfl) T.g__law_real T.F__law_real.kp T.b__law_real .nil (fun _ => .nil) pass0 (da_cons (d_callVK rfl (fnV fun d c => ok__law_table T d c) hJ (hr.mono (by decide)) (by rfl) T.g__law_table T.F__law_table.kp T.b__law_table .nil (fun _ => .nil) pass0 (da_cons (d_var (i := 1)) (da_cons d_int da_nil))) da_nil)))
      (dss_cons (ds_set (j := 4) sc_law.nd rfl (by first | exact Or.inl rfl | exact Or.inr rfl) (d_meth rfl T.cn_Table (fun _ => .nil) (fun po pa => pe_meth0 po T.cl_Table T.me_Table_names (ok_Table_names T) (hr.mono (by decide)) T.b_Table_names .nil pass0) (d_var (i := 3)) da_nil))
      (dss_one (ds_for PassesOwn.never rfl (di_range (by rfl) T.n_range (da_cons d_int da_nil)) (dg_name (j := 5) sc_law.nd rfl (by first | exact Or.inl rfl | exact Or.inr rfl)) (dss_cons (ds_if (dt_not (dt_val (d_callPK rfl (ok__law_orders_right T) (hr.mono (by decide)) (by rfl) T.g__law_orders_right T.F__law_orders_right.kp T.b__law_orders_right .nil (fun _ => .nil) pass0 (da_cons (d_var (i := 3)) da_nil)))) (dss_one (ds_ret d_bl)) dss_nil)
      (dss_cons (ds_set (j := 6) sc_law.nd rfl (by first | exact Or.inl rfl | exact Or.inr rfl) (d_callVK rfl (fnV fun d c => ok__law_pick T d c) hJ (hr.mono (by decide)) (by rfl) T.g__law_pick T.F__law_pick.kp T.b__law_pick .nil (fun _ => .nil) pass0 (da_cons (d_var (i := 1)) (da_cons (d_var (i := 4)) da_nil))))
      (dss_cons (ds_setLcD (own := [("_law_one", 8)]) (j := 7) rfl sc_law.nd rfl rfl (sw_true rfl rfl rfl (by decide +kernel)) (di_any rfl (d_var (i := 4))) (blkOk_by (own := [("_law_one", 8)]) (by kernel_rfl)) (fun _ _ _ _ _ => (dg_name (j := 8) sc_law.nd rfl (by first | exact Or.inl rfl | exact Or.inr rfl))) (fun _ _ _ _ _ => (dts_one (dt_cmp (opK rNeA rfl (op_neA (hu64 hr))) (od_ne (K := K)) (d_var (i := 8)) (d_var (i := 6)) (nomark _)))) (fun _ _ _ _ _ => (d_var (i := 8))) (by decide))
      (dss_cons (ds_set (j := 9) sc_law.nd rfl (by first | exact Or.inl rfl | exact Or.inr rfl) (d_tup (da_cons d_str (da_cons (d_var (i := 6)) (da_cons (d_callTy (crK rTupOf rfl call_tuple_of) (cd_tuple (K := K)) (by rfl) T.n_tuple (by decide +kernel) (da_cons (d_slice (slK rCutB rfl sl_allB) (sd_allB (K := K)) (d_callVK rfl (fnV fun d c => ok__law_mixed T d c) hJ (hr.mono (by decide)) (by rfl) T.g__law_mixed T.F__law_mixed.kp T.b__law_mixed .nil (fun _ => .nil) pass0 (da_cons (d_var (i := 1)) (da_cons (d_var (i := 7)) da_nil))) do_none (do_some (d_callVK rfl (fnV fun d c => ok__law_take T d c) hJ (hr.mono (by decide)) (by rfl) T.g__law_take T.F__law_take.kp T.b__law_take .nil (fun _ => .nil) pass0 (da_cons (d_var (i := 1)) (da_cons d_int da_nil))))) da_nil)) da_nil)))))
      (dss_cons (ds_if (dt_cmp (opK rEqA rfl (op_eqA (hu64 hr))) (od_eq (K := K)) (d_callVK rfl (fnV fun d c => ok__law_take T d c) hJ (hr.mono (by decide)) (by rfl) T.g__law_take T.F__law_take.kp T.b__law_take .nil (fun _ => .nil) pass0 (da_cons (d_var (i := 1)) (da_cons d_int da_nil))) d_int (nomark _)) (dss_one (ds_set (j := 9) sc_law.nd rfl (by first | exact Or.inl rfl | exact Or.inr rfl) (d_tup (da_cons d_str (da_cons (d_var (i := 6)) (da_cons (d_callVK rfl (fnV fun d c => ok__law_pick T d c) hJ (hr.mono (by decide)) (by rfl) T.g__law_pick T.F__law_pick.kp T.b__law_pick .nil (fun _ => .nil) pass0 (da_cons (d_var (i := 1)) (da_cons (d_share (d_lst (da_cons d_str (da_cons d_str da_nil)))) da_nil))) da_nil)))))) dss_nil)
      (dss_cons (ds_if (dt_not (dt_val (d_meth rfl T.cn_Table (fun _ => .nil) (fun po pa => pe_meth po T.cl_Table T.me_Table_is_deed (ok_Table_is_deed T) (hr.mono (by decide)) T.b_Table_is_deed .nil pass0 pa) (d_var (i := 3)) (da_cons (d_var (i := 9)) da_nil)))) (dss_one ds_continue) dss_nil)
      (dss_cons (ds_set (j := 10) sc_law.nd rfl (by first | exact Or.inl rfl | exact Or.inr rfl) (d_meth rfl T.cn_Table (fun _ => .nil) (fun po pa => pe_meth po T.cl_Table T.me_Table_done (ok_Table_done T) (hr.mono (by decide)) T.b_Table_done .nil pass0 pa) (d_var (i := 3)) (da_cons (d_var (i := 9)) da_nil)))
      (dss_cons (ds_for PassesOwn.never rfl (di_any rfl (d_var (i := 4))) (dg_name (j := 8) sc_law.nd rfl (by first | exact Or.inl rfl | exact Or.inr rfl)) (dss_cons (ds_if (dt_cmp (opK rNeA rfl (op_neA (hu64 hr))) (od_ne (K := K)) (d_cmp (opK rInB rfl (op_inB (hu65 hr))) (od_inB (K := K)) (d_var (i := 6)) (d_meth rfl T.cn_Table (fun _ => .nil) (fun po pa => pe_meth po T.cl_Table T.me_Table_order (ok_Table_order T) (hr.mono (by decide)) T.b_Table_order .nil pass0 pa) (d_var (i := 3)) (da_cons (d_var (i := 8)) da_nil)) (by rfl)) (d_cmp (opK rInB rfl (op_inB (hu65 hr))) (od_inB (K := K)) (d_var (i := 6)) (d_meth rfl T.cn_Table (fun _ => .nil) (fun po pa => pe_meth po T.cl_Table T.me_Table_order (ok_Table_order T) (hr.mono (by decide)) T.b_Table_order .nil pass0 pa) (d_var (i := 10)) (da_cons (d_var (i := 8)) da_nil)) (by rfl)) (nomark _)) (dss_one (ds_ret d_bl)) dss_nil)
      (dss_one (ds_if (DW.dt (dw_and (dt_cmp (opK rNeA rfl (op_neA (hu64 hr))) (od_ne (K := K)) (d_meth rfl T.cn_Table (fun _ => .nil) (fun po pa => pe_meth po T.cl_Table T.me_Table_order (ok_Table_order T) (hr.mono (by decide)) T.b_Table_order .nil pass0 pa) (d_var (i := 3)) (da_cons (d_var (i := 8)) da_nil)) (d_meth rfl T.cn_Table (fun _ => .nil) (fun po pa => pe_meth po T.cl_Table T.me_Table_order (ok_Table_order T) (hr.mono (by decide)) T.b_Table_order .nil pass0 pa) (d_var (i := 10)) (da_cons (d_var (i := 8)) da_nil)) (nomark _)) (dw_and1 (DW.dt (dw_or (dt_cmp (opK rNotInB rfl (op_notInB (hu65 hr))) (od_notInB (K := K)) (d_var (i := 6)) (d_meth rfl T.cn_Table (fun _ => .nil) (fun po pa => pe_meth po T.cl_Table T.me_Table_order (ok_Table_order T) (hr.mono (by decide)) T.b_Table_order .nil pass0 pa) (d_var (i := 3)) (da_cons (d_var (i := 8)) da_nil)) (by rfl)) (dw_or1 (dt_cmp (opK rNeA rfl (op_neA (hu64 hr))) (od_ne (K := K)) (d_ix (ixK rIxA rfl (ix_any (hu1 hr))) (od_ixA (K := K)) (d_var (i := 9)) d_int (fun _ _ => rfl)) d_str (nomark _)))))))) (dss_one (ds_ret d_bl)) dss_nil))))
      (dss_one (ds_set (j := 3) sc_law.nd rfl (by first | exact Or.inl rfl | exact Or.inr rfl) (d_var (i := 10)))))))))))))))))
      (dss_one (ds_ret d_bl)))⟩
    obtain ⟨ts, hts⟩ := rest
    have first : DS W1 (cxOf CX0 P w K mg base N_law "law" (defScope s_law) T.a_law cdv A outer s H E).nox ((defBody s_law).headD (.Pass ⟨0, 0, 0, 0⟩)) _ _ := (ds_set (j := 1) sc_law.nd rfl (by first | exact Or.inl rfl | exact Or.inr rfl) (d_callPK rfl (ok__law_begin T) (hr.mono (by decide)) (by rfl) T.g__law_begin T.F__law_begin.kp T.b__law_begin .nil (fun _ => .nil) pass0 (da_cons (d_var (i := 0)) da_nil)))
    exact ⟨_, (pss_cons first.ps (hts W1 0 1 rfl).ps).nox, law_body (m := 9) rfl (fun W d c hJ => (hts W d c hJ).ad) (fun d ns hl => rdl_law d ns hl) h⟩
theorem txt_mk {K : PySem.W.Frag} {h : Heap} {mg : Str → Option Value} (X : K.In h) (G : h.Ns mainGlobals mg)
    {f0 : Addr} {od0 an0 : Option Addr} {sl0 : Array (Option Value)} {oc0 kV0 dc0 pm0 cd0 ct0 : Value}
    {f1 : Addr} {od1 an1 : Option Addr} {sl1 : Array (Option Value)} {oc1 kV1 dc1 pm1 cd1 ct1 : Value}
    {f2 : Addr} {od2 an2 : Option Addr} {sl2 : Array (Option Value)} {oc2 kV2 dc2 pm2 cd2 ct2 : Value}
    {f3 : Addr} {od3 an3 : Option Addr} {sl3 : Array (Option Value)} {oc3 kV3 dc3 pm3 cd3 ct3 : Value}
    {f4 : Addr} {od4 an4 : Option Addr} {sl4 : Array (Option Value)} {oc4 kV4 dc4 pm4 cd4 ct4 : Value}
    {f5 : Addr} {od5 an5 : Option Addr} {sl5 : Array (Option Value)} {oc5 kV5 dc5 pm5 cd5 ct5 : Value}
    {f6 : Addr} {od6 an6 : Option Addr} {sl6 : Array (Option Value)} {oc6 kV6 dc6 pm6 cd6 ct6 : Value}
    {f7 : Addr} {od7 an7 : Option Addr} {sl7 : Array (Option Value)} {oc7 kV7 dc7 pm7 cd7 ct7 : Value}
    {f8 : Addr} {od8 an8 : Option Addr} {sl8 : Array (Option Value)} {oc8 kV8 dc8 pm8 cd8 ct8 : Value}
    {f9 : Addr} {od9 an9 : Option Addr} {sl9 : Array (Option Value)} {oc9 kV9 dc9 pm9 cd9 ct9 : Value}
    {f10 : Addr} {od10 an10 : Option Addr} {sl10 : Array (Option Value)} {oc10 kV10 dc10 pm10 cd10 ct10 : Value}
    {f11 : Addr} {od11 an11 : Option Addr} {sl11 : Array (Option Value)} {oc11 kV11 dc11 pm11 cd11 ct11 : Value}
    {f12 : Addr} {od12 an12 : Option Addr} {sl12 : Array (Option Value)} {oc12 kV12 dc12 pm12 cd12 ct12 : Value}
    {f13 : Addr} {od13 an13 : Option Addr} {sl13 : Array (Option Value)} {oc13 kV13 dc13 pm13 cd13 ct13 : Value}
    {f14 : Addr} {od14 an14 : Option Addr} {sl14 : Array (Option Value)} {oc14 kV14 dc14 pm14 cd14 ct14 : Value}
    {f15 : Addr} {od15 an15 : Option Addr} {sl15 : Array (Option Value)} {oc15 kV15 dc15 pm15 cd15 ct15 : Value}
    {f16 : Addr} {od16 an16 : Option Addr} {sl16 : Array (Option Value)} {oc16 kV16 dc16 pm16 cd16 ct16 : Value}
    {f17 : Addr} {od17 an17 : Option Addr} {sl17 : Array (Option Value)} {oc17 kV17 dc17 pm17 cd17 ct17 : Value}
    {f18 : Addr} {od18 an18 : Option Addr} {sl18 : Array (Option Value)} {oc18 kV18 dc18 pm18 cd18 ct18 : Value}
    {f19 : Addr} {od19 an19 : Option Addr} {sl19 : Array (Option Value)} {oc19 kV19 dc19 pm19 cd19 ct19 : Value}
    {f20 : Addr} {od20 an20 : Option Addr} {sl20 : Array (Option Value)} {oc20 kV20 dc20 pm20 cd20 ct20 : Value}
    {f21 : Addr} {od21 an21 : Option Addr} {sl21 : Array (Option Value)} {oc21 kV21 dc21 pm21 cd21 ct21 : Value}
    {f22 : Addr} {od22 an22 : Option Addr} {sl22 : Array (Option Value)} {oc22 kV22 dc22 pm22 cd22 ct22 : Value}
    {f23 : Addr} {od23 an23 : Option Addr} {sl23 : Array (Option Value)} {oc23 kV23 dc23 pm23 cd23 ct23 : Value}
    {f24 : Addr} {od24 an24 : Option Addr} {sl24 : Array (Option Value)} {oc24 kV24 dc24 pm24 cd24 ct24 : Value}
    {f25 : Addr} {od25 an25 : Option Addr} {sl25 : Array (Option Value)} {oc25 kV25 dc25 pm25 cd25 ct25 : Value}
    {f26 : Addr} {od26 an26 : Option Addr} {sl26 : Array (Option Value)} {oc26 kV26 dc26 pm26 cd26 ct26 : Value}
    {f27 : Addr} {od27 an27 : Option Addr} {sl27 : Array (Option Value)} {oc27 kV27 dc27 pm27 cd27 ct27 : Value}
    {f28 : Addr} {od28 an28 : Option Addr} {sl28 : Array (Option Value)} {oc28 kV28 dc28 pm28 cd28 ct28 : Value}
    {f29 : Addr} {od29 an29 : Option Addr} {sl29 : Array (Option Value)} {oc29 kV29 dc29 pm29 cd29 ct29 : Value}
    {C_Table : Addr}
    {t_LARGE : Tok}
    {t_LONGEST : Tok}
    {t_MOST_BASES : Tok}
    {t_MOST_CLASSES : Tok}
    {t_MOST_WORDS : Tok}
    {t_SMALL : Tok}
    (cn_Table : PySem.W.nsIn K mainGlobals "Table" = some (some (.ref C_Table)))
    (a0 : PySem.W.nsIn K mainGlobals "is_word" = some (some (.ref f0)))
    (l0 : K.lookup f0 = some ⟨oc0, od0, .func (PySem.W.fnOf "is_word" "is_word" (defArgs s_is_word) (defBody s_is_word) (defScope s_is_word) .none kV0 dc0 pm0 an0 cd0 ct0), sl0⟩)
    (c0 : PySem.W.codeIn K cd0 "is_word" = true)
    (k0 : PySem.W.keepIn K (.ref f0) = true)
    (a1 : PySem.W.nsIn K mainGlobals "is_class_name" = some (some (.ref f1)))
    (l1 : K.lookup f1 = some ⟨oc1, od1, .func (PySem.W.fnOf "is_class_name" "is_class_name" (defArgs s_is_class_name) (defBody s_is_class_name) (defScope s_is_class_name) .none kV1 dc1 pm1 an1 cd1 ct1), sl1⟩)
    (c1 : PySem.W.codeIn K cd1 "is_class_name" = true)
    (k1 : PySem.W.keepIn K (.ref f1) = true)
    (a2 : PySem.W.nsIn K mainGlobals "is_list" = some (some (.ref f2)))
    (l2 : K.lookup f2 = some ⟨oc2, od2, .func (PySem.W.fnOf "is_list" "is_list" (defArgs s_is_list) (defBody s_is_list) (defScope s_is_list) .none kV2 dc2 pm2 an2 cd2 ct2), sl2⟩)
    (c2 : PySem.W.codeIn K cd2 "is_list" = true)
    (k2 : PySem.W.keepIn K (.ref f2) = true)
    (a3 : PySem.W.nsIn K mainGlobals "are_bases" = some (some (.ref f3)))
    (l3 : K.lookup f3 = some ⟨oc3, od3, .func (PySem.W.fnOf "are_bases" "are_bases" (defArgs s_are_bases) (defBody s_are_bases) (defScope s_are_bases) .none kV3 dc3 pm3 an3 cd3 ct3), sl3⟩)
    (c3 : PySem.W.codeIn K cd3 "are_bases" = true)
    (k3 : PySem.W.keepIn K (.ref f3) = true)
    (a4 : PySem.W.nsIn K mainGlobals "first_head" = some (some (.ref f4)))
    (l4 : K.lookup f4 = some ⟨oc4, od4, .func (PySem.W.fnOf "first_head" "first_head" (defArgs s_first_head) (defBody s_first_head) (defScope s_first_head) .none kV4 dc4 pm4 an4 cd4 ct4), sl4⟩)
    (c4 : PySem.W.codeIn K cd4 "first_head" = true)
    (k4 : PySem.W.keepIn K (.ref f4) = true)
    (a5 : PySem.W.findIn K (.ref C_Table) "names" = some (some (.ref f5)))
    (l5 : K.lookup f5 = some ⟨oc5, od5, .func (PySem.W.fnOf "names" "Table.names" (defArgs s_Table_names) (defBody s_Table_names) (defScope s_Table_names) .none kV5 dc5 pm5 an5 cd5 ct5), sl5⟩)
    (c5 : PySem.W.codeIn K cd5 "Table.names" = true)
    (k5 : PySem.W.keepIn K (.ref f5) = true)
    (i5 : PySem.W.isFn K (.ref f5) = true)
    (a6 : PySem.W.findIn K (.ref C_Table) "__contains__" = some (some (.ref f6)))
    (l6 : K.lookup f6 = some ⟨oc6, od6, .func (PySem.W.fnOf "__contains__" "Table.__contains__" (defArgs s_Table___contains__) (defBody s_Table___contains__) (defScope s_Table___contains__) .none kV6 dc6 pm6 an6 cd6 ct6), sl6⟩)
    (c6 : PySem.W.codeIn K cd6 "Table.__contains__" = true)
    (k6 : PySem.W.keepIn K (.ref f6) = true)
    (i6 : PySem.W.isFn K (.ref f6) = true)
    (a7 : PySem.W.nsIn K mainGlobals "_law_begin" = some (some (.ref f7)))
    (l7 : K.lookup f7 = some ⟨oc7, od7, .func (PySem.W.fnOf "_law_begin" "_law_begin" (defArgs s__law_begin) (defBody s__law_begin) (defScope s__law_begin) .none kV7 dc7 pm7 an7 cd7 ct7), sl7⟩)
    (c7 : PySem.W.codeIn K cd7 "_law_begin" = true)
    (k7 : PySem.W.keepIn K (.ref f7) = true)
    (a8 : PySem.W.nsIn K mainGlobals "_law_take" = some (some (.ref f8)))
    (l8 : K.lookup f8 = some ⟨oc8, od8, .func (PySem.W.fnOf "_law_take" "_law_take" (defArgs s__law_take) (defBody s__law_take) (defScope s__law_take) .none kV8 dc8 pm8 an8 cd8 ct8), sl8⟩)
    (c8 : PySem.W.codeIn K cd8 "_law_take" = true)
    (k8 : PySem.W.keepIn K (.ref f8) = true)
    (a9 : PySem.W.nsIn K mainGlobals "_law_merge" = some (some (.ref f9)))
    (l9 : K.lookup f9 = some ⟨oc9, od9, .func (PySem.W.fnOf "_law_merge" "_law_merge" (defArgs s__law_merge) (defBody s__law_merge) (defScope s__law_merge) .none kV9 dc9 pm9 an9 cd9 ct9), sl9⟩)
    (c9 : PySem.W.codeIn K cd9 "_law_merge" = true)
    (k9 : PySem.W.keepIn K (.ref f9) = true)
    (a10 : PySem.W.nsIn K mainGlobals "_law_kept" = some (some (.ref f10)))
    (l10 : K.lookup f10 = some ⟨oc10, od10, .func (PySem.W.fnOf "_law_kept" "_law_kept" (defArgs s__law_kept) (defBody s__law_kept) (defScope s__law_kept) .none kV10 dc10 pm10 an10 cd10 ct10), sl10⟩)
    (c10 : PySem.W.codeIn K cd10 "_law_kept" = true)
    (k10 : PySem.W.keepIn K (.ref f10) = true)
    (a11 : PySem.W.nsIn K mainGlobals "is_pair" = some (some (.ref f11)))
    (l11 : K.lookup f11 = some ⟨oc11, od11, .func (PySem.W.fnOf "is_pair" "is_pair" (defArgs s_is_pair) (defBody s_is_pair) (defScope s_is_pair) .none kV11 dc11 pm11 an11 cd11 ct11), sl11⟩)
    (c11 : PySem.W.codeIn K cd11 "is_pair" = true)
    (k11 : PySem.W.keepIn K (.ref f11) = true)
    (a12 : PySem.W.nsIn K mainGlobals "merged" = some (some (.ref f12)))
    (l12 : K.lookup f12 = some ⟨oc12, od12, .func (PySem.W.fnOf "merged" "merged" (defArgs s_merged) (defBody s_merged) (defScope s_merged) .none kV12 dc12 pm12 an12 cd12 ct12), sl12⟩)
    (c12 : PySem.W.codeIn K cd12 "merged" = true)
    (k12 : PySem.W.keepIn K (.ref f12) = true)
    (a13 : PySem.W.nsIn K mainGlobals "need_class" = some (some (.ref f13)))
    (l13 : K.lookup f13 = some ⟨oc13, od13, .func (PySem.W.fnOf "need_class" "need_class" (defArgs s_need_class) (defBody s_need_class) (defScope s_need_class) .none kV13 dc13 pm13 an13 cd13 ct13), sl13⟩)
    (c13 : PySem.W.codeIn K cd13 "need_class" = true)
    (k13 : PySem.W.keepIn K (.ref f13) = true)
    (a14 : PySem.W.nsIn K mainGlobals "_law_pick" = some (some (.ref f14)))
    (l14 : K.lookup f14 = some ⟨oc14, od14, .func (PySem.W.fnOf "_law_pick" "_law_pick" (defArgs s__law_pick) (defBody s__law_pick) (defScope s__law_pick) .none kV14 dc14 pm14 an14 cd14 ct14), sl14⟩)
    (c14 : PySem.W.codeIn K cd14 "_law_pick" = true)
    (k14 : PySem.W.keepIn K (.ref f14) = true)
    (a15 : PySem.W.nsIn K mainGlobals "_law_mixed" = some (some (.ref f15)))
    (l15 : K.lookup f15 = some ⟨oc15, od15, .func (PySem.W.fnOf "_law_mixed" "_law_mixed" (defArgs s__law_mixed) (defBody s__law_mixed) (defScope s__law_mixed) .none kV15 dc15 pm15 an15 cd15 ct15), sl15⟩)
    (c15 : PySem.W.codeIn K cd15 "_law_mixed" = true)
    (k15 : PySem.W.keepIn K (.ref f15) = true)
    (a16 : PySem.W.nsIn K mainGlobals "_law_lines" = some (some (.ref f16)))
    (l16 : K.lookup f16 = some ⟨oc16, od16, .func (PySem.W.fnOf "_law_lines" "_law_lines" (defArgs s__law_lines) (defBody s__law_lines) (defScope s__law_lines) .none kV16 dc16 pm16 an16 cd16 ct16), sl16⟩)
    (c16 : PySem.W.codeIn K cd16 "_law_lines" = true)
    (k16 : PySem.W.keepIn K (.ref f16) = true)
    (a17 : PySem.W.nsIn K mainGlobals "orders_of" = some (some (.ref f17)))
    (l17 : K.lookup f17 = some ⟨oc17, od17, .func (PySem.W.fnOf "orders_of" "orders_of" (defArgs s_orders_of) (defBody s_orders_of) (defScope s_orders_of) .none kV17 dc17 pm17 an17 cd17 ct17), sl17⟩)
    (c17 : PySem.W.codeIn K cd17 "orders_of" = true)
    (k17 : PySem.W.keepIn K (.ref f17) = true)
    (a18 : PySem.W.findIn K (.ref C_Table) "bases" = some (some (.ref f18)))
    (l18 : K.lookup f18 = some ⟨oc18, od18, .func (PySem.W.fnOf "bases" "Table.bases" (defArgs s_Table_bases) (defBody s_Table_bases) (defScope s_Table_bases) .none kV18 dc18 pm18 an18 cd18 ct18), sl18⟩)
    (c18 : PySem.W.codeIn K cd18 "Table.bases" = true)
    (k18 : PySem.W.keepIn K (.ref f18) = true)
    (i18 : PySem.W.isFn K (.ref f18) = true)
    (a19 : PySem.W.findIn K (.ref C_Table) "order" = some (some (.ref f19)))
    (l19 : K.lookup f19 = some ⟨oc19, od19, .func (PySem.W.fnOf "order" "Table.order" (defArgs s_Table_order) (defBody s_Table_order) (defScope s_Table_order) .none kV19 dc19 pm19 an19 cd19 ct19), sl19⟩)
    (c19 : PySem.W.codeIn K cd19 "Table.order" = true)
    (k19 : PySem.W.keepIn K (.ref f19) = true)
    (i19 : PySem.W.isFn K (.ref f19) = true)
    (a20 : PySem.W.nsIn K mainGlobals "_law_class_names" = some (some (.ref f20)))
    (l20 : K.lookup f20 = some ⟨oc20, od20, .func (PySem.W.fnOf "_law_class_names" "_law_class_names" (defArgs s__law_class_names) (defBody s__law_class_names) (defScope s__law_class_names) .none kV20 dc20 pm20 an20 cd20 ct20), sl20⟩)
    (c20 : PySem.W.codeIn K cd20 "_law_class_names" = true)
    (k20 : PySem.W.keepIn K (.ref f20) = true)
    (a21 : PySem.W.nsIn K mainGlobals "_law_word_list" = some (some (.ref f21)))
    (l21 : K.lookup f21 = some ⟨oc21, od21, .func (PySem.W.fnOf "_law_word_list" "_law_word_list" (defArgs s__law_word_list) (defBody s__law_word_list) (defScope s__law_word_list) .none kV21 dc21 pm21 an21 cd21 ct21), sl21⟩)
    (c21 : PySem.W.codeIn K cd21 "_law_word_list" = true)
    (k21 : PySem.W.keepIn K (.ref f21) = true)
    (a22 : PySem.W.nsIn K mainGlobals "_law_model" = some (some (.ref f22)))
    (l22 : K.lookup f22 = some ⟨oc22, od22, .func (PySem.W.fnOf "_law_model" "_law_model" (defArgs s__law_model) (defBody s__law_model) (defScope s__law_model) .none kV22 dc22 pm22 an22 cd22 ct22), sl22⟩)
    (c22 : PySem.W.codeIn K cd22 "_law_model" = true)
    (k22 : PySem.W.keepIn K (.ref f22) = true)
    (a23 : PySem.W.findIn K (.ref C_Table) "__init__" = some (some (.ref f23)))
    (l23 : K.lookup f23 = some ⟨oc23, od23, .func (PySem.W.fnOf "__init__" "Table.__init__" (defArgs s_Table___init__) (defBody s_Table___init__) (defScope s_Table___init__) .none kV23 dc23 pm23 an23 cd23 ct23), sl23⟩)
    (c23 : PySem.W.codeIn K cd23 "Table.__init__" = true)
    (k23 : PySem.W.keepIn K (.ref f23) = true)
    (i23 : PySem.W.isFn K (.ref f23) = true)
    (a24 : PySem.W.findIn K (.ref C_Table) "is_deed" = some (some (.ref f24)))
    (l24 : K.lookup f24 = some ⟨oc24, od24, .func (PySem.W.fnOf "is_deed" "Table.is_deed" (defArgs s_Table_is_deed) (defBody s_Table_is_deed) (defScope s_Table_is_deed) .none kV24 dc24 pm24 an24 cd24 ct24), sl24⟩)
    (c24 : PySem.W.codeIn K cd24 "Table.is_deed" = true)
    (k24 : PySem.W.keepIn K (.ref f24) = true)
    (i24 : PySem.W.isFn K (.ref f24) = true)
    (a25 : PySem.W.nsIn K mainGlobals "_law_table" = some (some (.ref f25)))
    (l25 : K.lookup f25 = some ⟨oc25, od25, .func (PySem.W.fnOf "_law_table" "_law_table" (defArgs s__law_table) (defBody s__law_table) (defScope s__law_table) .none kV25 dc25 pm25 an25 cd25 ct25), sl25⟩)
    (c25 : PySem.W.codeIn K cd25 "_law_table" = true)
    (k25 : PySem.W.keepIn K (.ref f25) = true)
    (a26 : PySem.W.nsIn K mainGlobals "_law_orders_right" = some (some (.ref f26)))
    (l26 : K.lookup f26 = some ⟨oc26, od26, .func (PySem.W.fnOf "_law_orders_right" "_law_orders_right" (defArgs s__law_orders_right) (defBody s__law_orders_right) (defScope s__law_orders_right) .none kV26 dc26 pm26 an26 cd26 ct26), sl26⟩)
    (c26 : PySem.W.codeIn K cd26 "_law_orders_right" = true)
    (k26 : PySem.W.keepIn K (.ref f26) = true)
    (a27 : PySem.W.findIn K (.ref C_Table) "done" = some (some (.ref f27)))
    (l27 : K.lookup f27 = some ⟨oc27, od27, .func (PySem.W.fnOf "done" "Table.done" (defArgs s_Table_done) (defBody s_Table_done) (defScope s_Table_done) .none kV27 dc27 pm27 an27 cd27 ct27), sl27⟩)
    (c27 : PySem.W.codeIn K cd27 "Table.done" = true)
    (k27 : PySem.W.keepIn K (.ref f27) = true)
    (i27 : PySem.W.isFn K (.ref f27) = true)
    (a28 : PySem.W.nsIn K mainGlobals "_law_real" = some (some (.ref f28)))
    (l28 : K.lookup f28 = some ⟨oc28, od28, .func (PySem.W.fnOf "_law_real" "_law_real" (defArgs s__law_real) (defBody s__law_real) (defScope s__law_real) .none kV28 dc28 pm28 an28 cd28 ct28), sl28⟩)
    (c28 : PySem.W.codeIn K cd28 "_law_real" = true)
    (k28 : PySem.W.keepIn K (.ref f28) = true)
    (a29 : PySem.W.nsIn K mainGlobals "law" = some (some (.ref f29)))
    (l29 : K.lookup f29 = some ⟨oc29, od29, .func (PySem.W.fnOf "law" "law" (defArgs s_law) (defBody s_law) (defScope s_law) .none kV29 dc29 pm29 an29 cd29 ct29), sl29⟩)
    (c29 : PySem.W.codeIn K cd29 "law" = true)
    (k29 : PySem.W.keepIn K (.ref f29) = true)
    (pg_Table : PySem.W.plainGet K C_Table Str.empty = true)
    (hd_Table : PySem.W.hasDictIn K C_Table = true)
    (po_Table : PySem.W.plainOver K C_Table = true)
    (sa_Table : PySem.W.findIn K (.ref C_Table) "__setattr__" = some (some (.builtin "object.__setattr__")))
    (ms_Table : PySem.W.makesIn K C_Table = true)
    (mkp_Table : PySem.W.keepIn K (.ref C_Table) = true)
    (na_Table_own_bases : PySem.W.findIn K (.ref C_Table) "own_bases" = some none)
    (na_Table_own_orders : PySem.W.findIn K (.ref C_Table) "own_orders" = some none)
    (na_Table_own_words : PySem.W.findIn K (.ref C_Table) "own_words" = some none)
    (m_LARGE : PySem.W.nsIn K mainGlobals "LARGE" = some (some (.str "ABCDEFGHIJKLMNOPQRSTUVWXYZ" t_LARGE)))
    (m_LONGEST : PySem.W.nsIn K mainGlobals "LONGEST" = some (some (.int 8 t_LONGEST)))
    (m_MOST_BASES : PySem.W.nsIn K mainGlobals "MOST_BASES" = some (some (.int 3 t_MOST_BASES)))
    (m_MOST_CLASSES : PySem.W.nsIn K mainGlobals "MOST_CLASSES" = some (some (.int 6 t_MOST_CLASSES)))
    (m_MOST_WORDS : PySem.W.nsIn K mainGlobals "MOST_WORDS" = some (some (.int 4 t_MOST_WORDS)))
    (m_SMALL : PySem.W.nsIn K mainGlobals "SMALL" = some (some (.str "abcdefghijklmnopqrstuvwxyz" t_SMALL)))
    (n_abs : PySem.W.nsIn K mainGlobals "abs" = some none)
    (n_all : PySem.W.nsIn K mainGlobals "all" = some none)
    (n_any : PySem.W.nsIn K mainGlobals "any" = some none)
    (n_dict : PySem.W.nsIn K mainGlobals "dict" = some none)
    (n_enumerate : PySem.W.nsIn K mainGlobals "enumerate" = some none)
    (n_int : PySem.W.nsIn K mainGlobals "int" = some none)
    (n_isinstance : PySem.W.nsIn K mainGlobals "isinstance" = some none)
    (n_len : PySem.W.nsIn K mainGlobals "len" = some none)
    (n_list : PySem.W.nsIn K mainGlobals "list" = some none)
    (n_min : PySem.W.nsIn K mainGlobals "min" = some none)
    (n_range : PySem.W.nsIn K mainGlobals "range" = some none)
    (n_set : PySem.W.nsIn K mainGlobals "set" = some none)
    (n_sorted : PySem.W.nsIn K mainGlobals "sorted" = some none)
    (n_str : PySem.W.nsIn K mainGlobals "str" = some none)
    (n_sum : PySem.W.nsIn K mainGlobals "sum" = some none)
    (n_tuple : PySem.W.nsIn K mainGlobals "tuple" = some none)
    : ∃ T : Txt K mg, T.a_law = f29 ∧ ∀ (s : Shared) (v : Value), BindsTo s T.fd_law ⟨[v], []⟩ [("_law_script", v)] := by
  have F0 := fun_mk (st := s_is_word) l0 c0 k0
  have b0 := F0.binds (ps := ["value"]) fun _ _ _ _ _ _ us hl => match us, hl with | [_], _ => rfl
  have F1 := fun_mk (st := s_is_class_name) l1 c1 k1
  have b1 := F1.binds (ps := ["value"]) fun _ _ _ _ _ _ us hl => match us, hl with | [_], _ => rfl
  have F2 := fun_mk (st := s_is_list) l2 c2 k2
  have b2 := F2.binds (ps := ["value"]) fun _ _ _ _ _ _ us hl => match us, hl with | [_], _ => rfl
  have F3 := fun_mk (st := s_are_bases) l3 c3 k3
  have b3 := F3.binds (ps := ["names", "name", "value"]) fun _ _ _ _ _ _ us hl => match us, hl with | [_, _, _], _ => rfl
  have F4 := fun_mk (st := s_first_head) l4 c4 k4
  have b4 := F4.binds (ps := ["rows"]) fun _ _ _ _ _ _ us hl => match us, hl with | [_], _ => rfl
  have F5 := fun_mk (st := s_Table_names) l5 c5 k5
  have b5 := F5.binds (ps := ["self"]) fun _ _ _ _ _ _ us hl => match us, hl with | [_], _ => rfl
  have F6 := fun_mk (st := s_Table___contains__) l6 c6 k6
  have b6 := F6.binds (ps := ["self", "name"]) fun _ _ _ _ _ _ us hl => match us, hl with | [_, _], _ => rfl
  have F7 := fun_mk (st := s__law_begin) l7 c7 k7
  have b7 := F7.binds (ps := ["_law_script"]) fun _ _ _ _ _ _ us hl => match us, hl with | [_], _ => rfl
  have F8 := fun_mk (st := s__law_take) l8 c8 k8
  have b8 := F8.binds (ps := ["_law_draw", "_law_many"]) fun _ _ _ _ _ _ us hl => match us, hl with | [_, _], _ => rfl
  have F9 := fun_mk (st := s__law_merge) l9 c9 k9
  have b9 := F9.binds (ps := ["_law_heaps"]) fun _ _ _ _ _ _ us hl => match us, hl with | [_], _ => rfl
  have F10 := fun_mk (st := s__law_kept) l10 c10 k10
  have b10 := F10.binds (ps := ["_law_line", "_law_within"]) fun _ _ _ _ _ _ us hl => match us, hl with | [_, _], _ => rfl
  have F11 := fun_mk (st := s_is_pair) l11 c11 k11
  have b11 := F11.binds (ps := ["classes", "name", "value"]) fun _ _ _ _ _ _ us hl => match us, hl with | [_, _, _], _ => rfl
  have F12 := fun_mk (st := s_merged) l12 c12 k12
  have b12 := F12.binds (ps := ["rows"]) fun _ _ _ _ _ _ us hl => match us, hl with | [_], _ => rfl
  have F13 := fun_mk (st := s_need_class) l13 c13 k13
  have b13 := F13.binds (ps := ["table", "name"]) fun _ _ _ _ _ _ us hl => match us, hl with | [_, _], _ => rfl
  have F14 := fun_mk (st := s__law_pick) l14 c14 k14
  have b14 := F14.binds (ps := ["_law_draw", "_law_some"]) fun _ _ _ _ _ _ us hl => match us, hl with | [_, _], _ => rfl
  have F15 := fun_mk (st := s__law_mixed) l15 c15 k15
  have b15 := F15.binds (ps := ["_law_draw", "_law_some"]) fun _ _ _ _ _ _ us hl => match us, hl with | [_, _], _ => rfl
  have F16 := fun_mk (st := s__law_lines) l16 c16 k16
  have b16 := F16.binds (ps := ["_law_bases"]) fun _ _ _ _ _ _ us hl => match us, hl with | [_], _ => rfl
  have F17 := fun_mk (st := s_orders_of) l17 c17 k17
  have b17 := F17.binds (ps := ["bases"]) fun _ _ _ _ _ _ us hl => match us, hl with | [_], _ => rfl
  have F18 := fun_mk (st := s_Table_bases) l18 c18 k18
  have b18 := F18.binds (ps := ["self", "name"]) fun _ _ _ _ _ _ us hl => match us, hl with | [_, _], _ => rfl
  have F19 := fun_mk (st := s_Table_order) l19 c19 k19
  have b19 := F19.binds (ps := ["self", "name"]) fun _ _ _ _ _ _ us hl => match us, hl with | [_, _], _ => rfl
  have F20 := fun_mk (st := s__law_class_names) l20 c20 k20
  have b20 := F20.binds (ps := ["_law_draw", "_law_many"]) fun _ _ _ _ _ _ us hl => match us, hl with | [_, _], _ => rfl
  have F21 := fun_mk (st := s__law_word_list) l21 c21 k21
  have b21 := F21.binds (ps := ["_law_draw", "_law_many"]) fun _ _ _ _ _ _ us hl => match us, hl with | [_, _], _ => rfl
  have F22 := fun_mk (st := s__law_model) l22 c22 k22
  have b22 := F22.binds (ps := ["_law_bases", "_law_words"]) fun _ _ _ _ _ _ us hl => match us, hl with | [_, _], _ => rfl
  have F23 := fun_mk (st := s_Table___init__) l23 c23 k23
  have b23 := F23.binds (ps := ["self", "classes"]) fun _ _ _ _ _ _ us hl => match us, hl with | [_, _], _ => rfl
  have F24 := fun_mk (st := s_Table_is_deed) l24 c24 k24
  have b24 := F24.binds (ps := ["self", "value"]) fun _ _ _ _ _ _ us hl => match us, hl with | [_, _], _ => rfl
  have F25 := fun_mk (st := s__law_table) l25 c25 k25
  have b25 := F25.binds (ps := ["_law_draw", "_law_upto"]) fun _ _ _ _ _ _ us hl => match us, hl with | [_, _], _ => rfl
  have F26 := fun_mk (st := s__law_orders_right) l26 c26 k26
  have b26 := F26.binds (ps := ["_law_side"]) fun _ _ _ _ _ _ us hl => match us, hl with | [_], _ => rfl
  have F27 := fun_mk (st := s_Table_done) l27 c27 k27
  have b27 := F27.binds (ps := ["self", "deed"]) fun _ _ _ _ _ _ us hl => match us, hl with | [_, _], _ => rfl
  have F28 := fun_mk (st := s__law_real) l28 c28 k28
  have b28 := F28.binds (ps := ["_law_model_here"]) fun _ _ _ _ _ _ us hl => match us, hl with | [_], _ => rfl
  have F29 := fun_mk (st := s_law) l29 c29 k29
  have b29 := F29.binds (ps := ["_law_script"]) fun _ _ _ _ _ _ us hl => match us, hl with | [_], _ => rfl
  exact ⟨{ a_is_word := f0, fd_is_word := (_), F_is_word := F0, b_is_word := b0, g_is_word := PySem.W.mg_of X G a0, a_is_class_name := f1, fd_is_class_name := (_), F_is_class_name := F1, b_is_class_name := b1, g_is_class_name := PySem.W.mg_of X G a1, a_is_list := f2, fd_is_list := (_), F_is_list := F2, b_is_list := b2, g_is_list := PySem.W.mg_of X G a2, a_are_bases := f3, fd_are_bases := (_), F_are_bases := F3, b_are_bases := b3, g_are_bases := PySem.W.mg_of X G a3, a_first_head := f4, fd_first_head := (_), F_first_head := F4, b_first_head := b4, g_first_head := PySem.W.mg_of X G a4, a_Table_names := f5, fd_Table_names := (_), F_Table_names := F5, b_Table_names := b5, a_Table___contains__ := f6, fd_Table___contains__ := (_), F_Table___contains__ := F6, b_Table___contains__ := b6, a__law_begin := f7, fd__law_begin := (_), F__law_begin := F7, b__law_begin := b7, g__law_begin := PySem.W.mg_of X G a7, a__law_take := f8, fd__law_take := (_), F__law_take := F8, b__law_take := b8, g__law_take := PySem.W.mg_of X G a8, a__law_merge := f9, fd__law_merge := (_), F__law_merge := F9, b__law_merge := b9, g__law_merge := PySem.W.mg_of X G a9, a__law_kept := f10, fd__law_kept := (_), F__law_kept := F10, b__law_kept := b10, g__law_kept := PySem.W.mg_of X G a10, a_is_pair := f11, fd_is_pair := (_), F_is_pair := F11, b_is_pair := b11, g_is_pair := PySem.W.mg_of X G a11, a_merged := f12, fd_merged := (_), F_merged := F12, b_merged := b12, g_merged := PySem.W.mg_of X G a12, a_need_class := f13, fd_need_class := (_), F_need_class := F13, b_need_class := b13, g_need_class := PySem.W.mg_of X G a13, a__law_pick := f14, fd__law_pick := (_), F__law_pick := F14, b__law_pick := b14, g__law_pick := PySem.W.mg_of X G a14, a__law_mixed := f15, fd__law_mixed := (_), F__law_mixed := F15, b__law_mixed := b15, g__law_mixed := PySem.W.mg_of X G a15, a__law_lines := f16, fd__law_lines := (_), F__law_lines := F16, b__law_lines := b16, g__law_lines := PySem.W.mg_of X G a16, a_orders_of := f17, fd_orders_of := (_), F_orders_of := F17, b_orders_of := b17, g_orders_of := PySem.W.mg_of X G a17, a_Table_bases := f18, fd_Table_bases := (_), F_Table_bases := F18, b_Table_bases := b18, a_Table_order := f19, fd_Table_order := (_), F_Table_order := F19, b_Table_order := b19, a__law_class_names := f20, fd__law_class_names := (_), F__law_class_names := F20, b__law_class_names := b20, g__law_class_names := PySem.W.mg_of X G a20, a__law_word_list := f21, fd__law_word_list := (_), F__law_word_list := F21, b__law_word_list := b21, g__law_word_list := PySem.W.mg_of X G a21, a__law_model := f22, fd__law_model := (_), F__law_model := F22, b__law_model := b22, g__law_model := PySem.W.mg_of X G a22, a_Table___init__ := f23, fd_Table___init__ := (_), F_Table___init__ := F23, b_Table___init__ := b23, a_Table_is_deed := f24, fd_Table_is_deed := (_), F_Table_is_deed := F24, b_Table_is_deed := b24, a__law_table := f25, fd__law_table := (_), F__law_table := F25, b__law_table := b25, g__law_table := PySem.W.mg_of X G a25, a__law_orders_right := f26, fd__law_orders_right := (_), F__law_orders_right := F26, b__law_orders_right := b26, g__law_orders_right := PySem.W.mg_of X G a26, a_Table_done := f27, fd_Table_done := (_), F_Table_done := F27, b_Table_done := b27, a__law_real := f28, fd__law_real := (_), F__law_real := F28, b__law_real := b28, g__law_real := PySem.W.mg_of X G a28, a_law := f29, fd_law := (_), F_law := F29, b_law := b29, g_law := PySem.W.mg_of X G a29, c_Table := C_Table, cn_Table := cn_Table, g_Table := PySem.W.mg_of X G cn_Table, cl_Table := ⟨pg_Table, hd_Table, po_Table, sa_Table⟩, mk_Table := ⟨ms_Table, a23, i23, mkp_Table⟩, me_Table_bases := ⟨a18, i18, k18⟩, me_Table_done := ⟨a27, i27, k27⟩, me_Table_is_deed := ⟨a24, i24, k24⟩, me_Table_names := ⟨a5, i5, k5⟩, me_Table_order := ⟨a19, i19, k19⟩, du_Table___contains__ := ⟨a6, i6⟩, na_Table_own_bases := na_Table_own_bases, na_Table_own_orders := na_Table_own_orders, na_Table_own_words := na_Table_own_words, t_LARGE := t_LARGE, m_LARGE := PySem.W.mg_of X G m_LARGE, t_LONGEST := t_LONGEST, m_LONGEST := PySem.W.mg_of X G m_LONGEST, t_MOST_BASES := t_MOST_BASES, m_MOST_BASES := PySem.W.mg_of X G m_MOST_BASES, t_MOST_CLASSES := t_MOST_CLASSES, m_MOST_CLASSES := PySem.W.mg_of X G m_MOST_CLASSES, t_MOST_WORDS := t_MOST_WORDS, m_MOST_WORDS := PySem.W.mg_of X G m_MOST_WORDS, t_SMALL := t_SMALL, m_SMALL := PySem.W.mg_of X G m_SMALL, n_abs := PySem.W.mg_none_of X G n_abs, n_all := PySem.W.mg_none_of X G n_all, n_any := PySem.W.mg_none_of X G n_any, n_dict := PySem.W.mg_none_of X G n_dict, n_enumerate := PySem.W.mg_none_of X G n_enumerate, n_int := PySem.W.mg_none_of X G n_int, n_isinstance := PySem.W.mg_none_of X G n_isinstance, n_len := PySem.W.mg_none_of X G n_len, n_list := PySem.W.mg_none_of X G n_list, n_min := PySem.W.mg_none_of X G n_min, n_range := PySem.W.mg_none_of X G n_range, n_set := PySem.W.mg_none_of X G n_set, n_sorted := PySem.W.mg_none_of X G n_sorted, n_str := PySem.W.mg_none_of X G n_str, n_sum := PySem.W.mg_none_of X G n_sum, n_tuple := PySem.W.mg_none_of X G n_tuple }, rfl, fun s v => .of_eq rfl⟩
theorem law_mk {P : Program} {w : World} {fa : Addr} {K : PySem.W.Frag} {h : Heap} {mg : Str → Option Value} (X : K.In h) (G : h.Ns mainGlobals mg) (hmg : mg "law" = some (.ref fa))
    {f0 : Addr} {od0 an0 : Option Addr} {sl0 : Array (Option Value)} {oc0 kV0 dc0 pm0 cd0 ct0 : Value}
    {f1 : Addr} {od1 an1 : Option Addr} {sl1 : Array (Option Value)} {oc1 kV1 dc1 pm1 cd1 ct1 : Value}
    {f2 : Addr} {od2 an2 : Option Addr} {sl2 : Array (Option Value)} {oc2 kV2 dc2 pm2 cd2 ct2 : Value}
    {f3 : Addr} {od3 an3 : Option Addr} {sl3 : Array (Option Value)} {oc3 kV3 dc3 pm3 cd3 ct3 : Value}
    {f4 : Addr} {od4 an4 : Option Addr} {sl4 : Array (Option Value)} {oc4 kV4 dc4 pm4 cd4 ct4 : Value}
    {f5 : Addr} {od5 an5 : Option Addr} {sl5 : Array (Option Value)} {oc5 kV5 dc5 pm5 cd5 ct5 : Value}
    {f6 : Addr} {od6 an6 : Option Addr} {sl6 : Array (Option Value)} {oc6 kV6 dc6 pm6 cd6 ct6 : Value}
    {f7 : Addr} {od7 an7 : Option Addr} {sl7 : Array (Option Value)} {oc7 kV7 dc7 pm7 cd7 ct7 : Value}
    {f8 : Addr} {od8 an8 : Option Addr} {sl8 : Array (Option Value)} {oc8 kV8 dc8 pm8 cd8 ct8 : Value}
    {f9 : Addr} {od9 an9 : Option Addr} {sl9 : Array (Option Value)} {oc9 kV9 dc9 pm9 cd9 ct9 : Value}
    {f10 : Addr} {od10 an10 : Option Addr} {sl10 : Array (Option Value)} {oc10 kV10 dc10 pm10 cd10 ct10 : Value}
    {f11 : Addr} {od11 an11 : Option Addr} {sl11 : Array (Option Value)} {oc11 kV11 dc11 pm11 cd11 ct11 : Value}
    {f12 : Addr} {od12 an12 : Option Addr} {sl12 : Array (Option Value)} {oc12 kV12 dc12 pm12 cd12 ct12 : Value}
    {f13 : Addr} {od13 an13 : Option Addr} {sl13 : Array (Option Value)} {oc13 kV13 dc13 pm13 cd13 ct13 : Value}
    {f14 : Addr} {od14 an14 : Option Addr} {sl14 : Array (Option Value)} {oc14 kV14 dc14 pm14 cd14 ct14 : Value}
    {f15 : Addr} {od15 an15 : Option Addr} {sl15 : Array (Option Value)} {oc15 kV15 dc15 pm15 cd15 ct15 : Value}
    {f16 : Addr} {od16 an16 : Option Addr} {sl16 : Array (Option Value)} {oc16 kV16 dc16 pm16 cd16 ct16 : Value}
    {f17 : Addr} {od17 an17 : Option Addr} {sl17 : Array (Option Value)} {oc17 kV17 dc17 pm17 cd17 ct17 : Value}
    {f18 : Addr} {od18 an18 : Option Addr} {sl18 : Array (Option Value)} {oc18 kV18 dc18 pm18 cd18 ct18 : Value}
    {f19 : Addr} {od19 an19 : Option Addr} {sl19 : Array (Option Value)} {oc19 kV19 dc19 pm19 cd19 ct19 : Value}
    {f20 : Addr} {od20 an20 : Option Addr} {sl20 : Array (Option Value)} {oc20 kV20 dc20 pm20 cd20 ct20 : Value}
    {f21 : Addr} {od21 an21 : Option Addr} {sl21 : Array (Option Value)} {oc21 kV21 dc21 pm21 cd21 ct21 : Value}
    {f22 : Addr} {od22 an22 : Option Addr} {sl22 : Array (Option Value)} {oc22 kV22 dc22 pm22 cd22 ct22 : Value}
    {f23 : Addr} {od23 an23 : Option Addr} {sl23 : Array (Option Value)} {oc23 kV23 dc23 pm23 cd23 ct23 : Value}
    {f24 : Addr} {od24 an24 : Option Addr} {sl24 : Array (Option Value)} {oc24 kV24 dc24 pm24 cd24 ct24 : Value}
    {f25 : Addr} {od25 an25 : Option Addr} {sl25 : Array (Option Value)} {oc25 kV25 dc25 pm25 cd25 ct25 : Value}
    {f26 : Addr} {od26 an26 : Option Addr} {sl26 : Array (Option Value)} {oc26 kV26 dc26 pm26 cd26 ct26 : Value}
    {f27 : Addr} {od27 an27 : Option Addr} {sl27 : Array (Option Value)} {oc27 kV27 dc27 pm27 cd27 ct27 : Value}
    {f28 : Addr} {od28 an28 : Option Addr} {sl28 : Array (Option Value)} {oc28 kV28 dc28 pm28 cd28 ct28 : Value}
    {f29 : Addr} {od29 an29 : Option Addr} {sl29 : Array (Option Value)} {oc29 kV29 dc29 pm29 cd29 ct29 : Value}
    {C_Table : Addr}
    {t_LARGE : Tok}
    {t_LONGEST : Tok}
    {t_MOST_BASES : Tok}
    {t_MOST_CLASSES : Tok}
    {t_MOST_WORDS : Tok}
    {t_SMALL : Tok}
    (cn_Table : PySem.W.nsIn K mainGlobals "Table" = some (some (.ref C_Table)))
    (a0 : PySem.W.nsIn K mainGlobals "is_word" = some (some (.ref f0)))
    (l0 : K.lookup f0 = some ⟨oc0, od0, .func (PySem.W.fnOf "is_word" "is_word" (defArgs s_is_word) (defBody s_is_word) (defScope s_is_word) .none kV0 dc0 pm0 an0 cd0 ct0), sl0⟩)
    (c0 : PySem.W.codeIn K cd0 "is_word" = true)
    (k0 : PySem.W.keepIn K (.ref f0) = true)
    (a1 : PySem.W.nsIn K mainGlobals "is_class_name" = some (some (.ref f1)))
    (l1 : K.lookup f1 = some ⟨oc1, od1, .func (PySem.W.fnOf "is_class_name" "is_class_name" (defArgs s_is_class_name) (defBody s_is_class_name) (defScope s_is_class_name) .none kV1 dc1 pm1 an1 cd1 ct1), sl1⟩)
    (c1 : PySem.W.codeIn K cd1 "is_class_name" = true)
    (k1 : PySem.W.keepIn K (.ref f1) = true)
    (a2 : PySem.W.nsIn K mainGlobals "is_list" = some (some (.ref f2)))
    (l2 : K.lookup f2 = some ⟨oc2, od2, .func (PySem.W.fnOf "is_list" "is_list" (defArgs s_is_list) (defBody s_is_list) (defScope s_is_list) .none kV2 dc2 pm2 an2 cd2 ct2), sl2⟩)
    (c2 : PySem.W.codeIn K cd2 "is_list" = true)
    (k2 : PySem.W.keepIn K (.ref f2) = true)
    (a3 : PySem.W.nsIn K mainGlobals "are_bases" = some (some (.ref f3)))
    (l3 : K.lookup f3 = some ⟨oc3, od3, .func (PySem.W.fnOf "are_bases" "are_bases" (defArgs s_are_bases) (defBody s_are_bases) (defScope s_are_bases) .none kV3 dc3 pm3 an3 cd3 ct3), sl3⟩)
    (c3 : PySem.W.codeIn K cd3 "are_bases" = true)
    (k3 : PySem.W.keepIn K (.ref f3) = true)
    (a4 : PySem.W.nsIn K mainGlobals "first_head" = some (some (.ref f4)))
    (l4 : K.lookup f4 = some ⟨oc4, od4, .func (PySem.W.fnOf "first_head" "first_head" (defArgs s_first_head) (defBody s_first_head) (defScope s_first_head) .none kV4 dc4 pm4 an4 cd4 ct4), sl4⟩)
    (c4 : PySem.W.codeIn K cd4 "first_head" = true)
    (k4 : PySem.W.keepIn K (.ref f4) = true)
    (a5 : PySem.W.findIn K (.ref C_Table) "names" = some (some (.ref f5)))
    (l5 : K.lookup f5 = some ⟨oc5, od5, .func (PySem.W.fnOf "names" "Table.names" (defArgs s_Table_names) (defBody s_Table_names) (defScope s_Table_names) .none kV5 dc5 pm5 an5 cd5 ct5), sl5⟩)
    (c5 : PySem.W.codeIn K cd5 "Table.names" = true)
    (k5 : PySem.W.keepIn K (.ref f5) = true)
    (i5 : PySem.W.isFn K (.ref f5) = true)
    (a6 : PySem.W.findIn K (.ref C_Table) "__contains__" = some (some (.ref f6)))
    (l6 : K.lookup f6 = some ⟨oc6, od6, .func (PySem.W.fnOf "__contains__" "Table.__contains__" (defArgs s_Table___contains__) (defBody s_Table___contains__) (defScope s_Table___contains__) .none kV6 dc6 pm6 an6 cd6 ct6), sl6⟩)
    (c6 : PySem.W.codeIn K cd6 "Table.__contains__" = true)
    (k6 : PySem.W.keepIn K (.ref f6) = true)
    (i6 : PySem.W.isFn K (.ref f6) = true)
    (a7 : PySem.W.nsIn K mainGlobals "_law_begin" = some (some (.ref f7)))
    (l7 : K.lookup f7 = some ⟨oc7, od7, .func (PySem.W.fnOf "_law_begin" "_law_begin" (defArgs s__law_begin) (defBody s__law_begin) (defScope s__law_begin) .none kV7 dc7 pm7 an7 cd7 ct7), sl7⟩)
    (c7 : PySem.W.codeIn K cd7 "_law_begin" = true)
    (k7 : PySem.W.keepIn K (.ref f7) = true)
    (a8 : PySem.W.nsIn K mainGlobals "_law_take" = some (some (.ref f8)))
    (l8 : K.lookup f8 = some ⟨oc8, od8, .func (PySem.W.fnOf "_law_take" "_law_take" (defArgs s__law_take) (defBody s__law_take) (defScope s__law_take) .none kV8 dc8 pm8 an8 cd8 ct8), sl8⟩)
    (c8 : PySem.W.codeIn K cd8 "_law_take" = true)
    (k8 : PySem.W.keepIn K (.ref f8) = true)
    (a9 : PySem.W.nsIn K mainGlobals "_law_merge" = some (some (.ref f9)))
    (l9 : K.lookup f9 = some ⟨oc9, od9, .func (PySem.W.fnOf "_law_merge" "_law_merge" (defArgs s__law_merge) (defBody s__law_merge) (defScope s__law_merge) .none kV9 dc9 pm9 an9 cd9 ct9), sl9⟩)
    (c9 : PySem.W.codeIn K cd9 "_law_merge" = true)
    (k9 : PySem.W.keepIn K (.ref f9) = true)
    (a10 : PySem.W.nsIn K mainGlobals "_law_kept" = some (some (.ref f10)))
    (l10 : K.lookup f10 = some ⟨oc10, od10, .func (PySem.W.fnOf "_law_kept" "_law_kept" (defArgs s__law_kept) (defBody s__law_kept) (defScope s__law_kept) .none kV10 dc10 pm10 an10 cd10 ct10), sl10⟩)
    (c10 : PySem.W.codeIn K cd10 "_law_kept" = true)
    (k10 : PySem.W.keepIn K (.ref f10) = true)
    (a11 : PySem.W.nsIn K mainGlobals "is_pair" = some (some (.ref f11)))
    (l11 : K.lookup f11 = some ⟨oc11, od11, .func (PySem.W.fnOf "is_pair" "is_pair" (defArgs s_is_pair) (defBody s_is_pair) (defScope s_is_pair) .none kV11 dc11 pm11 an11 cd11 ct11), sl11⟩)
    (c11 : PySem.W.codeIn K cd11 "is_pair" = true)
    (k11 : PySem.W.keepIn K (.ref f11) = true)
    (a12 : PySem.W.nsIn K mainGlobals "merged" = some (some (.ref f12)))
    (l12 : K.lookup f12 = some ⟨oc12, od12, .func (PySem.W.fnOf "merged" "merged" (defArgs s_merged) (defBody s_merged) (defScope s_merged) .none kV12 dc12 pm12 an12 cd12 ct12), sl12⟩)
    (c12 : PySem.W.codeIn K cd12 "merged" = true)
    (k12 : PySem.W.keepIn K (.ref f12) = true)
    (a13 : PySem.W.nsIn K mainGlobals "need_class" = some (some (.ref f13)))
    (l13 : K.lookup f13 = some ⟨oc13, od13, .func (PySem.W.fnOf "need_class" "need_class" (defArgs s_need_class) (defBody s_need_class) (defScope s_need_class) .none kV13 dc13 pm13 an13 cd13 ct13), sl13⟩)
    (c13 : PySem.W.codeIn K cd13 "need_class" = true)
    (k13 : PySem.W.keepIn K (.ref f13) = true)
    (a14 : PySem.W.nsIn K mainGlobals "_law_pick" = some (some (.ref f14)))
    (l14 : K.lookup f14 = some ⟨oc14, od14, .func (PySem.W.fnOf "_law_pick" "_law_pick" (defArgs s__law_pick) (defBody s__law_pick) (defScope s__law_pick) .none kV14 dc14 pm14 an14 cd14 ct14), sl14⟩)
    (c14 : PySem.W.codeIn K cd14 "_law_pick" = true)
    (k14 : PySem.W.keepIn K (.ref f14) = true)
    (a15 : PySem.W.nsIn K mainGlobals "_law_mixed" = some (some (.ref f15)))
    (l15 : K.lookup f15 = some ⟨oc15, od15, .func (PySem.W.fnOf "_law_mixed" "_law_mixed" (defArgs s__law_mixed) (defBody s__law_mixed) (defScope s__law_mixed) .none kV15 dc15 pm15 an15 cd15 ct15), sl15⟩)
    (c15 : PySem.W.codeIn K cd15 "_law_mixed" = true)
    (k15 : PySem.W.keepIn K (.ref f15) = true)
    (a16 : PySem.W.nsIn K mainGlobals "_law_lines" = some (some (.ref f16)))
    (l16 : K.lookup f16 = some ⟨oc16, od16, .func (PySem.W.fnOf "_law_lines" "_law_lines" (defArgs s__law_lines) (defBody s__law_lines) (defScope s__law_lines) .none kV16 dc16 pm16 an16 cd16 ct16), sl16⟩)
    (c16 : PySem.W.codeIn K cd16 "_law_lines" = true)
    (k16 : PySem.W.keepIn K (.ref f16) = true)
    (a17 : PySem.W.nsIn K mainGlobals "orders_of" = some (some (.ref f17)))
    (l17 : K.lookup f17 = some ⟨oc17, od17, .func (PySem.W.fnOf "orders_of" "orders_of" (defArgs s_orders_of) (defBody s_orders_of) (defScope s_orders_of) .none kV17 dc17 pm17 an17 cd17 ct17), sl17⟩)
    (c17 : PySem.W.codeIn K cd17 "orders_of" = true)
    (k17 : PySem.W.keepIn K (.ref f17) = true)
    (a18 : PySem.W.findIn K (.ref C_Table) "bases" = some (some (.ref f18)))
    (l18 : K.lookup f18 = some ⟨oc18, od18, .func (PySem.W.fnOf "bases" "Table.bases" (defArgs s_Table_bases) (defBody s_Table_bases) (defScope s_Table_bases) .none kV18 dc18 pm18 an18 cd18 ct18), sl18⟩)
    (c18 : PySem.W.codeIn K cd18 "Table.bases" = true)
    (k18 : PySem.W.keepIn K (.ref f18) = true)
    (i18 : PySem.W.isFn K (.ref f18) = true)
    (a19 : PySem.W.findIn K (.ref C_Table) "order" = some (some (.ref f19)))
    (l19 : K.lookup f19 = some ⟨oc19, od19, .func (PySem.W.fnOf "order" "Table.order" (defArgs s_Table_order) (defBody s_Table_order) (defScope s_Table_order) .none kV19 dc19 pm19 an19 cd19 ct19), sl19⟩)
    (c19 : PySem.W.codeIn K cd19 "Table.order" = true)
    (k19 : PySem.W.keepIn K (.ref f19) = true)
    (i19 : PySem.W.isFn K (.ref f19) = true)
    (a20 : PySem.W.nsIn K mainGlobals "_law_class_names" = some (some (.ref f20)))
    (l20 : K.lookup f20 = some ⟨oc20, od20, .func (PySem.W.fnOf "_law_class_names" "_law_class_names" (defArgs s__law_class_names) (defBody s__law_class_names) (defScope s__law_class_names) .none kV20 dc20 pm20 an20 cd20 ct20), sl20⟩)
    (c20 : PySem.W.codeIn K cd20 "_law_class_names" = true)
    (k20 : PySem.W.keepIn K (.ref f20) = true)
    (a21 : PySem.W.nsIn K mainGlobals "_law_word_list" = some (some (.ref f21)))
    (l21 : K.lookup f21 = some ⟨oc21, od21, .func (PySem.W.fnOf "_law_word_list" "_law_word_list" (defArgs s__law_word_list) (defBody s__law_word_list) (defScope s__law_word_list) .none kV21 dc21 pm21 an21 cd21 ct21), sl21⟩)
    (c21 : PySem.W.codeIn K cd21 "_law_word_list" = true)
    (k21 : PySem.W.keepIn K (.ref f21) = true)
    (a22 : PySem.W.nsIn K mainGlobals "_law_model" = some (some (.ref f22)))
    (l22 : K.lookup f22 = some ⟨oc22, od22, .func (PySem.W.fnOf "_law_model" "_law_model" (defArgs s__law_model) (defBody s__law_model) (defScope s__law_model) .none kV22 dc22 pm22 an22 cd22 ct22), sl22⟩)
    (c22 : PySem.W.codeIn K cd22 "_law_model" = true)
    (k22 : PySem.W.keepIn K (.ref f22) = true)
    (a23 : PySem.W.findIn K (.ref C_Table) "__init__" = some (some (.ref f23)))
    (l23 : K.lookup f23 = some ⟨oc23, od23, .func (PySem.W.fnOf "__init__" "Table.__init__" (defArgs s_Table___init__) (defBody s_Table___init__) (defScope s_Table___init__) .none kV23 dc23 pm23 an23 cd23 ct23), sl23⟩)
    (c23 : PySem.W.codeIn K cd23 "Table.__init__" = true)
    (k23 : PySem.W.keepIn K (.ref f23) = true)
    (i23 : PySem.W.isFn K (.ref f23) = true)
    (a24 : PySem.W.findIn K (.ref C_Table) "is_deed" = some (some (.ref f24)))
    (l24 : K.lookup f24 = some ⟨oc24, od24, .func (PySem.W.fnOf "is_deed" "Table.is_deed" (defArgs s_Table_is_deed) (defBody s_Table_is_deed) (defScope s_Table_is_deed) .none kV24 dc24 pm24 an24 cd24 ct24), sl24⟩)
    (c24 : PySem.W.codeIn K cd24 "Table.is_deed" = true)
    (k24 : PySem.W.keepIn K (.ref f24) = true)
    (i24 : PySem.W.isFn K (.ref f24) = true)
    (a25 : PySem.W.nsIn K mainGlobals "_law_table" = some (some (.ref f25)))
    (l25 : K.lookup f25 = some ⟨oc25, od25, .func (PySem.W.fnOf "_law_table" "_law_table" (defArgs s__law_table) (defBody s__law_table) (defScope s__law_table) .none kV25 dc25 pm25 an25 cd25 ct25), sl25⟩)
    (c25 : PySem.W.codeIn K cd25 "_law_table" = true)
    (k25 : PySem.W.keepIn K (.ref f25) = true)
    (a26 : PySem.W.nsIn K mainGlobals "_law_orders_right" = some (some (.ref f26)))
    (l26 : K.lookup f26 = some ⟨oc26, od26, .func (PySem.W.fnOf "_law_orders_right" "_law_orders_right" (defArgs s__law_orders_right) (defBody s__law_orders_right) (defScope s__law_orders_right) .none kV26 dc26 pm26 an26 cd26 ct26), sl26⟩)
    (c26 : PySem.W.codeIn K cd26 "_law_orders_right" = true)
    (k26 : PySem.W.keepIn K (.ref f26) = true)
    (a27 : PySem.W.findIn K (.ref C_Table) "done" = some (some (.ref f27)))
    (l27 : K.lookup f27 = some ⟨oc27, od27, .func (PySem.W.fnOf "done" "Table.done" (defArgs s_Table_done) (defBody s_Table_done) (defScope s_Table_done) .none kV27 dc27 pm27 an27 cd27 ct27), sl27⟩)
    (c27 : PySem.W.codeIn K cd27 "Table.done" = true)
    (k27 : PySem.W.keepIn K (.ref f27) = true)
    (i27 : PySem.W.isFn K (.ref f27) = true)
    (a28 : PySem.W.nsIn K mainGlobals "_law_real" = some (some (.ref f28)))
    (l28 : K.lookup f28 = some ⟨oc28, od28, .func (PySem.W.fnOf "_law_real" "_law_real" (defArgs s__law_real) (defBody s__law_real) (defScope s__law_real) .none kV28 dc28 pm28 an28 cd28 ct28), sl28⟩)
    (c28 : PySem.W.codeIn K cd28 "_law_real" = true)
    (k28 : PySem.W.keepIn K (.ref f28) = true)
    (a29 : PySem.W.nsIn K mainGlobals "law" = some (some (.ref f29)))
    (l29 : K.lookup f29 = some ⟨oc29, od29, .func (PySem.W.fnOf "law" "law" (defArgs s_law) (defBody s_law) (defScope s_law) .none kV29 dc29 pm29 an29 cd29 ct29), sl29⟩)
    (c29 : PySem.W.codeIn K cd29 "law" = true)
    (k29 : PySem.W.keepIn K (.ref f29) = true)
    (pg_Table : PySem.W.plainGet K C_Table Str.empty = true)
    (hd_Table : PySem.W.hasDictIn K C_Table = true)
    (po_Table : PySem.W.plainOver K C_Table = true)
    (sa_Table : PySem.W.findIn K (.ref C_Table) "__setattr__" = some (some (.builtin "object.__setattr__")))
    (ms_Table : PySem.W.makesIn K C_Table = true)
    (mkp_Table : PySem.W.keepIn K (.ref C_Table) = true)
    (na_Table_own_bases : PySem.W.findIn K (.ref C_Table) "own_bases" = some none)
    (na_Table_own_orders : PySem.W.findIn K (.ref C_Table) "own_orders" = some none)
    (na_Table_own_words : PySem.W.findIn K (.ref C_Table) "own_words" = some none)
    (m_LARGE : PySem.W.nsIn K mainGlobals "LARGE" = some (some (.str "ABCDEFGHIJKLMNOPQRSTUVWXYZ" t_LARGE)))
    (m_LONGEST : PySem.W.nsIn K mainGlobals "LONGEST" = some (some (.int 8 t_LONGEST)))
    (m_MOST_BASES : PySem.W.nsIn K mainGlobals "MOST_BASES" = some (some (.int 3 t_MOST_BASES)))
    (m_MOST_CLASSES : PySem.W.nsIn K mainGlobals "MOST_CLASSES" = some (some (.int 6 t_MOST_CLASSES)))
    (m_MOST_WORDS : PySem.W.nsIn K mainGlobals "MOST_WORDS" = some (some (.int 4 t_MOST_WORDS)))
    (m_SMALL : PySem.W.nsIn K mainGlobals "SMALL" = some (some (.str "abcdefghijklmnopqrstuvwxyz" t_SMALL)))
    (n_abs : PySem.W.nsIn K mainGlobals "abs" = some none)
    (n_all : PySem.W.nsIn K mainGlobals "all" = some none)
    (n_any : PySem.W.nsIn K mainGlobals "any" = some none)
    (n_dict : PySem.W.nsIn K mainGlobals "dict" = some none)
    (n_enumerate : PySem.W.nsIn K mainGlobals "enumerate" = some none)
    (n_int : PySem.W.nsIn K mainGlobals "int" = some none)
    (n_isinstance : PySem.W.nsIn K mainGlobals "isinstance" = some none)
    (n_len : PySem.W.nsIn K mainGlobals "len" = some none)
    (n_list : PySem.W.nsIn K mainGlobals "list" = some none)
    (n_min : PySem.W.nsIn K mainGlobals "min" = some none)
    (n_range : PySem.W.nsIn K mainGlobals "range" = some none)
    (n_set : PySem.W.nsIn K mainGlobals "set" = some none)
    (n_sorted : PySem.W.nsIn K mainGlobals "sorted" = some none)
    (n_str : PySem.W.nsIn K mainGlobals "str" = some none)
    (n_sum : PySem.W.nsIn K mainGlobals "sum" = some none)
    (n_tuple : PySem.W.nsIn K mainGlobals "tuple" = some none)
    : ∃ fd : FuncData, (∀ (s : Shared) (u : Value), BindsTo s fd ⟨[u], []⟩ [("_law_script", u)]) ∧ ∀ base : Heap, K.In base → base.Ns mainGlobals mg → FnG P w K mg base CX0 7 fa fd ["_law_script"] (spLaw K) := by
  obtain ⟨T, e, hb⟩ := txt_mk X G cn_Table a0 l0 c0 k0 a1 l1 c1 k1 a2 l2 c2 k2 a3 l3 c3 k3 a4 l4 c4 k4 a5 l5 c5 k5 i5 a6 l6 c6 k6 i6 a7 l7 c7 k7 a8 l8 c8 k8 a9 l9 c9 k9 a10 l10 c10 k10 a11 l11 c11 k11 a12 l12 c12 k12 a13 l13 c13 k13 a14 l14 c14 k14 a15 l15 c15 k15 a16 l16 c16 k16 a17 l17 c17 k17 a18 l18 c18 k18 i18 a19 l19 c19 k19 i19 a20 l20 c20 k20 a21 l21 c21 k21 a22 l22 c22 k22 a23 l23 c23 k23 i23 a24 l24 c24 k24 i24 a25 l25 c25 k25 a26 l26 c26 k26 a27 l27 c27 k27 i27 a28 l28 c28 k28 a29 l29 c29 k29 pg_Table hd_Table po_Table sa_Table ms_Table mkp_Table na_Table_own_bases na_Table_own_orders na_Table_own_words m_LARGE m_LONGEST m_MOST_BASES m_MOST_CLASSES m_MOST_WORDS m_SMALL n_abs n_all n_any n_dict n_enumerate n_int n_isinstance n_len n_list n_min n_range n_set n_sorted n_str n_sum n_tuple
  have e2 : some (Value.ref fa) = some (.ref f29) := hmg.symm.trans (PySem.W.mg_of X G a29)
  cases e2
  subst e
  exact ⟨_, hb, fun base _ _ => ok_law T⟩
end K07
open PySem PySem.W PyProof.Rows
set_option maxRecDepth 100000 in
set_option maxHeartbeats 0 in
theorem PySem.Challenge.cw_guardlots_k07_whole_orders_holds : PySem.Challenge.rw_guardlots_k07_whole_orders.Holds := by
  w_on; o_law; k_head; (case hw => w_witness2)
  k_fill
  refine VL.walk_g (l := PySem.Challenge.rw_guardlots_k07_whole_orders) (n := 63) (k := 7) (x := "_law_script") (sp := fun w => VL.spLaw _) rfl (by decide) rfl ⟨rfl, by decide, by decide⟩ (fun w h Y => PySem.W.kIn_of Y) ?F (fun _ H a ns hl hO hS => VL.law_start hl hO hS)
  case F =>
    intro w mg fa h KX G hmg
    refine' K07.law_mk KX G hmg ?cn_Table ?a0 ?l0 ?c0 ?k0 ?a1 ?l1 ?c1 ?k1 ?a2 ?l2 ?c2 ?k2 ?a3 ?l3 ?c3 ?k3 ?a4 ?l4 ?c4 ?k4 ?a5 ?l5 ?c5 ?k5 ?i5 ?a6 ?l6 ?c6 ?k6 ?i6 ?a7 ?l7 ?c7 ?k7 ?a8 ?l8 ?c8 ?k8 ?a9 ?l9 ?c9 ?k9 ?a10 ?l10 ?c10 ?k10 ?a11 ?l11 ?c11 ?k11 ?a12 ?l12 ?c12 ?k12 ?a13 ?l13 ?c13 ?k13 ?a14 ?l14 ?c14 ?k14 ?a15 ?l15 ?c15 ?k15 ?a16 ?l16 ?c16 ?k16 ?a17 ?l17 ?c17 ?k17 ?a18 ?l18 ?c18 ?k18 ?i18 ?a19 ?l19 ?c19 ?k19 ?i19 ?a20 ?l20 ?c20 ?k20 ?a21 ?l21 ?c21 ?k21 ?a22 ?l22 ?c22 ?k22 ?a23 ?l23 ?c23 ?k23 ?i23 ?a24 ?l24 ?c24 ?k24 ?i24 ?a25 ?l25 ?c25 ?k25 ?a26 ?l26 ?c26 ?k26 ?a27 ?l27 ?c27 ?k27 ?i27 ?a28 ?l28 ?c28 ?k28 ?a29 ?l29 ?c29 ?k29 ?pg_Table ?hd_Table ?po_Table ?sa_Table ?ms_Table ?mkp_Table ?na_Table_own_bases ?na_Table_own_orders ?na_Table_own_words ?m_LARGE ?m_LONGEST ?m_MOST_BASES ?m_MOST_CLASSES ?m_MOST_WORDS ?m_SMALL ?n_abs ?n_all ?n_any ?n_dict ?n_enumerate ?n_int ?n_isinstance ?n_len ?n_list ?n_min ?n_range ?n_set ?n_sorted ?n_str ?n_sum ?n_tuple
    (case cn_Table => k_is); (case a0 => k_is); (case l0 => k_is); (case c0 => k_is); (case k0 => k_is); (case a1 => k_is); (case l1 => k_is); (case c1 => k_is); (case k1 => k_is); (case a2 => k_is); (case l2 => k_is); (case c2 => k_is); (case k2 => k_is); (case a3 => k_is); (case l3 => k_is); (case c3 => k_is); (case k3 => k_is); (case a4 => k_is); (case l4 => k_is); (case c4 => k_is); (case k4 => k_is); (case a5 => k_is); (case l5 => k_is); (case c5 => k_is); (case k5 => k_is); (case i5 => k_is); (case a6 => k_is); (case l6 => k_is); (case c6 => k_is); (case k6 => k_is); (case i6 => k_is); (case a7 => k_is); (case l7 => k_is); (case c7 => k_is); (case k7 => k_is); (case a8 => k_is); (case l8 => k_is); (case c8 => k_is); (case k8 => k_is); (case a9 => k_is); (case l9 => k_is); (case c9 => k_is); (case k9 => k_is); (case a10 => k_is); (case l10 => k_is); (case c10 => k_is); (case k10 => k_is); (case a11 => k_is); (case l11 => k_is); (case c11 => k_is); (case k11 => k_is); (case a12 => k_is); (case l12 => k_is); (case c12 => k_is); (case k12 => k_is); (case a13 => k_is); (case l13 => k_is); (case c13 => k_is); (case k13 => k_is); (case a14 => k_is); (case l14 => k_is); (case c14 => k_is); (case k14 => k_is); (case a15 => k_is); (case l15 => k_is); (case c15 => k_is); (case k15 => k_is); (case a16 => k_is); (case l16 => k_is); (case c16 => k_is); (case k16 => k_is); (case a17 => k_is); (case l17 => k_is); (case c17 => k_is); (case k17 => k_is); (case a18 => k_is); (case l18 => k_is); (case c18 => k_is); (case k18 => k_is); (case i18 => k_is); (case a19 => k_is); (case l19 => k_is); (case c19 => k_is); (case k19 => k_is); (case i19 => k_is); (case a20 => k_is); (case l20 => k_is); (case c20 => k_is); (case k20 => k_is); (case a21 => k_is); (case l21 => k_is); (case c21 => k_is); (case k21 => k_is); (case a22 => k_is); (case l22 => k_is); (case c22 => k_is); (case k22 => k_is); (case a23 => k_is); (case l23 => k_is); (case c23 => k_is); (case k23 => k_is); (case i23 => k_is); (case a24 => k_is); (case l24 => k_is); (case c24 => k_is); (case k24 => k_is); (case i24 => k_is); (case a25 => k_is); (case l25 => k_is); (case c25 => k_is); (case k25 => k_is); (case a26 => k_is); (case l26 => k_is); (case c26 => k_is); (case k26 => k_is); (case a27 => k_is); (case l27 => k_is); (case c27 => k_is); (case k27 => k_is); (case i27 => k_is); (case a28 => k_is); (case l28 => k_is); (case c28 => k_is); (case k28 => k_is); (case a29 => k_is); (case l29 => k_is); (case c29 => k_is); (case k29 => k_is); (case pg_Table => k_is); (case hd_Table => k_is); (case po_Table => k_is); (case sa_Table => k_is); (case ms_Table => k_is); (case mkp_Table => k_is); (case na_Table_own_bases => k_is); (case na_Table_own_orders => k_is); (case na_Table_own_words => k_is); (case m_LARGE => k_is); (case m_LONGEST => k_is); (case m_MOST_BASES => k_is); (case m_MOST_CLASSES => k_is); (case m_MOST_WORDS => k_is); (case m_SMALL => k_is); (case n_abs => k_is); (case n_all => k_is); (case n_any => k_is); (case n_dict => k_is); (case n_enumerate => k_is); (case n_int => k_is); (case n_isinstance => k_is); (case n_len => k_is); (case n_list => k_is); (case n_min => k_is); (case n_range => k_is); (case n_set => k_is); (case n_sorted => k_is); (case n_str => k_is); (case n_sum => k_is); (case n_tuple => k_is)
