import PyProof.Rows.All
import HandS.ForMost
import HandS.Exc
import HandS.WordsExc
import HandS.IsInst
import HandS.Wide
import HandS.Flow
import HandS.Deep
import HandS.Iter
import HandS.Dict
import HandS.Lambda
import KE.KeyNested
import HandS.EndBits
import HandS.Defaults
import HandS.Style
import PyProof.ListStr
import HandS.More
import HandS.TupAny
import HandS.DictComp
import HandS.Property
import PyProof.SumAny
import PyProof.ListOps
import PyProof.WalksS
import PyProof.SumWalk
import HandS.OwnEq
import HandS.Star
import HandS.SetFor
import KE.SortData
import HandS.Strs
import KE.GoesMore
import HandS.ExcValue
import HandS.Nested
import HandS.ExcInit
import KE.KExcSuper
import HandS.ExcOwn
import HandS.ExcField
import HandS.ExcIs
import HandS.EndTab
import KE.KNestM
import PyProof.ReprRoads
import HandS.MakeKwOnly
import PyProof.InstNe
import KE.KEqDict
import KE.KDictOf
import PyProof.NeKinds
import HandS.TupSets
import KE.LtData
import HandS.Conv
import KE.KDictSum
import KE.KDictKeyed
import HandS.ClsMeth
import HandS.Comp
import PyProof.ReprLen
import PyProof.PureStr
import PySem.Challenge.RW_guardlots_k15_guards_and_lots
set_option Elab.async false
set_option linter.all false
set_option maxRecDepth 100000
set_option maxHeartbeats 4000000
namespace VL
open PySem PySem.Spec L2
open PyProof.Rows hiding St
inductive D where
  | non | bl (b : Bool) | int (i : Int) | str (x : Str) | ty (n : String) | ref (a : Addr)
  | tup (ds : List D) | lst (ds : List D) | dic (ks : List Key) (ds : List D) | obj (cn : Str) (fs : List Str) (ds : List D) | exc (cn : Str) (fs : List Str) (ds : List D) | fz (ns : List Int) | dct (w : World) (ks : List D) (ds : List D) | wtup (ds : List D)
mutual
def keyN : D → Option NestedKey
  | .non => some .none
  | .bl b => some (.num (if b = true then 1 else 0))
  | .int i => some (.num i)
  | .str x => some (.text x)
  | .tup ds => (keyNs ds).map NestedKey.tup
  | _ => none
def keyNs : List D → Option (List NestedKey)
  | [] => some []
  | d :: ds => match keyN d, keyNs ds with
    | some k, some ks => some (k :: ks)
    | _, _ => none
end
/-- what is known of a dict's own object: its entries, by keys of any depth -/
def DictO (w : World) (o : Obj) (xs : List (NestedKey × Addr × V)) : Prop := o.ExactDict ∧ xs.length ≤ sizeLine ∧ (xs.map (·.1)).Nodup ∧ (∀ x ∈ xs, x.1.depth ≤ 8) ∧ ∃ (ys : List (NestedKey × Addr × Value)) (es : Array DictEntry) (ep : Nat),
  Paired (fun (p : NestedKey × Addr × V) (q : NestedKey × Addr × Value) => p.1 = q.1 ∧ p.2.1 = q.2.1 ∧ RelV p.2.2 q.2.2) xs ys ∧ o.data = .dict es ep ∧ es.toList = ys.map (fun y => (⟨y.1.hash w, .ref y.2.1, y.2.2⟩ : DictEntry))
/-- the dict at b, its object told in full -/
def DX (b : Addr) (o : Obj) : HO := .ext fun h => h.get? b = some o
theorem dx_code {w : World} {b a : Addr} {o : Obj} {xs : List (NestedKey × Addr × V)} {q : Str} (h : DictO w o xs) : DX b o ≠ LamX.CodeO a q := by
  obtain ⟨_, _, _, _, ys, es, ep, _, hd, _⟩ := h
  intro z
  unfold DX LamX.CodeO at z
  injection z with z
  have at_ : ∀ c o', (⟨Array.replicate (b + 1) o, {}⟩ : Heap).get? c = some o' → o' = o := fun c o' e => by
    unfold Heap.get? at e
    split at e
    · cases e
    · rename_i oo h1 h2
      have hm : o' ∈ Array.replicate (b + 1) o := Array.mem_of_getElem? e
      exact (Array.mem_replicate.mp hm).2
  have h0 : (⟨Array.replicate (b + 1) o, {}⟩ : Heap).get? b = some o := by
    have e : (Array.replicate (b + 1) o)[b]? = some o := by simp
    unfold Heap.get?
    split
    · rename_i h1
      rw [e] at h1
      injection h1 with h1
      rw [h1] at hd
      cases hd
    · exact e
  have h1 := (congrFun z (⟨Array.replicate (b + 1) o, {}⟩ : Heap)) ▸ h0
  obtain ⟨oc, vs, t, e, e2, _⟩ := h1
  rw [at_ _ _ e, hd] at e2
  cases e2
/-- the value heap within the heap; a dict may be locked there -/
def Sub (Hv H : Hp) : Prop := ∀ a o, Hv a = some o → H a = some o ∨ ∃ kvs ob, o = .dK kvs ∧ H a = some (.frz ob (.dK kvs))
theorem Sub.of {H H' : Hp} (e : Same H H') : Sub H H' := fun a o h => .inl (e a o h)
theorem Sub.refl (H : Hp) : Sub H H := fun _ _ h => .inl h
theorem Sub.trans {H H' H'' : Hp} (e : Sub H H') (e' : Sub H' H'') : Sub H H'' := fun a o h => by
  rcases e a o h with q | ⟨kvs, ob, rfl, q⟩
  · exact e' a o q
  · rcases e' a _ q with z | ⟨_, _, z, _⟩
    · exact .inr ⟨kvs, ob, rfl, z⟩
    · cases z
theorem Sub.at {H H' : Hp} (e : Sub H H') {a : Addr} {o : HO} (h : H a = some o) (n : ∀ kvs, o ≠ .dK kvs) : H' a = some o := by
  rcases e a o h with q | ⟨kvs, ob, rfl, _⟩
  · exact q
  · exact absurd rfl (n kvs)
theorem Sub.lst {H H' : Hp} (e : Sub H H') {a : Addr} {xs : List V} (h : H a = some (.lst xs)) : H' a = some (.lst xs) := e.at h (fun _ z => nomatch z)
theorem Sub.tup {H H' : Hp} (e : Sub H H') {a : Addr} {xs : List V} (h : H a = some (.tup xs)) : H' a = some (.tup xs) := e.at h (fun _ z => nomatch z)
theorem Sub.ins {H H' : Hp} (e : Sub H H') {a C dx : Addr} {fs : List (Str × V)} (h : H a = some (.ins C dx fs)) : H' a = some (.ins C dx fs) := e.at h (fun _ z => nomatch z)
theorem Sub.dk {H H' : Hp} (e : Sub H H') {a : Addr} {kvs : List (Key × V)} (h : Rd H a (.dK kvs)) : Rd H' a (.dK kvs) := by
  rcases h with h | ⟨o, h⟩
  · rcases e a _ h with q | ⟨k2, ob, z, q⟩
    · exact .inl q
    · cases z; exact .inr ⟨ob, q⟩
  · exact .inr ⟨o, e.at h (fun _ z => nomatch z)⟩
theorem Sub.dx {H H' : Hp} (e : Sub H H') {a b : Addr} {o : Obj} (h : H a = some (DX b o)) : H' a = some (DX b o) := e.at h (fun _ z => by unfold DX at z; cases z)
theorem Sub.none {H H' : Hp} (e : Sub H H') {a : Addr} (h : H' a = none) : H a = none := by
  cases q : H a with
  | none => rfl
  | some o =>
    rcases e a o q with z | ⟨_, _, _, z⟩
    · rw [h] at z; cases z
    · rw [h] at z; cases z
theorem Sub.seq {K : PySem.W.Frag} {H H' : Hp} (e : Sub H H') {a : Addr} {xs : List V} (h : SqL K H a xs) : SqL K H' a xs := by
  rcases h with (h | ⟨o, h⟩) | h
  · exact .inl (.inl (e.lst h))
  · exact .inl (.inr ⟨o, e.at h (fun _ z => nomatch z)⟩)
  · exact .inr h
theorem seqT0 {K : PySem.W.Frag} {H H' : Hp} {a : Addr} {xs : List V} (e : Sub H H') (h : SqT K H a xs) : SqT K H' a xs := by
  rcases h with (h | ⟨o, h⟩) | h
  · exact .inl (.inl (e.tup h))
  · exact .inl (.inr ⟨o, e.at h (fun _ z => nomatch z)⟩)
  · exact .inr h
/-- the object at a has no dict of its own -/
def DN (K : PySem.W.Frag) (H : Hp) (a : Addr) : Prop := (∃ o u, H a = some (.frz o u) ∧ o.dict = none ∧ ∀ kvs, u ≠ .dK kvs) ∨ ∃ o, K.lookup a = some o ∧ o.dict = none
structure SqX (K : PySem.W.Frag) (H : Hp) (a : Addr) (xs : List V) : Prop where
  sq : SqT K H a xs
  dn : DN K H a
instance {K : PySem.W.Frag} {H : Hp} {a : Addr} {xs : List V} : CoeOut (SqX K H a xs) (SqT K H a xs) := ⟨SqX.sq⟩
theorem SqX.of {K : PySem.W.Frag} {H : Hp} {a : Addr} {o : Obj} {xs : List V} (h : H a = some (.frz o (.tup xs))) (hd : o.dict = none) : SqX K H a xs := ⟨.inl (.inr ⟨o, h⟩), .inl ⟨o, _, h, hd, fun _ z => nomatch z⟩⟩
theorem seqT {K : PySem.W.Frag} {H H' : Hp} {a : Addr} {xs : List V} (e : Sub H H') (h : SqX K H a xs) : SqT K H' a xs := seqT0 e h.sq
theorem seqX {K : PySem.W.Frag} {H H' : Hp} {a : Addr} {xs : List V} (e : Sub H H') (h : SqX K H a xs) : SqX K H' a xs := by
  refine ⟨seqT0 e h.sq, ?_⟩
  rcases h.dn with ⟨o, u, q, d, n⟩ | q
  · exact .inl ⟨o, u, e.at q (fun _ z => nomatch z), d, n⟩
  · exact .inr q
/-- an exception's object at a: its class, its dict -/
def XO (cls : Value) (dd : Option Addr) (a : Addr) : HO := .ext fun h => ∃ (oe : Obj) (vs : Array Value), h.get? a = some oe ∧ Zc cls dd oe ∧ oe.data = .fields vs
def XD (H : Hp) (dd : Option Addr) (fs : List (Str × V)) : Prop := match dd with | none => fs = [] | some d => H d = some (.xd fs)
theorem Sub.xo {H H' : Hp} (e : Sub H H') {a : Addr} {cls : Value} {dd : Option Addr} (h : H a = some (XO cls dd a)) : H' a = some (XO cls dd a) := e.at h (fun _ z => by unfold XO at z; cases z)
theorem Sub.xd {H H' : Hp} (e : Sub H H') {dd : Option Addr} {fs : List (Str × V)} (h : XD H dd fs) : XD H' dd fs := by
  cases dd with
  | none => exact h
  | some d => exact e.at h (fun _ z => nomatch z)
mutual
inductive Rp (K : PySem.W.Frag) (H : Hp) : V → D → Prop
  | non : Rp K H .non .non
  | bl (b : Bool) : Rp K H (.bl b) (.bl b)
  | int (i : Int) : Rp K H (.int i) (.int i)
  | str (x : Str) : Rp K H (.str x) (.str x)
  | ty (n : String) : Rp K H (.ty n) (.ty n)
  | ref (a : Addr) : Rp K H (.ref a) (.ref a)
  | tup {a : Addr} {xs : List V} {ds : List D} : SqX K H a xs → RpAll K H xs ds → Rp K H (.ref a) (.tup ds)
  | wtup {a : Addr} {xs : List V} {ds : List D} : SqT K H a xs → RpAll K H xs ds → Rp K H (.ref a) (.wtup ds)
  | lst {a : Addr} {xs : List V} {ds : List D} : H a = some (.lst xs) → RpAll K H xs ds → Rp K H (.ref a) (.lst ds)
  | fz {a : Addr} {ns : List Int} : SqL K H a (ns.map V.int) → Rp K H (.ref a) (.fz ns)
  | dic {a : Addr} {kvs : List (Key × V)} {ks : List Key} {ds : List D} : Rd H a (.dK kvs) → ks = kvs.map (·.1) → RpAll K H (kvs.map (·.2)) ds → Rp K H (.ref a) (.dic ks ds)
  | dct {a b : Addr} {o : Obj} {w : World} {xs : List (NestedKey × Addr × V)} {ks ds : List D} : H a = some (DX b o) → (b == sysModules) = false → DictO w o xs → ks.map keyN = xs.map (fun x => some x.1) → RpAll K H (xs.map fun x => V.ref x.2.1) ks → RpAll K H (xs.map fun x => x.2.2) ds → Rp K H (.ref a) (.dct w ks ds)
  | obj {a C dx : Addr} {cn : Str} {fs : List (Str × V)} {ns : List Str} {ds : List D} : H a = some (.ins C dx fs) → PySem.W.nsIn K mainGlobals cn = some (some (.ref C)) → ns = fs.map (·.1) → RpAll K H (fs.map (·.2)) ds → Rp K H (.ref a) (.obj cn ns ds)
  | exc {a C : Addr} {dd : Option Addr} {cn : Str} {fs : List (Str × V)} {ns : List Str} {ds : List D} : H a = some (XO (.ref C) dd a) → XD H dd fs → PySem.W.nsIn K mainGlobals cn = some (some (.ref C)) → ns = fs.map (·.1) → RpAll K H (fs.map (·.2)) ds → Rp K H (.ref a) (.exc cn ns ds)
inductive RpAll (K : PySem.W.Frag) (H : Hp) : List V → List D → Prop
  | nil : RpAll K H [] []
  | cons {v : V} {vs : List V} {d : D} {ds : List D} : Rp K H v d → RpAll K H vs ds → RpAll K H (v :: vs) (d :: ds)
end
section
variable {K : PySem.W.Frag} {H H' : Hp}
mutual
theorem Rp.monoS (e : Sub H H') : ∀ (d : D) (v : V), Rp K H v d → Rp K H' v d
  | .non, _, .non => .non
  | .bl _, _, .bl b => .bl b
  | .int _, _, .int b => .int b
  | .str _, _, .str b => .str b
  | .ty _, _, .ty b => .ty b
  | .ref _, _, .ref b => .ref b
  | .tup ds, _, .tup h hs => .tup (seqX e h) (RpAll.monoS e ds _ hs)
  | .wtup ds, _, .wtup h hs => .wtup (seqT0 e h) (RpAll.monoS e ds _ hs)
  | .lst ds, _, .lst h hs => .lst (e.lst h) (RpAll.monoS e ds _ hs)
  | .fz ns, _, .fz h => .fz (e.seq h)
  | .dic ks ds, _, .dic h hk hs => .dic (e.dk h) hk (RpAll.monoS e ds _ hs)
  | .dct _ ks ds, _, .dct h hb hd hk h1 h2 => .dct (e.dx h) hb hd hk (RpAll.monoS e ks _ h1) (RpAll.monoS e ds _ h2)
  | .obj C ns ds, _, .obj h hc hk hs => .obj (e.ins h) hc hk (RpAll.monoS e ds _ hs)
  | .exc C ns ds, _, .exc h hx hc hk hs => .exc (e.xo h) (e.xd hx) hc hk (RpAll.monoS e ds _ hs)
theorem RpAll.monoS (e : Sub H H') : ∀ (ds : List D) (vs : List V), RpAll K H vs ds → RpAll K H' vs ds
  | [], _, .nil => .nil
  | d :: ds, _, .cons h hs => .cons (Rp.monoS e d _ h) (RpAll.monoS e ds _ hs)
end
theorem Rp.mono (e : Sub H H') (d : D) (v : V) (h : Rp K H v d) : Rp K H' v d := Rp.monoS e d v h
theorem RpAll.mono (e : Sub H H') (ds : List D) (vs : List V) (h : RpAll K H vs ds) : RpAll K H' vs ds := RpAll.monoS e ds vs h
/-- an object stands for data, its parts in the value heap -/
def ObD (K : PySem.W.Frag) (H : Hp) : D → HO → Prop
  | .lst ds, u => ∃ vs, u = .lst vs ∧ RpAll K H vs ds
  | .dic ks ds, u => ∃ kvs, u = .dK kvs ∧ ks = kvs.map (·.1) ∧ RpAll K H (kvs.map (·.2)) ds
  | .dct w ks ds, u => ∃ b o xs, u = DX b o ∧ (b == sysModules) = false ∧ DictO w o xs ∧ ks.map keyN = xs.map (fun x => some x.1) ∧ RpAll K H (xs.map fun x => V.ref x.2.1) ks ∧ RpAll K H (xs.map fun x => x.2.2) ds
  | .obj cn ns ds, u => ∃ C dx fs, u = .ins C dx fs ∧ PySem.W.nsIn K mainGlobals cn = some (some (.ref C)) ∧ ns = fs.map (·.1) ∧ RpAll K H (fs.map (·.2)) ds
  | _, _ => False
theorem ObD.monoS (e : Sub H H') {d : D} {u : HO} (h : ObD K H d u) : ObD K H' d u := by
  cases d <;> first | exact h.elim | skip
  · obtain ⟨vs, h1, h2⟩ := h; exact ⟨vs, h1, RpAll.monoS e _ _ h2⟩
  · obtain ⟨kvs, h1, h2, h3⟩ := h; exact ⟨kvs, h1, h2, RpAll.monoS e _ _ h3⟩
  · obtain ⟨C, dx, fs, h1, h2, h3, h4⟩ := h; exact ⟨C, dx, fs, h1, h2, h3, RpAll.monoS e _ _ h4⟩
  · obtain ⟨b, o, xs, h1, h2, h3, h4, h5, h6⟩ := h; exact ⟨b, o, xs, h1, h2, h3, h4, RpAll.monoS e _ _ h5, RpAll.monoS e _ _ h6⟩
theorem ObD.mono (e : Sub H H') {d : D} {u : HO} (h : ObD K H d u) : ObD K H' d u := ObD.monoS e h
theorem ObD.rp {d : D} {u : HO} {a : Addr} (h : ObD K H d u) (e : H a = some u) : Rp K H (.ref a) d := by
  cases d <;> first | exact h.elim | skip
  · obtain ⟨vs, rfl, h2⟩ := h; exact .lst e h2
  · obtain ⟨kvs, rfl, h2, h3⟩ := h; exact .dic (.inl e) h2 h3
  · obtain ⟨C, dx, fs, rfl, h2, h3, h4⟩ := h; exact .obj e h2 h3 h4
  · obtain ⟨b, o, xs, rfl, h2, h3, h4, h5, h6⟩ := h; exact .dct e h2 h3 h4 h5 h6
theorem RpAll.length : ∀ {vs : List V} {ds : List D}, RpAll K H vs ds → vs.length = ds.length
  | _, _, .nil => rfl
  | _, _, .cons _ h => by rw [List.length_cons, List.length_cons, h.length]
theorem RpAll.append : ∀ {vs ws : List V} {ds es : List D}, RpAll K H vs ds → RpAll K H ws es → RpAll K H (vs ++ ws) (ds ++ es)
  | _, _, _, _, .nil, h => h
  | _, _, _, _, .cons a h, h2 => .cons a (h.append h2)
theorem RpAll.get : ∀ {vs : List V} {ds : List D} {i : Nat} {d : D}, RpAll K H vs ds → ds[i]? = some d → ∃ v, vs[i]? = some v ∧ Rp K H v d
  | _, _, 0, _, .cons a _, e => by simp at e; subst e; exact ⟨_, rfl, a⟩
  | _, _, i + 1, _, .cons _ h, e => by simpa using h.get (i := i) (by simpa using e)
  | _, _, _, _, .nil, e => by simp at e
theorem RpAll.take : ∀ {vs : List V} {ds : List D} (n : Nat), RpAll K H vs ds → RpAll K H (vs.take n) (ds.take n)
  | _, _, 0, _ => .nil
  | _, _, _ + 1, .nil => .nil
  | _, _, n + 1, .cons a h => .cons a (h.take n)
theorem RpAll.drop : ∀ {vs : List V} {ds : List D} (n : Nat), RpAll K H vs ds → RpAll K H (vs.drop n) (ds.drop n)
  | _, _, 0, h => h
  | _, _, _ + 1, .nil => .nil
  | _, _, n + 1, .cons _ h => h.drop n
theorem RpAll.erase : ∀ {vs : List V} {ds : List D} (n : Nat), RpAll K H vs ds → RpAll K H (vs.eraseIdx n) (ds.eraseIdx n)
  | _, _, _, .nil => .nil
  | _, _, 0, .cons _ h => h
  | _, _, n + 1, .cons a h => .cons a (h.erase n)
theorem RpAll.one {vs : List V} {d : D} (h : RpAll K H vs [d]) : ∃ v, vs = [v] ∧ Rp K H v d := by
  cases h with
  | cons a h => cases h; exact ⟨_, rfl, a⟩
theorem RpAll.two {vs : List V} {d e : D} (h : RpAll K H vs [d, e]) : ∃ v w, vs = [v, w] ∧ Rp K H v d ∧ Rp K H w e := by
  cases h with
  | cons a h => obtain ⟨w, rfl, b⟩ := h.one; exact ⟨_, _, rfl, a, b⟩
end
/-- what a slot holds: nothing known; data; data of an object that this slot alone holds (its place told: slf); data of an object that the caller alone holds -/
inductive Sl where
  | no | dat (d : D) | own (d : D) | bor (d : D) | slf (y : Addr) (d : D)
abbrev Gm := List Sl
/-- no new table of code objects -/
def NT (H H' : Hp) : Prop := ∀ a ps, H' a = some (.tbl ps) → ∃ ps', H a = some (.tbl ps')
theorem NT.refl (H : Hp) : NT H H := fun _ ps e => ⟨ps, e⟩
theorem NT.trans {H H' H'' : Hp} (a : NT H H') (b : NT H' H'') : NT H H'' := fun x _ e => by
  obtain ⟨_, e2⟩ := b x _ e
  exact a x _ e2
theorem NT.put {H : Hp} {p : Addr} {o : HO} (n : ∀ ps, o ≠ .tbl ps) : NT H (upd H p o) := fun a ps e => by
  by_cases h : a = p
  · subst h; rw [upd_same] at e; exact absurd (Option.some.inj e) (n ps)
  · rw [upd_ne h] at e; exact ⟨ps, e⟩
/-- what is told by a statement over the heap stays -/
def Xt (H H' : Hp) : Prop := ∀ a q, H a = some (LamX.CodeO a q) → H' a = some (LamX.CodeO a q)
theorem Xt.putC {H : Hp} {p : Addr} {o : HO} (n : ∀ q, H p ≠ some (LamX.CodeO p q)) : Xt H (upd H p o) := fun a q e => by
  rw [upd_ne (fun z => n q (by rw [← z]; exact e))]; exact e
theorem Xt.put {H : Hp} {p : Addr} {o : HO} (n : ∀ φ, H p ≠ some (.ext φ)) : Xt H (upd H p o) := Xt.putC fun q => n _
theorem Xt.fresh {H : Hp} {p : Addr} {o : HO} (n : H p = none) : Xt H (upd H p o) := Xt.put fun φ e => by rw [n] at e; cases e
/-- what code did: the value heap grew; all that stood beside it, but the volatile, stands -/
structure Ret (vol : Addr → Prop) (inv : Hp → Prop) (Hv H Hv' H' : Hp) : Prop where
  sv : Sub Hv Hv'
  sub : Sub Hv' H'
  old : ∀ a o, H a = some o → Hv a = none → ¬ vol a → H' a = some o
  inv : inv H'
  nv : ∀ a, vol a → Hv' a = none
  grow : ∀ a, Hv a = none → H a ≠ none → Hv' a = none
  nt : NT H H'
structure Vol where
  vol : Addr → Prop
  inv : Hp → Prop
  there : ∀ H a, inv H → vol a → H a ≠ none
  keep : ∀ H H', inv H → (∀ a, vol a → H' a = H a) → Xt H H' → NT H H' → inv H'
def Vol.no : Vol := ⟨fun _ => False, fun _ => True, fun _ _ _ h => h.elim, fun _ _ _ _ _ _ => True.intro⟩
structure Wc where
  J : Vol
  H0 : Hp
  Hv0 : Hp
  inv0 : J.inv H0
  sub0 : Sub Hv0 H0
  nv0 : ∀ a, J.vol a → Hv0 a = none
def Sl.isOwn : Sl → Bool
  | .own _ => true
  | .slf _ _ => true
  | _ => false
def SlOk (K : PySem.W.Frag) (W : Wc) (Hv H : Hp) : Sl → Option V → Prop
  | .no, _ => True
  | .dat d, o => ∃ v, o = some v ∧ Rp K Hv v d
  | .own d, o => ∃ a u, o = some (.ref a) ∧ H a = some u ∧ ObD K Hv d u ∧ Hv a = none ∧ W.H0 a = none
  | .slf y d, o => ∃ u, o = some (.ref y) ∧ H y = some u ∧ ObD K Hv d u ∧ Hv y = none ∧ W.H0 y = none
  | .bor d, o => ∃ a u, o = some (.ref a) ∧ W.H0 a = some u ∧ ObD K Hv d u ∧ W.Hv0 a = none ∧ ¬ W.J.vol a
structure Ev (K : PySem.W.Frag) (W : Wc) (Γ : Gm) (σ : St) (Hv H : Hp) : Prop where
  ret : Ret W.J.vol W.J.inv W.Hv0 W.H0 Hv H
  len : σ.length = Γ.length
  slots : ∀ (i : Nat) (sl : Sl), Γ[i]? = some sl → SlOk K W Hv H sl (σ[i]?.join)
  apart : ∀ (i j : Nat) (sl sl' : Sl) (a : Addr), i ≠ j → Γ[i]? = some sl → Γ[j]? = some sl' → sl.isOwn = true → sl'.isOwn = true → σ[i]? = some (some (V.ref a)) → σ[j]? ≠ some (some (V.ref a))
/-- a new object that no slot holds -/
structure Fresh (W : Wc) (Γ : Gm) (σ : St) (Hv : Hp) (p : Addr) : Prop where
  hv : Hv p = none
  h0 : W.H0 p = none
  sl : ∀ (i : Nat) (s : Sl), Γ[i]? = some s → s.isOwn = true → σ[i]? ≠ some (some (V.ref p))
section
variable {K : PySem.W.Frag} {W : Wc} {Γ : Gm} {σ : St} {Hv H Hv' H' : Hp}
theorem SlOk.own_at {sl : Sl} {o : Option V} (h : SlOk K W Hv H sl o) (ho : sl.isOwn = true) : ∃ a u, o = some (.ref a) ∧ H a = some u ∧ Hv a = none ∧ W.H0 a = none := by
  cases sl with
  | no => cases ho
  | dat d => cases ho
  | bor d => cases ho
  | own d => obtain ⟨a, u, h1, h2, _, h4, h5⟩ := h; exact ⟨a, u, h1, h2, h4, h5⟩
  | slf y d => obtain ⟨u, h1, h2, _, h4, h5⟩ := h; exact ⟨y, u, h1, h2, h4, h5⟩
theorem ObD.nx {d : D} {u : HO} (h : ObD K Hv d u) : (∀ a q, u ≠ LamX.CodeO a q) ∧ ∀ ps, u ≠ .tbl ps := by
  cases d <;> first | exact h.elim | skip
  · obtain ⟨_, rfl, _⟩ := h; exact ⟨fun _ _ z => by (unfold LamX.CodeO at z; cases z), fun _ z => by (cases z)⟩
  · obtain ⟨_, rfl, _⟩ := h; exact ⟨fun _ _ z => by (unfold LamX.CodeO at z; cases z), fun _ z => by (cases z)⟩
  · obtain ⟨_, _, _, rfl, _⟩ := h; exact ⟨fun _ _ z => by (unfold LamX.CodeO at z; cases z), fun _ z => by (cases z)⟩
  · obtain ⟨_, _, _, rfl, _, h3, _⟩ := h; exact ⟨fun _ _ => dx_code h3, fun _ z => by (unfold DX at z; cases z)⟩
theorem SlOk.own_nx {sl : Sl} {a : Addr} {u : HO} (h : SlOk K W Hv H sl (some (.ref a))) (ho : sl.isOwn = true) (e : H a = some u) : (∀ a q, u ≠ LamX.CodeO a q) ∧ ∀ ps, u ≠ .tbl ps := by
  cases sl with
  | no => cases ho
  | dat d => cases ho
  | bor d => cases ho
  | own d =>
    obtain ⟨b, v, h1, h2, h3, _⟩ := h
    cases h1
    rw [e] at h2; cases h2
    exact h3.nx
  | slf y d =>
    obtain ⟨v, h1, h2, h3, _⟩ := h
    cases h1
    rw [e] at h2; cases h2
    exact h3.nx
/-- a slot stays when its own object stays and the value heap grows -/
theorem SlOk.stay {sl : Sl} {o : Option V} (h : SlOk K W Hv H sl o) (sv : Sub Hv Hv') (k : ∀ a u, sl.isOwn = true → o = some (.ref a) → H a = some u → Hv a = none → H' a = some u ∧ Hv' a = none) : SlOk K W Hv' H' sl o := by
  cases sl with
  | no => trivial
  | dat d => obtain ⟨v, e, r⟩ := h; exact ⟨v, e, Rp.mono sv _ _ r⟩
  | bor d => obtain ⟨a, u, e, h2, r, h3⟩ := h; exact ⟨a, u, e, h2, r.mono sv, h3⟩
  | own d =>
    obtain ⟨a, u, h1, h2, h3, h4, h5⟩ := h
    obtain ⟨k1, k2⟩ := k a _ rfl h1 h2 h4
    exact ⟨a, u, h1, k1, h3.mono sv, k2, h5⟩
  | slf y d =>
    obtain ⟨u, h1, h2, h3, h4, h5⟩ := h
    obtain ⟨k1, k2⟩ := k y _ rfl h1 h2 h4
    exact ⟨u, h1, k1, h3.mono sv, k2, h5⟩
theorem Ev.noneHv (E : Ev K W Γ σ Hv H) {p : Addr} (h : H p = none) : Hv p = none := E.ret.sub.none h
theorem Ev.noneH0 (E : Ev K W Γ σ Hv H) {p : Addr} (h : H p = none) : W.H0 p = none := by
  cases q : W.H0 p with
  | none => rfl
  | some o =>
    by_cases hv : W.J.vol p
    · exact absurd h (W.J.there _ _ E.ret.inv hv)
    · cases z : W.Hv0 p with
      | none => rw [E.ret.old _ _ q z hv] at h; cases h
      | some u =>
        have := E.ret.sv.none (E.noneHv h)
        rw [z] at this
        cases this
theorem Ev.novol (E : Ev K W Γ σ Hv H) {p : Addr} (h : W.H0 p = none) : ¬ W.J.vol p := fun v => W.J.there _ _ W.inv0 v h
/-- an object that the caller alone holds, as it stands -/
theorem Ev.getBor (E : Ev K W Γ σ Hv H) {i : Nat} {d : D} (e : Γ[i]? = some (.bor d)) : ∃ a u, σ[i]? = some (some (.ref a)) ∧ H a = some u ∧ ObD K Hv d u ∧ Hv a = none ∧ ¬ W.J.vol a := by
  obtain ⟨a, u, h, h2, r, h3, h4⟩ := E.slots i _ e
  refine ⟨a, u, ?_, E.ret.old _ _ h2 h3 h4, r, ?_, h4⟩
  · cases q : σ[i]? with
    | none => rw [q] at h; cases h
    | some y => rw [q] at h; exact congrArg some h
  · exact E.ret.grow a h3 (by rw [h2]; simp)
theorem same_upd {H : Hp} {p : Addr} {o : HO} (h : H p = none) : Sub H (upd H p o) := fun b x e => by
  rw [upd_ne (ne_of_none e h)]
  exact .inl e
theorem same_upd2 {Hv H : Hp} {p : Addr} {o : HO} (s : Sub Hv H) : Sub (upd Hv p o) (upd H p o) := fun b x e => by
  by_cases hb : b = p
  · subst hb; rw [upd_same] at e ⊢; exact .inl e
  · rw [upd_ne hb] at e ⊢; exact s _ _ e
theorem same_left {Hv H : Hp} {p : Addr} {o : HO} (s : Sub Hv H) (h : Hv p = none) : Sub Hv (upd H p o) := fun b x e => by
  rw [upd_ne (ne_of_none e h)]; exact s _ _ e
theorem same_share {Hv H : Hp} {p : Addr} {o : HO} (s : Sub Hv H) (h : H p = some o) : Sub (upd Hv p o) H := fun b x e => by
  by_cases hb : b = p
  · subst hb; rw [upd_same] at e; cases e; exact .inl h
  · rw [upd_ne hb] at e; exact s _ _ e
/-- a new object, of the value heap -/
theorem Ev.alloc (E : Ev K W Γ σ Hv H) {p : Addr} (o : HO) (h : H p = none) (no : ∀ ps, o ≠ .tbl ps := by intro _ z; first | (cases z; done) | (unfold XO at z; cases z)) : Ev K W Γ σ (upd Hv p o) (upd H p o) := by
  have h0 := E.noneH0 h
  have hv := E.noneHv h
  have nv := E.novol h0
  refine ⟨⟨E.ret.sv.trans (same_upd hv), same_upd2 E.ret.sub, fun a u e z n => ?_, W.J.keep _ _ E.ret.inv (fun a v => ?_) (Xt.fresh h) (NT.put no), fun a v => ?_, fun a z e => ?_, E.ret.nt.trans (NT.put no)⟩, E.len, fun i sl e => (E.slots i sl e).stay (same_upd hv) fun a u _ _ ea na => ?_, E.apart⟩
  · rw [upd_ne (ne_of_none e h0)]; exact E.ret.old a u e z n
  · exact upd_ne (fun z => nv (by rw [← z]; exact v))
  · rw [upd_ne (show a ≠ p from fun z => nv (by rw [← z]; exact v))]; exact E.ret.nv a v
  · rw [upd_ne (show a ≠ p from fun q => e (by rw [q]; exact h0))]
    exact E.ret.grow a z e
  · have ne := ne_of_none ea h
    rw [upd_ne ne, upd_ne ne]; exact ⟨ea, na⟩
/-- a new object, of no one yet -/
theorem Ev.alloc0 (E : Ev K W Γ σ Hv H) {p : Addr} (o : HO) (h : H p = none) (no : ∀ ps, o ≠ .tbl ps := by intro _ z; first | (cases z; done) | (unfold XO at z; cases z)) : Ev K W Γ σ Hv (upd H p o) ∧ Fresh W Γ σ Hv p := by
  have h0 := E.noneH0 h
  have hv := E.noneHv h
  have nv := E.novol h0
  refine ⟨⟨⟨E.ret.sv, same_left E.ret.sub hv, fun a u e z n => ?_, W.J.keep _ _ E.ret.inv (fun a v => ?_) (Xt.fresh h) (NT.put no), E.ret.nv, E.ret.grow, E.ret.nt.trans (NT.put no)⟩, E.len, fun i sl e => (E.slots i sl e).stay (Sub.refl _) fun a u _ _ ea na => ?_, E.apart⟩, hv, h0, fun i s e ow z => ?_⟩
  · rw [upd_ne (ne_of_none e h0)]; exact E.ret.old a u e z n
  · exact upd_ne (fun z => nv (by rw [← z]; exact v))
  · rw [upd_ne (ne_of_none ea h)]; exact ⟨ea, na⟩
  · obtain ⟨a, u, e1, e2, _⟩ := (E.slots i s e).own_at ow
    rw [z] at e1
    cases e1
    rw [h] at e2; cases e2
/-- an object of no one is of the value heap from now on -/
theorem Ev.share (E : Ev K W Γ σ Hv H) {p : Addr} {o : HO} (F : Fresh W Γ σ Hv p) (h : H p = some o) : Ev K W Γ σ (upd Hv p o) H := by
  refine ⟨⟨E.ret.sv.trans (same_upd F.hv), same_share E.ret.sub h, E.ret.old, E.ret.inv, fun a v => ?_, fun a z e => ?_, E.ret.nt⟩, E.len, fun i sl e => (E.slots i sl e).stay (same_upd F.hv) fun a u ow eo ea na => ?_, E.apart⟩
  · rw [upd_ne (show a ≠ p from fun z => E.novol F.h0 (by rw [← z]; exact v))]; exact E.ret.nv a v
  · rw [upd_ne (show a ≠ p from fun q => e (by rw [q]; exact F.h0))]
    exact E.ret.grow a z e
  · refine ⟨ea, ?_⟩
    rw [upd_ne]
    · exact na
    · intro z
      subst z
      cases q : σ[i]? with
      | none => rw [q] at eo; cases eo
      | some y =>
        rw [q] at eo
        have : y = some (.ref a) := eo
        subst this
        exact F.sl i sl e ow q
/-- an object of no one is changed -/
theorem Ev.turn (E : Ev K W Γ σ Hv H) {p : Addr} (o : HO) (F : Fresh W Γ σ Hv p) (hp : ∃ u, H p = some u ∧ ∀ φ, u ≠ .ext φ) (no : ∀ ps, o ≠ .tbl ps := by intro _ z; first | (cases z; done) | (unfold XO at z; cases z)) : Ev K W Γ σ Hv (upd H p o) := by
  have hx : ∀ φ, H p ≠ some (.ext φ) := fun φ z => by
    obtain ⟨u, e, n⟩ := hp
    rw [e] at z
    exact n φ (Option.some.inj z)
  refine ⟨⟨E.ret.sv, same_left E.ret.sub F.hv, fun a u e z n => ?_, W.J.keep _ _ E.ret.inv (fun a v => ?_) (Xt.put hx) (NT.put no), E.ret.nv, E.ret.grow, E.ret.nt.trans (NT.put no)⟩, E.len, fun i sl e => (E.slots i sl e).stay (Sub.refl _) fun a u ow eo ea na => ?_, E.apart⟩
  · rw [upd_ne (ne_of_none e F.h0)]; exact E.ret.old a u e z n
  · exact upd_ne (fun z => E.novol F.h0 (by rw [← z]; exact v))
  · refine ⟨?_, na⟩
    rw [upd_ne]
    · exact ea
    · intro z
      subst z
      cases q : σ[i]? with
      | none => rw [q] at eo; cases eo
      | some y =>
        rw [q] at eo
        have : y = some (.ref a) := eo
        subst this
        exact F.sl i sl e ow q
theorem sub_lock {H : Hp} {p : Addr} {kvs : List (Key × V)} (h : H p = some (.dK kvs)) (ob : Obj) : Sub H (upd H p (.frz ob (.dK kvs))) := fun a o e => by
  by_cases hb : a = p
  · subst hb; rw [h] at e; cases e; exact .inr ⟨kvs, ob, rfl, upd_same⟩
  · rw [upd_ne hb]; exact .inl e
/-- a dict of the value heap is locked -/
theorem Ev.lock (E : Ev K W Γ σ Hv H) {p : Addr} {kvs : List (Key × V)} (hv : Hv p = some (.dK kvs)) (ob : Obj) : Ev K W Γ σ (upd Hv p (.frz ob (.dK kvs))) (upd H p (.frz ob (.dK kvs))) := by
  have nv : ¬ W.J.vol p := fun v => by rw [E.ret.nv p v] at hv; cases hv
  have nb : ∀ a, W.Hv0 a = none → W.H0 a ≠ none → a ≠ p := fun a z e q => by
    have := E.ret.grow a z e
    rw [q, hv] at this
    cases this
  have hx : ∀ φ, H p ≠ some (.ext φ) := fun φ z => by
    rcases E.ret.sub _ _ hv with q | ⟨_, _, _, q⟩
    · rw [q] at z; cases z
    · rw [q] at z; cases z
  have no : ∀ ps, HO.frz ob (.dK kvs) ≠ .tbl ps := fun _ z => by cases z
  refine ⟨⟨E.ret.sv.trans (sub_lock hv ob), same_upd2 E.ret.sub, fun a u e z n => ?_, W.J.keep _ _ E.ret.inv (fun a v => ?_) (Xt.put hx) (NT.put no), fun a v => ?_, fun a z e => ?_, E.ret.nt.trans (NT.put no)⟩, E.len, fun i sl e => (E.slots i sl e).stay (sub_lock hv ob) fun a u ow eo ea na => ?_, E.apart⟩
  · rw [upd_ne (nb a z (by rw [e]; simp))]; exact E.ret.old a u e z n
  · exact upd_ne (fun z => nv (by rw [← z]; exact v))
  · rw [upd_ne (show a ≠ p from fun z => nv (by rw [← z]; exact v))]; exact E.ret.nv a v
  · rw [upd_ne (nb a z e)]; exact E.ret.grow a z e
  · have ne : a ≠ p := by rintro rfl; rw [hv] at na; cases na
    rw [upd_ne ne, upd_ne ne]
    exact ⟨ea, na⟩
/-- behind a call -/
theorem Ev.after (E : Ev K W Γ σ Hv H) (R : Ret W.J.vol W.J.inv Hv H Hv' H') : Ev K W Γ σ Hv' H' := by
  refine ⟨⟨E.ret.sv.trans R.sv, R.sub, fun a u e z n => ?_, R.inv, R.nv, fun a z e => ?_, E.ret.nt.trans R.nt⟩, E.len, fun i sl e => (E.slots i sl e).stay R.sv fun a u ow eo ea na => ?_, E.apart⟩
  · exact R.old a u (E.ret.old a u e z n) (E.ret.grow a z (by rw [e]; simp)) n
  · exact R.grow a (E.ret.grow a z e) (fun q => e (E.noneH0 q))
  · obtain ⟨b, u', e1, e2, e3, e4⟩ := (E.slots i sl e).own_at ow
    rw [eo] at e1
    cases e1
    exact ⟨R.old a u ea na (E.novol e4), R.grow a na (by rw [ea]; simp)⟩
/-- what a pure callee did -/
theorem Ev.pure (E : Ev K W Γ σ Hv H) (R : Ret Vol.no.vol Vol.no.inv Hv H Hv' H') : Ret W.J.vol W.J.inv Hv H Hv' H' := by
  have hx : Xt H H' := fun a φ e => by
    cases q : Hv a with
    | none => exact R.old a _ e q fun z => z
    | some u =>
      have hu : H a = some u := by
        rcases E.ret.sub a u q with z | ⟨_, _, _, z⟩
        · exact z
        · rw [e] at z; unfold LamX.CodeO at z; cases z
      rw [e] at hu
      cases hu
      exact R.sub.at (R.sv.at q fun _ z => by unfold LamX.CodeO at z; cases z) fun _ z => by unfold LamX.CodeO at z; cases z
  refine ⟨R.sv, R.sub, fun a u e z _ => R.old a u e z fun z => z, W.J.keep _ _ E.ret.inv (fun a v => ?_) hx R.nt, fun a v => ?_, R.grow, R.nt⟩
  · cases q : H a with
    | none => exact absurd q (W.J.there _ _ E.ret.inv v)
    | some u => exact R.old a u q (E.ret.nv a v) fun z => z
  · exact R.grow a (E.ret.nv a v) (W.J.there _ _ E.ret.inv v)
/-- a slot is given: data, or nothing known -/
theorem Ev.setS (E : Ev K W Γ σ Hv H) {i : Nat} {v : Option V} {s : Sl} (ho : s.isOwn = false) (r : SlOk K W Hv H s v) : Ev K W (Γ.set i s) (σ.set i v) Hv H := by
  have hl := E.len
  have own : ∀ {j : Nat} {sl : Sl}, (Γ.set i s)[j]? = some sl → sl.isOwn = true → i ≠ j := fun {j sl} e o hj => by
    subst hj
    have hi : i < Γ.length := by
      have := (List.getElem?_eq_some_iff.mp e).1
      rw [List.length_set] at this; exact this
    rw [List.getElem?_set_self hi] at e
    cases e
    rw [ho] at o; cases o
  refine ⟨E.ret, by rw [List.length_set, List.length_set, hl], fun j sl e => ?_, fun j k sl sl' a ne e1 e2 o1 o2 q => ?_⟩
  · by_cases hj : i = j
    · subst hj
      have hi : i < Γ.length := by
        have := (List.getElem?_eq_some_iff.mp e).1
        rw [List.length_set] at this; exact this
      rw [List.getElem?_set_self hi] at e
      cases e
      rw [List.getElem?_set_self (by omega)]
      exact r
    · rw [List.getElem?_set_ne hj] at e ⊢
      exact E.slots j sl e
  · have hj := own e1 o1
    have hk := own e2 o2
    rw [List.getElem?_set_ne hj] at e1 q
    rw [List.getElem?_set_ne hk] at e2 ⊢
    exact E.apart j k sl sl' a ne e1 e2 o1 o2 q
theorem Ev.set (E : Ev K W Γ σ Hv H) {i : Nat} {v : V} {d : D} (r : Rp K Hv v d) : Ev K W (Γ.set i (.dat d)) (σ.set i (some v)) Hv H := E.setS rfl ⟨v, rfl, r⟩
theorem Ev.get (E : Ev K W Γ σ Hv H) {i : Nat} {d : D} (e : Γ[i]? = some (.dat d)) : ∃ v, σ[i]? = some (some v) ∧ Rp K Hv v d := by
  obtain ⟨v, h, r⟩ := E.slots i _ e
  refine ⟨v, ?_, r⟩
  cases q : σ[i]? with
  | none => rw [q] at h; cases h
  | some y => rw [q] at h; exact congrArg some h
theorem Ev.getOwn (E : Ev K W Γ σ Hv H) {i : Nat} {d : D} (e : Γ[i]? = some (.own d)) : ∃ a u, σ[i]? = some (some (.ref a)) ∧ H a = some u ∧ ObD K Hv d u ∧ Hv a = none ∧ W.H0 a = none := by
  obtain ⟨a, u, h, r⟩ := E.slots i _ e
  refine ⟨a, u, ?_, r⟩
  cases q : σ[i]? with
  | none => rw [q] at h; cases h
  | some y => rw [q] at h; exact congrArg some h
/-- an own object changed in its slot -/
theorem Ev.mutG (E : Ev K W Γ σ Hv H) {i : Nat} {s s' : Sl} {a : Addr} {u' : HO} (e : Γ[i]? = some s) (ho : s.isOwn = true) (es : σ[i]? = some (some (.ref a))) (ok : s'.isOwn = true) (r : SlOk K W Hv (upd H a u') s' (some (.ref a))) : Ev K W (Γ.set i s') σ Hv (upd H a u') := by
  have own : ∃ u, H a = some u ∧ Hv a = none ∧ W.H0 a = none := by
    have h := E.slots i _ e
    rw [es] at h
    obtain ⟨b, u, e1, e2, e3, e4⟩ := h.own_at ho
    cases e1
    exact ⟨u, e2, e3, e4⟩
  obtain ⟨u, h2, h4, h5⟩ := own
  have hi : i < Γ.length := (List.getElem?_eq_some_iff.mp e).1
  have nva := E.novol h5
  have hx : ∀ q, H a ≠ some (LamX.CodeO a q) := fun φ z => by
    rw [h2] at z
    have h := E.slots i _ e
    rw [es] at h
    exact (SlOk.own_nx h ho h2).1 _ φ (Option.some.inj z)
  have no : ∀ ps, u' ≠ .tbl ps := (SlOk.own_nx r ok upd_same).2
  refine ⟨⟨E.ret.sv, same_left E.ret.sub h4, fun b u q z n => ?_, W.J.keep _ _ E.ret.inv (fun b v => ?_) (Xt.putC hx) (NT.put no), E.ret.nv, E.ret.grow, E.ret.nt.trans (NT.put no)⟩, by rw [List.length_set]; exact E.len, fun j sl q => ?_, fun j k sl sl' b ne e1 e2 o1 o2 q => ?_⟩
  · rw [upd_ne (ne_of_none q h5)]; exact E.ret.old b u q z n
  · exact upd_ne (fun z => nva (by rw [← z]; exact v))
  · by_cases hj : i = j
    · subst hj
      rw [List.getElem?_set_self hi] at q
      cases q
      rw [es]
      exact r
    · rw [List.getElem?_set_ne hj] at q
      refine (E.slots j sl q).stay (Sub.refl _) fun b u ow eo eb nb => ⟨?_, nb⟩
      rw [upd_ne]
      · exact eb
      · intro z
        subst z
        have q2 : σ[j]? = some (some (.ref b)) := by
          cases w : σ[j]? with
          | none => rw [w] at eo; cases eo
          | some y => rw [w] at eo; exact congrArg some eo
        exact E.apart i j _ _ b hj e q ho ow es q2
  · have fix : ∀ (j : Nat) (sl : Sl), (Γ.set i s')[j]? = some sl → sl.isOwn = true → ∃ sl2, Γ[j]? = some sl2 ∧ sl2.isOwn = true := fun j sl q o => by
      by_cases hj : i = j
      · subst hj; exact ⟨_, e, ho⟩
      · rw [List.getElem?_set_ne hj] at q; exact ⟨sl, q, o⟩
    obtain ⟨s1, f1, p1⟩ := fix j sl e1 o1
    obtain ⟨s2, f2, p2⟩ := fix k sl' e2 o2
    exact E.apart j k s1 s2 b ne f1 f2 p1 p2 q
theorem Ev.mut (E : Ev K W Γ σ Hv H) {i : Nat} {d d' : D} {a : Addr} {u' : HO} (e : Γ[i]? = some (.own d)) (es : σ[i]? = some (some (.ref a))) (r : ObD K Hv d' u') : Ev K W (Γ.set i (.own d')) σ Hv (upd H a u') := by
  obtain ⟨b, u, h1, h2, h3, h4, h5⟩ := E.getOwn e
  rw [es] at h1
  cases h1
  exact E.mutG e rfl es rfl ⟨a, u', rfl, upd_same, r, h4, h5⟩
theorem Ev.getSlf (E : Ev K W Γ σ Hv H) {i : Nat} {y : Addr} {d : D} (e : Γ[i]? = some (.slf y d)) : ∃ u, σ[i]? = some (some (.ref y)) ∧ H y = some u ∧ ObD K Hv d u ∧ Hv y = none ∧ W.H0 y = none := by
  obtain ⟨u, h, r⟩ := E.slots i _ e
  refine ⟨u, ?_, r⟩
  cases q : σ[i]? with
  | none => rw [q] at h; cases h
  | some y => rw [q] at h; exact congrArg some h
theorem Ev.mutS (E : Ev K W Γ σ Hv H) {i : Nat} {y : Addr} {d d' : D} {u' : HO} (e : Γ[i]? = some (.slf y d)) (r : ObD K Hv d' u') : Ev K W (Γ.set i (.slf y d')) σ Hv (upd H y u') := by
  obtain ⟨u, h1, h2, h3, h4, h5⟩ := E.getSlf e
  exact E.mutG e rfl h1 rfl ⟨u', rfl, upd_same, r, h4, h5⟩
/-- an own object is shared -/
theorem Ev.let (E : Ev K W Γ σ Hv H) {i : Nat} {d : D} (e : Γ[i]? = some (.own d)) : ∃ a u, σ[i]? = some (some (.ref a)) ∧ H a = some u ∧ Hv a = none ∧ Ev K W (Γ.set i (.dat d)) σ (upd Hv a u) H ∧ Rp K (upd Hv a u) (.ref a) d := by
  obtain ⟨a, u, h1, h2, h3, h4, h5⟩ := E.getOwn e
  have hi : i < Γ.length := (List.getElem?_eq_some_iff.mp e).1
  have r : Rp K (upd Hv a u) (.ref a) d := (h3.mono (same_upd h4)).rp upd_same
  refine ⟨a, u, h1, h2, h4, ⟨⟨E.ret.sv.trans (same_upd h4), same_share E.ret.sub h2, E.ret.old, E.ret.inv, fun b v => ?_, fun b z q => ?_, E.ret.nt⟩, by rw [List.length_set]; exact E.len, fun j sl q => ?_, fun j k sl sl' b ne e1 e2 o1 o2 q => ?_⟩, r⟩
  · rw [upd_ne (show b ≠ a from fun z => E.novol h5 (by rw [← z]; exact v))]; exact E.ret.nv b v
  · rw [upd_ne (show b ≠ a from fun w => q (by rw [w]; exact h5))]
    exact E.ret.grow b z q
  · by_cases hj : i = j
    · subst hj
      rw [List.getElem?_set_self hi] at q
      cases q
      rw [h1]
      exact ⟨_, rfl, r⟩
    · rw [List.getElem?_set_ne hj] at q
      refine (E.slots j sl q).stay (same_upd h4) fun b u ow eo eb nb => ⟨eb, ?_⟩
      rw [upd_ne]
      · exact nb
      · intro z
        subst z
        have q2 : σ[j]? = some (some (.ref b)) := by
          cases w : σ[j]? with
          | none => rw [w] at eo; cases eo
          | some y => rw [w] at eo; exact congrArg some eo
        exact E.apart i j _ _ b hj e q rfl ow h1 q2
  · have fix : ∀ (j : Nat) (sl : Sl), (Γ.set i (.dat d))[j]? = some sl → sl.isOwn = true → Γ[j]? = some sl := fun j sl q o => by
      by_cases hj : i = j
      · subst hj
        rw [List.getElem?_set_self hi] at q
        cases q; cases o
      · rw [List.getElem?_set_ne hj] at q; exact q
    exact E.apart j k sl sl' b ne (fix j sl e1 o1) (fix k sl' e2 o2) o1 o2 q
/-- an object of no one goes to a slot -/
theorem Ev.keepOwn (E : Ev K W Γ σ Hv H) {i : Nat} {p : Addr} {u : HO} {d : D} (F : Fresh W Γ σ Hv p) (h : H p = some u) (r : ObD K Hv d u) : Ev K W (Γ.set i (.own d)) (σ.set i (some (.ref p))) Hv H := by
  have hl := E.len
  have atI : ∀ {sl : Sl}, (Γ.set i (.own d))[i]? = some sl → i < Γ.length := fun e => by
    have := (List.getElem?_eq_some_iff.mp e).1
    rw [List.length_set] at this; exact this
  refine ⟨E.ret, by rw [List.length_set, List.length_set, hl], fun j sl e => ?_, fun j k sl sl' a ne e1 e2 o1 o2 q => ?_⟩
  · by_cases hj : i = j
    · subst hj
      have hi := atI e
      rw [List.getElem?_set_self hi] at e
      cases e
      rw [List.getElem?_set_self (by omega)]
      exact ⟨p, u, rfl, h, r, F.hv, F.h0⟩
    · rw [List.getElem?_set_ne hj] at e ⊢
      exact E.slots j sl e
  · by_cases hj : i = j
    · subst hj
      have hi := atI e1
      rw [List.getElem?_set_self (by omega)] at q
      cases q
      have hk : i ≠ k := ne
      rw [List.getElem?_set_ne hk] at e2 ⊢
      exact F.sl k sl' e2 o2
    · by_cases hk : i = k
      · subst hk
        have hi := atI e2
        rw [List.getElem?_set_ne hj] at e1 q
        rw [List.getElem?_set_self (by omega)]
        intro z
        have z' : V.ref p = V.ref a := Option.some.inj (Option.some.inj z)
        cases z'
        exact F.sl j sl e1 o1 q
      · rw [List.getElem?_set_ne hj] at e1 q
        rw [List.getElem?_set_ne hk] at e2 ⊢
        exact E.apart j k sl sl' a ne e1 e2 o1 o2 q
theorem Fresh.at {Hv'' : Hp} {p : Addr} (F : Fresh W Γ σ Hv p) (h : Hv'' p = none) : Fresh W Γ σ Hv'' p := ⟨h, F.h0, F.sl⟩
end
end VL
set_option Elab.async false
set_option linter.all false
set_option maxRecDepth 100000
set_option maxHeartbeats 4000000
namespace VL
open PySem PySem.Spec L2
open PyProof.Rows hiding St
/-- a step: the value heap grew, the state is held, what was of no one is untouched -/
structure Stp (K : PySem.W.Frag) (W : Wc) (Γ : Gm) (σ : St) (Hv H : Hp) (Γ' : Gm) (σ' : St) (Hv' H' : Hp) : Prop where
  sv : Sub Hv Hv'
  ev : Ev K W Γ' σ' Hv' H'
  fr : ∀ a, Fresh W Γ σ Hv a → H a ≠ none → H' a = H a ∧ Fresh W Γ' σ' Hv' a
  st : ∀ a, H a ≠ none → H' a ≠ none
section
variable {K : PySem.W.Frag} {W : Wc} {Γ Γ' Γ'' : Gm} {σ σ' σ'' : St} {Hv H Hv' H' Hv'' H'' : Hp}
theorem Ev.stp (E : Ev K W Γ σ Hv H) : Stp K W Γ σ Hv H Γ σ Hv H := ⟨.refl _, E, fun _ F _ => ⟨rfl, F⟩, fun _ n => n⟩
theorem Stp.trans (a : Stp K W Γ σ Hv H Γ' σ' Hv' H') (b : Stp K W Γ' σ' Hv' H' Γ'' σ'' Hv'' H'') : Stp K W Γ σ Hv H Γ'' σ'' Hv'' H'' :=
  ⟨a.sv.trans b.sv, b.ev, fun x F n => by
    obtain ⟨e1, F1⟩ := a.fr x F n
    obtain ⟨e2, F2⟩ := b.fr x F1 (by rw [e1]; exact n)
    exact ⟨e2.trans e1, F2⟩, fun x n => b.st x (a.st x n)⟩
theorem upd_st {H : Hp} {p : Addr} {o : HO} : ∀ a, H a ≠ none → upd H p o a ≠ none := fun a n => by
  by_cases h : a = p
  · subst h; rw [upd_same]; simp
  · rw [upd_ne h]; exact n
theorem Stp.alloc (a : Stp K W Γ σ Hv H Γ' σ' Hv' H') {p : Addr} (o : HO) (h : H' p = none) (no : ∀ ps, o ≠ .tbl ps := by intro _ z; first | (cases z; done) | (unfold XO at z; cases z)) : Stp K W Γ σ Hv H Γ' σ' (upd Hv' p o) (upd H' p o) :=
  a.trans ⟨same_upd (a.ev.noneHv h), a.ev.alloc o h no, fun x F n => by
    have ne : x ≠ p := fun z => n (by rw [z]; exact h)
    rw [upd_ne ne]
    exact ⟨rfl, F.at (by rw [upd_ne ne]; exact F.hv)⟩, upd_st⟩
theorem Stp.alloc0 (a : Stp K W Γ σ Hv H Γ' σ' Hv' H') {p : Addr} (o : HO) (h : H' p = none) (no : ∀ ps, o ≠ .tbl ps := by intro _ z; first | (cases z; done) | (unfold XO at z; cases z)) : Stp K W Γ σ Hv H Γ' σ' Hv' (upd H' p o) ∧ Fresh W Γ' σ' Hv' p := by
  obtain ⟨e, F⟩ := a.ev.alloc0 o h no
  exact ⟨a.trans ⟨.refl _, e, fun x F n => ⟨upd_ne (show x ≠ p from fun z => n (by rw [z]; exact h)), F⟩, upd_st⟩, F⟩
/-- what is none now was none at the start of a step -/
theorem Stp.was (a : Stp K W Γ σ Hv H Γ' σ' Hv' H') {p : Addr} (h : H' p = none) : H p = none := by
  cases q : H p with
  | none => rfl
  | some o => exact absurd h (a.st p (by rw [q]; simp))
theorem Stp.share (a : Stp K W Γ σ Hv H Γ' σ' Hv' H') {p : Addr} {o : HO} (F : Fresh W Γ' σ' Hv' p) (h : H' p = some o) (hn : H p = none) : Stp K W Γ σ Hv H Γ' σ' (upd Hv' p o) H' := by
  refine ⟨a.sv.trans (same_upd F.hv), a.ev.share F h, fun x G n => ?_, a.st⟩
  obtain ⟨e, G'⟩ := a.fr x G n
  have ne : x ≠ p := fun z => n (by rw [z]; exact hn)
  exact ⟨e, G'.at (by rw [upd_ne ne]; exact G'.hv)⟩
theorem Stp.turn (a : Stp K W Γ σ Hv H Γ' σ' Hv' H') {p : Addr} (o : HO) (F : Fresh W Γ' σ' Hv' p) (hp : ∃ u, H' p = some u ∧ ∀ φ, u ≠ .ext φ) (hn : H p = none) (no : ∀ ps, o ≠ .tbl ps := by intro _ z; first | (cases z; done) | (unfold XO at z; cases z)) : Stp K W Γ σ Hv H Γ' σ' Hv' (upd H' p o) := by
  refine ⟨a.sv, a.ev.turn o F hp no, fun x G n => ?_, fun x n => upd_st x (a.st x n)⟩
  obtain ⟨e, G'⟩ := a.fr x G n
  have ne : x ≠ p := fun z => n (by rw [z]; exact hn)
  exact ⟨by rw [upd_ne ne]; exact e, G'⟩
theorem Stp.lock (a : Stp K W Γ σ Hv H Γ' σ' Hv' H') {p : Addr} {kvs : List (Key × V)} (hv : Hv' p = some (.dK kvs)) (ob : Obj) : Stp K W Γ σ Hv H Γ' σ' (upd Hv' p (.frz ob (.dK kvs))) (upd H' p (.frz ob (.dK kvs))) :=
  a.trans ⟨sub_lock hv ob, a.ev.lock hv ob, fun x F n => by
    have ne : x ≠ p := by rintro rfl; rw [F.hv] at hv; cases hv
    exact ⟨upd_ne ne, F.at (by rw [upd_ne ne]; exact F.hv)⟩, upd_st⟩
theorem Stp.after (a : Stp K W Γ σ Hv H Γ' σ' Hv' H') (R : Ret W.J.vol W.J.inv Hv' H' Hv'' H'') : Stp K W Γ σ Hv H Γ' σ' Hv'' H'' :=
  a.trans ⟨R.sv, a.ev.after R, fun x F n => by
    cases q : H' x with
    | none => exact absurd q n
    | some o =>
      exact ⟨(R.old x o q F.hv (a.ev.novol F.h0)), F.at (R.grow x F.hv n)⟩, fun x n => by
    by_cases v : W.J.vol x
    · exact W.J.there _ _ R.inv v
    · cases z : Hv' x with
      | none =>
        cases q : H' x with
        | none => exact absurd q n
        | some o => rw [R.old x o q z v]; simp
      | some u =>
        intro q
        have := R.sv.none (R.sub.none q)
        rw [z] at this
        cases this⟩
theorem Fresh.set {i : Nat} {s : Sl} {v : Option V} {a : Addr} (F : Fresh W Γ σ Hv a) (hl : σ.length = Γ.length) (h : s.isOwn = true → v ≠ some (.ref a)) : Fresh W (Γ.set i s) (σ.set i v) Hv a := by
  refine ⟨F.hv, F.h0, fun j t e o => ?_⟩
  by_cases hj : i = j
  · subst hj
    have hi : i < Γ.length := by
      have := (List.getElem?_eq_some_iff.mp e).1
      rw [List.length_set] at this; exact this
    rw [List.getElem?_set_self hi] at e
    cases e
    rw [List.getElem?_set_self (by omega)]
    intro z
    exact h o (Option.some.inj z)
  · rw [List.getElem?_set_ne hj] at e ⊢
    exact F.sl j t e o
theorem Stp.setS (a : Stp K W Γ σ Hv H Γ' σ' Hv' H') {i : Nat} {v : Option V} {s : Sl} (ho : s.isOwn = false) (r : SlOk K W Hv' H' s v) : Stp K W Γ σ Hv H (Γ'.set i s) (σ'.set i v) Hv' H' :=
  a.trans ⟨.refl _, a.ev.setS ho r, fun x F n => ⟨rfl, F.set a.ev.len (fun z => by rw [ho] at z; cases z)⟩, fun _ n => n⟩
theorem Stp.set (a : Stp K W Γ σ Hv H Γ' σ' Hv' H') {i : Nat} {v : V} {d : D} (r : Rp K Hv' v d) : Stp K W Γ σ Hv H (Γ'.set i (.dat d)) (σ'.set i (some v)) Hv' H' :=
  a.trans ⟨.refl _, a.ev.set r, fun x F n => ⟨rfl, F.set a.ev.len (fun z => by cases z)⟩, fun _ n => n⟩
theorem Stp.keepOwn (a : Stp K W Γ σ Hv H Γ' σ' Hv' H') {i : Nat} {p : Addr} {u : HO} {d : D} (F : Fresh W Γ' σ' Hv' p) (h : H' p = some u) (r : ObD K Hv' d u) (hn : H p = Option.none) :
    Stp K W Γ σ Hv H (Γ'.set i (.own d)) (σ'.set i (some (.ref p))) Hv' H' := by
  refine ⟨a.sv, a.ev.keepOwn F h r, fun x G n => ?_, a.st⟩
  obtain ⟨e, G'⟩ := a.fr x G n
  have ne : x ≠ p := fun z => n (by rw [z]; exact hn)
  exact ⟨e, G'.set a.ev.len (fun _ z => ne (by injection z with z; injection z with z; exact z.symm))⟩
theorem Fresh.set1 {i : Nat} {s s' : Sl} {a : Addr} (F : Fresh W Γ σ Hv a) (e : Γ[i]? = some s) (h : s'.isOwn = true → s.isOwn = true) : Fresh W (Γ.set i s') σ Hv a := by
  refine ⟨F.hv, F.h0, fun j t q o => ?_⟩
  by_cases hj : i = j
  · subst hj
    have hi := (List.getElem?_eq_some_iff.mp e).1
    rw [List.getElem?_set_self hi] at q
    cases q
    exact F.sl i s e (h o)
  · rw [List.getElem?_set_ne hj] at q
    exact F.sl j t q o
theorem Fresh.ne_own {i : Nat} {s : Sl} {a p : Addr} (F : Fresh W Γ σ Hv a) (e : Γ[i]? = some s) (o : s.isOwn = true) (es : σ[i]? = some (some (.ref p))) : a ≠ p := fun z => F.sl i s e o (by rw [z]; exact es)
theorem Stp.mut (a : Stp K W Γ σ Hv H Γ' σ' Hv' H') {i : Nat} {d d' : D} {p : Addr} {u' : HO} (e : Γ'[i]? = some (.own d)) (es : σ'[i]? = some (some (.ref p))) (r : ObD K Hv' d' u') :
    Stp K W Γ σ Hv H (Γ'.set i (.own d')) σ' Hv' (upd H' p u') :=
  a.trans ⟨.refl _, a.ev.mut e es r, fun x F n => ⟨upd_ne (F.ne_own e rfl es), F.set1 e fun _ => rfl⟩, upd_st⟩
theorem Stp.mutS (a : Stp K W Γ σ Hv H Γ' σ' Hv' H') {i : Nat} {y : Addr} {d d' : D} {u' : HO} (e : Γ'[i]? = some (.slf y d)) (r : ObD K Hv' d' u') :
    Stp K W Γ σ Hv H (Γ'.set i (.slf y d')) σ' Hv' (upd H' y u') := by
  obtain ⟨u, es, _⟩ := a.ev.getSlf e
  exact a.trans ⟨.refl _, a.ev.mutS e r, fun x F n => ⟨upd_ne (F.ne_own e rfl es), F.set1 e fun _ => rfl⟩, upd_st⟩
theorem Stp.let (a : Stp K W Γ σ Hv H Γ' σ' Hv' H') {i : Nat} {d : D} (e : Γ'[i]? = some (.own d)) :
    ∃ p u, σ'[i]? = some (some (.ref p)) ∧ Stp K W Γ σ Hv H (Γ'.set i (.dat d)) σ' (upd Hv' p u) H' ∧ Rp K (upd Hv' p u) (.ref p) d := by
  obtain ⟨p, u, h1, _, h2, h3, h4⟩ := a.ev.let e
  refine ⟨p, u, h1, a.trans ⟨same_upd h2, h3, fun x F n => ⟨rfl, ?_⟩, fun _ n => n⟩, h4⟩
  have ne := F.ne_own e rfl h1
  exact (F.set1 e fun z => by cases z).at (by rw [upd_ne ne]; exact F.hv)
end
abbrev TDE := Gm → (D → Gm → Prop) → Prop
abbrev TDF := Gm → (List D → Gm → Prop) → Prop
abbrev TDT := Gm → (Bool → Gm → Prop) → Prop
abbrev TDG := D → Gm → (Gm → Prop) → Prop
def Ad (K : PySem.W.Frag) (W : Wc) (te : TE) (td : TDE) : Prop := ∀ Γ σ Hv H (Q : D → Gm → Prop) (Q' : VK), Ev K W Γ σ Hv H → td Γ Q →
  (∀ v d Γ' Hv' H', Stp K W Γ σ Hv H Γ' σ Hv' H' → Rp K Hv' v d → Q d Γ' → Q' v H') → te σ H Q'
/-- a new object -/
def AdF (K : PySem.W.Frag) (W : Wc) (te : TE) (td : TDE) : Prop := ∀ Γ σ Hv H (Q : D → Gm → Prop) (Q' : VK), Ev K W Γ σ Hv H → td Γ Q →
  (∀ p u d Γ' Hv' H', Stp K W Γ σ Hv H Γ' σ Hv' H' → H p = none → H' p = some u → ObD K Hv' d u → Fresh W Γ' σ Hv' p → Q d Γ' → Q' (.ref p) H') → te σ H Q'
def AdA (K : PySem.W.Frag) (W : Wc) (ta : TA) (td : TDF) : Prop := ∀ Γ σ Hv H (Q : List D → Gm → Prop) (Q' : List V → Hp → Prop), Ev K W Γ σ Hv H → td Γ Q →
  (∀ vs ds Γ' Hv' H', Stp K W Γ σ Hv H Γ' σ Hv' H' → RpAll K Hv' vs ds → Q ds Γ' → Q' vs H') → ta σ H Q'
def AdT (K : PySem.W.Frag) (W : Wc) (tt : TT) (td : TDT) : Prop := ∀ Γ σ Hv H (Q : Bool → Gm → Prop) (Q' : Bool → Hp → Prop), Ev K W Γ σ Hv H → td Γ Q →
  (∀ b Γ' Hv' H', Stp K W Γ σ Hv H Γ' σ Hv' H' → Q b Γ' → Q' b H') → tt σ H Q'
structure EndsD where
  nx : Gm → Prop
  rt : D → Prop
  bk : Gm → Prop := fun _ => False
  ct : Gm → Prop := fun _ => False
  rf : D → Prop := fun _ => False
abbrev TDS := EndsD → Gm → Prop
structure LkE (K : PySem.W.Frag) (W : Wc) (E : EndsD) (E' : Ends) (Γ : Gm) (σ : St) (Hv H : Hp) : Prop where
  nx : ∀ Γ' σ' Hv' H', Stp K W Γ σ Hv H Γ' σ' Hv' H' → E.nx Γ' → E'.nx σ' H'
  rt : ∀ v d Γ' σ' Hv' H', Stp K W Γ σ Hv H Γ' σ' Hv' H' → Rp K Hv' v d → E.rt d → E'.rt v H'
  bk : ∀ Γ' σ' Hv' H', Stp K W Γ σ Hv H Γ' σ' Hv' H' → E.bk Γ' → E'.bk σ' H'
  ct : ∀ Γ' σ' Hv' H', Stp K W Γ σ Hv H Γ' σ' Hv' H' → E.ct Γ' → E'.ct σ' H'
  rf : ∀ p u d Γ' σ' Hv' H', Stp K W Γ σ Hv H Γ' σ' Hv' H' → H' p = some u → ObD K Hv' d u → Hv' p = none → W.H0 p = none → E.rf d → E'.rt (.ref p) H'
def AdS (K : PySem.W.Frag) (W : Wc) (ts : TS) (td : TDS) : Prop := ∀ Γ σ Hv H (E : EndsD) (E' : Ends), Ev K W Γ σ Hv H → td E Γ → LkE K W E E' Γ σ Hv H → ts E' σ H
theorem LkE.step {K W E E' Γ σ Hv H Γ1 σ1 Hv1 H1} (l : LkE K W E E' Γ σ Hv H) (s : Stp K W Γ σ Hv H Γ1 σ1 Hv1 H1) : LkE K W E E' Γ1 σ1 Hv1 H1 :=
  ⟨fun _ _ _ _ t q => l.nx _ _ _ _ (s.trans t) q, fun _ _ _ _ _ _ t r q => l.rt _ _ _ _ _ _ (s.trans t) r q, fun _ _ _ _ t q => l.bk _ _ _ _ (s.trans t) q, fun _ _ _ _ t q => l.ct _ _ _ _ (s.trans t) q, fun _ _ _ _ _ _ _ t h r n0 n q => l.rf _ _ _ _ _ _ _ (s.trans t) h r n0 n q⟩
structure DE (W : Wc) (X : Cx) (e : Expr) (te : TE) (td : TDE) : Prop where
  pe : PE X e te
  ad : Ad X.K W te td
structure DF (W : Wc) (X : Cx) (e : Expr) (te : TE) (td : TDE) : Prop where
  pe : PE X e te
  ad : AdF X.K W te td
structure DA (W : Wc) (X : Cx) (es : List Expr) (ta : TA) (td : TDF) : Prop where
  pa : PA X es ta
  ad : AdA X.K W ta td
structure DT (W : Wc) (X : Cx) (e : Expr) (tt : TT) (td : TDT) : Prop where
  pt : PT X e tt
  ad : AdT X.K W tt td
structure DTs (W : Wc) (X : Cx) (es : List Expr) (tt : TT) (td : TDT) : Prop where
  pt : PTs X es tt
  ad : AdT X.K W tt td
structure DS (W : Wc) (X : Cx) (s : Stmt) (ts : TS) (td : TDS) : Prop where
  ps : PS X s ts
  ad : AdS X.K W ts td
structure DSs (W : Wc) (X : Cx) (s : List Stmt) (ts : TS) (td : TDS) : Prop where
  ps : PSs X s ts
  ad : AdS X.K W ts td
structure DG (W : Wc) (X : Cx) (tg : Expr) (g : TG) (gd : TDG) (is : List Nat) : Prop where
  pg : PG X tg g
  ad : ∀ Γ σ Hv H v d (Q : Gm → Prop) (Q' : St → Hp → Prop), Ev X.K W Γ σ Hv H → Rp X.K Hv v d → gd d Γ Q →
    (∀ Γ' σ' Hv' H', Stp X.K W Γ σ Hv H Γ' σ' Hv' H' → σ'.length = σ.length → (∀ j, j ∉ is → σ'[j]? = σ[j]?) → Q Γ' → Q' σ' H') → g v σ H Q'
structure DGs (W : Wc) (X : Cx) (tg : List Expr) (g : TGs) (gd : List D → Gm → (Gm → Prop) → Prop) (is : List Nat) : Prop where
  pg : PGs X tg g
  ad : ∀ Γ σ Hv H vs ds (Q : Gm → Prop) (Q' : St → Hp → Prop), Ev X.K W Γ σ Hv H → RpAll X.K Hv vs ds → gd ds Γ Q →
    (∀ Γ' σ' Hv' H', Stp X.K W Γ σ Hv H Γ' σ' Hv' H' → σ'.length = σ.length → (∀ j, j ∉ is → σ'[j]? = σ[j]?) → Q Γ' → Q' σ' H') → g vs σ H Q'
/-- an iterator yields the data L -/
def ItD (K : PySem.W.Frag) (W : Wc) (J : It) (L : List D) (Hs : Hp) : Prop := ∀ Γ σ Hv H, Sub Hs Hv → Ev K W Γ σ Hv H → ∀ i, (L.length ≤ i → J.stop i H) ∧
  ∀ d, L[i]? = some d → J.go i H ∧ ∀ x H', J.yld i H x H' → ∃ Hv', Stp K W Γ σ Hv H Γ σ Hv' H' ∧ Rp K Hv' x d
structure DI (W : Wc) (X : Cx) (tg iter : Expr) (wi : TI) (di : TDF) : Prop where
  pi : PI X tg iter wi
  ad : ∀ Γ σ Hv H (Q : List D → Gm → Prop) (R : It → Hp → Prop), Ev X.K W Γ σ Hv H → di Γ Q →
    (∀ J L Γ' Hv' H', Stp X.K W Γ σ Hv H Γ' σ Hv' H' → ItD X.K W J L Hv' → Q L Γ' → R J H') → wi σ H R
section
variable {W : Wc} {X : Cx}
def rdVar (i : Nat) : TDE := fun Γ Q => match Γ[i]? with
  | some (.dat d) => Q d Γ
  | some (.own d) => Q d (Γ.set i (.dat d))
  | _ => False
theorem d_var {i : Nat} {x : Str} {pos : Pos} (hN : X.N[i]? = some x := by rfl) (hv : Vis X.env.scope x := by first | exact Or.inl rfl | exact Or.inr (Or.inl rfl) | exact Or.inr (Or.inr rfl)) (hd : (x == ("__debug__" : Str)) = false := by decide)
    (hcd : (x == ("__classdict__" : Str)) = false := by decide) : DE W X (.Name x pos) (tVar i) (rdVar i) := by
  refine ⟨pe_var hN hv hd hcd, fun Γ σ Hv H Q Q' E h k => ?_⟩
  unfold rdVar at h
  cases q : Γ[i]? with
  | none => rw [q] at h; exact h.elim
  | some s =>
    rw [q] at h
    cases s with
    | no => exact h.elim
    | bor d => exact h.elim
    | slf y d => exact h.elim
    | dat d =>
      obtain ⟨v, e, r⟩ := E.get q
      exact ⟨v, e, k v d Γ Hv H E.stp r h⟩
    | own ds =>
      obtain ⟨p, vs, e, s1, r⟩ := E.stp.let q
      exact ⟨_, e, k _ _ _ _ _ s1 r h⟩
def rdC (d : D) : TDE := fun Γ Q => Q d Γ
theorem ad_c {K : PySem.W.Frag} {v : V} {d : D} (r : ∀ H, Rp K H v d) : Ad K W (tC v) (rdC d) := fun Γ σ Hv H Q Q' E h k => k v d Γ Hv H E.stp (r Hv) h
theorem d_int {i j pos} : DE W X (.Constant (.int i) j pos) (tC (.int i)) (rdC (.int i)) := ⟨pe_int, ad_c fun _ => .int _⟩
theorem d_bl {i j pos} : DE W X (.Constant (.bool i) j pos) (tC (.bl i)) (rdC (.bl i)) := ⟨pe_bl, ad_c fun _ => .bl _⟩
theorem d_non {j pos} : DE W X (.Constant .none j pos) (tC .non) (rdC .non) := ⟨pe_non, ad_c fun _ => .non⟩
theorem d_str {i j pos} : DE W X (.Constant (.str i) j pos) (tC (.str i)) (rdC (.str i)) := ⟨pe_str, ad_c fun _ => .str _⟩
theorem d_glob {x : Str} {v : V} {d : D} {u : Value} {pos : Pos} (hg : Gl X x) (hm : X.mg x = some u) (r : RelV v u) (rd : ∀ H, Rp X.K H v d) (hd : (x == ("__debug__" : Str)) = false := by decide) : DE W X (.Name x pos) (tC v) (rdC d) :=
  ⟨pe_glob hg hm r hd, ad_c rd⟩
theorem d_bltn {x : Str} {v : V} {d : D} {u : Value} {pos : Pos} (hg : Gl X x) (hm : X.mg x = none) (hv : bootBuiltins x = some u) (r : RelV v u) (rd : ∀ H, Rp X.K H v d) (hn : x ≠ "__name__" := by decide) (hd : (x == ("__debug__" : Str)) = false := by decide) : DE W X (.Name x pos) (tC v) (rdC d) :=
  ⟨pe_bltn hg hm hv r hn hd, ad_c rd⟩
def rdShare (td : TDE) : TDE := td
theorem d_share {e : Expr} {te : TE} {td : TDE} (h : DF W X e te td) : DE W X e te (rdShare td) := by
  refine ⟨h.pe, fun Γ σ Hv H Q Q' E hw k => ?_⟩
  refine h.ad Γ σ Hv H _ Q' E hw fun p u d Γ' Hv' H' s hn hp r F q => ?_
  exact k _ d _ _ _ (s.share F hp hn) ((r.mono (same_upd F.hv)).rp upd_same) q
abbrev RD2 := D → D → (D → Prop) → Prop
def OpD (K : PySem.W.Frag) (W : Wc) (r : R2) (rd : RD2) : Prop := ∀ Γ σ Hv H x y dx dy (Q : D → Prop) (Q' : VK), Ev K W Γ σ Hv H → Rp K Hv x dx → Rp K Hv y dy → rd dx dy Q →
  (∀ v d Hv' H', Stp K W Γ σ Hv H Γ σ Hv' H' → Rp K Hv' v d → Q d → Q' v H') → r x y H Q'
def rdOp (rd : RD2) (ta tb : TDE) : TDE := fun Γ Q => ta Γ fun dx Γ1 => tb Γ1 fun dy Γ2 => rd dx dy fun d => Q d Γ2
variable {a b c : Expr} {ta tb tc : TE} {da db dc : TDE} {pos : Pos}
theorem ad_op {r : R2} {rd : RD2} {K : PySem.W.Frag} (hd : OpD K W r rd) (ha : Ad K W ta da) (hb : Ad K W tb db) : Ad K W (tOp r ta tb) (rdOp rd da db) := fun Γ σ Hv H Q Q' E h k =>
  ha Γ σ Hv H _ _ E h fun x dx Γ1 Hv1 H1 s1 r1 h1 => hb Γ1 σ Hv1 H1 _ _ s1.ev h1 fun y dy Γ2 Hv2 H2 s2 r2 h2 =>
    hd Γ2 σ Hv2 H2 x y dx dy _ _ s2.ev (Rp.mono s2.sv _ _ r1) r2 h2 fun v d Hv3 H3 s3 r3 q => k v d Γ2 Hv3 H3 ((s1.trans s2).trans s3) r3 q
theorem d_op {op : Operator} {r : R2} {rd : RD2} (ho : OpR X (binaryOp op) r) (hd : OpD X.K W r rd) (ha : DE W X a ta da) (hb : DE W X b tb db) : DE W X (.BinOp a op b pos) (tOp r ta tb) (rdOp rd da db) :=
  ⟨pe_op ho ha.pe hb.pe, ad_op hd ha.ad hb.ad⟩
theorem d_cmp {op : CmpOp} {r : R2} {rd : RD2} (ho : OpR X (compareOp op) r) (hd : OpD X.K W r rd) (ha : DE W X a ta da) (hb : DE W X b tb db) (hm : behindInMarks op b = false) : DE W X (.Compare a [op] [b] pos) (tOp r ta tb) (rdOp rd da db) :=
  ⟨pe_cmpR ho ha.pe hb.pe hm, ad_op hd ha.ad hb.ad⟩
def asB (d : D) (k : Bool → Prop) : Prop := match d with | .bl c => k c | _ => False
theorem asB_of {K : PySem.W.Frag} {H : Hp} {v : V} {d : D} {k : Bool → Prop} (r : Rp K H v d) (h : asB d k) : ∃ c, v = .bl c ∧ k c := by
  cases d <;> first | exact h.elim | skip
  cases r
  exact ⟨_, rfl, h⟩
def rdTest (da : TDE) : TDT := fun Γ Q => da Γ fun d Γ1 => asB d fun c => Q c Γ1
theorem ad_test {K : PySem.W.Frag} (ha : Ad K W ta da) : AdT K W (tTest ta) (rdTest da) := fun Γ σ Hv H Q Q' E h k =>
  ha Γ σ Hv H _ _ E h fun x dx Γ1 Hv1 H1 s1 r1 h1 => by
    obtain ⟨c, e, q⟩ := asB_of r1 h1
    exact ⟨c, e, k c Γ1 Hv1 H1 s1 q⟩
theorem ad_testB {K : PySem.W.Frag} (ha : Ad K W ta da) : AdT K W (tB ta) (rdTest da) := ad_test ha
theorem dt_cmp {op : CmpOp} {r : R2} {rd : RD2} (ho : OpR X (compareOp op) r) (hd : OpD X.K W r rd) (ha : DE W X a ta da) (hb : DE W X b tb db) (hm : behindInMarks op b = false) : DT W X (.Compare a [op] [b] pos) (tTest (tOp r ta tb)) (rdTest (rdOp rd da db)) :=
  ⟨pt_cmpR ho ha.pe hb.pe hm, ad_test (ad_op hd ha.ad hb.ad)⟩
theorem dt_val {e : Expr} {te : TE} {de : TDE} (h : DE W X e te de) (he : ∀ whole, isTrue e X.env whole = (do let v ← whole; standAt e.pos; holding [v] (truthy v)) := by intro _; rfl) : DT W X e (tB te) (rdTest de) :=
  ⟨pt_val h.pe he, ad_testB h.ad⟩
variable {tA tB' : TT} {dA dB : TDT} {rest : List Expr}
def rdAnd (t u : TDT) : TDT := fun Γ Q => t Γ fun c Γ1 => if c = true then u Γ1 Q else Q false Γ1
def rdOr (t u : TDT) : TDT := fun Γ Q => t Γ fun c Γ1 => if c = true then Q true Γ1 else u Γ1 Q
def rdNot (t : TDT) : TDT := fun Γ Q => t Γ fun c Γ1 => Q (!c) Γ1
theorem dt_not (ha : DT W X a tA dA) : DT W X (.UnaryOp .Not a pos) (tNot tA) (rdNot dA) := ⟨pt_not ha.pt, fun Γ σ Hv H Q Q' E h k => ha.ad Γ σ Hv H _ _ E h fun c Γ1 Hv1 H1 s1 q => k _ Γ1 Hv1 H1 s1 q⟩
def rdAndV (da db : TDE) : TDE := fun Γ Q => da Γ fun d Γ1 => asB d fun c => if c = true then db Γ1 Q else Q (.bl false) Γ1
def rdOrV (da db : TDE) : TDE := fun Γ Q => da Γ fun d Γ1 => asB d fun c => if c = true then Q (.bl true) Γ1 else db Γ1 Q
theorem d_one {op} (h : DE W X a ta da) : DE W X (.BoolOp op [a] pos) ta da := ⟨pe_one h.pe, h.ad⟩
theorem d_and (ha : DE W X a ta da) (hb : DE W X (.BoolOp .And (b :: rest) pos) tb db) : DE W X (.BoolOp .And (a :: b :: rest) pos) (tAndV ta tb) (rdAndV da db) := by
  refine ⟨pe_and ha.pe hb.pe, fun Γ σ Hv H Q Q' E h k => ?_⟩
  refine ha.ad Γ σ Hv H _ _ E h fun x d Γ1 Hv1 H1 s1 r1 q => ?_
  obtain ⟨c, e, q⟩ := asB_of r1 q
  refine ⟨c, e, ?_⟩
  cases c with
  | true =>
    rw [if_pos rfl] at q ⊢
    exact hb.ad Γ1 σ Hv1 H1 _ _ s1.ev q fun v d Γ2 Hv2 H2 s2 r2 q2 => k v d Γ2 Hv2 H2 (s1.trans s2) r2 q2
  | false =>
    rw [if_neg Bool.false_ne_true] at q ⊢
    exact k _ _ Γ1 Hv1 H1 s1 (.bl _) q
def rdNotV (da : TDE) : TDE := fun Γ Q => da Γ fun d Γ1 => asB d fun c => Q (.bl (!c)) Γ1
def rdIf (t : TDT) (da db : TDE) : TDE := fun Γ Q => t Γ fun c Γ1 => if c = true then da Γ1 Q else db Γ1 Q
def rdNil : TDF := fun Γ Q => Q [] Γ
def rdCons (da : TDE) (dr : TDF) : TDF := fun Γ Q => da Γ fun d Γ1 => dr Γ1 fun ds Γ2 => Q (d :: ds) Γ2
variable {e : Expr} {es : List Expr} {te : TE} {t : TA} {de : TDE} {dt : TDF}
theorem da_nil : DA W X [] tNil rdNil := ⟨pa_nil, fun Γ σ Hv H Q Q' E h k => k [] [] Γ Hv H E.stp .nil h⟩
theorem da_cons (ha : DE W X e te de) (hr : DA W X es t dt) (hs : starEach (e :: es) X.env = (false, eval e X.env) :: starEach es X.env := by rfl) : DA W X (e :: es) (tCons te t) (rdCons de dt) := by
  refine ⟨pa_cons ha.pe hr.pa hs, fun Γ σ Hv H Q Q' E h k => ?_⟩
  refine ha.ad Γ σ Hv H _ _ E h fun x d Γ1 Hv1 H1 s1 r1 q => ?_
  exact hr.ad Γ1 σ Hv1 H1 _ _ s1.ev q fun vs ds Γ2 Hv2 H2 s2 r2 q2 => k _ _ Γ2 Hv2 H2 (s1.trans s2) (.cons (Rp.mono s2.sv _ _ r1) r2) q2
def small (n : Nat) : Prop := n ≤ sizeLine
def rdTup (dt : TDF) : TDE := fun Γ Q => dt Γ fun ds Γ1 => small ds.length ∧ Q (.tup ds) Γ1
/-- a new tuple, its object told -/
def tTupX (t : TA) : TE := fun σ H Q => t σ H fun xs H1 => xs.length ≤ sizeLine ∧ ∀ p (o : Obj), H1 p = none → o.dict = none → Q (.ref p) (upd H1 p (.frz o (.tup xs)))
theorem pe_tupX {x1} (h : PA X es t) : PE X (.Tuple es x1 pos) (tTupX t) := by
  refine ⟨fun pins s0 σ0 H0 Qw I0 hw0 => ?_⟩
  refine wpAny_Tuple_spliced (thn (h.run pos pins s0 σ0 H0 _ I0 hw0) fun us1 s1 ⟨xs1, H1, I1, rv1, hz1, qw⟩ => ⟨by rw [← rv1.length]; exact hz1, ?_⟩)
  have free1 : H1 s1.heap.objs.size = none := I1.hok.fresh (Nat.le_refl _)
  refine ⟨.ref s1.heap.objs.size, upd H1 s1.heap.objs.size (.frz { cls := .type "tuple", data := .seq us1.toArray } (.tup xs1)), I1.laid (t' := s1.toks) (fun _ _ e => Heap.get?_push_of_some _ e) (Nat.le_refl _) ?_, rfl, qw _ _ free1 rfl⟩
  exact ⟨Heap.get?_push_size _ rfl, hz1, us1, rv1, ⟨_, Heap.get?_push_size _ rfl, rfl, _, rfl⟩⟩
theorem d_tup {x1} (h : DA W X es t dt) : DE W X (.Tuple es x1 pos) (tTupX t) (rdTup dt) := by
  refine ⟨pe_tupX h.pa, fun Γ σ Hv H Q Q' E hw k => ?_⟩
  refine h.ad Γ σ Hv H _ _ E hw fun vs ds Γ1 Hv1 H1 s1 r1 q => ?_
  refine ⟨by rw [r1.length]; exact q.1, fun p o hp hd => ?_⟩
  exact k _ (.tup ds) Γ1 _ _ (s1.alloc _ hp) (.tup (.of upd_same hd) (RpAll.mono (same_upd (s1.ev.noneHv hp)) _ _ r1)) q.2
def rdLst (dt : TDF) : TDE := fun Γ Q => dt Γ fun ds Γ1 => small ds.length ∧ Q (.lst ds) Γ1
theorem d_lst (h : DA W X es t dt) : DF W X (.List es pos) (tLst t) (rdLst dt) := by
  refine ⟨pe_lst h.pa, fun Γ σ Hv H Q Q' E hw k => ?_⟩
  refine h.ad Γ σ Hv H _ _ E hw fun vs ds Γ1 Hv1 H1 s1 r1 q => ?_
  refine ⟨by rw [r1.length]; exact q.1, fun p hp => ?_⟩
  obtain ⟨s2, F⟩ := s1.alloc0 (.lst vs) hp
  exact k p _ (.lst ds) Γ1 _ _ s2 (s1.was hp) upd_same ⟨vs, rfl, r1⟩ F q.2
end
end VL
set_option Elab.async false
set_option linter.all false
set_option maxRecDepth 100000
set_option maxHeartbeats 4000000
namespace VL
open PySem PySem.Spec L2
open PyProof.Rows hiding St
section
variable {W : Wc} {X : Cx} {a b c e o i : Expr} {es : List Expr} {ta tb tc te to ti : TE} {da db dc de do' di : TDE} {t : TA} {dt : TDF} {p pos apos : Pos}
def CallD (K : PySem.W.Frag) (W : Wc) (r : List V → Hp → VK → Prop) (rd : List D → (D → Prop) → Prop) : Prop := ∀ Γ σ Hv H vs ds (Q : D → Prop) (Q' : VK), Ev K W Γ σ Hv H → RpAll K Hv vs ds → rd ds Q →
  (∀ v d Hv' H', Stp K W Γ σ Hv H Γ σ Hv' H' → Rp K Hv' v d → Q d → Q' v H') → r vs H Q'
/-- the result is a new object -/
def CallF (K : PySem.W.Frag) (W : Wc) (r : List V → Hp → VK → Prop) (rd : List D → (D → Prop) → Prop) : Prop := ∀ Γ σ Hv H vs ds (Q : D → Prop) (Q' : VK), Ev K W Γ σ Hv H → RpAll K Hv vs ds → rd ds Q →
  (∀ q u d Hv' H', Stp K W Γ σ Hv H Γ σ Hv' H' → H q = none → H' q = some u → ObD K Hv' d u → Fresh W Γ σ Hv' q → Q d → Q' (.ref q) H') → r vs H Q'
def rdCB (rd : List D → (D → Prop) → Prop) (dt : TDF) : TDE := fun Γ Q => dt Γ fun ds Γ1 => rd ds fun d => Q d Γ1
def rdCF (rd : List D → (D → Prop) → Prop) (dt : TDF) : TDE := fun Γ Q => dt Γ fun ds Γ1 => rd ds fun d => Q d Γ1
theorem ad_cb {K : PySem.W.Frag} {r rd} (hd : CallD K W r rd) (h : AdA K W t dt) : Ad K W (tCB r t) (rdCB rd dt) := fun Γ σ Hv H Q Q' E hw k =>
  h Γ σ Hv H _ _ E hw fun vs ds Γ1 Hv1 H1 s1 r1 q => hd Γ1 σ Hv1 H1 vs ds _ _ s1.ev r1 q fun v d Hv2 H2 s2 r2 q2 => k v d Γ1 Hv2 H2 (s1.trans s2) r2 q2
theorem ad_cf {K : PySem.W.Frag} {r rd} (hd : CallF K W r rd) (h : AdA K W t dt) : AdF K W (tCB r t) (rdCF rd dt) := fun Γ σ Hv H Q Q' E hw k =>
  h Γ σ Hv H _ _ E hw fun vs ds Γ1 Hv1 H1 s1 r1 q => hd Γ1 σ Hv1 H1 vs ds _ _ s1.ev r1 q fun q' u d Hv2 H2 s2 hn hq r2 F q2 => k q' u d Γ1 Hv2 H2 (s1.trans s2) (s1.was hn) hq r2 F q2
variable {x : Str} {id T : String}
theorem d_callB {r rd} (hc : CallR X (.builtin id) r) (hd : CallD X.K W r rd) (hg : Gl X x) (hm : X.mg x = none) (hv : bootBuiltins x = some (.builtin id)) (ha : DA W X (e :: es) t dt) (hn : x ≠ "__name__" := by decide) (hdb : (x == ("__debug__" : Str)) = false := by decide)
    (he : starEach (e :: es) X.env = (false, eval e X.env) :: starEach es X.env := by rfl) (hpl : (backTo pos (starEach es X.env)).any (·.1) = false := by rfl) : DE W X (.Call (.Name x p) (e :: es) [] pos) (tCB r t) (rdCB rd dt) :=
  ⟨pe_callB hc hg hm hv ha.pa hn hdb he hpl, ad_cb hd ha.ad⟩
theorem d_callTy {r rd} (hc : CallR X (.type T) r) (hd : CallD X.K W r rd) (hg : Gl X x) (hm : X.mg x = none) (hv : bootBuiltins x = some (.type T)) (ha : DA W X (e :: es) t dt) (hn : x ≠ "__name__" := by decide) (hdb : (x == ("__debug__" : Str)) = false := by decide)
    (he : starEach (e :: es) X.env = (false, eval e X.env) :: starEach es X.env := by rfl) (hpl : (backTo pos (starEach es X.env)).any (·.1) = false := by rfl) : DE W X (.Call (.Name x p) (e :: es) [] pos) (tCB r t) (rdCB rd dt) :=
  ⟨pe_callTy hc hg hm hv ha.pa hn hdb he hpl, ad_cb hd ha.ad⟩
theorem df_callB {r rd} (hc : CallR X (.builtin id) r) (hd : CallF X.K W r rd) (hg : Gl X x) (hm : X.mg x = none) (hv : bootBuiltins x = some (.builtin id)) (ha : DA W X (e :: es) t dt) (hn : x ≠ "__name__" := by decide) (hdb : (x == ("__debug__" : Str)) = false := by decide)
    (he : starEach (e :: es) X.env = (false, eval e X.env) :: starEach es X.env := by rfl) (hpl : (backTo pos (starEach es X.env)).any (·.1) = false := by rfl) : DF W X (.Call (.Name x p) (e :: es) [] pos) (tCB r t) (rdCF rd dt) :=
  ⟨pe_callB hc hg hm hv ha.pa hn hdb he hpl, ad_cf hd ha.ad⟩
theorem df_callTy {r rd} (hc : CallR X (.type T) r) (hd : CallF X.K W r rd) (hg : Gl X x) (hm : X.mg x = none) (hv : bootBuiltins x = some (.type T)) (ha : DA W X (e :: es) t dt) (hn : x ≠ "__name__" := by decide) (hdb : (x == ("__debug__" : Str)) = false := by decide)
    (he : starEach (e :: es) X.env = (false, eval e X.env) :: starEach es X.env := by rfl) (hpl : (backTo pos (starEach es X.env)).any (·.1) = false := by rfl) : DF W X (.Call (.Name x p) (e :: es) [] pos) (tCB r t) (rdCF rd dt) :=
  ⟨pe_callTy hc hg hm hv ha.pa hn hdb he hpl, ad_cf hd ha.ad⟩
abbrev FD := List D → (D → Prop) → Prop
def spD (J : Vol) (K : PySem.W.Frag) (F : FD) : Sp := fun vs H Q _ => ∃ Hv ds Qd, Sub Hv H ∧ J.inv H ∧ (∀ a, J.vol a → Hv a = none) ∧ RpAll K Hv vs ds ∧ F ds Qd ∧
  ∀ v d Hv' H', Ret J.vol J.inv Hv H Hv' H' → Rp K Hv' v d → Qd d → Q v H'
def rdCall (F : FD) (dds : List D) (dt : TDF) : TDE := fun Γ Q => dt Γ fun ds Γ1 => F (ds ++ dds) fun d => Q d Γ1
theorem ad_call {K : PySem.W.Frag} {F : FD} {dvs : List V} {dds : List D} {E : XK} (hdd : ∀ H, RpAll K H dvs dds) (h : AdA K W t dt) : Ad K W (tCall (spD W.J K F) dvs E t) (rdCall F dds dt) := fun Γ σ Hv H Q Q' E hw k =>
  h Γ σ Hv H _ _ E hw fun vs ds Γ1 Hv1 H1 s1 r1 q => ⟨Hv1, ds ++ dds, _, s1.ev.ret.sub, s1.ev.ret.inv, s1.ev.ret.nv, r1.append (hdd _), q, fun v d Hv2 H2 R r2 q2 => k v d Γ1 Hv2 H2 (s1.after R) r2 q2⟩
theorem ad_callP {K : PySem.W.Frag} {F : FD} {dvs : List V} {dds : List D} {E : XK} (hdd : ∀ H, RpAll K H dvs dds) (h : AdA K W t dt) : Ad K W (tCall (spD Vol.no K F) dvs E t) (rdCall F dds dt) := fun Γ σ Hv H Q Q' E hw k =>
  h Γ σ Hv H _ _ E hw fun vs ds Γ1 Hv1 H1 s1 r1 q => ⟨Hv1, ds ++ dds, _, s1.ev.ret.sub, True.intro, fun _ z => z.elim, r1.append (hdd _), q, fun v d Hv2 H2 R r2 q2 => k v d Γ1 Hv2 H2 (s1.after (s1.ev.pure R)) r2 q2⟩
variable {CX : CXT} {k : Nat} {f : Addr} {fd : FuncData} {ps : List Str} {F : FD} {dvs : List V} {dds : List D} {ds : List Value} {E : XK}
/-- f(e, ..), f pure -/
theorem d_callP (G : FnOk X.prog X.w X.K X.mg X.base CX k f fd ps (spD Vol.no X.K F)) (hr : Room k X.A) (hg : Gl X x) (hm : X.mg x = some (.ref f)) (hk : PySem.W.keepIn X.K (.ref f) = true) (hb : Binds X.K fd ps ds) (hd : Vals dvs ds) (hdd : ∀ H, RpAll X.K H dvs dds) (hx : Passes CX X E)
    (ha : DA W X (e :: es) t dt) (hdb : (x == ("__debug__" : Str)) = false := by decide) (he : starEach (e :: es) X.env = (false, eval e X.env) :: starEach es X.env := by rfl) (hpl : (backTo pos (starEach es X.env)).any (·.1) = false := by rfl) :
    DE W X (.Call (.Name x p) (e :: es) [] pos) (tCall (spD Vol.no X.K F) dvs E t) (rdCall F dds dt) :=
  ⟨pe_call G hr hg hm hk hb hd hx ha.pa hdb he hpl, ad_callP hdd ha.ad⟩
theorem d_ix {r : R2} {rd : RD2} (hr : IxR X r) (hd : OpD X.K W r rd) (ha : DE W X a ta da) (hb : DE W X b tb db) (hs : PlainIx b) : DE W X (.Subscript a b pos) (tOp r ta tb) (rdOp rd da db) := ⟨pe_ix hr ha.pe hb.pe hs, ad_op hd ha.ad hb.ad⟩
abbrev TDO := Gm → (Option Int → Gm → Prop) → Prop
def AdO (K : PySem.W.Frag) (W : Wc) (t : TO) (td : TDO) : Prop := ∀ Γ σ Hv H (Q : Option Int → Gm → Prop) (Q' : Option Int → Hp → Prop), Ev K W Γ σ Hv H → td Γ Q →
  (∀ o Γ' Hv' H', Stp K W Γ σ Hv H Γ' σ Hv' H' → Q o Γ' → Q' o H') → t σ H Q'
structure DO (W : Wc) (X : Cx) (e : Option Expr) (t : TO) (td : TDO) : Prop where
  po : PO X e t
  ad : AdO X.K W t td
def rdNoPart : TDO := fun Γ Q => Q none Γ
def asI (d : D) (k : Int → Prop) : Prop := match d with | .int c => k c | _ => False
theorem asI_of {K : PySem.W.Frag} {H : Hp} {v : V} {d : D} {k : Int → Prop} (r : Rp K H v d) (h : asI d k) : ∃ c, v = .int c ∧ k c := by
  cases d <;> first | exact h.elim | skip
  cases r
  exact ⟨_, rfl, h⟩
def rdPart (de : TDE) : TDO := fun Γ Q => de Γ fun d Γ1 => asI d fun j => Q (some j) Γ1
theorem do_none : DO W X none tNoPart rdNoPart := ⟨po_none, fun Γ σ Hv H Q Q' E h k => k none Γ Hv H E.stp h⟩
theorem do_some (h : DE W X e te de) : DO W X (some e) (tPart te) (rdPart de) := ⟨po_some h.pe, fun Γ σ Hv H Q Q' E hw k => h.ad Γ σ Hv H _ _ E hw fun v d Γ1 Hv1 H1 s1 r1 q => by
  obtain ⟨j, e1, q⟩ := asI_of r1 q
  exact ⟨j, e1, k _ Γ1 Hv1 H1 s1 q⟩⟩
def SlD (K : PySem.W.Frag) (W : Wc) (r : V → Option Int → Option Int → Hp → VK → Prop) (rd : D → Option Int → Option Int → (D → Prop) → Prop) : Prop := ∀ Γ σ Hv H x lo hi dx (Q : D → Prop) (Q' : VK), Ev K W Γ σ Hv H → Rp K Hv x dx → rd dx lo hi Q →
  (∀ v d Hv' H', Stp K W Γ σ Hv H Γ σ Hv' H' → Rp K Hv' v d → Q d → Q' v H') → r x lo hi H Q'
def rdSl (rd : D → Option Int → Option Int → (D → Prop) → Prop) (de : TDE) (dl dh : TDO) : TDE := fun Γ Q => de Γ fun d Γ1 => dl Γ1 fun lo Γ2 => dh Γ2 fun hi Γ3 => rd d lo hi fun d => Q d Γ3
theorem d_slice {r rd} {lo hi : Option Expr} {tl th : TO} {dl dh : TDO} {p2 : Pos} (hr : SlR X r) (hd : SlD X.K W r rd) (he : DE W X e te de) (hl : DO W X lo tl dl) (hu : DO W X hi th dh) : DE W X (.Subscript e (.Slice lo hi none p2) pos) (tSl r te tl th) (rdSl rd de dl dh) := by
  refine ⟨pe_slice hr he.pe hl.po hu.po, fun Γ σ Hv H Q Q' E h k => ?_⟩
  refine he.ad Γ σ Hv H _ _ E h fun x d Γ1 Hv1 H1 s1 r1 q => ?_
  refine hl.ad Γ1 σ Hv1 H1 _ _ s1.ev q fun l Γ2 Hv2 H2 s2 q2 => ?_
  refine hu.ad Γ2 σ Hv2 H2 _ _ s2.ev q2 fun u Γ3 Hv3 H3 s3 q3 => ?_
  exact hd Γ3 σ Hv3 H3 x l u d _ _ s3.ev (Rp.mono s3.sv _ _ (Rp.mono s2.sv _ _ r1)) q3 fun v d' Hv4 H4 s4 r4 q4 => k v d' Γ3 Hv4 H4 ((s1.trans (s2.trans s3)).trans s4) r4 q4
variable {s : Stmt} {rest sts bs : List Stmt} {tS uS : TS} {dS uD : TDS} {tT : TT} {dT : TDT}
def rdNext : TDS := fun E Γ => E.nx Γ
def rdSeq (t u : TDS) : TDS := fun E Γ => t { E with nx := u E } Γ
theorem dss_nil : DSs W X [] tNext rdNext := ⟨pss_nil, fun Γ σ Hv H E E' Z h l => l.nx _ _ _ _ Z.stp h⟩
theorem ad_seq {K : PySem.W.Frag} (h1 : AdS K W tS dS) (h2 : AdS K W uS uD) : AdS K W (tSeq tS uS) (rdSeq dS uD) := fun Γ σ Hv H E E' Z h l =>
  h1 Γ σ Hv H { E with nx := uD E } { E' with nx := uS E' } Z h ⟨fun Γ' σ' Hv' H' s q => h2 Γ' σ' Hv' H' E E' s.ev q (l.step s), l.rt, l.bk, l.ct, l.rf⟩
theorem dss_cons (h1 : DS W X s tS dS) (h2 : DSs W X rest uS uD) : DSs W X (s :: rest) (tSeq tS uS) (rdSeq dS uD) := ⟨pss_cons h1.ps h2.ps, ad_seq h1.ad h2.ad⟩
theorem dss_one (h1 : DS W X s tS dS) : DSs W X [s] tS dS := ⟨pss_one h1.ps, h1.ad⟩
def rdDrop (de : TDE) : TDS := fun E Γ => de Γ fun _ Γ1 => E.nx Γ1
theorem ds_expr (he : DE W X e te de) (hs : swapsWith e none pos.line X.env = pure false := by rfl) : DS W X (.Expr e pos) (tDrop te) (rdDrop de) := ⟨ps_expr he.pe hs, fun Γ σ Hv H E E' Z h l => he.ad Γ σ Hv H _ _ Z h fun v d Γ1 Hv1 H1 s1 r1 q => l.nx _ _ _ _ s1 q⟩
def rdRet (de : TDE) : TDS := fun E Γ => de Γ fun d _ => E.rt d
theorem ds_ret (he : DE W X e te de) : DS W X (.Return (some e) pos) (tRet te) (rdRet de) := ⟨ps_ret he.pe, fun Γ σ Hv H E E' Z h l => he.ad Γ σ Hv H _ _ Z h fun v d Γ1 Hv1 H1 s1 r1 q => l.rt _ _ _ _ _ _ s1 r1 q⟩
def rdIfS (c : TDT) (t u : TDS) : TDS := fun E Γ => c Γ fun b Γ1 => if b = true then t E Γ1 else u E Γ1
theorem ds_if {as : List Stmt} (hc : DT W X c tT dT) (ha : DSs W X as tS dS) (hb : DSs W X bs uS uD) : DS W X (.If c as bs pos) (tIfS tT tS uS) (rdIfS dT dS uD) := by
  refine ⟨ps_if hc.pt ha.ps hb.ps, fun Γ σ Hv H E E' Z h l => hc.ad Γ σ Hv H _ _ Z h fun b Γ1 Hv1 H1 s1 q => ?_⟩
  cases b with
  | true =>
    rw [if_pos rfl] at q ⊢
    exact ha.ad Γ1 σ Hv1 H1 E E' s1.ev q (l.step s1)
  | false =>
    rw [if_neg Bool.false_ne_true] at q ⊢
    exact hb.ad Γ1 σ Hv1 H1 E E' s1.ev q (l.step s1)
theorem ds_never : DS W X s tNever (fun _ _ => False) := ⟨ps_never, fun Γ σ Hv H E E' Z h l => h.elim⟩
def rgName (j : Nat) : TDG := fun d Γ Q => Q (Γ.set j (.dat d))
theorem dg_name {j : Nat} (hN : X.N.Nodup) (hi : X.N[j]? = some x) (hx : Loc X.env.scope x) (hf : X.fn x = true ∨ X.env.scope.names.lookup x = some .local := by first | exact .inl rfl | exact .inr rfl | assumption) : DG W X (.Name x pos) (gName j) (rgName j) [j] :=
  ⟨pg_name hN hi hx hf, fun Γ σ Hv H v d Q Q' Z r h k => k _ _ Hv H (Z.stp.set r) (by rw [List.length_set]) (fun l hl => List.getElem?_set_ne (fun z => hl (by simp [z]))) h⟩
def rgNil : List D → Gm → (Gm → Prop) → Prop := fun ds Γ Q => ds = [] ∧ Q Γ
def rgCons (t : TDG) (u : List D → Gm → (Gm → Prop) → Prop) : List D → Gm → (Gm → Prop) → Prop := fun ds Γ Q => match ds with
  | d :: r => t d Γ fun Γ1 => u r Γ1 Q
  | [] => False
theorem dgs_nil : DGs W X [] gNil rgNil [] := ⟨pgs_nil, fun Γ σ Hv H vs ds Q Q' Z r h k => by
  obtain ⟨rfl, h⟩ := h
  cases r
  exact ⟨rfl, k _ _ _ _ Z.stp rfl (fun _ _ => rfl) h⟩⟩
theorem dgs_cons {tg : Expr} {tgs : List Expr} {g : TG} {u : TGs} {gd : TDG} {ud} {is js : List Nat} (h1 : DG W X tg g gd is) (h2 : DGs W X tgs u ud js)
    (hs : (assignEach (tg :: tgs) X.env).map (·.2) = assign tg X.env :: (assignEach tgs X.env).map (·.2) := by rfl) : DGs W X (tg :: tgs) (gCons g u) (rgCons gd ud) (is ++ js) := by
  refine ⟨pgs_cons h1.pg h2.pg hs, fun Γ σ Hv H vs ds Q Q' Z r h k => ?_⟩
  cases r with
  | nil => exact h.elim
  | cons ra rr =>
    refine ⟨_, _, rfl, h1.ad Γ σ Hv H _ _ _ _ Z ra h fun Γ1 σ1 Hv1 H1 s1 l1 n1 q1 => ?_⟩
    refine h2.ad Γ1 σ1 Hv1 H1 _ _ _ _ s1.ev (RpAll.mono s1.sv _ _ rr) q1 fun Γ2 σ2 Hv2 H2 s2 l2 n2 q2 => ?_
    refine k Γ2 σ2 Hv2 H2 (s1.trans s2) (l2.trans l1) (fun j hj => ?_) q2
    rw [List.mem_append, not_or] at hj
    rw [n2 j hj.2, n1 j hj.1]
def rgTup (n : Nat) (u : List D → Gm → (Gm → Prop) → Prop) : TDG := fun d Γ Q => match d with
  | .tup ds => ds.length = n ∧ u ds Γ Q
  | .wtup ds => ds.length = n ∧ u ds Γ Q
  | _ => False
theorem dg_tup {tgs : List Expr} {kk : Nat} {u : TGs} {ud} {is : List Nat} {n : Nat} (hc : X.calm = true) (h : DGs W X tgs u ud is)
    (hn : (assignEach tgs X.env).length = n := by rfl) (hst : (assignEach tgs X.env).findIdx? (·.1) = none := by rfl) : DG W X (.Tuple tgs kk pos) (gTup X.K n u) (rgTup n ud) is := by
  refine ⟨pg_tup hc h.pg hn hst, fun Γ σ Hv H v d Q Q' Z r hw k => ?_⟩
  cases d <;> first | exact hw.elim | skip
  · obtain ⟨hl, hw⟩ := hw
    cases r with
    | tup hs ra => exact ⟨_, _, rfl, seqT Z.ret.sub hs, by rw [ra.length]; exact hl, h.ad Γ σ Hv H _ _ _ _ Z ra hw k⟩
  · obtain ⟨hl, hw⟩ := hw
    cases r with
    | wtup hs ra => exact ⟨_, _, rfl, seqT0 Z.ret.sub hs, by rw [ra.length]; exact hl, h.ad Γ σ Hv H _ _ _ _ Z ra hw k⟩
/-- target = value -/
def rdAsg (de : TDE) (gd : TDG) : TDS := fun E Γ => de Γ fun d Γ1 => gd d Γ1 E.nx
theorem ds_asg {tg : Expr} {g : TG} {gd : TDG} {is : List Nat} (he : DE W X e te de) (hg : DG W X tg g gd is) (hs : swapsWithSole [tg] e pos.line X.env = pure false := by rfl) (hw : swappedStores [tg] e X.env = pure none := by rfl)
    (h1 : (assignEach [tg] X.env).map (·.2) = [assign tg X.env] := by rfl) : DS W X (.Assign [tg] e pos) (tAsg te g) (rdAsg de gd) :=
  ⟨ps_asg he.pe hg.pg hs hw h1, fun Γ σ Hv H E E' Z h l => he.ad Γ σ Hv H _ _ Z h fun v d Γ1 Hv1 H1 s1 r1 q => hg.ad Γ1 σ Hv1 H1 _ _ _ _ s1.ev r1 q fun Γ2 σ2 Hv2 H2 s2 _ _ q2 => l.nx _ _ _ _ (s1.trans s2) q2⟩
theorem ds_set {j : Nat} {pos' : Pos} (hN : X.N.Nodup) (hi : X.N[j]? = some x) (hx : Loc X.env.scope x) (he : DE W X e te de) (hs : swapsWith e (some (.Name x pos')) pos.line X.env = pure false := by rfl) (hf : X.fn x = true ∨ X.env.scope.names.lookup x = some .local := by first | exact .inl rfl | exact .inr rfl | assumption) :
    DS W X (.Assign [.Name x pos'] e pos) (tAsg te (gName j)) (rdAsg de (rgName j)) :=
  ⟨ps_set hN hi hx he.pe hs hf, fun Γ σ Hv H E E' Z h l => he.ad Γ σ Hv H _ _ Z h fun v d Γ1 Hv1 H1 s1 r1 q => l.nx _ _ _ _ (s1.set r1) q⟩
/-- name = a new list: the slot's own -/
def rdSetOwn (de : TDE) (j : Nat) : TDS := fun E Γ => de Γ fun d Γ1 => E.nx (Γ1.set j (.own d))
theorem ds_setOwn {j : Nat} {pos' : Pos} {de : TDE} (hN : X.N.Nodup) (hi : X.N[j]? = some x) (hx : Loc X.env.scope x) (he : DF W X e te de) (hs : swapsWith e (some (.Name x pos')) pos.line X.env = pure false := by rfl) (hf : X.fn x = true ∨ X.env.scope.names.lookup x = some .local := by first | exact .inl rfl | exact .inr rfl | assumption) :
    DS W X (.Assign [.Name x pos'] e pos) (tAsg te (gName j)) (rdSetOwn de j) :=
  ⟨ps_set hN hi hx he.pe hs hf, fun Γ σ Hv H E E' Z h l => he.ad Γ σ Hv H _ _ Z h fun p u d Γ1 Hv1 H1 s1 hn hp r1 F q => l.nx _ _ _ _ (s1.keepOwn F hp r1 hn) q⟩
/-- x.append(e), x an own list's slot -/
def rdApp (j : Nat) (de : TDE) : TDE := fun Γ Q => (∃ ds, Γ[j]? = some (.own (.lst ds))) ∧ de Γ fun d Γ1 => match Γ1[j]? with
  | some (.own (.lst ds)) => ds.length < sizeLine ∧ Q .non (Γ1.set j (.own (.lst (ds ++ [d]))))
  | _ => False
theorem ad_app {K : PySem.W.Frag} {j : Nat} (he : Ad K W te de) : Ad K W (tBM K "list" rAppend (tVar j) (tCons te tNil)) (rdApp j de) := fun Γ σ Hv H Q Q' Z h k => by
  obtain ⟨⟨ds0, e0⟩, h⟩ := h
  obtain ⟨p, u0, es, hp, ⟨vs0, rfl, _⟩, _⟩ := Z.getOwn e0
  refine ⟨_, es, .inl ⟨rfl, _, .of hp⟩, he Γ σ Hv H _ _ Z h fun v d Γ1 Hv1 H1 s1 r1 q => ?_⟩
  split at q
  · rename_i ds e1
    obtain ⟨p1, u1, es1, hp1, ⟨vs1, rfl, ra⟩, _⟩ := s1.ev.getOwn e1
    rw [es] at es1
    cases es1
    refine ⟨p, vs1, v, rfl, rfl, hp1, by rw [ra.length]; exact q.1, ?_⟩
    exact k _ _ _ _ _ (s1.mut (d' := .lst (ds ++ [d])) e1 es ⟨_, rfl, ra.append (.cons r1 .nil)⟩) .non q.2
  · exact q.elim
def goFor (gd : TDG) (tb : TDS) (E : EndsD) : List D → Gm → Prop
  | [], Γ => E.nx Γ
  | d :: r, Γ => gd d Γ fun Γ2 => tb { E with nx := goFor gd tb E r, ct := goFor gd tb E r, bk := E.nx } Γ2
def rdFor (di : TDF) (gd : TDG) (tb : TDS) : TDS := fun E Γ => di Γ fun L Γ1 => goFor gd tb E L Γ1
theorem ds_for {tg iter : Expr} {body : List Stmt} {wi : TI} {di : TDF} {g : TG} {gd : TDG} {is : List Nat} (hp : PassesOwn (model X.prog X.w) X.A X.env X.xe) (hc : X.calm = true) (hi : DI W X tg iter wi di) (hg : DG W X tg g gd is) (hb : DSs W X body tS dS)
    (hs : ∀ x, foldedSetIterable iter X.env x = pure x := by intro _; rfl) : DS W X (.For tg iter body [] pos) (tFor wi g tS) (rdFor di gd dS) := by
  refine ⟨ps_for hp hc hi.pi hg.pg hb.ps hs, fun Γ σ Hv H E E' Z h l => ?_⟩
  refine hi.ad Γ σ Hv H _ _ Z h fun J L Γ1 Hv1 H1 s1 it q => ?_
  refine ⟨fun i m σ' H' => m = L.length - i ∧ i ≤ L.length ∧ ∃ Γ' Hv', Stp X.K W Γ σ Hv H Γ' σ' Hv' H' ∧ Sub Hv1 Hv' ∧ goFor gd dS E (L.drop i) Γ', ⟨L.length, by simp, Nat.zero_le _, Γ1, Hv1, s1, .refl _, q⟩, ?_⟩
  rintro i m σ2 H2 ⟨rfl, hi2, Γ2, Hv2, s2, sm2, q2⟩
  obtain ⟨st, go⟩ := it Γ2 σ2 Hv2 H2 sm2 s2.ev i
  by_cases hlt : i < L.length
  · have e : L[i]? = some L[i] := List.getElem?_eq_getElem hlt
    obtain ⟨g1, g2⟩ := go _ e
    rw [List.drop_eq_getElem_cons hlt] at q2
    refine .inr ⟨g1, fun σ' H' => ∃ Γ' Hv', Stp X.K W Γ σ Hv H Γ' σ' Hv' H' ∧ Sub Hv1 Hv' ∧ goFor gd dS E (L.drop (i + 1)) Γ', fun σ' H' n => ⟨L.length - (i + 1), by omega, rfl, hlt, n⟩, fun x H3 y => ?_⟩
    obtain ⟨Hv3, s3, r3⟩ := g2 x H3 y
    refine hg.ad Γ2 σ2 Hv3 H3 x _ _ _ s3.ev r3 q2 fun Γ4 σ4 Hv4 H4 s4 _ _ q4 => ?_
    have s24 := s2.trans (s3.trans s4)
    have sm4 : Sub Hv1 Hv4 := sm2.trans (s3.sv.trans s4.sv)
    refine hb.ad Γ4 σ4 Hv4 H4 _ _ s4.ev q4 ⟨fun Γ' σ' Hv' H' s q => ⟨Γ', Hv', s24.trans s, sm4.trans s.sv, q⟩, fun v d Γ' σ' Hv' H' s r q => l.rt _ _ _ _ _ _ (s24.trans s) r q, fun Γ' σ' Hv' H' s q => l.nx _ _ _ _ (s24.trans s) q, fun Γ' σ' Hv' H' s q => ⟨Γ', Hv', s24.trans s, sm4.trans s.sv, q⟩, fun _ _ _ _ _ _ _ t h r n0 n q => l.rf _ _ _ _ _ _ _ (s24.trans t) h r n0 n q⟩
  · have e : i = L.length := by omega
    subst e
    rw [List.drop_length] at q2
    exact .inl ⟨st (Nat.le_refl _), l.nx _ _ _ _ s2 q2⟩
def goW (c : TDT) (tb : TDS) (E : EndsD) : Nat → Gm → Prop
  | 0, _ => False
  | n + 1, Γ => c Γ fun b Γ1 => if b = true then tb { E with nx := goW c tb E n, ct := goW c tb E n, bk := E.nx } Γ1 else E.nx Γ1
def rdWhile (c : TDT) (tb : TDS) : TDS := fun E Γ => ∃ n, goW c tb E n Γ
theorem ds_while {body : List Stmt} (hp : PassesOwn (model X.prog X.w) X.A X.env X.xe) (hc : DT W X c tT dT) (hb : DSs W X body tS dS) : DS W X (.While c body [] pos) (tWhile tT tS) (rdWhile dT dS) := by
  refine ⟨ps_while hp hc.pt hb.ps, fun Γ σ Hv H E E' Z h l => ?_⟩
  obtain ⟨n, h⟩ := h
  refine ⟨fun m σ' H' => ∃ Γ' Hv', Stp X.K W Γ σ Hv H Γ' σ' Hv' H' ∧ goW dT dS E m Γ', ⟨n, Γ, Hv, Z.stp, h⟩, ?_⟩
  rintro m σ1 H1 ⟨Γ1, Hv1, s1, q1⟩
  cases m with
  | zero => exact q1.elim
  | succ m =>
    refine hc.ad Γ1 σ1 Hv1 H1 _ _ s1.ev q1 fun b Γ2 Hv2 H2 s2 q2 => ?_
    have s12 := s1.trans s2
    cases b with
    | true =>
      rw [if_pos rfl] at q2 ⊢
      refine ⟨fun σ' H' => ∃ Γ' Hv', Stp X.K W Γ σ Hv H Γ' σ' Hv' H' ∧ goW dT dS E m Γ', fun σ' H' n => ⟨m, Nat.lt_succ_self m, n⟩, ?_⟩
      exact hb.ad Γ2 σ1 Hv2 H2 _ _ s2.ev q2 ⟨fun Γ' σ' Hv' H' s q => ⟨Γ', Hv', s12.trans s, q⟩, fun v d Γ' σ' Hv' H' s r q => l.rt _ _ _ _ _ _ (s12.trans s) r q, fun Γ' σ' Hv' H' s q => l.nx _ _ _ _ (s12.trans s) q, fun Γ' σ' Hv' H' s q => ⟨Γ', Hv', s12.trans s, q⟩, fun _ _ _ _ _ _ _ t h r n0 n q => l.rf _ _ _ _ _ _ _ (s12.trans t) h r n0 n q⟩
    | false =>
      rw [if_neg Bool.false_ne_true] at q2 ⊢
      exact l.nx _ _ _ _ s12 q2
end
def wipeG (Γ : Gm) : List Nat → Gm
  | [] => Γ
  | v :: vs => (wipeG Γ vs).set v .no
def backG (Γ Γ' : Gm) : List Nat → Gm
  | [] => Γ'
  | v :: vs => (backG Γ Γ' vs).set v ((Γ[v]?).getD .no)
def noOwn (Γ : Gm) (vs : List Nat) : Prop := ∀ v ∈ vs, ∀ s, Γ[v]? = some s → s.isOwn = false
theorem wipeG_len (Γ : Gm) : ∀ vs, (wipeG Γ vs).length = Γ.length
  | [] => rfl
  | v :: vs => by unfold wipeG; rw [List.length_set, wipeG_len Γ vs]
theorem backG_len (Γ Γ' : Gm) : ∀ vs, (backG Γ Γ' vs).length = Γ'.length
  | [] => rfl
  | v :: vs => by unfold backG; rw [List.length_set, backG_len Γ Γ' vs]
theorem wipeG_get (Γ : Gm) : ∀ (vs : List Nat) (i : Nat), (wipeG Γ vs)[i]? = if i ∈ vs ∧ i < Γ.length then some .no else Γ[i]?
  | [], i => by simp [wipeG]
  | v :: vs, i => by
    unfold wipeG
    by_cases hv : v = i
    · subst hv
      by_cases hl : v < Γ.length
      · rw [List.getElem?_set_self (by rw [wipeG_len]; exact hl), if_pos ⟨by simp, hl⟩]
      · rw [List.getElem?_eq_none (by rw [List.length_set, wipeG_len]; omega), if_neg (fun z => hl z.2), List.getElem?_eq_none (by omega)]
    · rw [List.getElem?_set_ne hv, wipeG_get Γ vs i]
      have e : (i ∈ v :: vs ∧ i < Γ.length) ↔ (i ∈ vs ∧ i < Γ.length) := by
        rw [List.mem_cons]
        exact ⟨fun z => ⟨z.1.resolve_left (fun q => hv q.symm), z.2⟩, fun z => ⟨.inr z.1, z.2⟩⟩
      by_cases q : i ∈ vs ∧ i < Γ.length
      · rw [if_pos q, if_pos (e.mpr q)]
      · rw [if_neg q, if_neg (fun z => q (e.mp z))]
theorem wipe_get (σ : L2.St) : ∀ (vs : List Nat) (i : Nat), (wipe σ vs)[i]? = if i ∈ vs ∧ i < σ.length then some none else σ[i]?
  | [], i => by simp [wipe]
  | v :: vs, i => by
    unfold wipe
    by_cases hv : v = i
    · subst hv
      by_cases hl : v < σ.length
      · rw [List.getElem?_set_self (by rw [wipe_length]; exact hl), if_pos ⟨by simp, hl⟩]
      · rw [List.getElem?_eq_none (by rw [List.length_set, wipe_length]; omega), if_neg (fun z => hl z.2), List.getElem?_eq_none (by omega)]
    · rw [List.getElem?_set_ne hv, wipe_get σ vs i]
      have e : (i ∈ v :: vs ∧ i < σ.length) ↔ (i ∈ vs ∧ i < σ.length) := by
        rw [List.mem_cons]
        exact ⟨fun z => ⟨z.1.resolve_left (fun q => hv q.symm), z.2⟩, fun z => ⟨.inr z.1, z.2⟩⟩
      by_cases q : i ∈ vs ∧ i < σ.length
      · rw [if_pos q, if_pos (e.mpr q)]
      · rw [if_neg q, if_neg (fun z => q (e.mp z))]
theorem backG_get (Γ Γ' : Gm) : ∀ (vs : List Nat) (i : Nat), (backG Γ Γ' vs)[i]? = if i ∈ vs ∧ i < Γ'.length then some ((Γ[i]?).getD .no) else Γ'[i]?
  | [], i => by simp [backG]
  | v :: vs, i => by
    unfold backG
    by_cases hv : v = i
    · subst hv
      by_cases hl : v < Γ'.length
      · rw [List.getElem?_set_self (by rw [backG_len]; exact hl), if_pos ⟨by simp, hl⟩]
      · rw [List.getElem?_eq_none (by rw [List.length_set, backG_len]; omega), if_neg (fun z => hl z.2), List.getElem?_eq_none (by omega)]
    · rw [List.getElem?_set_ne hv, backG_get Γ Γ' vs i]
      have e : (i ∈ v :: vs ∧ i < Γ'.length) ↔ (i ∈ vs ∧ i < Γ'.length) := by
        rw [List.mem_cons]
        exact ⟨fun z => ⟨z.1.resolve_left (fun q => hv q.symm), z.2⟩, fun z => ⟨.inr z.1, z.2⟩⟩
      by_cases q : i ∈ vs ∧ i < Γ'.length
      · rw [if_pos q, if_pos (e.mpr q)]
      · rw [if_neg q, if_neg (fun z => q (e.mp z))]
section
variable {K : PySem.W.Frag} {W : Wc} {Γ Γ' : Gm} {σ σ' : L2.St} {Hv H Hv' H' : Hp} {vs : List Nat}
theorem Ev.wipe (E : Ev K W Γ σ Hv H) (vs : List Nat) : Stp K W Γ σ Hv H (wipeG Γ vs) (L2.wipe σ vs) Hv H := by
  have hl := E.len
  have at_ : ∀ {i : Nat} {sl : Sl}, (wipeG Γ vs)[i]? = some sl → sl.isOwn = true → Γ[i]? = some sl ∧ (L2.wipe σ vs)[i]? = σ[i]? := fun {i sl} e o => by
    rw [wipeG_get] at e
    rw [wipe_get]
    by_cases q : i ∈ vs ∧ i < Γ.length
    · rw [if_pos q] at e
      cases e; cases o
    · rw [if_neg q] at e
      exact ⟨e, if_neg fun z => q ⟨z.1, by omega⟩⟩
  refine ⟨.refl _, ⟨E.ret, by rw [wipe_length, wipeG_len, hl], fun i sl e => ?_, fun i j sl sl' a ne e1 e2 o1 o2 q => ?_⟩, fun x F n => ⟨rfl, F.hv, F.h0, fun i s e o => ?_⟩, fun _ n => n⟩
  · rw [wipeG_get] at e
    rw [wipe_get]
    by_cases q : i ∈ vs ∧ i < Γ.length
    · rw [if_pos q] at e
      cases e
      trivial
    · rw [if_neg q] at e
      rw [if_neg fun z => q ⟨z.1, by omega⟩]
      exact E.slots i sl e
  · obtain ⟨f1, g1⟩ := at_ e1 o1
    obtain ⟨f2, g2⟩ := at_ e2 o2
    rw [g1] at q
    rw [g2]
    exact E.apart i j sl sl' a ne f1 f2 o1 o2 q
  · obtain ⟨f1, g1⟩ := at_ e o
    rw [g1]
    exact F.sl i s f1 o
theorem Ev.back (E : Ev K W Γ σ Hv H) (n0 : noOwn Γ vs) {σ2 : L2.St} (s : Stp K W (wipeG Γ vs) (L2.wipe σ vs) Hv H Γ' σ2 Hv' H') (hl : σ2.length = σ.length) (hn : ∀ j, j ∉ vs → σ2[j]? = σ[j]?) :
    Stp K W Γ σ Hv H (backG Γ Γ' vs) σ Hv' H' := by
  have l1 := E.len
  have l2 := s.ev.len
  have at_ : ∀ {i : Nat} {sl : Sl}, (backG Γ Γ' vs)[i]? = some sl → sl.isOwn = true → Γ'[i]? = some sl ∧ σ2[i]? = σ[i]? := fun {i sl} e o => by
    rw [backG_get] at e
    by_cases q : i ∈ vs ∧ i < Γ'.length
    · rw [if_pos q] at e
      cases g : Γ[i]? with
      | none => rw [g] at e; cases e; cases o
      | some sl2 =>
        rw [g] at e
        have z : sl2 = sl := Option.some.inj e
        subst z
        rw [n0 i q.1 _ g] at o; cases o
    · rw [if_neg q] at e
      refine ⟨e, hn i fun z => q ⟨z, (List.getElem?_eq_some_iff.mp e).1⟩⟩
  refine ⟨s.sv, ⟨s.ev.ret, by rw [backG_len]; omega, fun i sl e => ?_, fun i j sl sl' a ne e1 e2 o1 o2 q => ?_⟩, fun x F n => ?_, fun x n => s.st x n⟩
  · rw [backG_get] at e
    by_cases q : i ∈ vs ∧ i < Γ'.length
    · rw [if_pos q] at e
      have hi : i < Γ.length := by omega
      have g : Γ[i]? = some Γ[i] := List.getElem?_eq_getElem hi
      rw [g] at e
      have z : Γ[i] = sl := Option.some.inj e
      have o := n0 i q.1 _ g
      rw [z] at g o
      refine (E.slots i sl g).stay s.sv fun a u ow _ _ _ => ?_
      rw [ow] at o; cases o
    · rw [if_neg q] at e
      have hx := s.ev.slots i sl e
      rw [hn i fun z => q ⟨z, (List.getElem?_eq_some_iff.mp e).1⟩] at hx
      exact hx
  · obtain ⟨f1, g1⟩ := at_ e1 o1
    obtain ⟨f2, g2⟩ := at_ e2 o2
    rw [← g1] at q
    rw [← g2]
    exact s.ev.apart i j sl sl' a ne f1 f2 o1 o2 q
  · have w := (E.wipe vs).fr x F n
    obtain ⟨e1, F1⟩ := s.fr x w.2 n
    refine ⟨e1, F1.hv, F1.h0, fun i sl e o => ?_⟩
    obtain ⟨f1, g1⟩ := at_ e o
    rw [← g1]
    exact F1.sl i sl f1 o
theorem noOwn.back (n0 : noOwn Γ vs) : noOwn (backG Γ Γ' vs) vs := fun v hv s e => by
  rw [backG_get] at e
  by_cases q : v ∈ vs ∧ v < Γ'.length
  · rw [if_pos q] at e
    cases g : Γ[v]? with
    | none => rw [g] at e; cases e; rfl
    | some sl => rw [g] at e; cases e; exact n0 v hv _ g
  · rw [if_neg q] at e
    exact absurd ⟨hv, (List.getElem?_eq_some_iff.mp e).1⟩ q
theorem wipe_same {σ σ2 : L2.St} {vs : List Nat} (hl : σ2.length = σ.length) (hn : ∀ j, j ∉ vs → σ2[j]? = σ[j]?) : L2.wipe σ2 vs = L2.wipe σ vs := by
  apply List.ext_getElem?
  intro i
  rw [wipe_get, wipe_get, hl]
  by_cases q : i ∈ vs ∧ i < σ.length
  · rw [if_pos q, if_pos q]
  · rw [if_neg q, if_neg q]
    by_cases hi : i ∈ vs
    · have : ¬ i < σ.length := fun z => q ⟨hi, z⟩
      rw [List.getElem?_eq_none (by omega), List.getElem?_eq_none (by omega)]
    · exact hn i hi
end
def goLc (gd : TDG) (tt : TDT) (te : TDE) (vs : List Nat) (Q : D → Gm → Prop) : List D → List D → Gm → Prop
  | [], acc, Γ => Q (.lst acc) Γ
  | d :: r, acc, Γ => gd d (wipeG Γ vs) fun Γ2 => tt Γ2 fun b Γ3 => if b = true then te Γ3 fun y Γ4 => acc.length < sizeLine ∧ goLc gd tt te vs Q r (acc ++ [y]) (backG Γ Γ4 vs) else goLc gd tt te vs Q r acc (backG Γ Γ3 vs)
def rdLc (di : TDF) (gd : TDG) (tt : TDT) (te : TDE) (vs : List Nat) : TDE := fun Γ Q => di Γ fun L Γ1 => noOwn Γ1 vs ∧ goLc gd tt te vs Q L [] Γ1
section
variable {W : Wc} {X : Cx}
theorem dts_nil : DTs W X [] tYes (fun Γ Q => Q true Γ) := ⟨pts_nil, fun Γ σ Hv H Q Q' E h k => k true Γ Hv H E.stp h⟩
theorem dts_one {c : Expr} {t : TT} {d : TDT} (h : DT W X c t d) : DTs W X [c] t d := ⟨pts_one h.pt, h.ad⟩
theorem ad_lc {K : PySem.W.Frag} {tg iter : Expr} {wi : TI} {di : TDF} {g : TG} {gd : TDG} {tt : TT} {td : TDT} {te : TE} {de : TDE} {is vs : List Nat}
    (hi : ∀ Γ σ Hv H (Q : List D → Gm → Prop) (R : It → Hp → Prop), Ev K W Γ σ Hv H → di Γ Q → (∀ J L Γ' Hv' H', Stp K W Γ σ Hv H Γ' σ Hv' H' → ItD K W J L Hv' → Q L Γ' → R J H') → wi σ H R)
    (hg : ∀ Γ σ Hv H v d (Q : Gm → Prop) (Q' : L2.St → Hp → Prop), Ev K W Γ σ Hv H → Rp K Hv v d → gd d Γ Q → (∀ Γ' σ' Hv' H', Stp K W Γ σ Hv H Γ' σ' Hv' H' → σ'.length = σ.length → (∀ j, j ∉ is → σ'[j]? = σ[j]?) → Q Γ' → Q' σ' H') → g v σ H Q')
    (ht : AdT K W tt td) (he : Ad K W te de) (hv : ∀ j ∈ is, j ∈ vs) : AdF K W (tLc wi g tt te vs) (rdLc di gd td de vs) := by
  intro Γ σ Hv H Q Q' E h k
  refine hi Γ σ Hv H _ _ E h fun J L Γ1 Hv1 H1 s1 it q => ?_
  obtain ⟨n1, q⟩ := q
  intro A hA
  obtain ⟨s2, F2⟩ := s1.alloc0 (.lst []) hA
  refine ⟨fun i m H' => m = L.length - i ∧ i ≤ L.length ∧ ∃ Γ' Hv' av acc, Stp K W Γ σ Hv H Γ' σ Hv' H' ∧ Sub Hv1 Hv' ∧ noOwn Γ' vs ∧ H' A = some (.lst av) ∧ RpAll K Hv' av acc ∧ Fresh W Γ' σ Hv' A ∧ goLc gd td de vs Q (L.drop i) acc Γ',
    ⟨L.length, by simp, Nat.zero_le _, Γ1, Hv1, [], [], s2, .refl _, n1, upd_same, .nil, F2, q⟩, ?_⟩
  rintro i m H2 ⟨rfl, hi2, Γ2, Hv2, av, acc, s2, sm2, n2, hA2, ra2, F2, q2⟩
  obtain ⟨st, go⟩ := it Γ2 σ Hv2 H2 sm2 s2.ev i
  by_cases hlt : i < L.length
  · have e : L[i]? = some L[i] := List.getElem?_eq_getElem hlt
    obtain ⟨g1, g2⟩ := go _ e
    rw [List.drop_eq_getElem_cons hlt] at q2
    refine .inr ⟨g1, fun H' => ∃ Γ' Hv' av acc, Stp K W Γ σ Hv H Γ' σ Hv' H' ∧ Sub Hv1 Hv' ∧ noOwn Γ' vs ∧ H' A = some (.lst av) ∧ RpAll K Hv' av acc ∧ Fresh W Γ' σ Hv' A ∧ goLc gd td de vs Q (L.drop (i + 1)) acc Γ', fun H' n => ⟨L.length - (i + 1), by omega, rfl, hlt, n⟩, fun x H3 y => ?_⟩
    obtain ⟨Hv3, s3, r3⟩ := g2 x H3 y
    have w3 := s3.ev.wipe vs
    refine hg (wipeG Γ2 vs) (L2.wipe σ vs) Hv3 H3 x _ _ _ w3.ev r3 q2 fun Γ4 σ4 Hv4 H4 s4 l4 n4 q4 => ?_
    have l4' : σ4.length = σ.length := by rw [l4, wipe_length]
    have n4' : ∀ j, j ∉ vs → σ4[j]? = σ[j]? := fun j hj => by
      rw [n4 j fun z => hj (hv j z), wipe_get, if_neg fun z => hj z.1]
    refine ⟨wipe_same l4' n4', ?_⟩
    refine ht Γ4 σ4 Hv4 H4 _ _ s4.ev q4 fun b Γ5 Hv5 H5 s5 q5 => ?_
    have A0 : H A = none := by
      cases z : H A with
      | none => rfl
      | some u => exact absurd (s1.st A (by rw [z]; simp)) (by rw [hA]; simp)
    cases b with
    | false =>
      rw [if_neg Bool.false_ne_true] at q5 ⊢
      have sb := s3.ev.back n2 (s4.trans s5) l4' n4'
      have sAll := s2.trans (s3.trans sb)
      obtain ⟨e5, F5⟩ := (s3.trans sb).fr A F2 (by rw [hA2]; simp)
      exact ⟨_, Hv5, av, acc, sAll, sm2.trans (s3.trans sb).sv, n2.back, e5.trans hA2, RpAll.mono (s3.trans sb).sv _ _ ra2, F5, q5⟩
    | true =>
      rw [if_pos rfl] at q5 ⊢
      refine he Γ5 σ4 Hv5 H5 _ _ s5.ev q5 fun y d Γ6 Hv6 H6 s6 r6 q6 => ?_
      have sb := s3.ev.back n2 (s4.trans (s5.trans s6)) l4' n4'
      have sAll := s2.trans (s3.trans sb)
      obtain ⟨e6, F6⟩ := (s3.trans sb).fr A F2 (by rw [hA2]; simp)
      refine ⟨av, e6.trans hA2, by rw [ra2.length]; exact q6.1, _, Hv6, av ++ [y], acc ++ [d], sAll.turn _ F6 ⟨_, e6.trans hA2, fun _ z => by cases z⟩ A0, sm2.trans (s3.trans sb).sv, n2.back, upd_same, (RpAll.mono (s3.trans sb).sv _ _ ra2).append (.cons r6 .nil), F6, q6.2⟩
  · have e : i = L.length := by omega
    subst e
    rw [List.drop_length] at q2
    exact .inl ⟨st (Nat.le_refl _), k A (.lst av) (.lst acc) Γ2 Hv2 H2 s2 (s1.was hA) hA2 ⟨av, rfl, ra2⟩ F2 q2⟩
theorem d_lc {elt tg iter : Expr} {ifs : List Expr} {scope : Scope} {own : List (Str × Nat)} {pos : Pos} {wi : TI} {di : TDF} {g : TG} {gd : TDG} {tt : TT} {td : TDT} {te : TE} {de : TDE} {is : List Nat} (hc : X.calm = true) (hN : X.N.Nodup) (hi : DI W X tg iter wi di) (ok : BlkOk X.N X.env.scope scope own)
    (hg : ∀ (s : Shared) (H : Hp) (C : Addr) (cl : List (Str × Addr)) (fp : List Addr), DG W (X.blk s H scope (compEnvC scope cl C X.env) fp) tg g gd is) (ht : ∀ (s : Shared) (H : Hp) (C : Addr) (cl : List (Str × Addr)) (fp : List Addr), DTs W (X.blk s H scope (compEnvC scope cl C X.env) fp) ifs tt td)
    (he : ∀ (s : Shared) (H : Hp) (C : Addr) (cl : List (Str × Addr)) (fp : List Addr), DE W (X.blk s H scope (compEnvC scope cl C X.env) fp) elt te de) (hv : ∀ j ∈ is, j ∈ own.map (·.2)) (hs : ∀ x, foldedSetIterable iter X.env x = pure x := by intro _; rfl) :
    DF W X (.ListComp elt [⟨tg, iter, ifs, 0⟩] scope pos) (tLc wi g tt te (own.map (·.2))) (rdLc di gd td de (own.map (·.2))) :=
  ⟨pe_lc hc hN hi.pi ok (fun s H C cl fp => (hg s H C cl fp).pg) (fun s H C cl fp => (ht s H C cl fp).pt) (fun s H C cl fp => (he s H C cl fp).pe) hs,
    ad_lc (tg := tg) (iter := iter) hi.ad (hg X.s_0 (fun _ => none) 0 [] []).ad (ht X.s_0 (fun _ => none) 0 [] []).ad (he X.s_0 (fun _ => none) 0 [] []).ad hv⟩
def startG (N : List Str) (ds : List D) : Gm := ds.map .dat ++ List.replicate (N.length - ds.length) .no
theorem start_slots {K : PySem.W.Frag} {W : Wc} {Hv H : Hp} {N : List Str} {vs : List V} {ds : List D} (r : RpAll K Hv vs ds) (R : Ret W.J.vol W.J.inv W.Hv0 W.H0 Hv H) : Ev K W (startG N ds) (L2.start N vs) Hv H := by
  have hl := r.length
  have key : ∀ (i : Nat) (sl : Sl), (startG N ds)[i]? = some sl → sl = .no ∨ ∃ d v, sl = .dat d ∧ (L2.start N vs)[i]? = some (some v) ∧ Rp K Hv v d := fun i sl e => by
    unfold startG at e
    by_cases hi : i < ds.length
    · rw [List.getElem?_append_left (by rw [List.length_map]; exact hi), List.getElem?_map, List.getElem?_eq_getElem hi] at e
      obtain ⟨v, ev, rv⟩ := r.get (List.getElem?_eq_getElem hi)
      refine .inr ⟨_, v, (Option.some.inj e).symm, ?_, rv⟩
      unfold L2.start
      rw [List.getElem?_append_left (by rw [List.length_map]; omega), List.getElem?_map, ev]
      rfl
    · rw [List.getElem?_append_right (by rw [List.length_map]; omega)] at e
      obtain ⟨_, e2⟩ := List.getElem?_eq_some_iff.mp e
      rw [List.getElem_replicate] at e2
      exact .inl e2.symm
  refine ⟨R, ?_, fun i sl e => ?_, fun i j sl sl' a ne e1 e2 o1 o2 q => ?_⟩
  · unfold L2.start startG
    rw [List.length_append, List.length_append, List.length_map, List.length_map, List.length_replicate, List.length_replicate, hl]
  · rcases key i sl e with rfl | ⟨d, v, rfl, ev, rv⟩
    · trivial
    · rw [ev]; exact ⟨v, rfl, rv⟩
  · rcases key i sl e1 with rfl | ⟨d, v, rfl, _⟩ <;> cases o1
variable {P : Program} {w : World} {K : PySem.W.Frag} {mg : Str → Option Value} {base : Heap}
/-- THE RULE for a def -/
theorem fn_d {x qual : Str} {st : Stmt} {f : Addr} {fd : FuncData} {N ps : List Str} {k : Nat} (J : Vol) {Fd : FD} (F : Fun K x qual st f fd) (S : FnScope N ps (defScope st)) (len : ∀ ds Q, Fd ds Q → ds.length = ps.length)
    (hbody : ∀ (cdv : Value) (A : Around) (outer : List Env) (s : Shared) (H : Hp) (E : XK) (W : Wc), W.J = J → Room k (A.deeper (envOfC qual (defScope st) s.heap.objs.size f cdv)) →
      ∃ t td, DSs W (cxOf CX0 P w K mg base N qual (defScope st) f cdv A outer s H E).nox (defBody st) t td ∧ ∀ ds Q, Fd ds Q → td { nx := fun _ => Q .non, rt := Q } (startG N ds)) :
    FnOk P w K mg base CX0 (k + 1) f fd ps (spD J K Fd) := by
  refine F.ok S (fun vs H Q E h => ?_) (fun cdv A outer s H vs Q E hr h => ?_)
  · obtain ⟨Hv, ds, Qd, _, _, _, r, hf, _⟩ := h
    rw [r.length, len _ _ hf]
  · obtain ⟨Hv, ds, Qd, sub, inv, nv, r, hf, out⟩ := h
    let W : Wc := ⟨J, H, Hv, inv, sub, nv⟩
    obtain ⟨t, td, hb, hq⟩ := hbody cdv A outer s H E W rfl hr
    refine ⟨t, hb.ps, ?_⟩
    have Z : Ev K W (startG N ds) (L2.start N vs) Hv H := start_slots r ⟨.refl _, sub, fun _ _ e _ _ => e, inv, nv, fun _ z _ => z, NT.refl _⟩
    refine hb.ad _ _ Hv H _ _ Z (hq ds Qd hf) ⟨fun Γ' σ' Hv' H' s q => ?_, fun v d Γ' σ' Hv' H' s rv q => ?_, fun _ _ _ _ _ q => q.elim, fun _ _ _ _ _ q => q.elim, fun _ _ _ _ _ _ _ _ _ _ _ _ q => q.elim⟩
    · exact out .non .non Hv' H' s.ev.ret .non q
    · exact out v d Hv' H' s.ev.ret rv q
end
end VL
set_option Elab.async false
set_option linter.all false
set_option maxRecDepth 100000
set_option maxHeartbeats 4000000
namespace VL
open PySem PySem.Spec L2
open PyProof.Rows hiding St
/-- a def's promise where no guard is up -/
structure FnG (P : Program) (w : World) (K : PySem.W.Frag) (mg : Str → Option Value) (base : Heap) (CX : CXT) (k : Nat) (f : Addr) (fd : FuncData)
    (ps : List Str) (sp : Sp) : Prop where
  len : ∀ vs H Q E, sp vs H Q E → vs.length = ps.length
  go : ∀ (A : Around) (outer : List Env) (s : Shared) (H : Hp) (args : Args) (us : List Value) (vs : List V) (Q : VK) (E : XK), A.guards = some [] →
    Room k A → Env0 P w K mg base A outer s H → BindsTo s fd args (ps.zip us) → Vals vs us →
    sp vs H Q E → codeAny (model P w) A (.call (.ref f) args) (CR CX outer P w H s Q E) s
theorem FnG.of {P : Program} {w : World} {K : PySem.W.Frag} {mg : Str → Option Value} {base : Heap} {CX : CXT} {k : Nat} {f : Addr} {fd : FuncData} {ps : List Str} {sp : Sp}
    (F : FnOk P w K mg base CX k f fd ps sp) : FnG P w K mg base CX k f fd ps sp :=
  ⟨F.len, fun A o s H a us vs Q E _ => F.run A o s H a us vs Q E⟩
section
variable {X : Cx} {CX : CXT} {k : Nat} {f : Addr} {fd : FuncData} {ps ks : List Str} {sp : Sp} {dvs : List V} {ds : List Value} {E : XK} {x : Str} {p pos : Pos} {e : Expr} {es : List Expr} {ta : TE} {t : TA}
/-- what comes of a callee -/
theorem call_back {pins : List (Addr × Obj)} {σ : L2.St} {H : Hp} {s s' : Shared} {Q : VK} {r : Result} (hx : Passes CX X E)
    (I : Inv X pins σ H s) (h : CR CX X.stack X.prog X.w H s Q E r s') :
    match r with
    | .ok (.ret u) => EP X pins σ Q u s'
    | .ok _ => False
    | .error e => X.xe e s' := by
  cases r with
  | ok fl =>
    cases fl with
    | ret u => exact I.after h
    | next => exact h
    | brk => exact h
    | cont => exact h
  | error e => exact hx pins σ H s e s' I h
theorem run_g {pins : List (Addr × Obj)} {σ : L2.St} {H : Hp} {s : Shared} {Q : VK} {us : List Value} {vs : List V} (F : FnG X.prog X.w X.K X.mg X.base CX k f fd ps sp) (hgd : X.A.guards = some [])
    (hr : Room k X.A) (hb : Binds X.K fd ps ds) (hd : Vals dvs ds) (hx : Passes CX X E) (I : Inv X pins σ H s) (r : Vals vs us)
    (h : sp (vs ++ dvs) H Q E) :
    wpAny (model X.prog X.w) X.A (call (.ref f) us) (EP X pins σ Q) X.xe s := by
  have ra : Vals (vs ++ dvs) (us ++ ds) := r.append hd
  have la := (ra.length).symm.trans (F.len _ _ _ _ h)
  have go := F.go X.A X.stack s H ⟨us, []⟩ (us ++ ds) (vs ++ dvs) Q E hgd hr I.env0 (hb s us I.kIn la) ra h
  refine wpAny_call (codeAny_mono go fun res s' q => ?_)
  have cb := call_back hx I q
  cases res with
  | ok fl => cases fl <;> first | exact cb | exact cb.elim
  | error e => exact cb
/-- f(e, ..) -/
theorem pe_callG (F : FnG X.prog X.w X.K X.mg X.base CX k f fd ps sp) (hgd : X.A.guards = some []) (hr : Room k X.A) (hg : Gl X x) (hm : X.mg x = some (.ref f))
    (hk : PySem.W.keepIn X.K (.ref f) = true) (hb : Binds X.K fd ps ds) (hd : Vals dvs ds) (hx : Passes CX X E) (ha : PA X (e :: es) t) (hdb : (x == ("__debug__" : Str)) = false := by decide)
    (he : starEach (e :: es) X.env = (false, eval e X.env) :: starEach es X.env := by rfl) (hpl : (backTo pos (starEach es X.env)).any (·.1) = false := by rfl) :
    PE X (.Call (.Name x p) (e :: es) [] pos) (tCall sp dvs E t) := by
  constructor
  intro pins s σ H Q I h
  refine wpAny_Call_Name_kw (ld_glob I hg hm (PySem.W.callWith_K (h₀ := X.base) I.ok.mod.kin hk ?_ he hpl) hdb)
  refine thn (ha.run pos pins s σ H _ I h) ?_
  rintro us s1 ⟨vs, H1, I1, r, q⟩
  exact ⟨I1.kIn, run_g F hgd hr hb hd hx I1 r q⟩
/-- f(k = v, ..), keywords alone (a def without guards) -/
def tCallKw (n : Nat) (sp : Sp) (gV : List V → List V → List V) (E : XK) (tk : TA) : TE := fun σ H Q => tk σ H fun zs H2 => zs.length = n ∧ sp (gV [] zs) H2 Q E
theorem pe_callKw {g : List Value → List Value → List Value} {gV : List V → List V → List V} {kws : List Keyword} {tk : TA} (F : FnOk X.prog X.w X.K X.mg X.base CX k f fd ps sp) (hr : Room k X.A) (hg : Gl X x) (hm : X.mg x = some (.ref f))
    (hk : PySem.W.keepIn X.K (.ref f) = true) (hb : KBn X.K fd ps 0 ks g gV) (hx : Passes CX X E) (hkw : PK X kws tk) (hall : (backToKw pos (keywordEach kws X.env)).all (·.1.isSome) = true := by rfl)
    (hks : (backToKw pos (keywordEach kws X.env)).filterMap (·.1) = ks := by rfl) (hdb : (x == ("__debug__" : Str)) = false := by decide)
    (hpl : ((backTo pos (starEach [] X.env)).any (·.1) || (backToKw pos (keywordEach kws X.env)).any (·.1.isNone)) = false := by rfl) :
    PE X (.Call (.Name x p) [] kws pos) (tCallKw ks.length sp gV E tk) := by
  constructor
  intro pins s σ H Q I h
  refine wpAny_Call_Name_kw (ld_glob I hg hm (PySem.W.callWith_KW0 (h₀ := X.base) I.ok.mod.kin hk hall ?_ hpl) hdb)
  refine thn (hkw.run pos pins s σ H _ I h) ?_
  rintro ws s2 ⟨zs, H2, I2, rz, l2, q2⟩
  refine ⟨I2.kIn, ?_⟩
  rw [hks]
  exact run_fnN F hr hb hx I2 (us := []) (vs := []) .nil rz rfl l2 q2
end
/-- the rule for a def, where no guard is up -/
theorem fn_ofG {CX : CXT} {P : Program} {w : World} {K : PySem.W.Frag} {mg : Str → Option Value} {base : Heap} {k : Nat} {f : Addr} {name qual : Str} {params : Arguments} {body : List Stmt} {scope : Scope}
    {dV kV doc pm cdv ct oc : Value} {an od : Option Addr} {osl : Array (Option Value)} {N ps : List Str} {sp : Sp}
    (lk : K.lookup f = some ⟨oc, od, .func (PySem.W.fnOf name qual params body scope dV kV doc pm an cdv ct), osl⟩)
    (hcd : PySem.W.codeIn K cdv qual = true) (S : FnScope N ps scope) (len : ∀ vs H Q E, sp vs H Q E → vs.length = ps.length)
    (hbody : ∀ (A : Around) (outer : List Env) (s : Shared) (H : Hp) (vs : List V) (Q : VK) (E : XK), A.guards = some [] →
      Room k (A.deeper (envOfC qual scope s.heap.objs.size f cdv)) → sp vs H Q E →
      ∃ t, PSs (cxOf CX P w K mg base N qual scope f cdv A outer s H E) body t ∧ t { nx := fun _ H' => Q .non H', rt := Q } (L2.start N vs) H) :
    FnG P w K mg base CX (k + 1) f (PySem.W.fnOf name qual params body scope dV kV doc pm an cdv ct) ps sp := by
  refine ⟨len, ?_⟩
  intro A outer s H args us vs Q E hgd hr e0 hb r hsp
  have ln := len _ _ _ _ hsp
  have kin : K.In s.heap := e0.mod.kin.keeps (fun b o e => (e0.bs b o e).1)
  have nol : s.heap.NoLimit := e0.mod.nolimit.keeps (fun b o e => (e0.bs b o e).1)
  obtain ⟨t, ht, hq⟩ := hbody A outer s H vs Q E hgd (hr.deeper _) hsp
  refine codeAny_call_function hr.depth (kin _ _ lk) rfl S.co S.gen rfl (PySem.W.codeRec_of kin hcd) (hb _ _ _ _ ?_)
  refine wpAny_newFunctionEnv_cells S.kind ?_ ?_
  · rintro ⟨n, v⟩ hy
    rcases S.par n (List.of_mem_zip hy).1 with q | q
    · exact .inl q
    · exact .inr ⟨q, PySem.W.cellsFrom_some _ _ _ (.inl q)⟩
  · intro env he s1 x
    subst he
    refine ⟨nol.keeps x.toInCall.keep, codeAny_func ?_⟩
    have I : Inv (cxOf CX P w K mg base N qual scope f cdv A outer s H E) [] (L2.start N vs) H s1 := inv_start S hr.hd e0 ln r x
    refine wpAny_mono (ht.run [] s1 (L2.start N vs) H _ I hq) ?_ (fun e s' hs => hs)
    intro fl s' hs
    cases fl with
    | next =>
      obtain ⟨_, H', J, q⟩ := hs
      exact ⟨V.non, H', J.os, J.bare, J.base, J.hok, rfl, q⟩
    | ret u =>
      obtain ⟨v, _, H', J, rv, q⟩ := hs
      exact ⟨v, H', J.os, J.bare, J.base, J.hok, rv, q⟩
    | brk =>
      obtain ⟨_, _, _, q⟩ := hs
      exact q.elim
    | cont =>
      obtain ⟨_, _, _, q⟩ := hs
      exact q.elim
section
variable {W : Wc} {X : Cx} {e : Expr} {es : List Expr} {t : TA} {dt : TDF} {p pos : Pos} {x : Str} {CX : CXT} {k : Nat} {f : Addr} {fd : FuncData} {ps : List Str} {F : FD} {dvs : List V} {dds : List D} {ds : List Value} {E : XK}
theorem d_callGP (G : FnG X.prog X.w X.K X.mg X.base CX k f fd ps (spD Vol.no X.K F)) (hgd : X.A.guards = some []) (hr : Room k X.A) (hg : Gl X x) (hm : X.mg x = some (.ref f)) (hk : PySem.W.keepIn X.K (.ref f) = true)
    (hb : Binds X.K fd ps ds) (hd : Vals dvs ds) (hdd : ∀ H, RpAll X.K H dvs dds) (hx : Passes CX X E) (ha : DA W X (e :: es) t dt) (hdb : (x == ("__debug__" : Str)) = false := by decide)
    (he : starEach (e :: es) X.env = (false, eval e X.env) :: starEach es X.env := by rfl) (hpl : (backTo pos (starEach es X.env)).any (·.1) = false := by rfl) :
    DE W X (.Call (.Name x p) (e :: es) [] pos) (tCall (spD Vol.no X.K F) dvs E t) (rdCall F dds dt) :=
  ⟨pe_callG G hgd hr hg hm hk hb hd hx ha.pa hdb he hpl, ad_callP hdd ha.ad⟩
/-- keywords -/
structure DK (W : Wc) (X : Cx) (kws : List Keyword) (ta : TA) (td : TDF) : Prop where
  pk : PK X kws ta
  ad : AdA X.K W ta td
theorem dk_nil : DK W X [] tNil rdNil := ⟨pk_nil, fun Γ σ Hv H Q Q' E h k => k [] [] Γ Hv H E.stp .nil h⟩
theorem dk_cons {kws : List Keyword} {te : TE} {de : TDE} {nm : Option Str} {kpos : Pos} (ha : DE W X e te de) (hr : DK W X kws t dt) : DK W X (⟨nm, e, kpos⟩ :: kws) (tCons te t) (rdCons de dt) := by
  refine ⟨pk_cons ha.pe hr.pk, fun Γ σ Hv H Q Q' E h k => ?_⟩
  refine ha.ad Γ σ Hv H _ _ E h fun x d Γ1 Hv1 H1 s1 r1 q => ?_
  exact hr.ad Γ1 σ Hv1 H1 _ _ s1.ev q fun vs ds Γ2 Hv2 H2 s2 r2 q2 => k _ _ Γ2 Hv2 H2 (s1.trans s2) (.cons (Rp.mono s2.sv _ _ r1) r2) q2
def rdCallKw (n : Nat) (F : FD) (dt : TDF) : TDE := fun Γ Q => dt Γ fun ds Γ1 => ds.length = n ∧ F ds fun d => Q d Γ1
/-- f(k = v, ..), f pure, the keywords in the parameters' order -/
theorem d_callKwP {ks : List Str} {g : List Value → List Value → List Value} {kws : List Keyword} (G : FnOk X.prog X.w X.K X.mg X.base CX k f fd ps (spD Vol.no X.K F)) (hr : Room k X.A) (hg : Gl X x) (hm : X.mg x = some (.ref f))
    (hk : PySem.W.keepIn X.K (.ref f) = true) (hb : KBn X.K fd ps 0 ks g (fun _ zs => zs)) (hx : Passes CX X E) (hkw : DK W X kws t dt) (hall : (backToKw pos (keywordEach kws X.env)).all (·.1.isSome) = true := by rfl)
    (hks : (backToKw pos (keywordEach kws X.env)).filterMap (·.1) = ks := by rfl) (hdb : (x == ("__debug__" : Str)) = false := by decide)
    (hpl : ((backTo pos (starEach [] X.env)).any (·.1) || (backToKw pos (keywordEach kws X.env)).any (·.1.isNone)) = false := by rfl) :
    DE W X (.Call (.Name x p) [] kws pos) (tCallKw ks.length (spD Vol.no X.K F) (fun _ zs => zs) E t) (rdCallKw ks.length F dt) := by
  refine ⟨pe_callKw G hr hg hm hk hb hx hkw.pk hall hks hdb hpl, fun Γ σ Hv H Q Q' Z h k => ?_⟩
  refine hkw.ad Γ σ Hv H _ _ Z h fun vs ds Γ1 Hv1 H1 s1 r1 q => ⟨by rw [r1.length]; exact q.1, ?_⟩
  exact ⟨Hv1, ds, _, s1.ev.ret.sub, True.intro, fun _ z => z.elim, r1, q.2, fun v d Hv2 H2 R r2 q2 => k v d Γ1 Hv2 H2 (s1.after (s1.ev.pure R)) r2 q2⟩
variable {P : Program} {w : World} {K : PySem.W.Frag} {mg : Str → Option Value} {base : Heap}
theorem fn_dG {x qual : Str} {st : Stmt} {f : Addr} {fd : FuncData} {N ps : List Str} {k : Nat} (J : Vol) {Fd : FD} (F : Fun K x qual st f fd) (S : FnScope N ps (defScope st)) (len : ∀ ds Q, Fd ds Q → ds.length = ps.length)
    (hbody : ∀ (cdv : Value) (A : Around) (outer : List Env) (s : Shared) (H : Hp) (E : XK) (W : Wc), W.J = J → A.guards = some [] → Room k (A.deeper (envOfC qual (defScope st) s.heap.objs.size f cdv)) →
      ∃ t td, DSs W (cxOf CX0 P w K mg base N qual (defScope st) f cdv A outer s H E).nox (defBody st) t td ∧ ∀ ds Q, Fd ds Q → td { nx := fun _ => Q .non, rt := Q } (startG N ds)) :
    FnG P w K mg base CX0 (k + 1) f fd ps (spD J K Fd) := by
  obtain ⟨oc, od, kV, doc, pm, an, cdv, ct, osl, rfl, lk, hcd⟩ := F.ex
  refine fn_ofG lk hcd S (fun vs H Q E h => ?_) fun A outer s H vs Q E hgd hr h => ?_
  · obtain ⟨Hv, ds, Qd, _, _, _, r, hf, _⟩ := h
    rw [r.length, len _ _ hf]
  · obtain ⟨Hv, ds, Qd, sub, inv, nv, r, hf, out⟩ := h
    let W : Wc := ⟨J, H, Hv, inv, sub, nv⟩
    obtain ⟨t, td, hb, hq⟩ := hbody cdv A outer s H E W rfl hgd hr
    refine ⟨t, hb.ps.nox, ?_⟩
    have Z : Ev K W (startG N ds) (L2.start N vs) Hv H := start_slots r ⟨.refl _, sub, fun _ _ e _ _ => e, inv, nv, fun _ z _ => z, NT.refl _⟩
    refine hb.ad _ _ Hv H _ _ Z (hq ds Qd hf) ⟨fun Γ' σ' Hv' H' s q => ?_, fun v d Γ' σ' Hv' H' s rv q => ?_, fun _ _ _ _ _ q => q.elim, fun _ _ _ _ _ q => q.elim, fun _ _ _ _ _ _ _ _ _ _ _ _ q => q.elim⟩
    · exact out .non .non Hv' H' s.ev.ret .non q
    · exact out v d Hv' H' s.ev.ret rv q
end
theorem law_goes {P : Program} {w : World} {K : PySem.W.Frag} {mg mb : Str → Option Value} {k : Nat} {fa a : Addr} {fd : FuncData} {x : Str} {sp : Sp} {s₁ : Shared} {vs : List Value} {ns : List Int}
    (kin : K.In s₁.heap) (hns : s₁.heap.Ns mainGlobals mg) (hb : s₁.heap.Ns builtinsNs mb) (hbb : ∀ x : Str, x ≠ "__name__" → mb x = bootBuiltins x)
    (hlim : s₁.heap.NoLimit) (hg : s₁.gens = #[]) (ha : s₁.heap.get? a = some { cls := .type "list", data := .seq vs.toArray }) (hi : IntsAre vs ns)
    (hl : ns.length ≤ sizeLine) (hr : Room k callerA)
    (F : ∀ base : Heap, K.In base → base.Ns mainGlobals mg → FnG P w K mg base CX0 k fa fd [x] sp)
    (hbind : ∀ (s : Shared) (u : Value), BindsTo s fd ⟨[u], []⟩ [(x, u)])
    (hsp : ∀ H : Hp, Only H → SqL K H a (ns.map V.int) → sp [.ref a] H (fun v _ => v = .bl true) fun _ _ _ => False) :
    codeAny (model P w) callerA (.call (.ref fa) ⟨[.ref a], []⟩)
      (fun r s' => r = .ok (.ret (.bool true)) ∧ OldK s₁.heap s'.heap ∧ s'.os = s₁.os ∧ AllBare s'.gens) s₁ := by
  have rv : Vals (ns.map V.int) vs := vals_ints hi
  have lv := hi.length
  -- over an abstract heap that tracks at most the script
  have main : ∀ H : Hp, Only H → SqL K H a (ns.map V.int) → HOk P w H s₁.heap → (∀ b u, H b = some u → b = a ∧ K.lookup a = none) →
      codeAny (model P w) callerA (.call (.ref fa) ⟨[.ref a], []⟩)
        (fun r s' => r = .ok (.ret (.bool true)) ∧ OldK s₁.heap s'.heap ∧ s'.os = s₁.os ∧ AllBare s'.gens) s₁ := by
    intro H only sq hok just
    have free : ∀ {b : Addr}, (b ≠ a ∨ K.lookup a ≠ none) → H b = none := by
      intro b hn
      cases q : H b with
      | none => rfl
      | some u =>
        obtain ⟨e1, e2⟩ := just b u q
        rcases hn with n | n
        · exact absurd e1 n
        · exact absurd e2 n
    have nsOf : ∀ {b : Addr} {m : Str → Option Value}, s₁.heap.Ns b m → (hidT s₁.heap H).Ns b m := by
      rintro b m ⟨o, es, ep, e, d, rest⟩
      refine ⟨o, es, ep, hidT_get e (free (.inl ?_)), d, rest⟩
      rintro rfl
      rw [ha] at e
      cases e
      cases (show Data.seq vs.toArray _ = Data.dict es ep from d)
    have kinB : K.In (hidT s₁.heap H) := by
      intro b o e
      refine hidT_get (kin b o e) ?_
      by_cases hab : b = a
      · subst hab
        exact free (.inr (by rw [e]; simp))
      · exact free (.inl hab)
    obtain ⟨mc, hc1, hc2⟩ := hlim
    have M : Mod K mg (hidT s₁.heap H) := ⟨kinB, nsOf hns, ⟨mb, nsOf hb, hbb⟩, ⟨mc, nsOf hc1, hc2⟩⟩
    have Z : Env0 P w K mg (hidT s₁.heap H) callerA [] s₁ H :=
      ⟨rfl, M, fun b o e => of_hidT e, Nat.le_of_eq (hidT_size _ _), trivial, fun b hb => (List.not_mem_nil hb).elim, hok, .of_eq hg⟩
    have run := (F _ kinB (nsOf hns)).go callerA [] s₁ H ⟨[.ref a], []⟩ [.ref a] [.ref a] _ _ rfl hr Z (hbind s₁ (.ref a)) (.cons rfl .nil) (hsp H only sq)
    refine codeAny_mono run ?_
    intro r s' q
    match r, q with
    | .error e, q => exact q.elim
    | .ok .next, q => exact q.elim
    | .ok .brk, q => exact q.elim
    | .ok .cont, q => exact q.elim
    | .ok (.ret u), q =>
      obtain ⟨v, H', os, bare, un, hok', ru, ev⟩ := q
      obtain rfl : v = .bl true := ev
      obtain rfl : u = Value.bool true := ru
      refine ⟨rfl, OldK.of_keep ?_, os, bare⟩
      intro b o e
      rcases only b with z | ⟨ob, xs, z⟩
      · exact un.keep b o e z (fun m => (List.not_mem_nil m).elim) List.not_mem_nil
      · obtain ⟨e1, _⟩ := hok b _ z
        obtain ⟨e2, _⟩ := hok' b _ (un.frzs b ob _ z)
        rw [e] at e1
        cases e1
        exact e2
  by_cases hk : ∃ o, K.lookup a = some o
  · obtain ⟨o, hk⟩ := hk
    have e := kin a o hk
    rw [ha] at e
    cases e
    refine main (fun _ => none) (fun _ => .inl rfl) (.inr ⟨_, vs.toArray, _, hk, rfl, rfl, rfl, ?_, ?_⟩) ?_ ?_
    · rw [List.size_toArray, lv]; exact hl
    · simpa using rv
    · intro b u z; cases z
    · intro b u z; cases z
  · have hk' : K.lookup a = none := by
      cases q : K.lookup a with
      | none => rfl
      | some o => exact absurd ⟨o, q⟩ hk
    let S : HO := .frz { cls := .type "list", data := .seq vs.toArray } (.lst (ns.map V.int))
    refine main (fun b => if b = a then some S else none) ?_ (.inl (.inr ⟨{ cls := .type "list", data := .seq vs.toArray }, if_pos rfl⟩)) ?_ ?_
    · intro b
      by_cases hb : b = a
      · exact .inr ⟨_, _, if_pos hb⟩
      · exact .inl (if_neg hb)
    · intro b u z
      have z : (if b = a then some S else none) = some u := z
      by_cases hb : b = a
      · subst hb
        rw [if_pos rfl] at z
        cases z
        exact ⟨ha, by rw [List.length_map]; exact hl, vs, _, rv, ha⟩
      · rw [if_neg hb] at z
        cases z
    · intro b u z
      have z : (if b = a then some S else none) = some u := z
      by_cases hb : b = a
      · exact ⟨hb, hk'⟩
      · rw [if_neg hb] at z
        cases z
theorem walk_g {l : PySem.W.OpenLaw} {n k : Nat} {q : Program} {loose : List Str} {XP : (Str → Option Value) → Heap → Prop} {YP : World → Heap → Prop} {d : DefRec} {K : Params → PySem.W.Frag} {sp : World → Sp} {x : Str}
    (hn : l.most = some n) (hn2 : n ≤ sizeLine) (hdf : d.params.defaults = []) (hr : Room k callerA) (hY : ∀ (w : World) (h : Heap), YP w h → (K w.params).In h)
    (F : ∀ (w : World) (mg : Str → Option Value) (fa : Addr) (h : Heap), (K w.params).In h → h.Ns mainGlobals mg → mg d.name = some (.ref fa) →
      ∃ fd : FuncData, (∀ (s : Shared) (u : Value), BindsTo s fd ⟨[u], []⟩ [(x, u)]) ∧
        ∀ base : Heap, (K w.params).In base → base.Ns mainGlobals mg → FnG l.prog w (K w.params) mg base CX0 k fa fd [x] (sp w))
    (hsp : ∀ (w : World) (H : Hp) (a : Addr) (ns : List Int), ns.length ≤ n → Only H → SqL (K w.params) H a (ns.map V.int) →
      sp w [.ref a] H (fun v _ => v = .bl true) fun _ _ _ => False) :
    PySem.W.WalkO q loose XP YP l.row.toRowW d [] (fun f vs => PySem.call f vs) := by
  refine Att.attach_call hn hdf ?_
  intro w s₀ s₁ mg mb fa o pm cd doc a vs ns G Y ho hd hcd hmg hobj hints hlen hg
  obtain ⟨fd, hb, hF⟩ := F w mg fa _ (hY w _ Y) G.T.g hmg
  exact law_goes (hY w _ Y) G.T.g G.T.b G.T.builtins G.T.nolimit hg hobj hints (Nat.le_trans hlen hn2) hr hF hb (fun H hO hS => hsp w H a ns hlen hO hS)
end VL
set_option Elab.async false
set_option linter.all false
set_option maxRecDepth 100000
set_option maxHeartbeats 4000000
namespace VL
open PySem PySem.Spec L2
open PyProof.Rows hiding St
def kD : Key → PyData
  | .inl i => .int i
  | .inr x => .str x
mutual
def py : D → PyData
  | .non => .none
  | .bl b => .bool b
  | .int i => .int i
  | .str x => .str x
  | .tup ds => .tuple (pyAll ds)
  | .lst ds => .list (pyAll ds)
  | .dic ks ds => .dict ((ks.map kD).zip (pyAll ds))
  | _ => .none
def pyAll : List D → List PyData
  | [] => []
  | d :: ds => py d :: pyAll ds
end
mutual
/-- plain: none, bools, ints, texts, lists and tuples of such -/
def pl : D → Bool
  | .non => true
  | .bl _ => true
  | .int _ => true
  | .str _ => true
  | .tup ds => plAll ds
  | .lst ds => plAll ds
  | _ => false
def plAll : List D → Bool
  | [] => true
  | d :: ds => pl d && plAll ds
end
mutual
/-- the same with dicts -/
def pq : D → Bool
  | .non => true
  | .bl _ => true
  | .int _ => true
  | .str _ => true
  | .tup ds => pqAll ds
  | .lst ds => pqAll ds
  | .dic _ ds => pqAll ds
  | _ => false
def pqAll : List D → Bool
  | [] => true
  | d :: ds => pq d && pqAll ds
end
section
variable {K : PySem.W.Frag} {H : Hp}
mutual
theorem Rp.dp : ∀ (d : D) (v : V), Rp K H v d → pl d = true → Dp K H v (py d)
  | .non, _, .non, _ => by unfold py; exact .non
  | .bl _, _, .bl b, _ => by unfold py; exact .bl b
  | .int _, _, .int b, _ => by unfold py; exact .int b
  | .str _, _, .str b, _ => by unfold py; exact .str b
  | .tup ds, _, .tup h hs, q => by unfold py; exact .tup h (RpAll.dp ds _ hs (by unfold pl at q; exact q))
  | .lst ds, _, .lst h hs, q => by unfold py; exact .lst (.of h) (RpAll.dp ds _ hs (by unfold pl at q; exact q))
  | .dic _ _, _, _, q => by unfold pl at q; cases q
  | .obj _ _ _, _, _, q => by unfold pl at q; cases q
  | .exc _ _ _, _, _, q => by unfold pl at q; cases q
  | .fz _, _, _, q => by unfold pl at q; cases q
  | .ty _, _, _, q => by unfold pl at q; cases q
  | .ref _, _, _, q => by unfold pl at q; cases q
theorem RpAll.dp : ∀ (ds : List D) (vs : List V), RpAll K H vs ds → plAll ds = true → DpAll K H vs (pyAll ds)
  | [], _, .nil, _ => by unfold pyAll; exact .nil
  | d :: ds, _, .cons h hs, q => by
    unfold plAll at q
    rw [Bool.and_eq_true] at q
    unfold pyAll
    exact .cons (Rp.dp d _ h q.1) (RpAll.dp ds _ hs q.2)
end
end
/-- two data alike for == -/
def eqD (x y : D) : Bool := PyData.eqv (py x) (py y)
/-- data that == may look at -/
def okE (d : D) : Prop := pl d = true ∧ SeqAt.shaped (py d) = true
section
variable {W : Wc} {X : Cx}
def rdEq : RD2 := fun x y Q => match x, y with
  | .str a, .str b => Q (.bl (decide (a = b)))
  | .int a, .int b => Q (.bl (decide (a = b)))
  | x, y => okE x ∧ okE y ∧ Q (.bl (eqD x y))
def rdNe : RD2 := fun x y Q => match x, y with
  | .str a, .str b => Q (.bl (!decide (a = b)))
  | .int a, .int b => Q (.bl (!decide (a = b)))
  | x, y => okE x ∧ okE y ∧ Q (.bl (!eqD x y))
def rEqA (K : PySem.W.Frag) : R2 := fun x y H Q => rEq x y H Q ∨ rEqD K x y H Q
def rNeA (K : PySem.W.Frag) : R2 := fun x y H Q => rNe x y H Q ∨ rNeD K x y H Q
theorem op_eqA (hu : X.A.units + 64 < cLine) : OpR X (compareOp .Eq) (rEqA X.K) := op_eq.or (op_eqD hu)
theorem op_neA (hu : X.A.units + 64 < cLine) : OpR X (compareOp .NotEq) (rNeA X.K) := op_ne.or (op_neD hu)
theorem od_eq {K : PySem.W.Frag} : OpD K W (rEqA K) rdEq := by
  intro Γ σ Hv H x y dx dy Q Q' E rx ry h k
  have gen : okE dx ∧ okE dy ∧ Q (.bl (eqD dx dy)) → rEqA K x y H Q' := fun ⟨o1, o2, q⟩ =>
    .inr ⟨_, _, Rp.dp _ _ (Rp.monoS E.ret.sub _ _ rx) o1.1, Rp.dp _ _ (Rp.monoS E.ret.sub _ _ ry) o2.1, o1.2, o2.2, k _ _ Hv H E.stp (.bl _) q⟩
  unfold rdEq at h
  split at h
  · cases rx; cases ry
    exact .inl ⟨rfl, k _ _ Hv H E.stp (.bl _) (by simpa using h)⟩
  · cases rx; cases ry
    exact .inl ⟨rfl, k _ _ Hv H E.stp (.bl _) (by simpa using h)⟩
  · exact gen h
theorem od_ne {K : PySem.W.Frag} : OpD K W (rNeA K) rdNe := by
  intro Γ σ Hv H x y dx dy Q Q' E rx ry h k
  have gen : okE dx ∧ okE dy ∧ Q (.bl (!eqD dx dy)) → rNeA K x y H Q' := fun ⟨o1, o2, q⟩ =>
    .inr ⟨_, _, Rp.dp _ _ (Rp.monoS E.ret.sub _ _ rx) o1.1, Rp.dp _ _ (Rp.monoS E.ret.sub _ _ ry) o2.1, o1.2, o2.2, k _ _ Hv H E.stp (.bl _) q⟩
  unfold rdNe at h
  split at h
  · cases rx; cases ry
    exact .inl ⟨rfl, k _ _ Hv H E.stp (.bl _) (by simpa using h)⟩
  · cases rx; cases ry
    exact .inl ⟨rfl, k _ _ Hv H E.stp (.bl _) (by simpa using h)⟩
  · exact gen h
/-- x in a list, a tuple, or one sign in a text -/
def rInT (K : PySem.W.Frag) (neg : Bool) : R2 := fun x y H Q => ∃ d ds, Dp K H x d ∧ Dp K H y (.tuple ds) ∧ SeqAt.shaped d = true ∧ SeqAt.shaped (.tuple ds) = true ∧ Q (.bl (neg ^^ ds.any fun z => PyData.eqv z d)) H
theorem op_inT (hu : X.A.units + 65 < cLine) : OpR X (compareOp .In) (rInT X.K false) := by
  intro pins s σ H x y v u Q I rx ry h
  obtain ⟨d, ds, hd, he, sd, se, q⟩ := h
  obtain ⟨as, r1⟩ := Dp.reads I d x v hd rx
  obtain ⟨bs, r2⟩ := Dp.reads I (.tuple ds) y u he ry
  rw [Bool.false_xor] at q
  exact SeqAt.in_tuple_reads r2 r1 (SeqAt.canLay_of_shaped se) (SeqAt.canLay_of_shaped sd) (room_in_shaped sd hu) ⟨.bl _, H, I, rfl, q⟩
theorem op_notInT (hu : X.A.units + 65 < cLine) : OpR X (compareOp .NotIn) (rInT X.K true) := by
  intro pins s σ H x y v u Q I rx ry h
  obtain ⟨d, ds, hd, he, sd, se, q⟩ := h
  obtain ⟨as, r1⟩ := Dp.reads I d x v hd rx
  obtain ⟨bs, r2⟩ := Dp.reads I (.tuple ds) y u he ry
  rw [Bool.true_xor] at q
  exact SeqAt.notIn_tuple_reads r2 r1 (SeqAt.canLay_of_shaped se) (SeqAt.canLay_of_shaped sd) (room_in_shaped sd hu) ⟨.bl _, H, I, rfl, q⟩
def rInSg (neg : Bool) : R2 := fun x y H Q => ∃ (c : Nat) (z : Str), x = .str ⟨#[c]⟩ ∧ y = .str z ∧ Q (.bl (neg ^^ decide (c ∈ z.cps.toList))) H
theorem op_inSg : OpR X (compareOp .In) (rInSg false) := fun pins s σ H x y v u Q I rx ry ⟨c, z, e1, e2, q⟩ => op_in_sign pins s σ H x y v u Q I rx ry ⟨c, z, e1, e2, by rw [Bool.false_xor] at q; exact q⟩
theorem op_notInSg : OpR X (compareOp .NotIn) (rInSg true) := fun pins s σ H x y v u Q I rx ry ⟨c, z, e1, e2, q⟩ => op_notIn_sign pins s σ H x y v u Q I rx ry ⟨c, z, e1, e2, by rw [Bool.true_xor] at q; exact q⟩
def rInA (K : PySem.W.Frag) : R2 := fun x y H Q => rInSg false x y H Q ∨ rInD K x y H Q ∨ rInT K false x y H Q
def rNotInA (K : PySem.W.Frag) : R2 := fun x y H Q => rInSg true x y H Q ∨ rNotInD K x y H Q ∨ rInT K true x y H Q
theorem op_inA (hu : X.A.units + 65 < cLine) : OpR X (compareOp .In) (rInA X.K) := op_inSg.or ((op_inD hu).or (op_inT hu))
theorem op_notInA (hu : X.A.units + 65 < cLine) : OpR X (compareOp .NotIn) (rNotInA X.K) := op_notInSg.or ((op_notInD hu).or (op_notInT hu))
/-- the sign that a text of one sign is -/
def signOf (x : Str) : Option Nat := match x.cps.toList with | [c] => some c | _ => none
theorem signOf_eq {x : Str} {c : Nat} (h : signOf x = some c) : x = ⟨#[c]⟩ := by
  obtain ⟨⟨l⟩⟩ := x
  unfold signOf at h
  split at h
  · rename_i d e
    cases h
    have e' : l = [c] := e
    subst e'
    rfl
  · cases h
def isIn (x : D) (ds : List D) : Bool := ds.any fun z => eqD z x
theorem isIn_py (x : D) : ∀ ds : List D, isIn x ds = (pyAll ds).any fun z => PyData.eqv z (py x)
  | [] => by unfold isIn pyAll; rfl
  | d :: ds => by
    unfold pyAll
    show (eqD d x || isIn x ds) = _
    rw [isIn_py x ds]
    rfl
def rdIn (neg : Bool) : RD2 := fun x y Q => match x, y with
  | .str a, .str z => ∃ c, signOf a = some c ∧ Q (.bl (neg ^^ decide (c ∈ z.cps.toList)))
  | x, .lst ds => okE x ∧ okE (.lst ds) ∧ Q (.bl (neg ^^ isIn x ds))
  | x, .tup ds => okE x ∧ okE (.tup ds) ∧ Q (.bl (neg ^^ isIn x ds))
  | _, _ => False
theorem od_in {K : PySem.W.Frag} : OpD K W (rInA K) (rdIn false) := by
  intro Γ σ Hv H x y dx dy Q Q' E rx ry h k
  unfold rdIn at h
  split at h
  · obtain ⟨c, e, q⟩ := h
    cases rx; cases ry
    exact .inl ⟨c, _, by rw [signOf_eq e], rfl, k _ _ Hv H E.stp (.bl _) q⟩
  · obtain ⟨o1, o2, q⟩ := h
    have d2 := Rp.dp _ _ (Rp.monoS E.ret.sub _ _ ry) o2.1
    have s2 := o2.2
    unfold py at d2 s2
    rw [Bool.false_xor, isIn_py] at q
    exact .inr (.inl ⟨_, _, Rp.dp _ _ (Rp.monoS E.ret.sub _ _ rx) o1.1, d2, o1.2, s2, k _ _ Hv H E.stp (.bl _) q⟩)
  · obtain ⟨o1, o2, q⟩ := h
    have d2 := Rp.dp _ _ (Rp.monoS E.ret.sub _ _ ry) o2.1
    have s2 := o2.2
    unfold py at d2 s2
    rw [isIn_py] at q
    exact .inr (.inr ⟨_, _, Rp.dp _ _ (Rp.monoS E.ret.sub _ _ rx) o1.1, d2, o1.2, s2, k _ _ Hv H E.stp (.bl _) q⟩)
  · exact h.elim
theorem od_notIn {K : PySem.W.Frag} : OpD K W (rNotInA K) (rdIn true) := by
  intro Γ σ Hv H x y dx dy Q Q' E rx ry h k
  unfold rdIn at h
  split at h
  · obtain ⟨c, e, q⟩ := h
    cases rx; cases ry
    exact .inl ⟨c, _, by rw [signOf_eq e], rfl, k _ _ Hv H E.stp (.bl _) q⟩
  · obtain ⟨o1, o2, q⟩ := h
    have d2 := Rp.dp _ _ (Rp.monoS E.ret.sub _ _ ry) o2.1
    have s2 := o2.2
    unfold py at d2 s2
    rw [Bool.true_xor, isIn_py] at q
    exact .inr (.inl ⟨_, _, Rp.dp _ _ (Rp.monoS E.ret.sub _ _ rx) o1.1, d2, o1.2, s2, k _ _ Hv H E.stp (.bl _) q⟩)
  · obtain ⟨o1, o2, q⟩ := h
    have d2 := Rp.dp _ _ (Rp.monoS E.ret.sub _ _ ry) o2.1
    have s2 := o2.2
    unfold py at d2 s2
    rw [isIn_py] at q
    exact .inr (.inr ⟨_, _, Rp.dp _ _ (Rp.monoS E.ret.sub _ _ rx) o1.1, d2, o1.2, s2, k _ _ Hv H E.stp (.bl _) q⟩)
  · exact h.elim
def rdI0 (g : Int → Int → D) : RD2 := fun x y Q => match x, y with | .int i, .int j => Q (g i j) | _, _ => False
def rdI (C : Int → Int → Prop) (g : Int → Int → D) : RD2 := fun x y Q => match x, y with | .int i, .int j => C i j ∧ Q (g i j) | _, _ => False
theorem od_iC {K : PySem.W.Frag} {C : Int → Int → Prop} {f : Int → Int → V} {g : Int → Int → D} (hr : ∀ i j H, Rp K H (f i j) (g i j)) : OpD K W (rI C f) (rdI C g) := by
  intro Γ σ Hv H x y dx dy Q Q' E rx ry h k
  unfold rdI at h
  split at h
  · cases rx; cases ry
    exact ⟨_, _, rfl, rfl, h.1, k _ _ Hv H E.stp (hr _ _ _) h.2⟩
  · exact h.elim
theorem od_fdiv {K : PySem.W.Frag} : OpD K W (rI CDiv fun i j => .int (i / j)) (rdI CDiv fun i j => .int (i / j)) := od_iC fun _ _ _ => .int _
/-- +: ints, texts, lists, tuples -/
def rAddA (K : PySem.W.Frag) : R2 := fun x y H Q => (rI0 fun i j => .int (i + j)) x y H Q ∨ (fun x y H Q => ∃ i j, x = .str i ∧ y = .str j ∧ i.length + j.length ≤ sizeLine ∧ Q (.str (i ++ j)) H) x y H Q ∨ rCat x y H Q
theorem op_addA : OpR X (binaryOp .Add) (rAddA X.K) := op_add.or (op_add_str.or op_cat)
def rdAdd : RD2 := fun x y Q => match x, y with
  | .int i, .int j => Q (.int (i + j))
  | .str a, .str b => a.length + b.length ≤ sizeLine ∧ Q (.str (a ++ b))
  | .lst a, .lst b => a.length + b.length ≤ sizeLine ∧ Q (.lst (a ++ b))
  | _, _ => False
theorem od_add {K : PySem.W.Frag} : OpD K W (rAddA K) rdAdd := by
  intro Γ σ Hv H x y dx dy Q Q' E rx ry h k
  unfold rdAdd at h
  split at h
  · cases rx; cases ry
    exact .inl ⟨_, _, rfl, rfl, k _ _ Hv H E.stp (.int _) h⟩
  · cases rx; cases ry
    exact .inr (.inl ⟨_, _, rfl, rfl, h.1, k _ _ Hv H E.stp (.str _) h.2⟩)
  · cases rx with
    | lst h1 r1 =>
      cases ry with
      | lst h2 r2 =>
        refine .inr (.inr ⟨_, _, _, _, rfl, rfl, E.ret.sub.lst h1, E.ret.sub.lst h2, by rw [r1.length, r2.length]; exact h.1, fun p hp => ?_⟩)
        exact k _ _ _ _ (E.stp.alloc _ hp) (.lst upd_same (RpAll.mono (same_upd (E.noneHv hp)) _ _ (r1.append r2))) h.2
  · exact h.elim
def rdMul : RD2 := fun x y Q => match x, y with
  | .int i, .int j => CMul i j ∧ Q (.int (i * j))
  | .lst a, .int j => (-(2 ^ 63) ≤ j ∧ j < 2 ^ 63) ∧ a.length * j.toNat ≤ sizeLine ∧ Q (.lst (List.replicate j.toNat a).flatten)
  | _, _ => False
def rdIx : RD2 := fun x y Q => match x, y with
  | .lst ds, .int i => ∃ d, atI ds i = some d ∧ Q d
  | .tup ds, .int i => ∃ d, atI ds i = some d ∧ Q d
  | .str z, .int i => z.length ≤ sizeLine ∧ ∃ c, atI z.cps.toList i = some c ∧ Q (.str ⟨#[c]⟩)
  | _, _ => False
theorem RpAll.at {K : PySem.W.Frag} {H : Hp} {vs : List V} {ds : List D} {i : Int} {d : D} (r : RpAll K H vs ds) (h : atI ds i = some d) : ∃ v, atI vs i = some v ∧ Rp K H v d := by
  unfold atI at h ⊢
  rw [r.length]
  cases q : ixN ds.length i with
  | none => rw [q] at h; cases h
  | some j =>
    rw [q] at h
    exact r.get h
theorem od_ix {K : PySem.W.Frag} : OpD K W (rIx K) rdIx := by
  intro Γ σ Hv H x y dx dy Q Q' E rx ry h k
  unfold rdIx at h
  split at h
  · obtain ⟨d, e, q⟩ := h
    cases rx with
    | lst h1 r1 =>
      cases ry
      obtain ⟨v, e2, r2⟩ := r1.at e
      exact .inl ⟨_, _, _, v, rfl, rfl, .of (E.ret.sub.lst h1), e2, k v d Hv H E.stp r2 q⟩
  · obtain ⟨d, e, q⟩ := h
    cases rx with
    | tup h1 r1 =>
      cases ry
      obtain ⟨v, e2, r2⟩ := r1.at e
      exact .inr (.inl ⟨_, _, _, v, rfl, rfl, seqT E.ret.sub h1, e2, k v d Hv H E.stp r2 q⟩)
  · obtain ⟨hz, c, e, q⟩ := h
    cases rx; cases ry
    exact .inr (.inr ⟨_, _, c, rfl, rfl, hz, e, k _ _ Hv H E.stp (.str _) q⟩)
  · exact h.elim
/-- x[lo:hi] of a list, a text -/
def rCutA (K : PySem.W.Frag) : V → Option Int → Option Int → Hp → VK → Prop := fun x lo hi H Q => rSlL K x lo hi H Q ∨ rSlS x lo hi H Q
theorem sl_all : SlR X (rCutA X.K) := sl_list.or sl_str
def cutD (xs : List D) (lo hi : Option Int) : List D := (xs.drop (HT.sIx xs.length 0 lo)).take (HT.sIx xs.length xs.length hi - HT.sIx xs.length 0 lo)
def rdSlA : D → Option Int → Option Int → (D → Prop) → Prop := fun x lo hi Q => match x with
  | .lst ds => Q (.lst (cutD ds lo hi))
  | .fz ns => Q (.lst ((cutD (ns.map D.int) lo hi)))
  | .str z => z.length ≤ sizeLine ∧ Q (.str (cutS z lo hi))
  | _ => False
theorem rp_ints {K : PySem.W.Frag} {H : Hp} : ∀ ns : List Int, RpAll K H (ns.map V.int) (ns.map D.int)
  | [] => .nil
  | n :: ns => .cons (.int n) (rp_ints ns)
theorem RpAll.cut {K : PySem.W.Frag} {H : Hp} {vs : List V} {ds : List D} (r : RpAll K H vs ds) (lo hi : Option Int) : RpAll K H (cutV vs lo hi) (cutD ds lo hi) := by
  unfold cutV cutD
  rw [r.length]
  exact (r.drop _).take _
theorem sd_all {K : PySem.W.Frag} : SlD K W (rCutA K) rdSlA := by
  intro Γ σ Hv H x lo hi dx Q Q' E rx h k
  unfold rdSlA at h
  split at h
  · cases rx with
    | lst h1 r1 =>
      refine .inl ⟨_, _, rfl, .of (E.ret.sub.lst h1), fun p hp => ?_⟩
      exact k _ _ _ _ (E.stp.alloc _ hp) (.lst upd_same (RpAll.mono (same_upd (E.noneHv hp)) _ _ (r1.cut lo hi))) h
  · cases rx with
    | fz h1 =>
      rename_i ns _
      refine .inl ⟨_, _, rfl, E.ret.sub.seq h1, fun p hp => ?_⟩
      exact k _ _ _ _ (E.stp.alloc _ hp) (.lst upd_same (RpAll.mono (same_upd (E.noneHv hp)) _ _ ((rp_ints ns).cut lo hi))) h
  · cases rx
    exact .inr ⟨_, rfl, h.1, k _ _ Hv H E.stp (.str _) h.2⟩
  · exact h.elim
def rdLen : List D → (D → Prop) → Prop := fun ds Q => match ds with
  | [.lst xs] => Q (.int xs.length)
  | [.tup xs] => Q (.int xs.length)
  | [.fz xs] => Q (.int xs.length)
  | [.str z] => z.length ≤ sizeLine ∧ Q (.int z.length)
  | _ => False
def rLenA (K : PySem.W.Frag) : List V → Hp → VK → Prop := fun xs H Q => (fun xs H Q => ∃ p ys, xs = [.ref p] ∧ (SqL K H p ys ∨ SqT K H p ys) ∧ Q (.int ys.length) H) xs H Q ∨ (fun xs H Q => ∃ z, xs = [.str z] ∧ z.length ≤ sizeLine ∧ Q (.int z.length) H) xs H Q
theorem cr_len : CallR X (.builtin "len") (rLenA X.K) := call_len_seq.or call_len_str
theorem cd_len {K : PySem.W.Frag} : CallD K W (rLenA K) rdLen := by
  intro Γ σ Hv H vs ds Q Q' E r h k
  unfold rdLen at h
  split at h
  · obtain ⟨v, rfl, rv⟩ := r.one
    cases rv with
    | lst h1 r1 => exact .inl ⟨_, _, rfl, .inl (.of (E.ret.sub.lst h1)), k _ _ Hv H E.stp (.int _) (by rw [r1.length]; exact h)⟩
  · obtain ⟨v, rfl, rv⟩ := r.one
    cases rv with
    | tup h1 r1 => exact .inl ⟨_, _, rfl, .inr (seqT E.ret.sub h1), k _ _ Hv H E.stp (.int _) (by rw [r1.length]; exact h)⟩
  · obtain ⟨v, rfl, rv⟩ := r.one
    cases rv with
    | fz h1 => exact .inl ⟨_, _, rfl, .inl (E.ret.sub.seq h1), k _ _ Hv H E.stp (.int _) (by rw [List.length_map]; exact h)⟩
  · obtain ⟨v, rfl, rv⟩ := r.one
    cases rv
    exact .inr ⟨_, rfl, h.1, k _ _ Hv H E.stp (.int _) h.2⟩
  · exact h.elim
/-- a list of bools -/
def asBs : List D → Option (List Bool)
  | [] => some []
  | .bl b :: r => (asBs r).map (b :: ·)
  | _ :: _ => none
theorem asBs_of {K : PySem.W.Frag} {H : Hp} : ∀ {ds : List D} {vs : List V} {bs : List Bool}, RpAll K H vs ds → asBs ds = some bs → vs = bs.map V.bl
  | [], _, _, r, e => by cases r; cases e; rfl
  | .bl b :: ds, _, _, r, e => by
    cases r with
    | cons a r =>
      cases a
      unfold asBs at e
      cases q : asBs ds with
      | none => rw [q] at e; cases e
      | some bs =>
        rw [q] at e
        cases e
        rw [asBs_of r q]
        rfl
  | .non :: _, _, _, _, e => by cases e
  | .int _ :: _, _, _, _, e => by cases e
  | .str _ :: _, _, _, _, e => by cases e
  | .ty _ :: _, _, _, _, e => by cases e
  | .ref _ :: _, _, _, _, e => by cases e
  | .tup _ :: _, _, _, _, e => by cases e
  | .lst _ :: _, _, _, _, e => by cases e
  | .dic _ _ :: _, _, _, _, e => by cases e
  | .obj _ _ _ :: _, _, _, _, e => by cases e
  | .exc _ _ _ :: _, _, _, _, e => by cases e
  | .fz _ :: _, _, _, _, e => by cases e
def rdAll : List D → (D → Prop) → Prop := fun ds Q => match ds with
  | [.lst xs] => ∃ bs, asBs xs = some bs ∧ Q (.bl (bs.all id))
  | _ => False
theorem cd_all {K : PySem.W.Frag} : CallD K W (rAll K) rdAll := by
  intro Γ σ Hv H vs ds Q Q' E r h k
  unfold rdAll at h
  split at h
  · obtain ⟨bs, e, q⟩ := h
    obtain ⟨v, rfl, rv⟩ := r.one
    cases rv with
    | lst h1 r1 =>
      have ev := asBs_of r1 e
      subst ev
      exact ⟨_, bs, rfl, .of (E.ret.sub.lst h1), k _ _ Hv H E.stp (.bl _) q⟩
  · exact h.elim
def rdAbs : List D → (D → Prop) → Prop := fun ds Q => match ds with | [.int i] => Q (.int (if i < 0 then -i else i)) | _ => False
theorem cd_abs {K : PySem.W.Frag} : CallD K W (fun xs H Q => ∃ i, xs = [.int i] ∧ Q (.int (if i < 0 then -i else i)) H) rdAbs := by
  intro Γ σ Hv H vs ds Q Q' E r h k
  unfold rdAbs at h
  split at h
  · obtain ⟨v, rfl, rv⟩ := r.one
    cases rv
    exact ⟨_, rfl, k _ _ Hv H E.stp (.int _) h⟩
  · exact h.elim
def rdMin2 : List D → (D → Prop) → Prop := fun ds Q => match ds with | [.int i, .int j] => Q (.int (if j < i then j else i)) | _ => False
theorem cd_min2 {K : PySem.W.Frag} : CallD K W (fun xs H Q => ∃ i j, xs = [.int i, .int j] ∧ Q (.int (if j < i then j else i)) H) rdMin2 := by
  intro Γ σ Hv H vs ds Q Q' E r h k
  unfold rdMin2 at h
  split at h
  · obtain ⟨v, w, rfl, rv, rw'⟩ := r.two
    cases rv; cases rw'
    exact ⟨_, _, rfl, k _ _ Hv H E.stp (.int _) h⟩
  · exact h.elim
/-- list(x) of a list or a tuple -/
def rdList : List D → (D → Prop) → Prop := fun ds Q => match ds with | [.lst xs] => Q (.lst xs) | [.tup xs] => Q (.lst xs) | _ => False
theorem cf_list {K : PySem.W.Frag} : CallF K W (fun xs H Q => ∃ p ys, xs = [.ref p] ∧ (SqL K H p ys ∨ SqT K H p ys) ∧ ∀ l, H l = none → Q (.ref l) (upd H l (.lst ys))) rdList := by
  intro Γ σ Hv H vs ds Q Q' E r h k
  unfold rdList at h
  split at h
  · obtain ⟨v, rfl, rv⟩ := r.one
    cases rv with
    | lst h1 r1 =>
      refine ⟨_, _, rfl, .inl (.of (E.ret.sub.lst h1)), fun l hl => ?_⟩
      obtain ⟨s, F⟩ := E.stp.alloc0 (.lst _) hl
      exact k l _ (.lst _) Hv _ s hl upd_same ⟨_, rfl, r1⟩ F h
  · obtain ⟨v, rfl, rv⟩ := r.one
    cases rv with
    | tup h1 r1 =>
      refine ⟨_, _, rfl, .inr (seqT E.ret.sub h1), fun l hl => ?_⟩
      obtain ⟨s, F⟩ := E.stp.alloc0 (.lst _) hl
      exact k l _ (.lst _) Hv _ s hl upd_same ⟨_, rfl, r1⟩ F h
  · exact h.elim
/-- tuple(x) -/
def rdTuple : List D → (D → Prop) → Prop := fun ds Q => match ds with | [.lst xs] => Q (.tup xs) | [.tup xs] => Q (.tup xs) | _ => False
def rTupX (K : PySem.W.Frag) : List V → Hp → VK → Prop := fun xs H Q => ∃ p ys, xs = [.ref p] ∧ ((SqL K H p ys ∧ ∀ l (o : Obj), H l = none → o.dict = none → Q (.ref l) (upd H l (.frz o (.tup ys)))) ∨ (SqT K H p ys ∧ Q (.ref p) H))
theorem call_tupleX {X : Cx} : CallR X (.type "tuple") (rTupX X.K) := by
  intro pins s0 σ0 H0 xs us Qw I0 r0 hw0
  obtain ⟨p, ys, rfl, hw0⟩ := hw0
  obtain ⟨u0, rfl, rx0⟩ := vals1 r0
  cases rx0
  rcases hw0 with ⟨hq0, qw⟩ | ⟨hq0, qw⟩
  · obtain ⟨its0, rv0, pl0, hz0⟩ := I0.list hq0
    have hlen0 := rv0.length
    refine call_tuple_list pl0.isList (fun hp1 kp1 => ?_) (by simp only [List.size_toArray] <;> omega)
    have J1 : Inv X pins σ0 H0 { s0 with heap := hp1 } := I0.kept (t' := s0.toks) kp1
    have J2 : Inv X pins σ0 (upd H0 hp1.objs.size (.frz { cls := .type "tuple", data := .seq its0.toArray } (.tup ys))) { s0 with heap := hp1.push { cls := .type "tuple", data := .seq its0.toArray } } :=
      J1.laid (t' := s0.toks) (fun _ _ e => Heap.get?_push_of_some _ e) (Nat.le_refl _) (show ObjOk X.prog X.w _ _ _ (.frz _ (.tup ys)) from ⟨Heap.get?_push_size _ rfl, hz0, its0, rv0, IsTup.new _ _⟩)
    exact ⟨.ref hp1.objs.size, _, J2, rfl, qw _ _ (J1.hok.fresh (Nat.le_refl _)) rfl⟩
  · obtain ⟨its0, rv0, pl0, hz0⟩ := I0.tuple hq0
    exact call_tuple_same pl0 ⟨.ref p, H0, I0, rfl, qw⟩
theorem cd_tuple {K : PySem.W.Frag} : CallD K W (rTupX K) rdTuple := by
  intro Γ σ Hv H vs ds Q Q' E r h k
  unfold rdTuple at h
  split at h
  · obtain ⟨v, rfl, rv⟩ := r.one
    cases rv with
    | lst h1 r1 =>
      refine ⟨_, _, rfl, .inl ⟨.of (E.ret.sub.lst h1), fun l o hl hd => ?_⟩⟩
      exact k _ _ _ _ (E.stp.alloc _ hl) (.tup (.of upd_same hd) (RpAll.mono (same_upd (E.noneHv hl)) _ _ r1)) h
  · obtain ⟨v, rfl, rv⟩ := r.one
    cases rv with
    | tup h1 r1 => exact ⟨_, _, rfl, .inr ⟨seqT E.ret.sub h1, k _ _ Hv H E.stp (.tup h1 r1) h⟩⟩
  · exact h.elim
def tyName : D → Option String
  | .non => some "NoneType"
  | .bl _ => some "bool"
  | .int _ => some "int"
  | .str _ => some "str"
  | .lst _ => some "list"
  | .tup _ => some "tuple"
  | .dic _ _ => some "dict"
  | _ => none
theorem tyX_of {K : PySem.W.Frag} {H : Hp} {v : V} {d : D} {n : String} (r : Rp K H v d) (h : tyName d = some n) : TyX K H v (.type n) := by
  cases d <;> cases h
  · cases r; exact .base .non
  · cases r; exact .base (.bl _)
  · cases r; exact .base (.int _)
  · cases r; exact .base (.str _)
  · cases r with
    | tup h1 r1 =>
      rcases h1.sq with (h1 | ⟨o, h1⟩) | ⟨o, its, k, h1, h2, h3⟩
      · exact .base (.tup h1)
      · exact .fTuple h1
      · exact .kTuple h1 h2
  · cases r with
    | lst h1 r1 => exact .base (.lst h1)
  · cases r with
    | dic h1 hk r1 => (rcases h1 with h1 | ⟨o, h1⟩; exact .base (.dK h1); exact .fDict h1)
def rdIsi : List D → (D → Prop) → Prop := fun ds Q => match ds with
  | [x, .ty T] => ∃ n b, tyName x = some n ∧ kitB n T = some b ∧ Q (.bl b)
  | _ => False
theorem cd_isi {K : PySem.W.Frag} : CallD K W (rIsi K) rdIsi := by
  intro Γ σ Hv H vs ds Q Q' E r h k
  unfold rdIsi at h
  split at h
  · obtain ⟨n, b, e1, e2, q⟩ := h
    obtain ⟨v, w, rfl, rv, rw'⟩ := r.two
    cases rw'
    exact ⟨v, _, _, _, b, rfl, .ty _, tyX_of (Rp.monoS E.ret.sub _ _ rv) e1, kit_ty e2, k _ _ Hv H E.stp (.bl _) q⟩
  · exact h.elim
variable {tg e : Expr} {te : TE} {de : TDE} {es : List Expr} {t : TA} {dt : TDF} {p pos : Pos}
def asL (d : D) (k : List D → Prop) : Prop := match d with | .lst ds => k ds | _ => False
theorem itd_list {K : PySem.W.Frag} {a : Addr} {vs : List V} {ds : List D} {Hs : Hp} (h : Hs a = some (.lst vs)) (r : RpAll K Hs vs ds) : ItD K W (Itl K a) ds Hs := by
  intro Γ σ Hv H sm E i
  have ha : SqL K H a vs := .of (E.ret.sub.lst (sm.lst h))
  refine ⟨fun hi => ⟨vs, ha, by rw [r.length]; exact hi⟩, fun d e => ?_⟩
  obtain ⟨v, ev, rv⟩ := r.get e
  refine ⟨⟨vs, v, ha, ev⟩, fun x H' y => ?_⟩
  obtain ⟨rfl, y⟩ := y
  have ex := y vs ha
  rw [ev] at ex
  cases ex
  exact ⟨Hv, E.stp, Rp.mono sm _ _ rv⟩
theorem itd_tup {K : PySem.W.Frag} {a : Addr} {vs : List V} {ds : List D} {Hs : Hp} (h : SqT K Hs a vs) (r : RpAll K Hs vs ds) : ItD K W (Itt K a) ds Hs := by
  intro Γ σ Hv H sm E i
  have ha : SqT K H a vs := seqT0 E.ret.sub (seqT0 sm h)
  refine ⟨fun hi => ⟨vs, ha, by rw [r.length]; exact hi⟩, fun d e => ?_⟩
  obtain ⟨v, ev, rv⟩ := r.get e
  refine ⟨⟨vs, v, ha, ev⟩, fun x H' y => ?_⟩
  obtain ⟨rfl, y⟩ := y
  have ex := y vs ha
  rw [ev] at ex
  cases ex
  exact ⟨Hv, E.stp, Rp.mono sm _ _ rv⟩
/-- range(n) -/
def rangeD (n : Nat) : List D := (List.range n).map fun i => D.int ((i : Nat) : Int)
def rngOf (ds : List D) (k : List D → Prop) : Prop := match ds with
  | [.int j] => (-(2 ^ 62) ≤ j ∧ j < 2 ^ 62) ∧ k (rangeD j.toNat)
  | _ => False
def rdIRng (dt : TDF) : TDF := fun Γ Q => dt Γ fun ds Γ1 => rngOf ds fun L => Q L Γ1
theorem di_range {a : Expr} (hg : Gl X "range") (hm : X.mg "range" = none) (ha : DA W X [a] t dt) (hs : starEach [a] X.env = [(false, eval a X.env)] := by rfl) : DI W X tg (.Call (.Name "range" p) [a] [] pos) (iRng1 t) (rdIRng dt) := by
  refine ⟨pi_range1 hg hm ha.pa hs, fun Γ σ Hv H Q R E h k => ha.ad Γ σ Hv H _ _ E h fun vs ds Γ1 Hv1 H1 s1 r1 q => ?_⟩
  unfold rngOf at q
  split at q
  · obtain ⟨v, rfl, rv⟩ := r1.one
    cases rv
    rename_i j
    refine ⟨j, rfl, q.1.1, q.1.2, k _ _ Γ1 Hv1 H1 s1 (fun Γ' σ' Hv' H' sm E' i => ⟨fun hi => ?_, fun d e => ?_⟩) q.2⟩
    · unfold rangeD at hi
      rw [List.length_map, List.length_range] at hi
      exact hi
    · unfold rangeD at e
      rw [List.getElem?_map] at e
      by_cases hi : i < j.toNat
      · rw [List.getElem?_range hi] at e
        cases e
        refine ⟨hi, fun x H2 y => ?_⟩
        obtain ⟨rfl, rfl⟩ := y
        rw [Int.zero_add]
        exact ⟨Hv', E'.stp, .int _⟩
      · rw [List.getElem?_eq_none (by rw [List.length_range]; omega)] at e
        cases e
  · exact q.elim
end
end VL
set_option Elab.async false
set_option linter.all false
set_option maxRecDepth 100000
set_option maxHeartbeats 4000000
namespace VL
open PySem PySem.Spec L2
open PyProof.Rows hiding St
theorem hu64 {k : Nat} {A : Around} (r : Room k A) : A.units + 64 < cLine := r.units
theorem hu65 {k : Nat} {A : Around} (r : Room k A) : A.units + 65 < cLine := by have := r.un; omega
theorem small_of {n : Nat} (h : n ≤ 1000) : small n := Nat.le_trans h (by decide)
section
variable {W : Wc} {X : Cx} {a b e : Expr} {es rest : List Expr} {ta tb te : TE} {da db de : TDE} {t : TA} {dt : TDF} {p pos : Pos} {x y : Str}
def signsV (z : Str) : List V := z.cps.toList.map fun c => V.str ⟨#[c]⟩
def signsD (z : Str) : List D := z.cps.toList.map fun c => D.str ⟨#[c]⟩
theorem rp_signs {K : PySem.W.Frag} {H : Hp} (z : Str) : RpAll K H (signsV z) (signsD z) := by
  unfold signsV signsD
  induction z.cps.toList with
  | nil => exact .nil
  | cons c r ih => exact .cons (.str _) ih
theorem vals_signs : ∀ {its : List Value} {cs : List Nat}, its.length = cs.length → (∀ i (h : i < its.length), ∃ (c : Nat) (u : Tok), cs[i]? = some c ∧ its[i] = .str ⟨#[c]⟩ u) → Vals (cs.map fun c => V.str ⟨#[c]⟩) its
  | [], [], _, _ => .nil
  | [], _ :: _, h, _ => by cases h
  | _ :: _, [], h, _ => by cases h
  | v :: its, c :: cs, h, f => by
    obtain ⟨c', u, e1, e2⟩ := f 0 (Nat.zero_lt_succ _)
    cases e1
    refine .cons ⟨u, e2⟩ (vals_signs (Nat.succ.inj h) fun i hi => ?_)
    obtain ⟨c2, u2, f1, f2⟩ := f (i + 1) (Nat.succ_lt_succ hi)
    exact ⟨c2, u2, by simpa using f1, by simpa using f2⟩
theorem cr_listStr (hc : X.calm = true) : CallR X (.type "list") (fun xs H Q => ∃ z, xs = [.str z] ∧ z.length ≤ sizeLine ∧ ∀ l, H l = none → Q (.ref l) (upd H l (.lst (signsV z)))) := by
  intro pins s σ H xs us Q I r h
  obtain ⟨z, rfl, hz, q⟩ := h
  obtain ⟨u, rfl, tk, rfl⟩ := vals1 r
  refine call_list_str (I.ok.hd hc) z tk (fun h' tk' acc c' kp e hit => ?_) hz
  have rv : Vals (signsV z) acc.toList := by
    refine vals_signs (by rw [Array.length_toList, Array.length_toList, hit.1]) fun i hi => ?_
    rw [Array.length_toList] at hi
    obtain ⟨c, u, e1, e2⟩ := hit.2 i acc[i] (Array.getElem?_eq_getElem hi)
    exact ⟨c, u, by rw [Array.getElem?_toList]; exact e1, by simpa using e2⟩
  refine ⟨.ref s.heap.objs.size, _, I.laid (t' := tk') kp (Nat.le_refl _) (show ObjOk X.prog X.w _ h' _ (.lst (signsV z)) from ⟨?_, acc.toList, c', rv, by rw [e]⟩), rfl, q _ (I.hok.fresh (Nat.le_refl _))⟩
  unfold signsV
  rw [List.length_map, Array.length_toList]
  exact hz
def rListA (K : PySem.W.Frag) : List V → Hp → VK → Prop := fun xs H Q => (fun xs H Q => ∃ p ys, xs = [.ref p] ∧ (SqL K H p ys ∨ SqT K H p ys) ∧ ∀ l, H l = none → Q (.ref l) (upd H l (.lst ys))) xs H Q ∨
  (fun xs H Q => ∃ z, xs = [.str z] ∧ z.length ≤ sizeLine ∧ ∀ l, H l = none → Q (.ref l) (upd H l (.lst (signsV z)))) xs H Q
theorem cr_list (hc : X.calm = true) : CallR X (.type "list") (rListA X.K) := call_list_of.or (cr_listStr hc)
def rdListA : List D → (D → Prop) → Prop := fun ds Q => match ds with | [.lst xs] => Q (.lst xs) | [.tup xs] => Q (.lst xs) | [.str z] => z.length ≤ sizeLine ∧ Q (.lst (signsD z)) | _ => False
theorem cf_listA {K : PySem.W.Frag} : CallF K W (rListA K) rdListA := by
  intro Γ σ Hv H vs ds Q Q' E r h k
  unfold rdListA at h
  split at h
  · exact .inl (cf_list Γ σ Hv H vs _ Q Q' E r h k)
  · exact .inl (cf_list Γ σ Hv H vs _ Q Q' E r h k)
  · obtain ⟨v, rfl, rv⟩ := r.one
    cases rv
    refine .inr ⟨_, rfl, h.1, fun l hl => ?_⟩
    obtain ⟨s, F⟩ := E.stp.alloc0 (.lst _) hl
    exact k l _ (.lst _) Hv _ s hl upd_same ⟨_, rfl, rp_signs _⟩ F h.2
  · exact h.elim
/-- x or y, x a list -/
def rdOrT (da db : TDE) : TDE := fun Γ Q => da Γ fun d Γ1 => asL d fun ds => if ds.isEmpty = true then db Γ1 Q else Q (.lst ds) Γ1
theorem d_orT (ha : DE W X a ta da) (hb : DE W X (.BoolOp .Or (b :: rest) pos) tb db) : DE W X (.BoolOp .Or (a :: b :: rest) pos) (tOrT X.K ta tb) (rdOrT da db) := by
  refine ⟨pe_orT ha.pe hb.pe, fun Γ σ Hv H Q Q' E h k => ha.ad Γ σ Hv H _ _ E h fun v d Γ1 Hv1 H1 s1 r1 q => ?_⟩
  cases d <;> first | exact q.elim | skip
  rename_i ds
  have ra := r1
  cases r1 with
  | lst h1 r1 =>
    refine ⟨!ds.isEmpty, .inl ⟨_, .of (s1.ev.ret.sub.lst h1), ?_⟩, ?_⟩
    · cases r1 <;> rfl
    · cases ds with
      | nil =>
        dsimp only [asL] at q
        rw [if_pos (show ([] : List D).isEmpty = true from rfl)] at q
        rw [if_neg (show ¬ (!([] : List D).isEmpty) = true from by simp)]
        exact hb.ad Γ1 σ Hv1 H1 _ _ s1.ev q fun v d Γ2 Hv2 H2 s2 r2 q2 => k v d Γ2 Hv2 H2 (s1.trans s2) r2 q2
      | cons d0 r0 =>
        dsimp only [asL] at q
        rw [if_neg (show ¬ (d0 :: r0).isEmpty = true from by simp)] at q
        rw [if_pos (show (!(d0 :: r0).isEmpty) = true from rfl)]
        exact k _ _ Γ1 Hv1 H1 s1 ra q
def rdPar (i j : Nat) (dt : TDF) : TDS := fun E Γ => dt Γ fun ds Γ1 => match ds with | [d, e] => E.nx ((Γ1.set i (.dat d)).set j (.dat e)) | _ => False
def rdDic0 : TDE := fun Γ Q => Q (.dic [] []) Γ
theorem df_dic0 : DF W X (.Dict [] [] pos) tDNewK rdDic0 := ⟨pe_dnewK, fun Γ σ Hv H Q Q' E h k => fun q hq => by
  obtain ⟨s, F⟩ := E.stp.alloc0 (.dK []) hq
  exact k q _ (.dic [] []) _ _ _ s hq upd_same ⟨[], rfl, rfl, .nil⟩ F h⟩
def keyOf : D → Option Key
  | .int i => some (.inl i)
  | .str x => some (.inr x)
  | _ => none
theorem keyOf_rp {K : PySem.W.Frag} {H : Hp} {v : V} {d : D} {k : Key} (r : Rp K H v d) (h : keyOf d = some k) : v = kV k := by
  cases d <;> cases h <;> cases r <;> rfl
end
/-- the tables of code objects: those of T, and no others -/
def TabsI (T : List (Addr × Str)) (H : Hp) : Prop := LamX.Tabs T H ∧ ∀ a ps, H a = some (.tbl ps) → a ∈ T.map (·.1)
theorem TabsI.keep {T : List (Addr × Str)} {H H' : Hp} (h : TabsI T H) (v : ∀ a, a ∈ T.map (·.1) → H' a = H a) (x : Xt H H') (n : NT H H') : TabsI T H' := by
  refine ⟨fun p hp => ?_, fun a ps e => ?_⟩
  · obtain ⟨ps, h1, h2, h3⟩ := h.1 p hp
    refine ⟨ps, (v p.1 (List.mem_map.mpr ⟨p, hp, rfl⟩)).trans h1, h2, fun pos cv hc => ?_⟩
    obtain ⟨c, e, hco⟩ := h3 pos cv hc
    exact ⟨c, e, x _ _ hco⟩
  · obtain ⟨ps', q⟩ := n a ps e
    exact h.2 a ps' q
theorem TabsI.is {T : List (Addr × Str)} {H : Hp} (h : TabsI T H) {a : Addr} (m : a ∈ T.map (·.1)) : ∃ ps, H a = some (.tbl ps) := by
  obtain ⟨p, hp, rfl⟩ := List.mem_map.mp m
  obtain ⟨ps, q, _⟩ := h.1 p hp
  exact ⟨ps, q⟩
def DrawI (d c : Addr) (H : Hp) : Prop := d ≠ c ∧ ∃ (cells : List Int) (p m t : Int), H d = some (.lst [.ref c, .int p, .int m, .int t]) ∧ H c = some (.lst (cells.map V.int)) ∧ cells ≠ [] ∧ cells.length ≤ 63 ∧ (∀ x ∈ cells, 0 ≤ x) ∧ 0 ≤ p ∧ (0 ≤ m ∧ m < 2147483647) ∧ 0 ≤ t
def drawJ (T : List (Addr × Str)) (d c : Addr) : Vol where
  vol := fun a => (a = d ∨ a = c) ∨ a ∈ T.map (·.1)
  inv := fun H => DrawI d c H ∧ TabsI T H
  there := fun H a h v => by
    obtain ⟨⟨_, cells, p, m, t, h1, h2, _⟩, hT⟩ := h
    rcases v with (rfl | rfl) | v
    · rw [h1]; simp
    · rw [h2]; simp
    · obtain ⟨ps, q⟩ := hT.is v
      rw [q]; simp
  keep := fun H H' h v x k => by
    obtain ⟨⟨n, cells, p, m, t, h1, h2, h3⟩, hT⟩ := h
    exact ⟨⟨n, cells, p, m, t, (v d (.inl (.inl rfl))).trans h1, (v c (.inl (.inr rfl))).trans h2, h3⟩, hT.keep (fun a m => v a (.inr m)) x k⟩
/-- a promise that holds for some draw -/
def spV (K : PySem.W.Frag) (F : Addr → FD) : Sp := fun vs H Q E => ∃ T d c, spD (drawJ T d c) K (F d) vs H Q E
theorem fnV {P : Program} {w : World} {K : PySem.W.Frag} {mg : Str → Option Value} {base : Heap} {CX : CXT} {k : Nat} {f : Addr} {fd : FuncData} {ps : List Str} {F : Addr → FD}
    (h : ∀ T d c, FnOk P w K mg base CX k f fd ps (spD (drawJ T d c) K (F d))) : FnOk P w K mg base CX k f fd ps (spV K F) :=
  ⟨fun vs H Q E ⟨T, d, c, q⟩ => (h T d c).len vs H Q E q, fun A o s H a us vs Q E hr e0 hb r ⟨T, d, c, q⟩ => (h T d c).run A o s H a us vs Q E hr e0 hb r q⟩
section
variable {W : Wc} {X : Cx} {e : Expr} {es : List Expr} {t : TA} {dt : TDF} {p pos : Pos} {x : Str} {CX : CXT} {k : Nat} {f : Addr} {fd : FuncData} {ps : List Str} {F : Addr → FD} {dvs : List V} {dds : List D} {ds : List Value} {E : XK} {d c : Addr} {T : List (Addr × Str)}
theorem ad_callV {K : PySem.W.Frag} (hJ : W.J = drawJ T d c) (hdd : ∀ H, RpAll K H dvs dds) (h : AdA K W t dt) : Ad K W (tCall (spV K F) dvs E t) (rdCall (F d) dds dt) := fun Γ σ Hv H Q Q' Z hw k => by
  have q := ad_call (F := F d) (E := E) hdd h Γ σ Hv H Q Q' Z hw k
  refine h Γ σ Hv H _ _ Z hw fun vs ds Γ1 Hv1 H1 s1 r1 q => ⟨T, d, c, ?_⟩
  rw [← hJ]
  exact ⟨Hv1, ds ++ dds, _, s1.ev.ret.sub, s1.ev.ret.inv, s1.ev.ret.nv, r1.append (hdd _), q, fun v d Hv2 H2 R r2 q2 => k v d Γ1 Hv2 H2 (s1.after R) r2 q2⟩
theorem d_callV (G : FnOk X.prog X.w X.K X.mg X.base CX k f fd ps (spV X.K F)) (hJ : W.J = drawJ T d c) (hr : Room k X.A) (hg : Gl X x) (hm : X.mg x = some (.ref f)) (hk : PySem.W.keepIn X.K (.ref f) = true) (hb : Binds X.K fd ps ds) (hd : Vals dvs ds) (hdd : ∀ H, RpAll X.K H dvs dds) (hx : Passes CX X E)
    (ha : DA W X (e :: es) t dt) (hdb : (x == ("__debug__" : Str)) = false := by decide) (he : starEach (e :: es) X.env = (false, eval e X.env) :: starEach es X.env := by rfl) (hpl : (backTo pos (starEach es X.env)).any (·.1) = false := by rfl) :
    DE W X (.Call (.Name x p) (e :: es) [] pos) (tCall (spV X.K F) dvs E t) (rdCall (F d) dds dt) :=
  ⟨pe_call G hr hg hm hk hb hd hx ha.pa hdb he hpl, ad_callV hJ hdd ha.ad⟩
end
/-- _law_take(draw, many) -/
def Ftake (d : Addr) : FD := fun ds Q => ∃ n : Int, ds = [.ref d, .int n] ∧ (0 < n ∧ n < 1073741824) ∧ ∀ r : Int, 0 ≤ r → r < n → Q (.int r)
def FpickS (d : Addr) : FD := fun ds Q => (∃ xs : List D, ds = [.ref d, .lst xs] ∧ xs ≠ [] ∧ xs.length < 1000 ∧ ∀ x ∈ xs, Q x) ∨ ∃ z : Str, ds = [.ref d, .str z] ∧ z.length ≠ 0 ∧ z.length < 1000 ∧ ∀ c ∈ z.cps.toList, Q (.str ⟨#[c]⟩)
/-- the draw's list and cells are changed -/
theorem draw_step {d c : Addr} {H : Hp} {cells : List Int} {p m t : Int} (n : d ≠ c) (h1 : H d = some (.lst [.ref c, .int p, .int m, .int t])) (h2 : H c = some (.lst (cells.map V.int))) (h3 : cells ≠ []) (h4 : cells.length ≤ 63) (h5 : ∀ x ∈ cells, 0 ≤ x) (h6 : 0 ≤ p) (h7 : 0 ≤ m ∧ m < 2147483647) (h8 : 0 ≤ t) : DrawI d c H :=
  ⟨n, cells, p, m, t, h1, h2, h3, h4, h5, h6, h7, h8⟩
end VL
set_option Elab.async false
set_option linter.all false
set_option maxRecDepth 100000
set_option maxHeartbeats 4000000
namespace VL
open PySem PySem.Spec L2
open PyProof.Rows hiding St
/-- _law_begin(script) -/
def Fbegin : FD := fun ds Q => ∃ ns : List Int, ds = [.fz ns] ∧ ∀ cells : List Int, cells ≠ [] → cells.length ≤ 63 → (∀ x ∈ cells, 0 ≤ x) → Q (.lst [.lst (cells.map D.int), .int 0, .int 1, .int 0])
theorem len_begin {ds : List D} {Q : D → Prop} (h : Fbegin ds Q) : ds.length = 1 := by
  obtain ⟨ns, rfl, _⟩ := h
  rfl
theorem len_take {d : Addr} {ds : List D} {Q : D → Prop} (h : Ftake d ds Q) : ds.length = 2 := by
  obtain ⟨n, rfl, _⟩ := h
  rfl
theorem len_pickS {d : Addr} {ds : List D} {Q : D → Prop} (h : FpickS d ds Q) : ds.length = 2 := by
  rcases h with ⟨n, rfl, _⟩ | ⟨n, rfl, _⟩ <;> rfl
/-- the heap tracks at most the script and the tables of T -/
def OnlyT (T : List (Addr × Str)) (H : Hp) : Prop := ∀ b, H b = none ∨ b ∈ T.map (·.1) ∨ ∃ o xs, H b = some (.frz o (.lst xs))
/-- what the script's law is asked -/
def spLaw (T : List (Addr × Str)) (K : PySem.W.Frag) : Sp := fun vs H Q _ => ∃ (a : Addr) (ns : List Int), vs = [.ref a] ∧ SqL K H a (ns.map V.int) ∧ ns.length ≤ 63 ∧ OnlyT T H ∧ TabsI T H ∧ ∀ H', Q (.bl true) H'
theorem tabs0 {H : Hp} (hO : Only H) : TabsI [] H := ⟨fun _ hp => by (cases hp), fun a ps e => by
  rcases hO a with q | ⟨o, xs, q⟩
  · rw [q] at e; cases e
  · rw [q] at e; cases e⟩
theorem law_start {K : PySem.W.Frag} {H : Hp} {a : Addr} {ns : List Int} (hl : ns.length ≤ 63) (hO : Only H) (hS : SqL K H a (ns.map V.int)) : spLaw [] K [.ref a] H (fun v _ => v = .bl true) fun _ _ _ => False :=
  ⟨a, ns, rfl, hS, hl, fun b => (hO b).elim .inl fun q => .inr (.inr q), tabs0 hO, fun _ => rfl⟩
/-- an address above all of T -/
def topT : List (Addr × Str) → Nat
  | [] => 0
  | p :: T => max (p.1 + 1) (topT T)
theorem topT_lt : ∀ {T : List (Addr × Str)} {a : Addr}, a ∈ T.map (·.1) → a < topT T
  | [], _, h => by cases h
  | p :: T, a, h => by
    rw [List.map_cons] at h
    rcases List.mem_cons.mp h with e | e
    · rw [e]; exact Nat.lt_of_lt_of_le (Nat.lt_succ_self _) (Nat.le_max_left _ _)
    · exact Nat.lt_of_lt_of_le (topT_lt e) (Nat.le_max_right _ _)
/-- some state with a draw -/
def W1 (T : List (Addr × Str)) : Wc where
  J := drawJ T (topT T) (topT T + 1)
  H0 := fun x => if x = topT T then some (.lst [.ref (topT T + 1), .int 0, .int 0, .int 0]) else if x = topT T + 1 then some (.lst [.int 0]) else if x ∈ T.map (·.1) then some (.tbl #[]) else none
  Hv0 := fun _ => none
  inv0 := by
    have n1 : topT T + 1 ≠ topT T := Nat.succ_ne_self _
    refine ⟨⟨fun z => n1 z.symm, [0], 0, 0, 0, if_pos rfl, (if_neg n1).trans (if_pos rfl), by decide, by decide, by decide, by decide, by decide, by decide⟩, fun p hp => ?_, fun a ps e => ?_⟩
    · have m : p.1 ∈ T.map (·.1) := List.mem_map.mpr ⟨p, hp, rfl⟩
      have l := topT_lt m
      exact LamX.TabS.nil ((if_neg (Nat.ne_of_lt l)).trans ((if_neg (Nat.ne_of_lt (Nat.lt_succ_of_lt l))).trans (if_pos m)))
    · dsimp only at e
      by_cases h1 : a = topT T
      · rw [if_pos h1] at e; cases e
      · rw [if_neg h1] at e
        by_cases h2 : a = topT T + 1
        · rw [if_pos h2] at e; cases e
        · rw [if_neg h2] at e
          by_cases h3 : a ∈ T.map (·.1)
          · exact h3
          · rw [if_neg h3] at e; cases e
  sub0 := fun _ _ h => by cases h
  nv0 := fun _ _ => rfl
theorem rp_ints_inv {K : PySem.W.Frag} {H : Hp} : ∀ (ns : List Int) {vs : List V}, RpAll K H vs (ns.map D.int) → vs = ns.map V.int
  | [], _, h => by cases h; rfl
  | n :: ns, _, h => by
    cases h with
    | cons a h =>
      cases a
      rw [rp_ints_inv ns h]
      rfl
/-- the law's body: _law_draw = _law_begin(_law_script), then the rest -/
theorem law_body {T : List (Addr × Str)} {K : PySem.W.Frag} {ts : TS} {td : Addr → TDS} {N : List Str} {m : Nat} {E0' : XK} (hN : N.length = m + 2) (had : ∀ W d c, W.J = drawJ T d c → AdS K W ts (td d))
    (fin : ∀ d ns, ns.length ≤ 63 → td d { nx := fun _ => False, rt := fun r => r = .bl true } (.dat (.fz ns) :: .dat (.ref d) :: List.replicate m .no))
    {vs : List V} {H : Hp} {Q : VK} {E : XK} (h : spLaw T K vs H Q E) :
    tSeq (tAsg (tCall (spD Vol.no K Fbegin) [] E0' (tCons (tVar 0) tNil)) (gName 1)) ts { nx := fun _ H' => Q .non H', rt := Q } (L2.start N vs) H := by
  obtain ⟨a, ns, rfl, hS, hl, hO, hT, out⟩ := h
  let Z0 : Hp := fun b => if b ∈ T.map (·.1) then none else H b
  have zT : ∀ b, b ∈ T.map (·.1) → Z0 b = none := fun b hb => if_pos hb
  have zN : ∀ b, b ∉ T.map (·.1) → Z0 b = H b := fun b hb => if_neg hb
  have zS : ∀ b o, Z0 b = some o → H b = some o := fun b o e => by
    by_cases hb : b ∈ T.map (·.1)
    · rw [zT b hb] at e; cases e
    · rw [zN b hb] at e; exact e
  have zO : ∀ b o, H b = some o → (∀ ps, o ≠ .tbl ps) → Z0 b = some o := fun b o e n => by
    by_cases hb : b ∈ T.map (·.1)
    · obtain ⟨ps, q⟩ := hT.is hb
      rw [q] at e
      exact absurd (Option.some.inj e).symm (n ps)
    · rw [zN b hb]; exact e
  have hS' : SqL K Z0 a (ns.map V.int) := by
    rcases hS with (h | ⟨o, h⟩) | h
    · exact .inl (.inl (zO _ _ h fun _ z => by cases z))
    · exact .inl (.inr ⟨o, zO _ _ h fun _ z => by cases z⟩)
    · exact .inr h
  refine ⟨.ref a, rfl, ?_⟩
  refine ⟨Z0, [.fz ns], fun r => ∃ cells : List Int, r = .lst [.lst (cells.map D.int), .int 0, .int 1, .int 0] ∧ cells ≠ [] ∧ cells.length ≤ 63 ∧ ∀ x ∈ cells, 0 ≤ x, fun b o e => .inl (zS b o e), trivial, fun _ z => z.elim, .cons (.fz hS') .nil, ⟨ns, rfl, fun cells h1 h2 h3 => ⟨cells, rfl, h1, h2, h3⟩⟩, ?_⟩
  rintro v r Hv' H' R rv ⟨cells, rfl, h1, h2, h3⟩
  cases rv with
  | lst hd rs =>
    rename_i d vs
    cases rs with
    | cons rc rs =>
      cases rc with
      | lst hc rcs =>
        rename_i c cvs
        cases rs with
        | cons r0 rs =>
          cases r0
          cases rs with
          | cons r1 rs =>
            cases r1
            cases rs with
            | cons r2 rs =>
              cases r2
              cases rs
              have ec := rp_ints_inv cells rcs
              subst ec
              have Hd : H' d = some (.lst [.ref c, .int 0, .int 1, .int 0]) := R.sub.lst hd
              have Hc : H' c = some (.lst (cells.map V.int)) := R.sub.lst hc
              have stay : ∀ b o, H b = some o → H' b = some o := fun b o e => by
                by_cases hb : b ∈ T.map (·.1)
                · exact R.old b o e (zT b hb) fun z => z
                · refine R.sub.at (R.sv.at ((zN b hb).trans e) fun kvs z => ?_) fun kvs z => ?_
                  · rcases hO b with q | q | ⟨ob, ys, q⟩
                    · rw [q] at e; cases e
                    · exact hb q
                    · rw [q] at e; cases e; cases z
                  · rcases hO b with q | q | ⟨ob, ys, q⟩
                    · rw [q] at e; cases e
                    · exact hb q
                    · rw [q] at e; cases e; cases z
              have dc : d ≠ c := by
                rintro rfl
                rw [hd] at hc
                have z := HO.lst.inj (Option.some.inj hc)
                cases cells with
                | nil => cases z
                | cons x r => cases z
              have free : ∀ b xs, H' b = some (.lst xs) → Z0 b = none := by
                intro b xs e
                rcases hO b with z | z | ⟨o, ys, z⟩
                · by_cases hb : b ∈ T.map (·.1)
                  · exact zT b hb
                  · rw [zN b hb]; exact z
                · exact zT b z
                · rw [stay b _ z] at e
                  cases e
              have hT' : TabsI T H' := hT.keep (fun b m => by
                obtain ⟨ps, q⟩ := hT.is m
                rw [q]; exact stay b _ q) (fun b φ e => stay b _ e) R.nt
              let W : Wc :=
                { J := drawJ T d c, H0 := H', Hv0 := Z0, inv0 := ⟨draw_step dc Hd Hc h1 h2 h3 (by decide) (by decide) (by decide), hT'⟩, sub0 := fun b o e => .inl (stay b o (zS b o e)),
                  nv0 := fun b v => by
                    rcases v with (rfl | rfl) | v
                    · exact free _ _ Hd
                    · exact free _ _ Hc
                    · exact zT b v }
              have hst : (L2.start N [.ref a]).set 1 (some (.ref d)) = some (.ref a) :: some (.ref d) :: List.replicate m none := by
                unfold L2.start
                rw [hN]
                show (some (V.ref a) :: List.replicate (m + 2 - 1) none).set 1 (some (V.ref d)) = _
                rw [show m + 2 - 1 = m + 1 from rfl, List.replicate_succ]
                rfl
              show ts { nx := fun _ H' => Q .non H', rt := Q } ((L2.start N [.ref a]).set 1 (some (.ref d))) H'
              rw [hst]
              have slots : ∀ (i : Nat) (sl : Sl), (Sl.dat (.fz ns) :: .dat (.ref d) :: List.replicate m .no)[i]? = some sl → sl.isOwn = false ∧ SlOk K W Z0 H' sl (((some (V.ref a) :: some (.ref d) :: List.replicate m none : L2.St))[i]?.join) := by
                intro i sl e
                match i with
                | 0 => cases e; exact ⟨rfl, _, rfl, .fz hS'⟩
                | 1 => cases e; exact ⟨rfl, _, rfl, .ref _⟩
                | i + 2 =>
                  have e' : (List.replicate m Sl.no)[i]? = some sl := e
                  obtain ⟨_, e2⟩ := List.getElem?_eq_some_iff.mp e'
                  rw [List.getElem_replicate] at e2
                  subst e2
                  exact ⟨rfl, trivial⟩
              have Z : Ev K W (.dat (.fz ns) :: .dat (.ref d) :: List.replicate m .no) (some (.ref a) :: some (.ref d) :: List.replicate m none) Z0 H' :=
                ⟨⟨.refl _, fun b o e => .inl (stay b o (zS b o e)), fun _ _ e _ _ => e, W.inv0, W.nv0, fun _ z _ => z, NT.refl _⟩, by simp, fun i sl e => (slots i sl e).2, fun i j sl sl' b ne e1 e2 o1 => by rw [(slots i sl e1).1] at o1; cases o1⟩
              refine had W d c rfl _ _ Z0 H' _ _ Z (fin d ns hl) ⟨fun _ _ _ _ _ q => q.elim, fun v r Γ' σ' Hv' H' s rv q => ?_, fun _ _ _ _ _ q => q.elim, fun _ _ _ _ _ q => q.elim, fun _ _ _ _ _ _ _ _ _ _ _ _ q => q.elim⟩
              have q' : r = .bl true := q
              subst q'
              cases rv
              exact out _
end VL
set_option Elab.async false
set_option linter.all false
set_option maxRecDepth 100000
set_option maxHeartbeats 4000000
namespace VL
open PySem PySem.Spec L2
open PyProof.Rows hiding St
theorem noOwn_of {Γ : Gm} {vs : List Nat} (h : (vs.all fun i => !((Γ[i]?.map Sl.isOwn).getD false)) = true) : noOwn Γ vs := fun v hv s e => by
  have := List.all_eq_true.mp h v hv
  rw [e] at this
  simpa using this
/-- a loop by an invariant over what is left -/
theorem goFor_inv {gd : TDG} {tb : TDS} {E : EndsD} (P : Gm → Prop) : ∀ (L : List D) (Γ : Gm), P Γ →
    (∀ d ∈ L, ∀ Γ, P Γ → ∀ N : Gm → Prop, (∀ Γ', P Γ' → N Γ') → gd d Γ fun Γ2 => tb { E with nx := N, ct := N, bk := E.nx } Γ2) → (∀ Γ, P Γ → E.nx Γ) → goFor gd tb E L Γ
  | [], Γ, h, _, q => q Γ h
  | d :: L, Γ, h, hs, q => hs d List.mem_cons_self Γ h _ fun Γ' h' => goFor_inv P L Γ' h' (fun d hd => hs d (List.mem_cons_of_mem _ hd)) q
end VL
set_option Elab.async false
set_option linter.all false
set_option maxRecDepth 100000
set_option maxHeartbeats 4000000
namespace VL
open PySem PySem.Spec L2
open PyProof.Rows hiding St
section
variable {W : Wc} {X : Cx} {e : Expr} {te : TE} {de : TDE} {x : Str} {p apos cpos : Pos} {i : Nat}
theorem d_append (he : DE W X e te de) (hN : X.N[i]? = some x := by rfl) (hv : Vis X.env.scope x := by first | exact Or.inl rfl | exact Or.inr (Or.inl rfl) | exact Or.inr (Or.inr rfl)) (hd : (x == ("__debug__" : Str)) = false := by decide)
    (hcd : (x == ("__classdict__" : Str)) = false := by decide) (hbase : attributeBase (.Name x p) "append" X.env (eval (.Name x p) X.env) = eval (.Name x p) X.env := by rfl)
    (hfew : ((backTo cpos (starEach [e] X.env)).all (fun x => !x.1) && (backToKw cpos (keywordEach [] X.env)).all (fun x => x.1.isSome)
      && decide ([e].length + ([] : List Keyword).length + (if ([] : List Keyword).isEmpty then 0 else 1) < 30)) = true := by rfl)
    (hline : (apos.endLine == cpos.line) = true := by rfl) (hs : starEach [e] X.env = (false, eval e X.env) :: starEach [] X.env := by rfl) (hplain : (backTo cpos (starEach [] X.env)).any (·.1) = false := by rfl) :
    DE W X (.Call (.Attribute (.Name x p) "append" apos) [e] [] cpos) (tBM X.K "list" rAppend (tVar i) (tCons te tNil)) (rdApp i de) :=
  ⟨pe_bm PySem.F.plainAttrs_list PySem.F.slot_list_append PySem.F.type_list_append mt_append (pe_var hN hv hd hcd) (pa_cons he.pe pa_nil hs) hbase hfew hline hs hplain, ad_app he.ad⟩
end
/-- a comprehension with one name over the data of xs -/
theorem goLc_a {α : Type} {tt : TDT} {te : TDE} {i : Nat} {Q : D → Gm → Prop} {Γ : Gm} (g : α → D) (p : α → Bool) (f : α → D) (hi : i < Γ.length) : ∀ (L : List α) (acc : List D), acc.length + L.length ≤ sizeLine →
    (∀ a ∈ L, ∀ k : Bool → Gm → Prop, k (p a) (Γ.set i (.dat (g a))) → tt (Γ.set i (.dat (g a))) k) →
    (∀ a ∈ L, p a = true → ∀ k : D → Gm → Prop, k (f a) (Γ.set i (.dat (g a))) → te (Γ.set i (.dat (g a))) k) →
    Q (.lst (acc ++ (L.filter p).map f)) Γ → goLc (rgName i) tt te [i] Q (L.map g) acc Γ
  | [], acc, _, _, _, q => by
    rw [List.filter_nil, List.map_nil, List.append_nil] at q
    exact q
  | d :: L, acc, hl, ht, he, q => by
    have eb : ∀ s : Sl, backG Γ (Γ.set i s) [i] = Γ := fun s => by
      show (Γ.set i s).set i ((Γ[i]?).getD .no) = Γ
      rw [List.set_set, List.getElem?_eq_getElem hi]
      exact List.set_getElem_self hi
    show tt ((Γ.set i .no).set i (.dat (g d))) _
    rw [List.set_set]
    refine ht d List.mem_cons_self _ ?_
    rw [List.length_cons] at hl
    cases hp : p d with
    | false =>
      rw [if_neg Bool.false_ne_true, eb]
      rw [List.filter_cons_of_neg (by rw [hp]; exact Bool.false_ne_true)] at q
      exact goLc_a g p f hi L acc (by omega) (fun d h => ht d (List.mem_cons_of_mem _ h)) (fun d h => he d (List.mem_cons_of_mem _ h)) q
    | true =>
      rw [if_pos rfl]
      refine he d List.mem_cons_self hp _ ⟨by omega, ?_⟩
      rw [eb]
      rw [List.filter_cons_of_pos hp, List.map_cons] at q
      refine goLc_a g p f hi L (acc ++ [f d]) (by rw [List.length_append]; show acc.length + 1 + L.length ≤ _; omega) (fun d h => ht d (List.mem_cons_of_mem _ h)) (fun d h => he d (List.mem_cons_of_mem _ h)) ?_
      rw [List.append_assoc]
      exact q
theorem goLc_b {α : Type} {te : TDE} {i : Nat} {Q : D → Gm → Prop} {Γ : Gm} (g : α → D) (f : α → D) (hi : i < Γ.length) (L : List α) (hl : L.length ≤ sizeLine)
    (he : ∀ a ∈ L, ∀ k : D → Gm → Prop, k (f a) (Γ.set i (.dat (g a))) → te (Γ.set i (.dat (g a))) k) (q : Q (.lst (L.map f)) Γ) : goLc (rgName i) (fun Γ Q => Q true Γ) te [i] Q (L.map g) [] Γ := by
  refine goLc_a g (fun _ => true) f hi L [] (by show 0 + L.length ≤ _; omega) (fun _ _ _ h => h) (fun d h _ => he d h) ?_
  rw [List.filter_eq_self.mpr fun _ _ => rfl]
  exact q
theorem asBs_maps {α : Type} (L : List α) (p : α → Bool) : asBs (L.map fun a => D.bl (p a)) = some (L.map p) := by
  induction L with
  | nil => rfl
  | cons b r ih => show (asBs (r.map _)).map (p b :: ·) = _; rw [ih]; rfl
theorem all_id {α : Type} (L : List α) (p : α → Bool) : (L.map p).all id = L.all p := by
  rw [List.all_map]; rfl
theorem lenS (z : Str) : z.cps.toList.length = z.length := Array.length_toList
theorem take_min {α : Type} (xs : List α) (k n : Nat) (h : xs.length = n) : xs.take (min k n) = xs.take k := by
  by_cases q : k ≤ n
  · rw [Nat.min_eq_left q]
  · rw [Nat.min_eq_right (by omega), List.take_of_length_le (by omega), List.take_of_length_le (by omega)]
theorem cutD_to (xs : List D) (k : Nat) : cutD xs none (some (k : Int)) = xs.take k := by
  show ((xs.drop 0).take (HT.sIx xs.length xs.length (some (k : Int)) - 0)) = _
  rw [HT.sIx_nat, List.drop_zero, Nat.sub_zero, take_min _ _ _ rfl]
theorem atI_n {α : Type} (xs : List α) (k : Nat) : atI xs (k : Int) = xs[k]? := by
  unfold atI ixN
  by_cases h : k < xs.length
  · rw [if_pos (Int.natCast_nonneg k), if_pos (by omega)]
    rfl
  · rw [if_pos (Int.natCast_nonneg k), if_neg (by omega), List.getElem?_eq_none (by omega)]
    rfl
theorem pickS_lst {d : Addr} {xs : List D} {Q : D → Prop} (h1 : xs ≠ []) (h2 : xs.length < 1000) (q : ∀ x ∈ xs, Q x) : FpickS d [.ref d, .lst xs] Q := .inl ⟨xs, rfl, h1, h2, q⟩
theorem take_ok {d : Addr} {n : Int} {Q : D → Prop} (h1 : 0 < n) (h2 : n < 1073741824) (q : ∀ r : Nat, (r : Int) < n → Q (.int r)) : Ftake d [.ref d, .int n] Q := ⟨n, rfl, ⟨h1, h2⟩, fun r h3 h4 => by
  have := q r.toNat (by omega)
  rw [Int.toNat_of_nonneg h3] at this
  exact this⟩
def okN (n : Nat) (d : D) : Prop := pl d = true ∧ PyData.canLay0 (py d) = true ∧ PyData.depth (py d) ≤ n
theorem okN.e {n : Nat} {d : D} (h : okN n d) (hn : n ≤ 64) : okE d := ⟨h.1, by
  show (PyData.canLay0 (py d) && decide (PyData.depth (py d) ≤ 64)) = true
  rw [h.2.1, decide_eq_true (Nat.le_trans h.2.2 hn)]
  rfl⟩
theorem okN.up {n m : Nat} {d : D} (h : okN n d) (hn : n ≤ m) : okN m d := ⟨h.1, h.2.1, Nat.le_trans h.2.2 hn⟩
theorem okN_non : okN 0 .non := ⟨rfl, rfl, Nat.le_refl _⟩
theorem okN_bl (b : Bool) : okN 0 (.bl b) := ⟨rfl, rfl, Nat.le_refl _⟩
theorem okN_int (i : Int) : okN 0 (.int i) := ⟨rfl, rfl, Nat.le_refl _⟩
theorem okN_str {z : Str} (h : PyData.strOk z = true) : okN 0 (.str z) := ⟨rfl, h, Nat.le_refl _⟩
theorem okN_all {n : Nat} : ∀ {ds : List D}, (∀ d ∈ ds, okN n d) → plAll ds = true ∧ PyData.canLayAll0 (pyAll ds) = true ∧ PyData.depthAll (pyAll ds) ≤ n
  | [], _ => ⟨rfl, rfl, Nat.zero_le _⟩
  | d :: ds, h => by
    obtain ⟨a1, a2, a3⟩ := h d List.mem_cons_self
    obtain ⟨b1, b2, b3⟩ := okN_all fun d hd => h d (List.mem_cons_of_mem _ hd)
    unfold plAll pyAll
    simp only [PyData.canLayAll0, PyData.depthAll, a1, a2, b1, b2, Bool.and_self, true_and]
    omega
theorem okN_lst {n : Nat} {ds : List D} (h : ∀ d ∈ ds, okN n d) : okN (n + 1) (.lst ds) := by
  obtain ⟨b1, b2, b3⟩ := okN_all h
  refine ⟨b1, ?_, ?_⟩
  · unfold py; simp only [PyData.canLay0]; exact b2
  · unfold py; simp only [PyData.depth]; omega
theorem okN_tup {n : Nat} {ds : List D} (h : ∀ d ∈ ds, okN n d) : okN (n + 1) (.tup ds) := by
  obtain ⟨b1, b2, b3⟩ := okN_all h
  refine ⟨b1, ?_, ?_⟩
  · unfold py; simp only [PyData.canLay0]; exact b2
  · unfold py; simp only [PyData.depth]; omega
theorem eqD_nil (ds : List D) : eqD (.lst ds) (.lst []) = ds.isEmpty := by
  cases ds with
  | nil => rfl
  | cons d r =>
    show PyData.eqv (py (.lst (d :: r))) (py (.lst [])) = false
    unfold py pyAll
    simp only [PyData.eqv, PyData.eqvAll]
theorem strOk_all {z : Str} : PyData.strOk z = true ↔ ∀ c ∈ z.cps.toList, c < 1114112 := by
  unfold PyData.strOk
  rw [Array.all_eq_true']
  simp only [Array.mem_toList_iff, decide_eq_true_eq]
end VL
set_option Elab.async false
set_option linter.all false
set_option maxRecDepth 100000
set_option maxHeartbeats 4000000
namespace VL
open PySem PySem.Spec L2
open PyProof.Rows hiding St
def rInt1 : List V → Hp → VK → Prop := fun xs H Q => (∃ i, xs = [.int i] ∧ Q (.int i) H) ∨ ∃ k, xs = [.bl k] ∧ Q (.int (if k then 1 else 0)) H
def rMod : R2 := rI (fun _ j => 0 < j) fun i j => .int (i % j)
def tIt (K : PySem.W.Frag) (t : TE) (i : Int) : TE := tOp (rIx K) t (tC (.int i))
def tI1 (t : TE) : TE := tCB rInt1 (tCons t tNil)
def rAddI : R2 := rI0 fun i j => .int (i + j)
def rMulI : R2 := rI CMul fun i j => .int (i * j)
def tTake (K : PySem.W.Frag) : TS :=
  tSeq (tAsg (tIt K (tVar 0) 0) (gName 2)) <|
  tSeq (tAsg (tOp rMod (tI1 (tIt K (tVar 0) 1)) (tCB (rLenA K) (tCons (tVar 2) tNil))) (gName 3)) <|
  tSeq (tAsg (tOp (rIx K) (tVar 2) (tVar 3)) (gName 4)) <|
  tSeq (tIfS (tTest (tOp (rI0 fun i j => .bl (decide (j ≤ i))) (tVar 4) (tOp (rI CPow fun i j => .int (i ^ j.toNat)) (tC (.int 10)) (tC (.int 18)))))
    (tSeq (tAsg (tOp (rI CDiv fun i j => .int (i / j)) (tVar 4) (tVar 1)) (gSub (tVar 2) (tVar 3) rSetL)) (tRet (tOp rMod (tI1 (tVar 4)) (tVar 1)))) tNext) <|
  tSeq (tAsg (tOp rAddI (tIt K (tVar 0) 1) (tC (.int 1))) (gSub (tVar 0) (tC (.int 1)) rSetL)) <|
  tSeq (tAsg (tOp rAddI (tIt K (tVar 0) 3) (tC (.int 1))) (gSub (tVar 0) (tC (.int 3)) rSetL)) <|
  tSeq (tAsg (tOp rMod (tI1 (tOp rAddI (tOp rAddI (tOp rAddI (tOp rMulI (tIt K (tVar 0) 2) (tC (.int 48271))) (tVar 4)) (tOp rMulI (tC (.int 7919)) (tIt K (tVar 0) 3))) (tC (.int 12345)))) (tC (.int 2147483647))) (gSub (tVar 0) (tC (.int 2)) rSetL)) <|
  tSeq (tAsg (tOp rMod (tI1 (tOp rMulI (tIt K (tVar 0) 2) (tIt K (tVar 0) 2))) (tC (.int 2147483629))) (gName 5)) <|
  tRet (tOp rMod (tI1 (tOp (rI CDiv fun i j => .int (i / j)) (tVar 5) (tC (.int 16)))) (tVar 1))
section
variable {K : PySem.W.Frag}
theorem it_ok {H : Hp} {σ : L2.St} {a : Addr} {xs : List V} {v : V} {Q : VK} {i : Nat} {t : TE} (ht : ∀ Q' : VK, Q' (.ref a) H → t σ H Q') (h : H a = some (.lst xs)) (e : xs[i]? = some v) (q : Q v H) : tIt K t (i : Int) σ H Q :=
  ht _ (.inl ⟨a, xs, _, v, rfl, rfl, .of h, by rw [atI_n]; exact e, q⟩)
theorem var_ok {H : Hp} {σ : L2.St} {v : V} {i : Nat} {Q : VK} (e : σ[i]? = some (some v)) (q : Q v H) : tVar i σ H Q := ⟨v, e, q⟩
theorem draw_ret {T : List (Addr × Str)} {d c : Addr} {Hv H H' : Hp} {W : Vol} (hW : W = drawJ T d c) (sub : Sub Hv H) (iv : W.inv H) (nv : ∀ a, W.vol a → Hv a = none) (same : ∀ a, a ≠ d → a ≠ c → H' a = H a) (inv : DrawI d c H') : Ret W.vol W.inv Hv H Hv H' := by
  subst hW
  obtain ⟨⟨dc, cells, p, m, t, h1, h2, _⟩, hT⟩ := iv
  have inv0 := inv
  obtain ⟨_, cells', p', m', t', g1, g2, _⟩ := inv0
  have off : ∀ a u, H a = some u → (∀ xs, u ≠ .lst xs) → H' a = some u := fun a u e n => by
    rw [same a (fun z => n _ (Option.some.inj (e.symm.trans (by rw [z]; exact h1)))) (fun z => n _ (Option.some.inj (e.symm.trans (by rw [z]; exact h2))))]
    exact e
  have nt : NT H H' := fun a ps e => by
    by_cases z1 : a = d
    · rw [z1, g1] at e; cases e
    · by_cases z2 : a = c
      · rw [z2, g2] at e; cases e
      · exact ⟨ps, (same a z1 z2).symm.trans e⟩
  have hT' : TabsI T H' := hT.keep (fun a m => by
    obtain ⟨ps, q⟩ := hT.is m
    rw [q]
    exact off a _ q fun _ z => by cases z) (fun a φ e => off a _ e fun _ z => by cases z) nt
  refine ⟨.refl _, fun a u e => ?_, fun a u e _ n => ?_, ⟨inv, hT'⟩, nv, fun _ z _ => z, nt⟩
  · have n1 : a ≠ d := by rintro rfl; rw [nv _ (.inl (.inl rfl))] at e; cases e
    have n2 : a ≠ c := by rintro rfl; rw [nv _ (.inl (.inr rfl))] at e; cases e
    rw [same a n1 n2]; exact sub _ _ e
  · rw [same a (fun z => n (.inl (.inl z))) (fun z => n (.inl (.inr z)))]; exact e
theorem mod_ok {H : Hp} {i j : Int} {Q : VK} (h : 0 < j) (q : Q (.int (i % j)) H) : rMod (.int i) (.int j) H Q := ⟨i, j, rfl, rfl, h, q⟩
theorem take_sem {T : List (Addr × Str)} {d c : Addr} {N : List Str} (hN : N.length = 6) {vs : List V} {H : Hp} {Q : VK} {E : XK} (h : spD (drawJ T d c) K (Ftake d) vs H Q E) : tTake K { nx := fun _ H' => Q .non H', rt := Q } (L2.start N vs) H := by
  obtain ⟨Hv, ds, Qd, sub, iv, nv, r, hf, out⟩ := h
  have iv0 := iv
  obtain ⟨⟨dc, cells, p, m, t, h1, h2, h3, h4, h5, h6, h7, h8⟩, _⟩ := iv0
  obtain ⟨n, rfl, ⟨hn1, hn2⟩, hq⟩ := hf
  obtain ⟨v, w, rfl, rv, rw'⟩ := r.two
  cases rv; cases rw'
  have hst : L2.start N [.ref d, .int n] = [some (.ref d), some (.int n), none, none, none, none] := by
    unfold L2.start
    rw [hN]; rfl
  rw [hst]
  have fin : ∀ (r : Int) (H' : Hp), 0 ≤ r → r < n → (∀ a, a ≠ d → a ≠ c → H' a = H a) → DrawI d c H' → Q (.int r) H' := fun r H' a1 a2 a3 a4 => out (.int r) (.int r) Hv H' (draw_ret rfl sub iv nv a3 a4) (.int r) (hq r a1 a2)
  have hcl : 0 < cells.length := List.length_pos_iff.mpr h3
  simp only [tTake, tSeq, tAsg, gName, tOp, tIfS, tTest, gSub, tRet, tI1, tCB, tCons, tNil, tC, List.set]
  refine it_ok (i := 0) (fun Q' q => var_ok rfl q) h1 rfl ?_
  refine it_ok (i := 1) (fun Q' q => var_ok rfl q) h1 rfl ?_
  refine Or.inl ⟨p, rfl, ?_⟩
  refine var_ok (v := .ref c) rfl ?_
  refine Or.inl ⟨c, _, rfl, Or.inl (.of h2), ?_⟩
  rw [List.length_map]
  refine mod_ok (by omega) ?_
  have pl0 : 0 ≤ p % (cells.length : Int) := Int.emod_nonneg _ (by omega)
  have pl1 : p % (cells.length : Int) < cells.length := Int.emod_lt_of_pos _ (by omega)
  obtain ⟨i, hi⟩ : ∃ i : Nat, p % (cells.length : Int) = i := ⟨_, (Int.toNat_of_nonneg pl0).symm⟩
  have hil : i < cells.length := by omega
  rw [hi]
  refine var_ok (v := .ref c) rfl ?_
  refine var_ok (v := .int i) rfl ?_
  refine Or.inl ⟨c, _, _, .int cells[i], rfl, rfl, .of h2, by rw [atI_n, List.getElem?_map, List.getElem?_eq_getElem hil]; rfl, ?_⟩
  have hx0 : 0 ≤ cells[i] := h5 _ (List.getElem_mem hil)
  generalize cells[i] = x at hx0
  refine var_ok (v := .int x) rfl ⟨10, 18, rfl, rfl, ⟨by decide, by decide, by decide⟩, x, _, rfl, rfl, _, rfl, ?_⟩
  split
  · -- the cell is a long one: its own digits are taken
    refine var_ok (v := .int x) rfl ?_
    refine var_ok (v := .int n) rfl ⟨x, n, rfl, rfl, ⟨hn1, hn2⟩, ?_⟩
    refine var_ok (v := .ref c) rfl ?_
    refine var_ok (v := .int i) rfl ⟨c, _, _, i, rfl, rfl, h2, ?_, ?_⟩
    · unfold ixN
      rw [List.length_map, if_pos (Int.natCast_nonneg i), if_pos (by omega)]
      rfl
    · refine var_ok (v := .int x) rfl ?_
      refine Or.inl ⟨x, rfl, ?_⟩
      refine var_ok (v := .int n) rfl ?_
      refine mod_ok hn1 ?_
      refine fin _ _ (Int.emod_nonneg _ (by omega)) (Int.emod_lt_of_pos _ hn1) (fun a n1 n2 => upd_ne n2) ?_
      refine ⟨dc, cells.set i (x / n), p, m, t, ?_, ?_, ?_, ?_, ?_, h6, h7, h8⟩
      · rw [upd_ne dc]; exact h1
      · rw [upd_same, List.map_set]
      · intro z
        have := congrArg List.length z
        rw [List.length_set, List.length_nil] at this
        omega
      · rw [List.length_set]; exact h4
      · intro y hy
        rcases List.mem_or_eq_of_mem_set hy with hy | rfl
        · exact h5 y hy
        · exact Int.ediv_nonneg hx0 (by omega)
  · -- the draw's own counting
    refine it_ok (i := 1) (fun Q' q => var_ok rfl q) h1 rfl ⟨p, 1, rfl, rfl, ?_⟩
    refine var_ok (v := .ref d) rfl ⟨d, _, 1, 1, rfl, rfl, h1, rfl, ?_⟩
    have g1 : upd H d (.lst [.ref c, .int (p + 1), .int m, .int t]) d = some (.lst [.ref c, .int (p + 1), .int m, .int t]) := upd_same
    refine it_ok (i := 3) (fun Q' q => var_ok rfl q) g1 rfl ⟨t, 1, rfl, rfl, ?_⟩
    refine var_ok (v := .ref d) rfl ⟨d, _, 3, 3, rfl, rfl, g1, rfl, ?_⟩
    have g2 : upd (upd H d (.lst [.ref c, .int (p + 1), .int m, .int t])) d (.lst [.ref c, .int (p + 1), .int m, .int (t + 1)]) d = some (.lst [.ref c, .int (p + 1), .int m, .int (t + 1)]) := upd_same
    refine it_ok (i := 2) (fun Q' q => var_ok rfl q) g2 rfl ⟨m, 48271, rfl, rfl, Or.inr ⟨by decide, by decide⟩, ?_⟩
    refine var_ok (v := .int x) rfl ⟨_, x, rfl, rfl, ?_⟩
    refine it_ok (i := 3) (fun Q' q => var_ok rfl q) g2 rfl ⟨7919, t + 1, rfl, rfl, Or.inl ⟨by decide, by decide⟩, _, _, rfl, rfl, ?_⟩
    refine ⟨_, 12345, rfl, rfl, Or.inl ⟨_, rfl, mod_ok (by decide) ?_⟩⟩
    refine var_ok (v := .ref d) rfl ⟨d, _, 2, 2, rfl, rfl, g2, rfl, ?_⟩
    generalize hm : (m * 48271 + x + 7919 * (t + 1) + 12345) % 2147483647 = m2
    have m0 : 0 ≤ m2 ∧ m2 < 2147483647 := by subst hm; exact ⟨Int.emod_nonneg _ (by decide), Int.emod_lt_of_pos _ (by decide)⟩
    have g3 : upd (upd (upd H d (.lst [.ref c, .int (p + 1), .int m, .int t])) d (.lst [.ref c, .int (p + 1), .int m, .int (t + 1)])) d (.lst [.ref c, .int (p + 1), .int m2, .int (t + 1)]) d = some (.lst [.ref c, .int (p + 1), .int m2, .int (t + 1)]) := upd_same
    have big : (2147483647 : Int) < 2 ^ 64 := by decide
    refine it_ok (i := 2) (fun Q' q => var_ok rfl q) g3 rfl ?_
    refine it_ok (i := 2) (fun Q' q => var_ok rfl q) g3 rfl ⟨m2, m2, rfl, rfl, Or.inl ⟨by omega, by omega⟩, Or.inl ⟨_, rfl, mod_ok (by decide) ?_⟩⟩
    simp only [gName, tRet, tOp, tCB, tCons, tC, tNil, List.set]
    refine var_ok (v := .int (m2 * m2 % 2147483629)) rfl ⟨_, 16, rfl, rfl, ⟨by decide, by decide⟩, Or.inl ⟨_, rfl, ?_⟩⟩
    refine var_ok (v := .int n) rfl ?_
    refine mod_ok hn1 ?_
    refine fin _ _ (Int.emod_nonneg _ (by omega)) (Int.emod_lt_of_pos _ hn1) (fun a n1 n2 => by rw [upd_ne n1, upd_ne n1, upd_ne n1]) ?_
    refine ⟨dc, cells, p + 1, m2, t + 1, g3, ?_, h3, h4, h5, by omega, m0, by omega⟩
    rw [upd_ne (Ne.symm dc), upd_ne (Ne.symm dc), upd_ne (Ne.symm dc)]
    exact h2
end
theorem p_var {X : Cx} {i : Nat} {x : Str} {pos : Pos} (hN : X.N[i]? = some x := by rfl) (hv : Vis X.env.scope x := by first | exact Or.inl rfl | exact Or.inr (Or.inl rfl) | exact Or.inr (Or.inr rfl)) (hd : (x == ("__debug__" : Str)) = false := by decide)
    (hcd : (x == ("__classdict__" : Str)) = false := by decide) : PE X (.Name x pos) (tVar i) := pe_var hN hv hd hcd
end VL
set_option Elab.async false
set_option linter.all false
set_option maxRecDepth 100000
set_option maxHeartbeats 4000000
namespace VL
open PySem PySem.Spec L2
open PyProof.Rows hiding St
section
variable {Q : D → Prop} {a b : Str} {i j : Int} {x y : D} {xs ys : List D} {neg : Bool} {k : Bool → Prop}
theorem rdIn_l : rdIn neg x (.lst ys) Q = (okE x ∧ okE (.lst ys) ∧ Q (.bl (neg ^^ isIn x ys))) := by cases x <;> rfl
theorem rdIn_t : rdIn neg x (.tup ys) Q = (okE x ∧ okE (.tup ys) ∧ Q (.bl (neg ^^ isIn x ys))) := by cases x <;> rfl
theorem rdMul_l : rdMul (.lst xs) (.int j) Q = ((-(2 ^ 63) ≤ j ∧ j < 2 ^ 63) ∧ xs.length * j.toNat ≤ sizeLine ∧ Q (.lst (List.replicate j.toNat xs).flatten)) := rfl
end
section
variable {da db : TDE} {Γ : Gm} {Q : D → Gm → Prop}
/-- and, or, an if: values known, one way on -/
theorem andV_ok (b1 b2 : Bool) (h1 : ∀ K : D → Gm → Prop, K (.bl b1) Γ → da Γ K) (h2 : b1 = true → ∀ K : D → Gm → Prop, K (.bl b2) Γ → db Γ K) (q : Q (.bl (b1 && b2)) Γ) : rdAndV da db Γ Q := by
  refine h1 _ ?_
  show if b1 = true then db Γ Q else Q (.bl false) Γ
  cases b1 with
  | false => exact q
  | true => exact h2 rfl _ q
theorem orV_ok (b1 b2 : Bool) (h1 : ∀ K : D → Gm → Prop, K (.bl b1) Γ → da Γ K) (h2 : b1 = false → ∀ K : D → Gm → Prop, K (.bl b2) Γ → db Γ K) (q : Q (.bl (b1 || b2)) Γ) : rdOrV da db Γ Q := by
  refine h1 _ ?_
  show if b1 = true then Q (.bl true) Γ else db Γ Q
  cases b1 with
  | true => exact q
  | false => exact h2 rfl _ q
end
end VL
set_option Elab.async false
set_option linter.all false
set_option maxRecDepth 100000
set_option maxHeartbeats 4000000
namespace VL
open PySem PySem.Spec L2
open PyProof.Rows hiding St
section
variable {X : Cx} {K : PySem.W.Frag}
theorem opK {op : Value → Value → Sem Value} (r : PySem.W.Frag → R2) (hK : X.K = K) (h : OpR X op (r X.K)) : OpR X op (r K) := by subst hK; exact h
theorem ixK (r : PySem.W.Frag → R2) (hK : X.K = K) (h : IxR X (r X.K)) : IxR X (r K) := by subst hK; exact h
theorem slK (r : PySem.W.Frag → V → Option Int → Option Int → Hp → VK → Prop) (hK : X.K = K) (h : SlR X (r X.K)) : SlR X (r K) := by subst hK; exact h
theorem crK {f : Value} (r : PySem.W.Frag → List V → Hp → VK → Prop) (hK : X.K = K) (h : CallR X f (r X.K)) : CallR X f (r K) := by subst hK; exact h
variable {W : Wc} {tg e : Expr} {es rest : List Expr} {te ta tb : TE} {de da db : TDE} {t : TA} {dt : TDF} {p pos apos cpos : Pos} {x : Str} {CX : CXT} {k : Nat} {f : Addr} {fd : FuncData} {ps : List Str} {F : FD} {FV : Addr → FD} {dvs : List V} {dds : List D} {ds : List Value} {E : XK} {d c : Addr} {Tb : List (Addr × Str)} {a b : Expr} {i : Nat}
theorem dg_tupK {tgs : List Expr} {kk : Nat} {u : TGs} {ud} {is : List Nat} {n : Nat} (hK : X.K = K) (hc : X.calm = true) (h : DGs W X tgs u ud is)
    (hn : (assignEach tgs X.env).length = n := by rfl) (hst : (assignEach tgs X.env).findIdx? (·.1) = none := by rfl) : DG W X (.Tuple tgs kk pos) (gTup K n u) (rgTup n ud) is := by subst hK; exact dg_tup hc h hn hst
theorem d_orTK (hK : X.K = K) (ha : DE W X a ta da) (hb : DE W X (.BoolOp .Or (b :: rest) pos) tb db) : DE W X (.BoolOp .Or (a :: b :: rest) pos) (tOrT K ta tb) (rdOrT da db) := by subst hK; exact d_orT ha hb
theorem d_callPK (hK : X.K = K) (G : FnOk X.prog X.w K X.mg X.base CX k f fd ps (spD Vol.no K F)) (hr : Room k X.A) (hg : Gl X x) (hm : X.mg x = some (.ref f)) (hk : PySem.W.keepIn K (.ref f) = true) (hb : Binds K fd ps ds) (hd : Vals dvs ds) (hdd : ∀ H, RpAll K H dvs dds) (hx : Passes CX X E)
    (ha : DA W X (e :: es) t dt) (hdb : (x == ("__debug__" : Str)) = false := by decide) (he : starEach (e :: es) X.env = (false, eval e X.env) :: starEach es X.env := by rfl) (hpl : (backTo pos (starEach es X.env)).any (·.1) = false := by rfl) :
    DE W X (.Call (.Name x p) (e :: es) [] pos) (tCall (spD Vol.no K F) dvs E t) (rdCall F dds dt) := by subst hK; exact d_callP G hr hg hm hk hb hd hdd hx ha hdb he hpl
theorem d_callVK (hK : X.K = K) (G : FnOk X.prog X.w K X.mg X.base CX k f fd ps (spV K FV)) (hJ : W.J = drawJ Tb d c) (hr : Room k X.A) (hg : Gl X x) (hm : X.mg x = some (.ref f)) (hk : PySem.W.keepIn K (.ref f) = true) (hb : Binds K fd ps ds) (hd : Vals dvs ds) (hdd : ∀ H, RpAll K H dvs dds) (hx : Passes CX X E)
    (ha : DA W X (e :: es) t dt) (hdb : (x == ("__debug__" : Str)) = false := by decide) (he : starEach (e :: es) X.env = (false, eval e X.env) :: starEach es X.env := by rfl) (hpl : (backTo pos (starEach es X.env)).any (·.1) = false := by rfl) :
    DE W X (.Call (.Name x p) (e :: es) [] pos) (tCall (spV K FV) dvs E t) (rdCall (FV d) dds dt) := by subst hK; exact d_callV G hJ hr hg hm hk hb hd hdd hx ha hdb he hpl
theorem d_callGPK (hK : X.K = K) (G : FnG X.prog X.w K X.mg X.base CX k f fd ps (spD Vol.no K F)) (hgd : X.A.guards = some []) (hr : Room k X.A) (hg : Gl X x) (hm : X.mg x = some (.ref f)) (hk : PySem.W.keepIn K (.ref f) = true) (hb : Binds K fd ps ds) (hd : Vals dvs ds) (hdd : ∀ H, RpAll K H dvs dds) (hx : Passes CX X E)
    (ha : DA W X (e :: es) t dt) (hdb : (x == ("__debug__" : Str)) = false := by decide) (he : starEach (e :: es) X.env = (false, eval e X.env) :: starEach es X.env := by rfl) (hpl : (backTo pos (starEach es X.env)).any (·.1) = false := by rfl) :
    DE W X (.Call (.Name x p) (e :: es) [] pos) (tCall (spD Vol.no K F) dvs E t) (rdCall F dds dt) := by subst hK; exact d_callGP G hgd hr hg hm hk hb hd hdd hx ha hdb he hpl
theorem d_callKwPK {ks : List Str} {g : List Value → List Value → List Value} {kws : List Keyword} (hK : X.K = K) (G : FnOk X.prog X.w K X.mg X.base CX k f fd ps (spD Vol.no K F)) (hr : Room k X.A) (hg : Gl X x) (hm : X.mg x = some (.ref f))
    (hk : PySem.W.keepIn K (.ref f) = true) (hb : KBn K fd ps 0 ks g (fun _ zs => zs)) (hx : Passes CX X E) (hkw : DK W X kws t dt) (hall : (backToKw pos (keywordEach kws X.env)).all (·.1.isSome) = true := by rfl)
    (hks : (backToKw pos (keywordEach kws X.env)).filterMap (·.1) = ks := by rfl) (hdb : (x == ("__debug__" : Str)) = false := by decide)
    (hpl : ((backTo pos (starEach [] X.env)).any (·.1) || (backToKw pos (keywordEach kws X.env)).any (·.1.isNone)) = false := by rfl) :
    DE W X (.Call (.Name x p) [] kws pos) (tCallKw ks.length (spD Vol.no K F) (fun _ zs => zs) E t) (rdCallKw ks.length F dt) := by subst hK; exact d_callKwP G hr hg hm hk hb hx hkw hall hks hdb hpl
end
end VL
set_option Elab.async false
set_option linter.all false
set_option maxRecDepth 100000
set_option maxHeartbeats 4000000
namespace VL
open PySem PySem.Spec L2
open PyProof.Rows hiding St
def valD : List Key → List D → Key → Option D
  | k' :: ks, d :: ds, k => if k' = k then some d else valD ks ds k
  | _, _, _ => none
def hasK (ks : List Key) (k : Key) : Bool := ks.any fun k' => decide (k' = k)
section
variable {K : PySem.W.Frag} {H : Hp}
theorem valD_rp : ∀ {kvs : List (Key × V)} {ds : List D} {k : Key}, RpAll K H (kvs.map (·.2)) ds → (∀ d, valD (kvs.map (·.1)) ds k = some d → ∃ v, valV kvs k = some v ∧ Rp K H v d) ∧ (valD (kvs.map (·.1)) ds k).isSome = (valV kvs k).isSome
  | [], _, k, h => by
    cases h
    exact ⟨fun d z => (nomatch z), rfl⟩
  | kv :: kvs, _, k, h => by
    cases h with
    | cons a h =>
      rename_i d ds
      obtain ⟨i1, i2⟩ := valD_rp (k := k) h
      show (∀ d', (if kv.1 = k then some d else valD (kvs.map (·.1)) ds k) = some d' → _) ∧ (if kv.1 = k then some d else valD (kvs.map (·.1)) ds k).isSome = _
      unfold valV at i1 i2 ⊢
      rw [List.find?_cons]
      by_cases e : kv.1 = k
      · rw [if_pos e, decide_eq_true e]
        exact ⟨fun d' z => ⟨_, rfl, by cases z; exact a⟩, rfl⟩
      · rw [if_neg e, decide_eq_false e]
        exact ⟨i1, i2⟩
end
def kD1 : Key → D
  | .inl i => .int i
  | .inr x => .str x
theorem rp_key {K : PySem.W.Frag} {H : Hp} (k : Key) : Rp K H (kV k) (kD1 k) := by cases k; exact .int _; exact .str _
theorem rp_keys {K : PySem.W.Frag} {H : Hp} (kvs : List (Key × V)) : RpAll K H (kvs.map fun kv => kV kv.1) ((kvs.map (·.1)).map kD1) := by
  induction kvs with
  | nil => exact .nil
  | cons a r ih => exact .cons (rp_key _) ih
section
variable {W : Wc} {X : Cx}
def rIxD : R2 := fun x y H Q => ∃ a v, x = .ref a ∧ DGet H a y (some v) ∧ Q v H
theorem ix_dict (hu : X.A.units + 1 < cLine) : IxR X rIxD := by
  intro value slice pins s σ H x y v u Q I rx ry h hs
  obtain ⟨a, w, rfl, g, q⟩ := h
  obtain rfl : v = Value.ref a := rx
  exact tail_any (dict_typeIs I g) PySem.F.slot_dict_getitem.lookup (d_getItem hu I g ry fun w' s' I' rw' => ⟨w, H, I', rw', q⟩) hs
def rIxA (K : PySem.W.Frag) : R2 := fun x y H Q => rIx K x y H Q ∨ rIxD x y H Q
theorem ix_any (hu : X.A.units + 1 < cLine) : IxR X (rIxA X.K) := ix_seq.or (ix_dict hu)
def rdIxA : RD2 := fun x y Q => match x with
  | .dic ks ds => ∃ k d, keyOf y = some k ∧ valD ks ds k = some d ∧ Q d
  | _ => rdIx x y Q
theorem od_ixA {K : PySem.W.Frag} : OpD K W (rIxA K) rdIxA := by
  intro Γ σ Hv H x y dx dy Q Q' E rx ry h k
  unfold rdIxA at h
  split at h
  · obtain ⟨ky, d, e1, e2, q⟩ := h
    cases rx with
    | dic h1 h2 h3 =>
      subst h2
      obtain ⟨v, e3, rv⟩ := (valD_rp h3).1 d e2
      exact .inr ⟨_, v, rfl, .inl ⟨_, ky, E.ret.sub.dk h1, keyOf_rp ry e1, e3.symm⟩, k v d Hv H E.stp rv q⟩
  · exact .inl (od_ix Γ σ Hv H x y dx dy Q Q' E rx ry h k)
def rInDc (neg : Bool) : R2 := fun x y H Q => ∃ a o, y = .ref a ∧ DGet H a x o ∧ Q (.bl (neg ^^ o.isSome)) H
theorem op_inDc (hu : X.A.units + 1 < cLine) : OpR X (compareOp .In) (rInDc false) := by
  intro pins s σ H x y v u Q I rx ry h
  obtain ⟨a, o, rfl, g, q⟩ := h
  obtain rfl : u = Value.ref a := ry
  rw [Bool.false_xor] at q
  exact d_in hu I g rx fun s3 I3 => ⟨.bl o.isSome, H, I3, rfl, q⟩
theorem op_notInDc (hu : X.A.units + 1 < cLine) : OpR X (compareOp .NotIn) (rInDc true) := by
  intro pins s σ H x y v u Q I rx ry h
  obtain ⟨a, o, rfl, g, q⟩ := h
  obtain rfl : u = Value.ref a := ry
  rw [Bool.true_xor] at q
  exact d_notIn hu I g rx fun s3 I3 => ⟨.bl (!o.isSome), H, I3, rfl, q⟩
def rInB (K : PySem.W.Frag) : R2 := fun x y H Q => rInA K x y H Q ∨ rInDc false x y H Q
def rNotInB (K : PySem.W.Frag) : R2 := fun x y H Q => rNotInA K x y H Q ∨ rInDc true x y H Q
theorem op_inB (hu : X.A.units + 65 < cLine) : OpR X (compareOp .In) (rInB X.K) := (op_inA hu).or (op_inDc (by omega))
theorem op_notInB (hu : X.A.units + 65 < cLine) : OpR X (compareOp .NotIn) (rNotInB X.K) := (op_notInA hu).or (op_notInDc (by omega))
theorem valD_some : ∀ {ks : List Key} {ds : List D} {k : Key}, ks.length = ds.length → (valD ks ds k).isSome = hasK ks k
  | [], [], k, _ => rfl
  | k' :: ks, d :: ds, k, h => by
    unfold valD hasK
    rw [List.any_cons]
    by_cases e : k' = k
    · rw [if_pos e, decide_eq_true e]; rfl
    · rw [if_neg e, valD_some (by simpa using h), decide_eq_false e]; rfl
def rdInB (neg : Bool) : RD2 := fun x y Q => match y with
  | .dic ks _ => ∃ k, keyOf x = some k ∧ Q (.bl (neg ^^ hasK ks k))
  | _ => rdIn neg x y Q
theorem dget_at {K : PySem.W.Frag} {Hv H : Hp} {x : V} {dx : D} {a : Addr} {ks : List Key} {ds : List D} {k : Key} (su : Sub Hv H) (rx : Rp K Hv x dx) (ry : Rp K Hv (.ref a) (.dic ks ds)) (e : keyOf dx = some k) : ∃ o, DGet H a x o ∧ o.isSome = hasK ks k := by
  cases ry with
  | dic h1 h2 h3 =>
    rename_i kvs
    refine ⟨valV kvs k, .inl ⟨kvs, k, su.dk h1, keyOf_rp rx e, rfl⟩, ?_⟩
    subst h2
    rw [← (valD_rp h3).2, valD_some (by rw [← h3.length, List.length_map, List.length_map])]
theorem od_inB {K : PySem.W.Frag} : OpD K W (rInB K) (rdInB false) := by
  intro Γ σ Hv H x y dx dy Q Q' E rx ry h k
  unfold rdInB at h
  split at h
  · obtain ⟨ky, e1, q⟩ := h
    have ry' := ry
    cases ry with
    | dic h1 h2 h3 =>
      obtain ⟨o, g, e2⟩ := dget_at E.ret.sub rx ry' e1
      exact .inr ⟨_, o, rfl, g, k _ _ Hv H E.stp (.bl _) (by rw [e2]; exact q)⟩
  · exact .inl (od_in Γ σ Hv H x y dx dy Q Q' E rx ry h k)
theorem od_notInB {K : PySem.W.Frag} : OpD K W (rNotInB K) (rdInB true) := by
  intro Γ σ Hv H x y dx dy Q Q' E rx ry h k
  unfold rdInB at h
  split at h
  · obtain ⟨ky, e1, q⟩ := h
    have ry' := ry
    cases ry with
    | dic h1 h2 h3 =>
      obtain ⟨o, g, e2⟩ := dget_at E.ret.sub rx ry' e1
      exact .inr ⟨_, o, rfl, g, k _ _ Hv H E.stp (.bl _) (by rw [e2]; exact q)⟩
  · exact .inl (od_notIn Γ σ Hv H x y dx dy Q Q' E rx ry h k)
def rLenD : List V → Hp → VK → Prop := fun xs H Q => ∃ a kvs, xs = [.ref a] ∧ Rd H a (.dK kvs) ∧ Q (.int kvs.length) H
theorem cr_lenD : CallR X (.builtin "len") rLenD := by
  intro pins s σ H xs us Q I r h
  obtain ⟨a, kvs, rfl, e, q⟩ := h
  obtain ⟨u, rfl, rx⟩ := vals1 r
  obtain rfl : u = Value.ref a := rx
  exact d_len I e fun t s' I' => ⟨.int kvs.length, H, I', ⟨t, rfl⟩, q⟩
def rLenB (K : PySem.W.Frag) : List V → Hp → VK → Prop := fun xs H Q => rLenA K xs H Q ∨ rLenD xs H Q
theorem cr_lenB : CallR X (.builtin "len") (rLenB X.K) := cr_len.or cr_lenD
def rdLenB : List D → (D → Prop) → Prop := fun ds Q => match ds with
  | [.dic ks _] => Q (.int ks.length)
  | ds => rdLen ds Q
theorem cd_lenB {K : PySem.W.Frag} : CallD K W (rLenB K) rdLenB := by
  intro Γ σ Hv H vs ds Q Q' E r h k
  unfold rdLenB at h
  split at h
  · obtain ⟨v, rfl, rv⟩ := r.one
    cases rv with
    | dic h1 h2 h3 => exact .inr ⟨_, _, rfl, E.ret.sub.dk h1, k _ (.int _) Hv H E.stp (.int _) (by rw [h2, List.length_map] at h; exact h)⟩
  · exact .inl (cd_len Γ σ Hv H vs ds Q Q' E r h k)
end
end VL
set_option Elab.async false
set_option linter.all false
set_option maxRecDepth 100000
set_option maxHeartbeats 4000000
namespace VL
open PySem PySem.Spec L2
open PyProof.Rows hiding St
/-- the data of a slot's own (or borrowed) object -/
def pkG (Γ : Gm) (i : Nat) (k : D → Prop) : Prop := match Γ[i]? with
  | some (.own d) => k d
  | some (.bor d) => k d
  | some (.slf _ d) => k d
  | _ => False
def isPk (Γ : Gm) (i : Nat) : Prop := pkG Γ i fun _ => True
section
variable {K : PySem.W.Frag} {W : Wc} {Γ : Gm} {σ : L2.St} {Hv H : Hp}
theorem Ev.pk (E : Ev K W Γ σ Hv H) {i : Nat} {k : D → Prop} (h : pkG Γ i k) : ∃ a u d, σ[i]? = some (some (.ref a)) ∧ H a = some u ∧ ObD K Hv d u ∧ k d := by
  unfold pkG at h
  split at h
  · rename_i d e
    obtain ⟨a, u, h1, h2, h3, _⟩ := E.getOwn e
    exact ⟨a, u, d, h1, h2, h3, h⟩
  · rename_i d e
    obtain ⟨a, u, h1, h2, h3, _⟩ := E.getBor e
    exact ⟨a, u, d, h1, h2, h3, h⟩
  · rename_i y d e
    obtain ⟨u, h1, h2, h3, _⟩ := E.getSlf e
    exact ⟨y, u, d, h1, h2, h3, h⟩
  · exact h.elim
end
/-- an operation that gives a truth value and looks alone, by the heap -/
def OpH (K : PySem.W.Frag) (r : R2) (rd : RD2) : Prop := ∀ H x y dx dy (Q : D → Prop) (Q' : VK), Rp K H x dx → Rp K H y dy → rd dx dy Q → (∀ b, Q (.bl b) → Q' (.bl b) H) → r x y H Q'
section
variable {K : PySem.W.Frag} {W : Wc}
theorem oh_ne : OpH K (rNeA K) rdNe := by
  intro H x y dx dy Q Q' rx ry h k
  have gen : okE dx ∧ okE dy ∧ Q (.bl (!eqD dx dy)) → rNeA K x y H Q' := fun ⟨o1, o2, q⟩ => .inr ⟨_, _, Rp.dp _ _ rx o1.1, Rp.dp _ _ ry o2.1, o1.2, o2.2, k _ q⟩
  unfold rdNe at h
  split at h
  · cases rx; cases ry
    exact .inl ⟨rfl, k _ (by simpa using h)⟩
  · cases rx; cases ry
    exact .inl ⟨rfl, k _ (by simpa using h)⟩
  · exact gen h
def rdPkL (rd : RD2) (i : Nat) (db : TDE) : TDE := fun Γ Q => isPk Γ i ∧ db Γ fun dy Γ1 => pkG Γ1 i fun dx => rd dx dy fun d => asB d fun b => Q (.bl b) Γ1
def rdPkR (rd : RD2) (da : TDE) (i : Nat) : TDE := fun Γ Q => da Γ fun dx Γ1 => pkG Γ1 i fun dy => rd dx dy fun d => asB d fun b => Q (.bl b) Γ1
variable {X : Cx} {a b : Expr} {ta tb : TE} {da db : TDE} {pos p : Pos} {x : Str} {i : Nat}
theorem ad_pkL {r : R2} {rd : RD2} (ho : OpH K r rd) (hb : Ad K W tb db) : Ad K W (tOp r (tVar i) tb) (rdPkL rd i db) := fun Γ σ Hv H Q Q' E h k => by
  obtain ⟨h0, h⟩ := h
  obtain ⟨a0, u0, d0, e0, _⟩ := E.pk h0
  refine ⟨_, e0, hb Γ σ Hv H _ _ E h fun y dy Γ1 Hv1 H1 s1 r1 q => ?_⟩
  obtain ⟨a1, u1, d1, e1, hu, ob, q⟩ := s1.ev.pk q
  rw [e0] at e1
  cases e1
  refine ho H1 _ y d1 dy _ _ ((ob.monoS s1.ev.ret.sub).rp hu) (Rp.monoS s1.ev.ret.sub _ _ r1) q fun c q2 => ?_
  exact k _ _ Γ1 Hv1 H1 s1 (.bl c) q2
theorem ad_pkR {r : R2} {rd : RD2} (ho : OpH K r rd) (ha : Ad K W ta da) : Ad K W (tOp r ta (tVar i)) (rdPkR rd da i) := fun Γ σ Hv H Q Q' E h k => by
  refine ha Γ σ Hv H _ _ E h fun y dy Γ1 Hv1 H1 s1 r1 q => ?_
  obtain ⟨a1, u1, d1, e1, hu, ob, q⟩ := s1.ev.pk q
  refine ⟨_, e1, ho H1 y _ dy d1 _ _ (Rp.monoS s1.ev.ret.sub _ _ r1) ((ob.monoS s1.ev.ret.sub).rp hu) q fun c q2 => ?_⟩
  exact k _ _ Γ1 Hv1 H1 s1 (.bl c) q2
theorem dt_cmpPkL {op : CmpOp} {r : R2} {rd : RD2} (ho : OpR X (compareOp op) r) (hd : OpH X.K r rd) (hb : DE W X b tb db) (hm : behindInMarks op b = false) (hN : X.N[i]? = some x := by rfl) (hv : Vis X.env.scope x := by first | exact Or.inl rfl | exact Or.inr (Or.inl rfl) | exact Or.inr (Or.inr rfl))
    (hdb : (x == ("__debug__" : Str)) = false := by decide) (hcd : (x == ("__classdict__" : Str)) = false := by decide) : DT W X (.Compare (.Name x p) [op] [b] pos) (tTest (tOp r (tVar i) tb)) (rdTest (rdPkL rd i db)) :=
  ⟨pt_cmpR ho (pe_var hN hv hdb hcd) hb.pe hm, ad_test (ad_pkL hd hb.ad)⟩
theorem dt_cmpPkR {op : CmpOp} {r : R2} {rd : RD2} (ho : OpR X (compareOp op) r) (hd : OpH X.K r rd) (ha : DE W X a ta da) (hm : behindInMarks op (.Name x p) = false) (hN : X.N[i]? = some x := by rfl) (hv : Vis X.env.scope x := by first | exact Or.inl rfl | exact Or.inr (Or.inl rfl) | exact Or.inr (Or.inr rfl))
    (hdb : (x == ("__debug__" : Str)) = false := by decide) (hcd : (x == ("__classdict__" : Str)) = false := by decide) : DT W X (.Compare a [op] [.Name x p] pos) (tTest (tOp r ta (tVar i))) (rdTest (rdPkR rd da i)) :=
  ⟨pt_cmpR ho ha.pe (pe_var hN hv hdb hcd) hm, ad_test (ad_pkR hd ha.ad)⟩
/-- x[e] -/
def rdPkIx (i : Nat) (db : TDE) : TDE := fun Γ Q => isPk Γ i ∧ db Γ fun dk Γ1 => pkG Γ1 i fun dx => rdIxA dx dk fun d => Q d Γ1
/-- len(x) -/
def rdPkLen (i : Nat) : TDE := fun Γ Q => pkG Γ i fun dx => rdLenB [dx] fun d => asI d fun n => Q (.int n) Γ
theorem ad_pkLen : Ad K W (tCB (rLenB K) (tCons (tVar i) tNil)) (rdPkLen i) := fun Γ σ Hv H Q Q' E h k => by
  obtain ⟨a1, u1, d1, e1, hu, ob, q⟩ := E.pk h
  refine ⟨_, e1, ?_⟩
  cases d1 <;> first | exact ob.elim | skip
  · obtain ⟨vs, rfl, ra⟩ := ob
    exact .inl (.inl ⟨_, _, rfl, .inl (.of hu), k _ (.int vs.length) Γ Hv H E.stp (.int _) (by rw [ra.length]; exact q)⟩)
  · obtain ⟨kvs, rfl, e2, ra⟩ := ob
    exact .inr ⟨_, _, rfl, .inl hu, k _ (.int kvs.length) Γ Hv H E.stp (.int _) (by rw [e2] at q; have q : Q (.int ((kvs.map (·.1)).length : Nat)) Γ := q; rw [List.length_map] at q; exact q)⟩
  · exact q.elim
  · exact q.elim
theorem d_pkLen {fx : Pos} (hK : X.K = K) (hg : Gl X "len") (hm : X.mg "len" = none) (hN : X.N[i]? = some x := by rfl) (hv : Vis X.env.scope x := by first | exact Or.inl rfl | exact Or.inr (Or.inl rfl) | exact Or.inr (Or.inr rfl))
    (hdb : (x == ("__debug__" : Str)) = false := by decide) (hcd : (x == ("__classdict__" : Str)) = false := by decide) (he : starEach [Expr.Name x p] X.env = (false, eval (.Name x p) X.env) :: starEach [] X.env := by rfl) (hpl : (backTo pos (starEach [] X.env)).any (·.1) = false := by rfl) :
    DE W X (.Call (.Name "len" fx) [.Name x p] [] pos) (tCB (rLenB K) (tCons (tVar i) tNil)) (rdPkLen i) := by
  subst hK
  exact ⟨pe_callB cr_lenB hg hm (by decide +kernel) (pa_cons (pe_var hN hv hdb hcd) pa_nil he) (by decide) (by decide) he hpl, ad_pkLen⟩
variable {dv dk : TDE} {tv tk : TE} {kx value : Expr} {pos' : Pos}
def rdPop (j : Nat) (de : TDE) : TDE := fun Γ Q => (∃ ds, Γ[j]? = some (.own (.lst ds))) ∧ de Γ fun kd Γ1 => asI kd fun n => match Γ1[j]? with
  | some (.own (.lst ds)) => ∃ k d, 0 ≤ n ∧ n < 2 ^ 63 ∧ n.toNat = k ∧ ds[k]? = some d ∧ Q d (Γ1.set j (.own (.lst (ds.eraseIdx k))))
  | _ => False
theorem ad_pop {e : TE} {de : TDE} (he : Ad K W e de) : Ad K W (tBM K "list" rPopAt (tVar i) (tCons e tNil)) (rdPop i de) := fun Γ σ Hv H Q Q' Z h k => by
  obtain ⟨⟨ds0, e0⟩, h⟩ := h
  obtain ⟨p, u0, es, hp, ⟨vs0, rfl, _⟩, _⟩ := Z.getOwn e0
  refine ⟨_, es, .inl ⟨rfl, _, .of hp⟩, he Γ σ Hv H _ _ Z h fun v d Γ1 Hv1 H1 s1 r1 q => ?_⟩
  obtain ⟨n, rfl, q⟩ := asI_of r1 q
  split at q
  · rename_i ds e1
    obtain ⟨p1, u1, es1, hp1, ⟨vs1, rfl, ra⟩, _⟩ := s1.ev.getOwn e1
    rw [es] at es1
    cases es1
    obtain ⟨kk, d, n0, n1, ek, ed, q⟩ := q
    obtain ⟨w, ew, rw'⟩ := ra.get ed
    have hk : kk < vs1.length := (List.getElem?_eq_some_iff.mp ew).1
    refine ⟨_, vs1, n, kk, w, rfl, rfl, hp1, by omega, n1, ?_, ew, ?_⟩
    · rw [seqIndex_of n0 (by omega), ek]
    · exact k _ _ _ _ _ (s1.mut (d' := .lst (ds.eraseIdx kk)) e1 es ⟨_, rfl, ra.erase kk⟩) rw' q
  · exact q.elim
end
end VL
set_option Elab.async false
set_option linter.all false
set_option maxRecDepth 100000
set_option maxHeartbeats 4000000
namespace VL
open PySem PySem.Spec L2
open PyProof.Rows hiding St
section
variable {W : Wc} {X : Cx} {K : PySem.W.Frag} {tg e : Expr} {te : TE} {de : TDE}
theorem itd_keys {a : Addr} {o : Obj} {kvs : List (Key × V)} {Hs : Hp} (h : Hs a = some (.frz o (.dK kvs))) : ItD K W (Itk a o kvs) ((kvs.map (·.1)).map kD1) Hs := by
  intro Γ σ Hv H sm E i
  have ha : H a = some (.frz o (.dK kvs)) := E.ret.sub.at (sm.at h fun _ z => nomatch z) fun _ z => nomatch z
  refine ⟨fun hi => ⟨ha, by rw [List.length_map, List.length_map] at hi; exact hi⟩, fun d ed => ?_⟩
  rw [List.getElem?_map, List.getElem?_map] at ed
  cases q : kvs[i]? with
  | none => rw [q] at ed; cases ed
  | some kv =>
    rw [q] at ed
    cases ed
    refine ⟨⟨ha, (List.getElem?_eq_some_iff.mp q).1⟩, fun x H' y => ?_⟩
    obtain ⟨rfl, k, v, e1, rfl⟩ := y
    rw [q] at e1
    cases e1
    exact ⟨Hv, E.stp, rp_key k⟩
def rListD : List V → Hp → VK → Prop := fun xs H Q => ∃ (a : Addr) (kvs : List (Key × V)), xs = [.ref a] ∧ Rd H a (.dK kvs) ∧ ∀ p, H p = none → Q (.ref p) (upd H p (.lst (kvs.map fun kv => kV kv.1)))
def rListB (K : PySem.W.Frag) : List V → Hp → VK → Prop := fun xs H Q => rListA K xs H Q ∨ rListD xs H Q
theorem cr_listB (hc : X.calm = true) : CallR X (.type "list") (rListB X.K) := (cr_list hc).or (call_listD hc)
def rdListB : List D → (D → Prop) → Prop := fun ds Q => match ds with | [.dic ks _] => Q (.lst (ks.map kD1)) | ds => rdListA ds Q
theorem cf_listB : CallF K W (rListB K) rdListB := by
  intro Γ σ Hv H vs ds Q Q' E r h k
  unfold rdListB at h
  split at h
  · obtain ⟨v, rfl, rv⟩ := r.one
    cases rv with
    | dic h1 h2 h3 =>
      refine .inr ⟨_, _, rfl, E.ret.sub.dk h1, fun l hl => ?_⟩
      obtain ⟨s, F⟩ := E.stp.alloc0 (.lst _) hl
      subst h2
      exact k l _ (.lst _) Hv _ s hl upd_same ⟨_, rfl, rp_keys _⟩ F h
  · exact .inl (cf_listA Γ σ Hv H vs ds Q Q' E r h k)
theorem rp_strs {H : Hp} : ∀ ns : List Str, RpAll K H (ns.map V.str) (ns.map D.str)
  | [] => .nil
  | n :: ns => .cons (.str n) (rp_strs ns)
def keysS : List Key → Option (List Str)
  | [] => some []
  | .inr x :: r => (keysS r).map (x :: ·)
  | _ :: _ => none
theorem keysS_eq : ∀ {ks : List Key} {bs : List Str}, keysS ks = some bs → ks = bs.map Sum.inr
  | [], _, e => by cases e; rfl
  | .inr x :: r, _, e => by
    unfold keysS at e
    cases q : keysS r with
    | none => rw [q] at e; cases e
    | some bs => rw [q] at e; cases e; rw [keysS_eq q]; rfl
  | .inl _ :: _, _, e => by cases e
def rSortD : List V → Hp → VK → Prop := fun xs H Q => ∃ (a : Addr) (kvs : List (Key × V)) (ks : List Str), xs = [.ref a] ∧ Rd H a (.dK kvs) ∧ kvs.map (·.1) = ks.map Sum.inr ∧ ks.length < 64 ∧
    ∀ ys p, ys.Perm ks → sortedS ys = true → H p = none → Q (.ref p) (upd H p (.lst (ys.map V.str)))
end
end VL
set_option Elab.async false
set_option linter.all false
set_option maxRecDepth 100000
set_option maxHeartbeats 4000000
namespace VL
open PySem PySem.Spec L2
open PyProof.Rows hiding St
section
variable {W : Wc} {X : Cx} {K : PySem.W.Frag} {tg e : Expr} {te : TE} {de : TDE}
theorem nil_iff {H : Hp} {vs : List V} {ds : List D} (r : RpAll K H vs ds) : vs = [] ↔ ds = [] := by
  cases r with
  | nil => exact ⟨fun _ => rfl, fun _ => rfl⟩
  | cons _ _ => exact ⟨(fun z => nomatch z), (fun z => nomatch z)⟩
/-- tuple + tuple: a new one's object is told -/
def rCatX (K : PySem.W.Frag) : R2 := fun x y H Q => ∃ a b xs ys, x = .ref a ∧ y = .ref b ∧ SqT K H a xs ∧ SqT K H b ys ∧ xs.length + ys.length ≤ sizeLine ∧
  (xs = [] → Q (.ref b) H) ∧ (xs ≠ [] → ys = [] → Q (.ref a) H) ∧ (xs ≠ [] → ys ≠ [] → ∀ p (o : Obj), H p = none → o.dict = none → Q (.ref p) (upd H p (.frz o (.tup (xs ++ ys)))))
theorem op_catX : OpR X (binaryOp .Add) (rCatX X.K) := by
  intro pins s0 σ0 H0 x y v0 u0 Qw I0 rx0 ry0 hw0
  obtain ⟨a, b, xs, ys, rfl, rfl, hA, hB, hz0, w0, w1, w2⟩ := hw0
  by_cases hx0 : xs = []
  · exact op_catA pins s0 σ0 H0 _ _ v0 u0 Qw I0 rx0 ry0 ⟨a, b, xs, ys, rfl, rfl, hA, hB, hz0, w0, fun z => absurd hx0 z, fun z => absurd hx0 z⟩
  · cases rx0
    cases ry0
    obtain ⟨itsA, rA, pA, _⟩ := I0.tuple hA
    obtain ⟨itsB, rB, pB, _⟩ := I0.tuple hB
    refine HT.cat_tup pA pB (fun z => hx0 (rA.nil_iff.mp z)) (fun z => ⟨.ref a, H0, I0, rfl, w1 hx0 (rB.nil_iff.mp z)⟩) (fun z => ?_) (by rw [← rA.length, ← rB.length]; exact hz0)
    refine ⟨.ref s0.heap.objs.size, _, I0.laid (t' := s0.toks) (o := .frz { cls := .type "tuple", data := .seq (itsA ++ itsB).toArray } (.tup (xs ++ ys))) (fun _ _ q => Heap.get?_push_of_some _ q) (Nat.le_refl _) ?_, rfl, w2 hx0 (fun e => z (rB.nil_iff.mpr e)) _ _ (I0.hok.fresh (Nat.le_refl _)) rfl⟩
    exact ⟨Heap.get?_push_size _ rfl, by rw [List.length_append]; exact hz0, _, rA.append rB, IsTup.new _ _⟩
def rAddB (K : PySem.W.Frag) : R2 := fun x y H Q => rAddA K x y H Q ∨ rCatX K x y H Q
theorem op_addB : OpR X (binaryOp .Add) (rAddB X.K) := op_addA.or op_catX
def rdAddB : RD2 := fun x y Q => match x, y with
  | .tup a, .tup b => a.length + b.length ≤ sizeLine ∧ Q (.tup (a ++ b))
  | x, y => rdAdd x y Q
theorem od_addB : OpD K W (rAddB K) rdAddB := by
  intro Γ σ Hv H x y dx dy Q Q' E rx ry h k
  unfold rdAddB at h
  split at h
  · cases rx with
    | tup h1 r1 =>
      cases ry with
      | tup h2 r2 =>
        refine .inr ⟨_, _, _, _, rfl, rfl, seqT E.ret.sub h1, seqT E.ret.sub h2, by rw [r1.length, r2.length]; exact h.1, fun z => ?_, fun z1 z2 => ?_, fun z1 z2 p o hp hd => ?_⟩
        · have e := (nil_iff r1).mp z
          subst e
          exact k _ _ Hv H E.stp (.tup h2 r2) h.2
        · have e := (nil_iff r2).mp z2
          subst e
          rw [List.append_nil] at h
          exact k _ _ Hv H E.stp (.tup h1 r1) h.2
        · exact k _ _ _ _ (E.stp.alloc _ hp) (.tup (.of upd_same hd) (RpAll.mono (same_upd (E.noneHv hp)) _ _ (r1.append r2))) h.2
  · exact .inl (od_add Γ σ Hv H x y dx dy Q Q' E rx ry h k)
/-- x[lo:hi] of a list, a text, a tuple -/
def rSlX (K : PySem.W.Frag) : V → Option Int → Option Int → Hp → VK → Prop := fun x lo hi H Q => ∃ a xs, x = .ref a ∧ SqT K H a xs ∧
  (HT.sIx xs.length 0 lo = 0 ∧ HT.sIx xs.length xs.length hi = xs.length → Q (.ref a) H) ∧ (¬ (HT.sIx xs.length 0 lo = 0 ∧ HT.sIx xs.length xs.length hi = xs.length) → ∀ p (o : Obj), H p = none → o.dict = none → Q (.ref p) (upd H p (.frz o (.tup (cutV xs lo hi)))))
theorem sl_tupX : SlR X (rSlX X.K) := by
  intro pins s0 σ0 H0 x v0 vl0 vu0 lo hi sl0 Qw I0 rx0 hs0 pl0 pu0 hw0
  obtain ⟨a, xs, rfl, hx0, w1, w2⟩ := hw0
  by_cases hwh : HT.sIx xs.length 0 lo = 0 ∧ HT.sIx xs.length xs.length hi = xs.length
  · exact sl_tupA pins s0 σ0 H0 _ v0 vl0 vu0 lo hi sl0 Qw I0 rx0 hs0 pl0 pu0 ⟨a, xs, rfl, hx0, w1, fun z => absurd hwh z⟩
  · cases rx0
    obtain ⟨its0, rv0, ht0, hz0⟩ := I0.tuple hx0
    have hlen0 : its0.toArray.size = xs.length := by rw [List.size_toArray]; exact rv0.length.symm
    refine ⟨"tuple", _, PyProof.Rows.slot_tuple_getitem.lookup, ht0.typeIs, ?_⟩
    refine HT.getItem_tuple_cut ht0 hs0 pl0 pu0 (by rw [hlen0]; exact hwh) ?_ (by rw [hlen0]; exact hz0)
    rw [hlen0]
    refine ⟨.ref s0.heap.objs.size, _, I0.laid (t' := s0.toks) (o := .frz { cls := .type "tuple", data := .seq (List.take (HT.sIx xs.length xs.length hi - HT.sIx xs.length 0 lo) (List.drop (HT.sIx xs.length 0 lo) its0.toArray.toList)).toArray } (.tup (cutV xs lo hi))) (fun _ _ q => Heap.get?_push_of_some _ q) (Nat.le_refl _) ?_, rfl, w2 hwh _ _ (I0.hok.fresh (Nat.le_refl _)) rfl⟩
    exact ⟨Heap.get?_push_size _ rfl, Nat.le_trans (cutV_length xs lo hi) hz0, _, (rv0.drop (HT.sIx xs.length 0 lo)).take (HT.sIx xs.length xs.length hi - HT.sIx xs.length 0 lo), IsTup.new _ _⟩
def rCutB (K : PySem.W.Frag) : V → Option Int → Option Int → Hp → VK → Prop := fun x lo hi H Q => rCutA K x lo hi H Q ∨ rSlX K x lo hi H Q
theorem sl_allB : SlR X (rCutB X.K) := sl_all.or sl_tupX
def rdSlB : D → Option Int → Option Int → (D → Prop) → Prop := fun x lo hi Q => match x with
  | .tup ds => Q (.tup (cutD ds lo hi))
  | x => rdSlA x lo hi Q
theorem cut_whole {ds : List D} {lo hi : Option Int} (h : HT.sIx ds.length 0 lo = 0 ∧ HT.sIx ds.length ds.length hi = ds.length) : cutD ds lo hi = ds := by
  unfold cutD
  rw [h.1, h.2, List.drop_zero, Nat.sub_zero, List.take_length]
theorem sd_allB : SlD K W (rCutB K) rdSlB := by
  intro Γ σ Hv H x lo hi dx Q Q' E rx h k
  unfold rdSlB at h
  split at h
  · cases rx with
    | tup h1 r1 =>
      refine .inr ⟨_, _, rfl, seqT E.ret.sub h1, fun z => ?_, fun z p o hp hd => ?_⟩
      · rw [r1.length] at z
        rw [cut_whole z] at h
        exact k _ _ Hv H E.stp (.tup h1 r1) h
      · exact k _ _ _ _ (E.stp.alloc _ hp) (.tup (.of upd_same hd) (RpAll.mono (same_upd (E.noneHv hp)) _ _ (r1.cut lo hi))) h
  · exact .inl (sd_all Γ σ Hv H x lo hi dx Q Q' E rx h k)
def enumD (ds : List D) : List D := (List.range ds.length).zipWith (fun i d => D.wtup [.int ((i : Nat) : Int), d]) ds
end
end VL
set_option Elab.async false
set_option linter.all false
set_option maxRecDepth 100000
set_option maxHeartbeats 4000000
namespace VL
open PySem PySem.Spec L2
open PyProof.Rows hiding St
/-- the module's name cn stands for the class at C -/
def CN (K : PySem.W.Frag) (cn : Str) (C : Addr) : Prop := PySem.W.nsIn K mainGlobals cn = some (some (.ref C))
theorem CN.same {K : PySem.W.Frag} {cn : Str} {C C' : Addr} (h : CN K cn C) (h' : PySem.W.nsIn K mainGlobals cn = some (some (.ref C'))) : C' = C := by
  have h : PySem.W.nsIn K mainGlobals cn = some (some (.ref C)) := h
  rw [h] at h'
  cases h'
  rfl
def lookF : List Str → List D → Str → Option D
  | n :: ns, d :: ds, f => if f = n then some d else lookF ns ds f
  | _, _, _ => none
def asObj (cn : Str) (d : D) (k : List Str → List D → Prop) : Prop := match d with | .obj c ns es => c = cn ∧ k ns es | _ => False
theorem asObj_of {cn : Str} {d : D} {k : List Str → List D → Prop} (h : asObj cn d k) : ∃ ns es, d = .obj cn ns es ∧ k ns es := by
  cases d <;> first | exact h.elim | skip
  obtain ⟨rfl, h⟩ := h
  exact ⟨_, _, rfl, h⟩
section
variable {K : PySem.W.Frag} {H : Hp}
theorem lookF_rp : ∀ {fs : List (Str × V)} {ds : List D} {f : Str} {d : D}, RpAll K H (fs.map (·.2)) ds → lookF (fs.map (·.1)) ds f = some d → ∃ v, fs.lookup f = some v ∧ Rp K H v d
  | [], _, _, _, h, e => by cases h; cases e
  | kv :: fs, _, f, d, h, e => by
    cases h with
    | cons a h =>
      obtain ⟨n, v⟩ := kv
      have e : (if f = n then some _ else lookF (fs.map (·.1)) _ f) = some d := e
      rw [List.lookup_cons]
      by_cases q : f = n
      · rw [if_pos q] at e
        cases e
        rw [show (f == n) = true by rw [q]; simp]
        exact ⟨v, rfl, a⟩
      · rw [if_neg q] at e
        rw [show (f == n) = false by simp [q]]
        exact lookF_rp h e
theorem lookup_notin : ∀ {fs : List (Str × V)} {m : Str}, m ∉ fs.map (·.1) → fs.lookup m = none
  | [], _, _ => rfl
  | (n, v) :: fs, m, h => by
    rw [List.map_cons, List.mem_cons, not_or] at h
    rw [List.lookup_cons, show (m == n) = false by simp [h.1]]
    exact lookup_notin h.2
end
section
variable {W : Wc} {X : Cx} {K : PySem.W.Frag} {o e : Expr} {es : List Expr} {to ta tv : TE} {do' da dv : TDE} {t : TA} {dt : TDF} {pos p apos : Pos} {cn f m x : Str} {C : Addr} {i : Nat}
/-- o.f -/
def rdFld (cn f : Str) (do' : TDE) : TDE := fun Γ Q => do' Γ fun d Γ1 => asObj cn d fun ns es => ∃ v, lookF ns es f = some v ∧ Q v Γ1
theorem d_fld (hK : X.K = K) (hc : CN K cn C) (c : Cls K C) (n : NoAttr K C f) (ho : DE W X o to do') (hb : attributeBase o f X.env (eval o X.env) = eval o X.env := by rfl) : DE W X (.Attribute o f pos) (tFld K to f) (rdFld cn f do') := by
  subst hK
  refine ⟨pe_fld ho.pe hb, fun Γ σ Hv H Q Q' E h k => ho.ad Γ σ Hv H _ _ E h fun v d Γ1 Hv1 H1 s1 r1 q => ?_⟩
  obtain ⟨ns, es, ed, d', e1, q2⟩ := asObj_of q
  subst ed
  cases r1 with
  | obj h1 h2 h3 h4 =>
    subst h3
    obtain rfl := hc.same h2
    obtain ⟨w, e2, rw'⟩ := lookF_rp h4 e1
    exact ⟨_, _, _, _, w, rfl, s1.ev.ret.sub.ins h1, c, n, e2, k w d' Γ1 Hv1 H1 s1 rw' q2⟩
variable {CX : CXT} {k : Nat} {g : Addr} {fd : FuncData} {ps : List Str} {F : FD} {dvs : List V} {dds : List D} {ds : List Value} {E : XK}
/-- o.m(e, ..), m a pure def of the class -/
def rdMeth (cn m : Str) (F : FD) (dds : List D) (do' : TDE) (dt : TDF) : TDE := fun Γ Q => do' Γ fun d Γ1 => asObj cn d fun ns es => m ∉ ns ∧ dt Γ1 fun ds Γ2 => F (d :: (ds ++ dds)) fun r => Q r Γ2
theorem ad_meth (hc : CN K cn C) (hdd : ∀ H, RpAll K H dvs dds) (ho : Ad K W to do') (ha : AdA K W t dt) : Ad K W (tMeth C m (spD Vol.no K F) dvs E to t) (rdMeth cn m F dds do' dt) := fun Γ σ Hv H Q Q' Z h k => by
  refine ho Γ σ Hv H _ _ Z h fun v d Γ1 Hv1 H1 s1 r1 q => ?_
  obtain ⟨ns, es, rfl, hm, q⟩ := asObj_of q
  have r1' := r1
  cases r1 with
  | obj h1 h2 h3 h4 =>
    subst h3
    obtain rfl := hc.same h2
    refine ⟨_, _, _, rfl, s1.ev.ret.sub.ins h1, lookup_notin hm, ?_⟩
    refine ha Γ1 σ Hv1 H1 _ _ s1.ev q fun vs ds Γ2 Hv2 H2 s2 r2 q => ?_
    exact ⟨Hv2, _, _, s2.ev.ret.sub, True.intro, fun _ z => z.elim, .cons (Rp.mono s2.sv _ _ r1') (r2.append (hdd _)), q, fun v d Hv3 H3 R r3 q3 => k v d Γ2 Hv3 H3 ((s1.trans s2).after (s2.ev.pure R)) r3 q3⟩
def putNs (ns : List Str) (f : Str) : List Str := match ns with
  | [] => [f]
  | g :: r => if g = f then g :: r else g :: putNs r f
def putEs (ns : List Str) (es : List D) (f : Str) (d : D) : List D := match ns, es with
  | g :: r, x :: xs => if g = f then d :: xs else x :: putEs r xs f d
  | _, _ => [d]
theorem putF_rp {H : Hp} : ∀ {fs : List (Str × V)} {ds : List D} {f : Str} {v : V} {d : D}, RpAll K H (fs.map (·.2)) ds → Rp K H v d → (putF f v fs).map (·.1) = putNs (fs.map (·.1)) f ∧ RpAll K H ((putF f v fs).map (·.2)) (putEs (fs.map (·.1)) ds f d)
  | [], _, f, v, d, h, r => by cases h; exact ⟨rfl, .cons r .nil⟩
  | (g, x) :: fs, _, f, v, d, h, r => by
    cases h with
    | cons a h =>
      obtain ⟨i1, i2⟩ := putF_rp (f := f) h r
      unfold putF putNs putEs
      simp only [List.map_cons]
      by_cases e : g = f
      · rw [if_pos e, if_pos e, if_pos e]
        exact ⟨rfl, .cons r h⟩
      · rw [if_neg e, if_neg e, if_neg e]
        exact ⟨by rw [List.map_cons, i1], .cons a i2⟩
def rdPutF (i : Nat) (cn f : Str) (dv : TDE) : TDS := fun E Γ => dv Γ fun d Γ1 => ∃ y ns es, Γ1[i]? = some (.slf y (.obj cn ns es)) ∧ ns.length < 1000 ∧ E.nx (Γ1.set i (.slf y (.obj cn (putNs ns f) (putEs ns es f d))))
theorem ds_putF {value : Expr} {pos' : Pos} (hK : X.K = K) (hc : CN K cn C) (c : Cls K C) (n : NoAttr K C f) (hvv : DE W X value tv dv) (hs : swapsWith value (some (.Attribute (.Name x p) f pos')) pos.line X.env = pure false := by rfl) (hN : X.N[i]? = some x := by rfl) (hv : Vis X.env.scope x := by first | exact Or.inl rfl | exact Or.inr (Or.inl rfl) | exact Or.inr (Or.inr rfl))
    (hdb : (x == ("__debug__" : Str)) = false := by decide) (hcd : (x == ("__classdict__" : Str)) = false := by decide) : DS W X (.Assign [.Attribute (.Name x p) f pos'] value pos) (sFld K (tVar i) tv f) (rdPutF i cn f dv) := by
  subst hK
  refine ⟨ps_fld (pe_var hN hv hdb hcd) hvv.pe hs, fun Γ σ Hv H E E' Z h l => ?_⟩
  refine hvv.ad Γ σ Hv H _ _ Z h fun v d Γ1 Hv1 H1 s1 r1 q => ?_
  obtain ⟨a, ns, es, e1, hl, q⟩ := q
  obtain ⟨u, h1, hH, ⟨C', dx, fs, rfl, h2, rfl, h4⟩, _⟩ := s1.ev.getSlf e1
  obtain rfl := hc.same h2
  obtain ⟨p1, p2⟩ := putF_rp (f := f) h4 r1
  refine ⟨_, h1, a, _, dx, fs, rfl, hH, c, n, by rw [List.length_map] at hl; exact hl, ?_⟩
  exact l.nx _ _ _ _ (s1.mutS (d' := .obj cn (putNs (fs.map (·.1)) f) (putEs (fs.map (·.1)) es f d)) e1 ⟨_, dx, _, rfl, h2, p1.symm, p2⟩) q
end
end VL
set_option Elab.async false
set_option linter.all false
set_option maxRecDepth 100000
set_option maxHeartbeats 4000000
namespace VL
open PySem PySem.Spec L2
open PyProof.Rows hiding St
/-- the arguments: data, or (true) an object that the caller alone holds -/
inductive ArgsR (K : PySem.W.Frag) (vol : Addr → Prop) (Hv H : Hp) : List Bool → List V → List D → Prop
  | nil : ArgsR K vol Hv H [] [] []
  | dat {v : V} {d : D} {bs : List Bool} {vs : List V} {ds : List D} : Rp K Hv v d → ArgsR K vol Hv H bs vs ds → ArgsR K vol Hv H (false :: bs) (v :: vs) (d :: ds)
  | bor {a : Addr} {u : HO} {d : D} {bs : List Bool} {vs : List V} {ds : List D} : H a = some u → ObD K Hv d u → Hv a = none → ¬ vol a → ArgsR K vol Hv H bs vs ds → ArgsR K vol Hv H (true :: bs) (.ref a :: vs) (d :: ds)
theorem ArgsR.length {K : PySem.W.Frag} {vol : Addr → Prop} {Hv H : Hp} : ∀ {bs : List Bool} {vs : List V} {ds : List D}, ArgsR K vol Hv H bs vs ds → vs.length = ds.length
  | _, _, _, .nil => rfl
  | _, _, _, .dat _ h => by rw [List.length_cons, List.length_cons, h.length]
  | _, _, _, .bor _ _ _ _ h => by rw [List.length_cons, List.length_cons, h.length]
end VL
set_option Elab.async false
set_option linter.all false
set_option maxRecDepth 100000
set_option maxHeartbeats 4000000
namespace VL
open PySem PySem.Spec L2
open PyProof.Rows hiding St
section
variable {W : Wc} {X : Cx} {K : PySem.W.Frag}
variable {x fx : Str} {p fp pos : Pos} {i : Nat} {id T : String}
/-- x.pop(e) -/
theorem d_pop {e : Expr} {te : TE} {de : TDE} {apos cpos : Pos} (hK : X.K = K) (he : DE W X e te de) (hN : X.N[i]? = some x := by rfl) (hv : Vis X.env.scope x := by first | exact Or.inl rfl | exact Or.inr (Or.inl rfl) | exact Or.inr (Or.inr rfl)) (hd : (x == ("__debug__" : Str)) = false := by decide)
    (hcd : (x == ("__classdict__" : Str)) = false := by decide) (hbase : attributeBase (.Name x p) "pop" X.env (eval (.Name x p) X.env) = eval (.Name x p) X.env := by rfl)
    (hfew : ((backTo cpos (starEach [e] X.env)).all (fun x => !x.1) && (backToKw cpos (keywordEach [] X.env)).all (fun x => x.1.isSome)
      && decide ([e].length + ([] : List Keyword).length + (if ([] : List Keyword).isEmpty then 0 else 1) < 30)) = true := by rfl)
    (hline : (apos.endLine == cpos.line) = true := by rfl) (hs : starEach [e] X.env = (false, eval e X.env) :: starEach [] X.env := by rfl) (hplain : (backTo cpos (starEach [] X.env)).any (·.1) = false := by rfl) :
    DE W X (.Call (.Attribute (.Name x p) "pop" apos) [e] [] cpos) (tBM K "list" rPopAt (tVar i) (tCons te tNil)) (rdPop i de) := by
  subst hK
  exact ⟨pe_bm PySem.F.plainAttrs_list PySem.F.slot_list_pop PySem.F.type_list_pop mt_popAt (pe_var hN hv hd hcd) (pa_cons he.pe pa_nil hs) hbase hfew hline hs hplain, ad_pop he.ad⟩
end
end VL
set_option Elab.async false
set_option linter.all false
set_option maxRecDepth 100000
set_option maxHeartbeats 4000000
namespace VL
open PySem PySem.Spec L2
open PyProof.Rows hiding St
section
variable {W : Wc} {X : Cx} {K : PySem.W.Frag} {o call : Expr} {es : List Expr} {to : TE} {do' : TDE} {t : TA} {dt : TDF} {cn m f : Str} {C : Addr} {F : FD} {dvs : List V} {dds : List D} {E : XK}
/-- o.m(..): h is «fun po pa => pe_meth po c hm G hr hb hd hx pa» (pe_meth0 where there is no argument) -/
theorem d_meth (hK : X.K = K) (hc : CN K cn C) (hdd : ∀ H, RpAll K H dvs dds) (h : PE X o to → PA X es t → PE X call (tMeth C m (spD Vol.no K F) dvs E to t)) (ho : DE W X o to do') (ha : DA W X es t dt) : DE W X call (tMeth C m (spD Vol.no K F) dvs E to t) (rdMeth cn m F dds do' dt) := by
  subst hK
  exact ⟨h ho.pe ha.pa, ad_meth hc hdd ho.ad ha.ad⟩
/-- o.f, a property with a pure getter: h is «fun po => pe_prop po c hp G hr hb .nil hx rfl» -/
def rdProp (cn : Str) (F : FD) (do' : TDE) : TDE := fun Γ Q => do' Γ fun d Γ1 => asObj cn d fun _ _ => F [d] fun r => Q r Γ1
theorem d_prop (hK : X.K = K) (hc : CN K cn C) (h : PE X o to → PE X call (tProp C (spD Vol.no K F) [] E to)) (ho : DE W X o to do') : DE W X call (tProp C (spD Vol.no K F) [] E to) (rdProp cn F do') := by
  subst hK
  refine ⟨h ho.pe, fun Γ σ Hv H Q Q' Z h k => ho.ad Γ σ Hv H _ _ Z h fun v d Γ1 Hv1 H1 s1 r1 q => ?_⟩
  obtain ⟨ns, es, ed, q⟩ := asObj_of q
  subst ed
  have r1' := r1
  cases r1 with
  | obj h1 h2 h3 h4 =>
    subst h3
    obtain rfl := hc.same h2
    exact ⟨_, _, _, rfl, s1.ev.ret.sub.ins h1, Hv1, _, _, s1.ev.ret.sub, True.intro, fun _ z => z.elim, .cons r1' .nil, q, fun v d Hv3 H3 R r3 q3 => k v d Γ1 Hv3 H3 (s1.after (s1.ev.pure R)) r3 q3⟩
end
end VL
set_option Elab.async false
set_option linter.all false
set_option maxRecDepth 100000
set_option maxHeartbeats 4000000
namespace VL
open PySem PySem.Spec L2
open PyProof.Rows hiding St
end VL
set_option Elab.async false
set_option linter.all false
set_option maxRecDepth 100000
set_option maxHeartbeats 4000000
namespace VL
open PySem
end VL
set_option Elab.async false
set_option linter.all false
set_option maxRecDepth 100000
set_option maxHeartbeats 4000000
namespace VL
open PySem
end VL
set_option Elab.async false
set_option linter.all false
set_option maxRecDepth 100000
set_option maxHeartbeats 4000000
namespace VL
open PySem PySem.Spec L2
open PyProof.Rows hiding St
end VL
set_option Elab.async false
set_option linter.all false
set_option maxRecDepth 100000
set_option maxHeartbeats 4000000
namespace VL
open PySem PySem.Spec L2
open PyProof.Rows hiding St
end VL
set_option Elab.async false
set_option linter.all false
set_option maxRecDepth 100000
set_option maxHeartbeats 4000000
namespace VL
open PySem PySem.Spec L2
open PyProof.Rows hiding St
section
variable {X : Cx} {CX : CXT} {k : Nat} {C g : Addr} {sp : Sp} {E : XK}
theorem relV_real {v : V} {u : Value} (r : RelV v u) : u ≠ .notImplemented := by
  cases v <;> first | (obtain ⟨t, rfl⟩ := r; simp) | (cases r; simp)
theorem cmpBack_of {pins : List (Addr × Obj)} {σ : L2.St} {Q : VK} {u : Value} {s' : Shared} (h : EP X pins σ Q u s') : PySem.W.CmpBack (EP X pins σ Q) u s' := by
  obtain ⟨v, H', I, r, q⟩ := h
  have n := relV_real r
  cases u <;> first | exact absurd rfl n | exact ⟨v, H', I, r, q⟩
/-- what an own method of the class at C must be -/
structure Dun (K : PySem.W.Frag) (C : Addr) (m : Str) (g : Addr) : Prop where
  at_ : PySem.W.findIn K (.ref C) m = some (some (.ref g))
  fn : PySem.W.isFn K (.ref g) = true
/-- x op y, both instances of the class at C -/
def rOwnB (C : Addr) (sp : Sp) (E : XK) : R2 := fun x y H Q => ∃ a b dx dy fs gs, x = .ref a ∧ y = .ref b ∧ H a = some (.ins C dx fs) ∧ H b = some (.ins C dy gs) ∧ sp [x, y] H Q E
theorem op_ownB {op : Operator} (F : FnR X.prog X.w X.K X.mg X.base CX k g sp) (hr : Room k X.A) (hx : Passes CX X E) (hs : Dun X.K C (PySem.dunder op.info.2) g) (hc : PySem.W.selfFirst X.K C = true) : OpR X (binaryOp op) (rOwnB C sp E) := by
  intro pins s σ H x y v u Q I rx ry h
  obtain ⟨a, b, dx, dy, fs, gs, rfl, rfl, ha, hb, hsp⟩ := h
  cases rx
  cases ry
  obtain ⟨mA, J, _⟩ := ins_get I.hok ha
  obtain ⟨mB, J', _⟩ := ins_get I.hok hb
  obtain ⟨od, J, _⟩ := J.look
  obtain ⟨od', J', _⟩ := J'.look
  obtain ⟨m, hF⟩ := I.fr
  have r2 : Vals [V.ref a, V.ref b] [Value.ref a, Value.ref b] := .cons rfl (.cons rfl .nil)
  exact PySem.W.binop_K hF I.ok.mod.kin J J'.type hc hs.at_ hs.fn (wpAny_mono (wpAny_call (run_fnR F hr hx I r2 hsp)) (fun v s' q => cmpBack_of q) fun _ _ e => e)
/-- the type of a value, as a comparison looks at it -/
def TyB (K : PySem.W.Frag) (C : Addr) (H : Hp) (y : V) : Prop := (∃ n, TyX K H y (.type n) ∧ PySem.W.notFirst K C (.type n) = true) ∨ ∃ b dy gs, y = .ref b ∧ H b = some (.ins C dy gs)
theorem tyB_looks {pins : List (Addr × Obj)} {σ : L2.St} {H : Hp} {s : Shared} {y : V} {u : Value} (I : Inv X pins σ H s) (ry : RelV y u) (h : TyB X.K C H y) : ∃ tb, PySem.W.Looks (model X.prog X.w) s.heap (typeOf u) tb ∧ PySem.W.notFirst X.K C tb = true := by
  rcases h with ⟨n, t, e⟩ | ⟨b, dy, gs, rfl, hb⟩
  · obtain ⟨P, kx, hp, _⟩ := kit_of I ry t
    exact ⟨_, kx.ty _ _ I.kIn hp, e⟩
  · cases ry
    obtain ⟨mB, J', _⟩ := ins_get I.hok hb
    obtain ⟨od', J', _⟩ := J'.look
    exact ⟨_, J'.type, by unfold PySem.W.notFirst; simp⟩
def rOwnEq (K : PySem.W.Frag) (C : Addr) (sp : Sp) (E : XK) : R2 := fun x y H Q => ∃ a dx fs, x = .ref a ∧ H a = some (.ins C dx fs) ∧ TyB K C H y ∧ sp [x, y] H Q E
theorem op_ownEq (F : FnR X.prog X.w X.K X.mg X.base CX k g sp) (hr : Room k X.A) (hx : Passes CX X E) (hs : Dun X.K C "__eq__" g) : OpR X (compareOp .Eq) (rOwnEq X.K C sp E) := by
  intro pins s σ H x y v u Q I rx ry h
  obtain ⟨a, dx, fs, rfl, ha, ty, hsp⟩ := h
  cases rx
  obtain ⟨mA, J, _⟩ := ins_get I.hok ha
  obtain ⟨od, J, _⟩ := J.look
  obtain ⟨m, hF⟩ := I.fr
  obtain ⟨tb, hb, hn⟩ := tyB_looks I ry ty
  have r2 : Vals [V.ref a, y] [Value.ref a, u] := .cons rfl (.cons ry .nil)
  exact PySem.W.cmp_K (op := .Eq) hr.units0 hF I.ok.mod.kin J hb hn hs.at_ hs.fn (wpAny_mono (wpAny_call (run_fnR F hr hx I r2 hsp)) (fun v s' q => cmpBack_of q) fun _ _ e => e)
/-- x in y, y an instance of the class at C -/
def rOwnIn (C : Addr) (sp : Sp) (E : XK) (neg : Bool) : R2 := fun x y H Q => ∃ a dx fs, y = .ref a ∧ H a = some (.ins C dx fs) ∧ sp [y, x] H (fun r H' => ∃ b, r = .bl b ∧ Q (.bl (neg ^^ b)) H') E
theorem op_ownIn (F : FnR X.prog X.w X.K X.mg X.base CX k g sp) (hr : Room k X.A) (hx : Passes CX X E) (hs : Dun X.K C "__contains__" g) : OpR X (compareOp .In) (rOwnIn C sp E false) := by
  intro pins s σ H x y v u Q I rx ry h
  obtain ⟨a, dx, fs, rfl, ha, hsp⟩ := h
  cases ry
  obtain ⟨mA, J, _⟩ := ins_get I.hok ha
  obtain ⟨od, J, _⟩ := J.look
  obtain ⟨m, hF⟩ := I.fr
  have r2 : Vals [V.ref a, x] [Value.ref a, v] := .cons rfl (.cons rx .nil)
  refine PySem.W.in_K hF I.ok.mod.kin J hs.at_ hs.fn (wpAny_mono (wpAny_call (run_fnR F hr hx I r2 hsp)) (fun v s' q => ?_) fun _ _ e => e)
  obtain ⟨r, H', I', rr, b, rfl, q⟩ := q
  cases rr
  refine wpAny_truthy_bool ?_
  exact ⟨.bl _, H', I', rfl, by rw [Bool.false_xor] at q; exact q⟩
/-- len(x) -/
def rOwnLen (C : Addr) (sp : Sp) (E : XK) : List V → Hp → VK → Prop := fun xs H Q => ∃ a dx fs, xs = [.ref a] ∧ H a = some (.ins C dx fs) ∧ sp xs H (fun r H' => ∃ n : Int, r = .int n ∧ (0 ≤ n ∧ n < 2 ^ 63) ∧ Q (.int n) H') E
theorem cr_ownLen (F : FnR X.prog X.w X.K X.mg X.base CX k g sp) (hr : Room (k + 1) X.A) (hx : Passes CX X E) (hs : Dun X.K C "__len__" g) : CallR X (.builtin "len") (rOwnLen C sp E) := by
  intro pins s σ H xs us Q I r h
  obtain ⟨a, dx, fs, rfl, ha, hsp⟩ := h
  cases r with
  | cons r0 r1 =>
  cases r0
  cases r1
  obtain ⟨mA, J, _⟩ := ins_get I.hok ha
  obtain ⟨od, J, _⟩ := J.look
  obtain ⟨m, hF⟩ := I.fr
  have r2 : Vals [V.ref a] [Value.ref a] := .cons rfl .nil
  refine PySem.W.len_K hF I.ok.mod.kin J hs.at_ hs.fn (wpAny_call (codeAny_mono (F X.A.in1 X.stack s H [.ref a] [.ref a] _ E hr.in1 I.env0.in1 r2 hsp) fun r s' hq => ?_))
  cases r with
  | error e => exact hx pins σ H s e s' I hq
  | ok fl =>
    cases fl with
    | ret w =>
      obtain ⟨z, H', I', rz, n, rfl, hn, q⟩ := I.after hq
      obtain ⟨t, rfl⟩ := rz
      exact ⟨hn, ⟨.int n, H', I'.tok _, ⟨_, rfl⟩, q⟩⟩
    | next => exact False.elim hq
    | brk => exact False.elim hq
    | cont => exact False.elim hq
end
structure Kls (K : PySem.W.Frag) (cn : Str) (C : Addr) : Prop where
  cn : CN K cn C
  cls : Cls K C
  ca : PySem.W.findIn K (.ref C) "__class__" = some (some (.builtin "object.__class__"))
  cg : PySem.W.specialIn K (.builtin "object.__class__") "__get__" = some (some (.builtin "getset_descriptor.__get__"))
  ct : PySem.W.takesIn K (.builtin "object.__class__") = some true
  mo : PySem.W.mroIn K C (.type "object") = some true
  sf : PySem.W.selfFirst K C = true
  ci : PySem.W.isClsIn K C = true
  ty : PySem.W.typeIn K (.ref C) = some (.type "type")
section
variable {K : PySem.W.Frag} {cn : Str} {C : Addr} {H : Hp}
theorem Kls.tyX (k : Kls K cn C) {a dx : Addr} {fs : List (Str × V)} (h : H a = some (.ins C dx fs)) : TyX K H (.ref a) (.ref C) := .base (.ins h k.cls k.ca k.cg k.ct k.mo)
theorem sub_ty {d : D} {n : String} (h : tyName d = some n) : PySem.W.subIn K (.type n) (.ref C) = some false := by
  cases d <;> cases h <;> rfl
theorem notFirst_ty {d : D} {n : String} (h : tyName d = some n) : PySem.W.notFirst K C (.type n) = true := by
  unfold PySem.W.notFirst
  rw [sub_ty h]
  simp
theorem Kls.kit (k : Kls K cn C) {t : Value} {b : Bool} (h : PySem.W.subIn K t (.ref C) = some b) (ne : t ≠ .ref C) : PySem.W.kitOne K t (.ref C) = some b := by
  unfold PySem.W.kitOne PySem.W.kitCls
  have e : (t == Value.ref C) = false := by simpa using ne
  have ci : (PySem.W.clsIn K C).isSome = true := k.ci
  simp only [e, Bool.false_eq_true, if_false, ci, k.ty, h, Bool.true_and, beq_self_eq_true, if_true]
theorem Kls.kit1 : PySem.W.kitOne K (.ref C) (.ref C) = some true := by
  unfold PySem.W.kitOne
  simp
/-- whether data is an instance of the class cn; others: classes that are not -/
def isiO (cn : Str) (others : List Str) : D → Option Bool
  | .obj c _ _ => if c = cn then some true else if others.contains c then some false else none
  | d => (tyName d).map fun _ => false
def rdIsiC (C : Addr) (cn : Str) (others : List Str) : List D → (D → Prop) → Prop := fun ds Q => match ds with
  | [x, .ref a] => a = C ∧ ∃ b, isiO cn others x = some b ∧ Q (.bl b)
  | _ => False
/-- the other classes are not above -/
def Oth (K : PySem.W.Frag) (C : Addr) (others : List Str) : Prop := ∀ c, others.contains c = true → ∃ C', Kls K c C' ∧ PySem.W.mroIn K C' (.ref C) = some false ∧ C' ≠ C
theorem oth_nil : Oth K C [] := fun c h => by simp at h
theorem isiO_ty {others : List Str} {x : D} {b : Bool} {v : V} {W : Wc} {Γ : Gm} {σ : L2.St} {Hv : Hp} (k : Kls K cn C) (o : Oth K C others) (h : isiO cn others x = some b) (r : Rp K H v x) : ∃ t, TyX K H v t ∧ PySem.W.kitOne K t (.ref C) = some b := by
  by_cases hx : ∃ n, tyName x = some n
  · obtain ⟨n, hn⟩ := hx
    have e : b = false := by
      cases x <;> first | cases hn | skip
      all_goals (unfold isiO at h; cases h; rfl)
    subst e
    exact ⟨_, tyX_of r hn, k.kit (sub_ty hn) (fun z => nomatch z)⟩
  · cases x with
    | obj c ns ds =>
      cases r with
      | obj h1 h2 h3 h4 =>
      rename_i a C' dx fs
      have h : (if c = cn then some true else if others.contains c then some false else none) = some b := h
      by_cases ec : c = cn
      · subst ec
        rw [if_pos rfl] at h
        cases h
        have := k.cn.same h2
        subst this
        exact ⟨_, k.tyX h1, Kls.kit1⟩
      · rw [if_neg ec] at h
        by_cases ho : others.contains c = true
        · rw [if_pos ho] at h
          cases h
          obtain ⟨C2, k2, hm, hn⟩ := o c ho
          have := k2.cn.same h2
          subst this
          exact ⟨_, k2.tyX h1, k.kit hm (fun z => hn (by injection z))⟩
        · rw [if_neg ho] at h
          cases h
    | non => exact absurd ⟨_, rfl⟩ hx
    | bl b => exact absurd ⟨_, rfl⟩ hx
    | int b => exact absurd ⟨_, rfl⟩ hx
    | str b => exact absurd ⟨_, rfl⟩ hx
    | lst b => exact absurd ⟨_, rfl⟩ hx
    | tup b => exact absurd ⟨_, rfl⟩ hx
    | dic b c => exact absurd ⟨_, rfl⟩ hx
    | ty n => unfold isiO at h; cases h
    | ref n => unfold isiO at h; cases h
    | fz n => unfold isiO at h; cases h
    | exc c ns ds => unfold isiO at h; cases h
    | dct c ds => unfold isiO at h; cases h
    | wtup ds => unfold isiO at h; cases h
theorem cd_isiC {W : Wc} {others : List Str} (k : Kls K cn C) (o : Oth K C others) : CallD K W (rIsi K) (rdIsiC C cn others) := by
  intro Γ σ Hv H vs ds Q Q' E r h kk
  unfold rdIsiC at h
  split at h
  · obtain ⟨rfl, b, e, q⟩ := h
    obtain ⟨v, w, rfl, rv, rw'⟩ := r.two
    cases rw'
    obtain ⟨t, ht, hk⟩ := isiO_ty (W := W) (Γ := Γ) (σ := σ) (Hv := Hv) k o e (Rp.monoS E.ret.sub _ _ rv)
    exact ⟨v, _, _, _, b, rfl, .own _, ht, hk, kk _ _ Hv H E.stp (.bl _) q⟩
  · exact h.elim
variable {W : Wc} {F : FD} {E : XK}
/-- x op y, both of the class cn -/
def rdOwnB (cn : Str) (F : FD) : RD2 := fun x y Q => asObj cn x fun _ _ => asObj cn y fun _ _ => F [x, y] Q
/-- x op y, x of the class cn; y is data of a kind that a comparison may look at -/
def okY (cn : Str) (d : D) : Prop := (∃ n, tyName d = some n) ∨ asObj cn d fun _ _ => True
def rdOwnEq (cn : Str) (F : FD) : RD2 := fun x y Q => asObj cn x fun _ _ => okY cn y ∧ F [x, y] Q
def rdOwnIn (cn : Str) (F : FD) (neg : Bool) : RD2 := fun x y Q => asObj cn y fun _ _ => F [y, x] fun d => asB d fun b => Q (.bl (neg ^^ b))
def rdOwnLen (cn : Str) (F : FD) : List D → (D → Prop) → Prop := fun ds Q => match ds with
  | [x] => asObj cn x fun _ _ => F [x] fun d => asI d fun n => (0 ≤ n ∧ n < 2 ^ 63) ∧ Q (.int n)
  | _ => False
theorem rp_obj {Hv : Hp} (k : CN K cn C) {v : V} {ns : List Str} {es : List D} (r : Rp K Hv v (.obj cn ns es)) (s : Sub Hv H) : ∃ a dx fs, v = .ref a ∧ H a = some (.ins C dx fs) := by
  cases r with
  | obj h1 h2 h3 h4 =>
    have := k.same h2
    subst this
    exact ⟨_, _, _, rfl, s.ins h1⟩
theorem od_ownB (k : CN K cn C) : OpD K W (rOwnB C (spD Vol.no K F) E) (rdOwnB cn F) := by
  intro Γ σ Hv H x y dx dy Q Q' Z rx ry h kk
  obtain ⟨ns, es, rfl, h⟩ := asObj_of h
  obtain ⟨ns2, es2, rfl, h⟩ := asObj_of h
  obtain ⟨a, d1, f1, rfl, h1⟩ := rp_obj k rx Z.ret.sub
  obtain ⟨b, d2, f2, rfl, h2⟩ := rp_obj k ry Z.ret.sub
  exact ⟨a, b, d1, d2, f1, f2, rfl, rfl, h1, h2, Hv, _, _, Z.ret.sub, True.intro, fun _ z => z.elim, .cons rx (.cons ry .nil), h, fun v d Hv2 H2 R r2 q2 => kk v d Hv2 H2 (Z.stp.after (Z.pure R)) r2 q2⟩
theorem tyB_of {Hv : Hp} (k : CN K cn C) {y : V} {d : D} (r : Rp K Hv y d) (s : Sub Hv H) (h : okY cn d) : TyB K C H y := by
  rcases h with ⟨n, h⟩ | h
  · exact .inl ⟨n, tyX_of (Rp.monoS s _ _ r) h, notFirst_ty h⟩
  · obtain ⟨ns, es, rfl, _⟩ := asObj_of h
    obtain ⟨a, dx, fs, rfl, h1⟩ := rp_obj k r s
    exact .inr ⟨a, dx, fs, rfl, h1⟩
theorem od_ownEq (k : CN K cn C) : OpD K W (rOwnEq K C (spD Vol.no K F) E) (rdOwnEq cn F) := by
  intro Γ σ Hv H x y dx dy Q Q' Z rx ry h kk
  obtain ⟨ns, es, rfl, ok, h⟩ := asObj_of h
  obtain ⟨a, d1, f1, rfl, h1⟩ := rp_obj k rx Z.ret.sub
  exact ⟨a, d1, f1, rfl, h1, tyB_of k ry Z.ret.sub ok, Hv, _, _, Z.ret.sub, True.intro, fun _ z => z.elim, .cons rx (.cons ry .nil), h, fun v d Hv2 H2 R r2 q2 => kk v d Hv2 H2 (Z.stp.after (Z.pure R)) r2 q2⟩
theorem od_ownIn (k : CN K cn C) (neg : Bool) : OpD K W (rOwnIn C (spD Vol.no K F) E neg) (rdOwnIn cn F neg) := by
  intro Γ σ Hv H x y dx dy Q Q' Z rx ry h kk
  obtain ⟨ns, es, rfl, h⟩ := asObj_of h
  obtain ⟨a, d1, f1, rfl, h1⟩ := rp_obj k ry Z.ret.sub
  refine ⟨a, d1, f1, rfl, h1, Hv, _, _, Z.ret.sub, True.intro, fun _ z => z.elim, .cons ry (.cons rx .nil), h, fun v d Hv2 H2 R r2 q2 => ?_⟩
  obtain ⟨c, rfl, q⟩ := asB_of r2 q2
  exact ⟨c, rfl, kk _ _ Hv2 H2 (Z.stp.after (Z.pure R)) (.bl _) q⟩
theorem cd_ownLen (k : CN K cn C) : CallD K W (rOwnLen C (spD Vol.no K F) E) (rdOwnLen cn F) := by
  intro Γ σ Hv H vs ds Q Q' Z r h kk
  unfold rdOwnLen at h
  split at h
  · obtain ⟨ns, es, rfl, h⟩ := asObj_of h
    obtain ⟨v, rfl, rv⟩ := r.one
    obtain ⟨a, d1, f1, rfl, h1⟩ := rp_obj k rv Z.ret.sub
    refine ⟨a, d1, f1, rfl, h1, Hv, _, _, Z.ret.sub, True.intro, fun _ z => z.elim, .cons rv .nil, h, fun v d Hv2 H2 R r2 q2 => ?_⟩
    obtain ⟨c, rfl, hn, q⟩ := asI_of r2 q2
    exact ⟨c, rfl, hn, kk _ _ Hv2 H2 (Z.stp.after (Z.pure R)) (.int _) q⟩
  · exact h.elim
end
end VL
set_option Elab.async false
set_option linter.all false
set_option maxRecDepth 100000
set_option maxHeartbeats 4000000
namespace VL
open PySem PySem.Spec L2
open PyProof.Rows hiding St
/-- the text that an entry keeps -/
def txE (e : Int × Value) : Str := match e.2 with | .str x _ => x | _ => Str.empty
def TxE (w : World) (e : Int × Value) : Prop := ∃ x u, e.2 = Value.str x u ∧ e.1 = hashStr w x
/-- at a stands a set of just these texts, in some order -/
def TxSet (w : World) (h : Heap) (a : Addr) (xs : List Str) : Prop :=
  ∃ o es ep t, h.get? a = some o ∧ o.ExactSet ∧ o.data = .set es ep t ∧ (∀ e ∈ es.toList, TxE w e) ∧ (es.toList.map txE).Perm xs ∧ xs.Nodup ∧ es.size < scanBound ∧ t.fits es.size = true ∧ Ris t.place.toList ∧ (w.params.followText "set-order" = true ∨ t.led = true)
section
variable {P : Program} {w : World} {A : Around} {E : Value → Shared → Prop} {s : Shared} {a : Addr} {xs : List Str} {h h' : Heap}
theorem TxSet.stay (T : TxSet w h a xs) (k : ∀ o, h.get? a = some o → h'.get? a = some o) : TxSet w h' a xs := by
  obtain ⟨o, es, ep, t, ho, r⟩ := T
  exact ⟨o, es, ep, t, k o ho, r⟩
end
end VL
set_option Elab.async false
set_option linter.all false
set_option maxRecDepth 100000
set_option maxHeartbeats 4000000
namespace VL
open PySem PySem.Spec L2
open PyProof.Rows hiding St
section
variable {P : Program} {w : World} {A : Around} {E : Value → Shared → Prop} {s : Shared}
abbrev set0 (w : World) : Obj := { cls := .type "set", dict := none, data := .set #[] 0 (.fresh 0 0 (!w.params.followText "set-order")) }
end
end VL
set_option Elab.async false
set_option linter.all false
set_option maxRecDepth 100000
set_option maxHeartbeats 4000000
namespace VL
open PySem PySem.Spec L2 PySem.W
open PyProof.Rows hiding St
mutual
theorem reads_new {h : Heap} {a : Addr} (n : h.get? a = none) : ∀ (d : PyData) (v : Value) (as : List Addr), Reads h v d as → a ∉ as
  | .none, _, _, .none => by simp
  | .bool _, _, _, .bool _ => by simp
  | .int _, _, _, .int _ _ => by simp
  | .str _, _, _, .str _ _ => by simp
  | .list xs, _, _, .list h1 _ _ r => by
    intro z
    rcases List.mem_cons.mp z with z | z
    · rw [z, h1] at n; cases n
    · exact readsAll_new n xs _ _ r z
  | .tuple xs, _, _, .tuple h1 _ _ r => readsAll_new n xs _ _ r
  | .dict kvs, _, _, r => by
    cases r with
    | dict h1 h2 h3 r1 r2 =>
      intro z
      rcases List.mem_append.mp z with z | z
      · rcases List.mem_cons.mp z with z | z
        · rw [z, h1] at n; cases n
        · exact readsAll_newK n kvs _ _ r1 z
      · exact readsAll_newV n kvs _ _ r2 z
theorem readsAll_new {h : Heap} {a : Addr} (n : h.get? a = none) : ∀ (ds : List PyData) (vs : List Value) (as : List Addr), ReadsAll h vs ds as → a ∉ as
  | [], _, _, .nil => by simp
  | d :: ds, _, _, .cons r rs => by
    intro z
    rcases List.mem_append.mp z with z | z
    · exact reads_new n d _ _ r z
    · exact readsAll_new n ds _ _ rs z
theorem readsAll_newK {h : Heap} {a : Addr} (n : h.get? a = none) : ∀ (ds : List (PyData × PyData)) (vs : List Value) (as : List Addr), ReadsAll h vs (ds.map (·.1)) as → a ∉ as
  | [], _, _, .nil => by simp
  | (d, e) :: ds, _, _, .cons r rs => by
    intro z
    rcases List.mem_append.mp z with z | z
    · exact reads_new n d _ _ r z
    · exact readsAll_newK n ds _ _ rs z
theorem readsAll_newV {h : Heap} {a : Addr} (n : h.get? a = none) : ∀ (ds : List (PyData × PyData)) (vs : List Value) (as : List Addr), ReadsAll h vs (ds.map (·.2)) as → a ∉ as
  | [], _, _, .nil => by simp
  | (d, e) :: ds, _, _, .cons r rs => by
    intro z
    rcases List.mem_append.mp z with z | z
    · exact reads_new n e _ _ r z
    · exact readsAll_newV n ds _ _ rs z
end
section
variable {P : Program} {w : World} {A : Around} {E : Value → Shared → Prop} {s : Shared} {β : Type} {enc : β → PyData} {R : Value → β → Prop}
/-- what sorted asks of the values that were gathered -/
structure SrtOk (h : Heap) (A : Around) (R : Value → β → Prop) (enc : β → PyData) (vs : List Value) (bs : List β) : Prop where
  is : EachIs R vs bs
  rd : EachIs (fun v b => ∃ as, Reads h v (enc b) as) vs bs
  al : AllAlike (bs.map enc)
  so : Sortable (bs.map enc)
  ln : bs.length ≤ sizeLine
  dp : ∀ b ∈ bs, A.units + 2 + (enc b).depth < cLine
theorem sorted_col {v : Value} {Q : Value → Shared → Prop} (hc : wpAny (model P w) A.in1 (collect v) (fun vs s1 => ∃ bs, SrtOk s1.heap A R enc vs bs ∧
      ∀ (s2 : Shared) (out : List Value) (c : Nat), (∀ b o, s1.heap.get? b = some o → s2.heap.get? b = some o) → s2.gens = s1.gens → s2.os = s1.os → s2.heap.get? s1.heap.objs.size = some (seqObj "list" out.toArray c) →
        EachIs R out (bs.mergeSort (dataLe false enc)) → Q (.ref s1.heap.objs.size) s2) E s) : wpAny (model P w) A (call (.builtin "sorted") [v]) Q E s := by
  refine Calls.call_function_entry kind_sorted plain_sorted entry_sorted (args_sorted1 _) ?_
  unfold Builtin.«sorted»
  refine wpAny_bind (m := checkCount "sorted" 1 1 _) (wpAny_pure ?_)
  refine wpAny_bind (wpAny_mono hc (fun vs s1 h1 => ?_) fun _ _ e => e)
  obtain ⟨bs, ok, q⟩ := h1
  have hvl : vs.length = bs.length := by
    have := ok.is
    clear q ok
    induction this with
    | nil => rfl
    | cons _ _ ih => rw [List.length_cons, List.length_cons, ih]
  refine wpAny_bind (wpAny_newList ?_ (by rw [hvl]; exact ok.ln))
  have keep : ∀ b o, s1.heap.get? b = some o → (s1.heap.push (seqObj "list" vs.toArray 0)).get? b = some o := fun b o e => Heap.get?_push_of_some _ e
  have new : s1.heap.get? s1.heap.objs.size = none := by
    cases z : s1.heap.get? s1.heap.objs.size with
    | none => rfl
    | some o => exact absurd (Heap.lt_size z) (Nat.lt_irrefl _)
  have at_ : (s1.heap.push (seqObj "list" vs.toArray 0)).get? s1.heap.objs.size = some (seqObj "list" vs.toArray 0) := Heap.get?_push_size _ rfl
  refine wpAny_bind (wpAny_holding (list_sort_data (s := { s1 with heap := s1.heap.push (seqObj "list" vs.toArray 0) }) (enc := enc) at_ ok.is (ok.rd.mono fun u b ⟨as, r⟩ => ⟨as, PyProof.Rows.Reads.keeps keep r, reads_new new _ _ _ r⟩) ok.al ok.so ok.ln (fun b hb => by
    have := ok.dp b hb
    show A.units + 1 + 1 + _ < _
    exact this) fun out ho he => ?_))
  obtain ⟨c, hcc⟩ := sortedHeap_at (vs := vs) (out := out.toArray) at_
  refine wpAny_pure ⟨_, rfl, q _ out c (fun b u e => ?_) rfl rfl hcc he⟩
  have lt := Heap.lt_size e
  show (sortedHeap (s1.heap.push (seqObj "list" vs.toArray 0)) s1.heap.objs.size vs out.toArray).get? b = some u
  rw [sortedHeap_old (Nat.ne_of_lt lt) (by rw [Heap.size_push]; exact Nat.lt_succ_of_lt lt)]
  exact keep b u e
end
end VL
set_option Elab.async false
set_option linter.all false
set_option maxRecDepth 100000
set_option maxHeartbeats 4000000
namespace VL
open PySem PySem.Spec L2 PySem.W
open PyProof.Rows hiding St
def rSrt (K : PySem.W.Frag) : List V → Hp → VK → Prop := fun xs H Q => ∃ (a : Addr) (zs : List (V × PyData)), xs = [.ref a] ∧ (SqL K H a (zs.map (·.1)) ∨ SqT K H a (zs.map (·.1))) ∧ (∀ z ∈ zs, Dp K H z.1 z.2) ∧
  AllAlike (zs.map (·.2)) ∧ Sortable (zs.map (·.2)) ∧ (∀ z ∈ zs, z.2.depth ≤ 60) ∧ ∀ p, H p = none → Q (.ref p) (upd H p (.lst ((zs.mergeSort (dataLe false (·.2))).map (·.1))))
section
variable {X : Cx}
theorem each_of_vals {zs : List (V × PyData)} : ∀ {us : List Value}, Vals (zs.map (·.1)) us → EachIs (fun u (z : V × PyData) => RelV z.1 u) us zs := by
  induction zs with
  | nil => intro us r; cases r; exact .nil
  | cons z zs ih => intro us r; cases r with | cons a b => exact .cons a (ih b)
theorem vals_of_each {zs : List (V × PyData)} : ∀ {us : List Value}, EachIs (fun u (z : V × PyData) => RelV z.1 u) us zs → Vals (zs.map (·.1)) us := by
  induction zs with
  | nil => intro us r; cases r; exact .nil
  | cons z zs ih => intro us r; cases r with | cons a b => exact .cons a (ih b)
theorem each_and {α β : Type} {R S : α → β → Prop} {as : List α} {bs : List β} (h : EachIs R as bs) (g : ∀ a b, b ∈ bs → R a b → S a b) : EachIs S as bs := by
  induction h with
  | nil => exact .nil
  | cons r t ih => exact .cons (g _ _ List.mem_cons_self r) (ih fun a b hb => g a b (List.mem_cons_of_mem _ hb))
/-- the new list of sorted -/
theorem Inv.newList {pins : List (Addr × Obj)} {σ : L2.St} {H : Hp} {s s2 : Shared} {p : Addr} {ys : List V} {out : List Value} {c : Nat} (I : Inv X pins σ H s) (k : ∀ b o, s.heap.get? b = some o → s2.heap.get? b = some o) (g : s2.gens = s.gens) (o : s2.os = s.os)
    (hp : s.heap.objs.size ≤ p) (hg : s2.heap.get? p = some (seqObj "list" out.toArray c)) (r : Vals ys out) (hl : ys.length ≤ sizeLine) : Inv X pins σ (upd H p (.lst ys)) s2 := by
  have hn : H p = none := I.hok.fresh hp
  have J : Inv X pins σ (upd H p (.lst ys)) { s with heap := s2.heap, gens := s2.gens, drawn := s2.drawn, toks := s2.toks } :=
    I.call (ch := []) (Un.laid k hp hn) (I.hok.laid k hp ⟨hl, out, c, r, hg⟩) (by rw [g]; exact I.bare) (fun _ z => nomatch z)
  have e : s2 = { s with heap := s2.heap, gens := s2.gens, drawn := s2.drawn, toks := s2.toks } := by
    cases s2; cases s; cases o; rfl
  rw [e]
  exact J
theorem cr_srt {k : Nat} (hr : Room k X.A) : CallR X (.builtin "sorted") (rSrt X.K) := by
  intro pins s σ H xs us Q I r h
  obtain ⟨a, zs, rfl, hs, hd, al, so, dp, q⟩ := h
  rw [Vals.ref1 r]
  have un := hr.un
  have fin : ∀ (its : List Value) (h' : Heap), Vals (zs.map (·.1)) its → (zs.map (·.1)).length ≤ sizeLine → (∀ b o, s.heap.get? b = some o → h'.get? b = some o) →
      ∃ bs, SrtOk h' X.A (fun u (z : V × PyData) => RelV z.1 u) (·.2) its bs ∧ ∀ (s2 : Shared) (out : List Value) (c : Nat), (∀ b o, h'.get? b = some o → s2.heap.get? b = some o) → s2.gens = s.gens → s2.os = s.os → s2.heap.get? h'.objs.size = some (seqObj "list" out.toArray c) →
        EachIs (fun u (z : V × PyData) => RelV z.1 u) out (bs.mergeSort (dataLe false (·.2))) → EP X pins σ Q (.ref h'.objs.size) s2 := fun its h' rv hl kp => by
    have I2 : Inv X pins σ H { s with heap := h', toks := s.toks } := I.kept kp
    have ev := each_of_vals rv
    rw [List.length_map] at hl
    refine ⟨zs, ⟨ev, each_and ev fun u z hz rz => Dp.reads I2 _ _ _ (hd z hz) rz, al, so, hl, fun z hz => ?_⟩, fun s2 out c k2 g o at_ eo => ?_⟩
    · have := dp z hz
      omega
    · have ro := vals_of_each eo
      have J : Inv X pins σ (upd H h'.objs.size (.lst ((zs.mergeSort (dataLe false (·.2))).map (·.1)))) s2 := Inv.newList I2 k2 g o (Nat.le_refl _) at_ ro (by rw [List.length_map, List.length_mergeSort]; exact hl)
      exact ⟨.ref _, _, J, rfl, q _ (I2.hok.fresh (Nat.le_refl _))⟩
  rcases hs with hs | hs
  · obtain ⟨its, rv, pl, hl⟩ := I.list hs
    obtain ⟨o, ho, hc, n, hdd⟩ := pl.isList
    have hlv := rv.length
    refine sorted_col (R := fun u (z : V × PyData) => RelV z.1 u) (enc := (·.2)) (wpAny_collect_seq a (.inl rfl) ho hc hdd (fun h' kp => ?_) (by rw [List.size_toArray]; omega))
    exact fin its h' rv hl kp
  · obtain ⟨its, rv, ⟨o, ho, hc, n, hdd⟩, hl⟩ := I.tuple hs
    have hlv := rv.length
    refine sorted_col (R := fun u (z : V × PyData) => RelV z.1 u) (enc := (·.2)) (wpAny_collect_seq a (.inr rfl) ho hc hdd (fun h' kp => ?_) (by rw [List.size_toArray]; omega))
    exact fin its h' rv hl kp
end
def leD : D → D → Bool := dataLe false py
def okSrt (ds : List D) : Prop := plAll ds = true ∧ AllAlike (ds.map py) ∧ Sortable (ds.map py) ∧ ∀ d ∈ ds, (py d).depth ≤ 60
def rdSrt : List D → (D → Prop) → Prop := fun ds Q => match ds with
  | [.lst xs] => okSrt xs ∧ Q (.lst (xs.mergeSort leD))
  | [.tup xs] => okSrt xs ∧ Q (.lst (xs.mergeSort leD))
  | _ => False
section
variable {K : PySem.W.Frag} {W : Wc}
theorem plAll_mem : ∀ {ds : List D}, plAll ds = true → ∀ d ∈ ds, pl d = true
  | [], _, d, h => by simp at h
  | e :: ds, h, d, hd => by
    obtain ⟨h1, h2⟩ := Bool.and_eq_true_iff.mp h
    rcases List.mem_cons.mp hd with rfl | hd
    · exact h1
    · exact plAll_mem h2 d hd
theorem rp_zip {H : Hp} : ∀ {vs : List V} {ds : List D}, RpAll K H vs ds → (vs.zip ds).map (·.1) = vs ∧ (vs.zip ds).map (·.2) = ds ∧ ∀ z ∈ vs.zip ds, Rp K H z.1 z.2
  | _, _, .nil => ⟨rfl, rfl, fun z h => by simp at h⟩
  | _, _, .cons a r => by
    obtain ⟨h1, h2, h3⟩ := rp_zip r
    refine ⟨by simp [h1], by simp [h2], fun z hz => ?_⟩
    rcases List.mem_cons.mp hz with rfl | hz
    · exact a
    · exact h3 z hz
theorem rp_unzip {H : Hp} : ∀ {zs : List (V × D)}, (∀ z ∈ zs, Rp K H z.1 z.2) → RpAll K H (zs.map (·.1)) (zs.map (·.2))
  | [], _ => .nil
  | z :: zs, h => .cons (h z List.mem_cons_self) (rp_unzip fun y hy => h y (List.mem_cons_of_mem _ hy))
theorem srt_step {Hv H : Hp} {a : Addr} {vs : List V} {ds : List D} (s : Sub Hv H) (r : RpAll K Hv vs ds) (ok : okSrt ds) (hs : SqL K H a vs ∨ SqT K H a vs) {Q : VK}
    (k : ∀ p ys, H p = none → RpAll K Hv ys (ds.mergeSort leD) → Q (.ref p) (upd H p (.lst ys))) : rSrt K [.ref a] H Q := by
  obtain ⟨ok1, ok2, ok3, ok4⟩ := ok
  obtain ⟨z1, z2, z3⟩ := rp_zip r
  have f1 : ((vs.zip ds).map fun z => (z.1, py z.2)).map (·.1) = vs := by rw [List.map_map]; exact z1
  have f2 : ((vs.zip ds).map fun z => (z.1, py z.2)).map (·.2) = ds.map py := by
    rw [List.map_map]
    have e : ((fun (x : V × PyData) => x.2) ∘ fun (z : V × D) => (z.1, py z.2)) = py ∘ (·.2) := rfl
    rw [e, ← List.map_map, z2]
  refine ⟨a, (vs.zip ds).map fun z => (z.1, py z.2), rfl, ?_, fun z hz => ?_, ?_, ?_, fun z hz => ?_, fun p hp => ?_⟩
  · rw [f1]; exact hs
  · obtain ⟨y, hy, rfl⟩ := List.mem_map.mp hz
    have m : y.2 ∈ ds := by rw [← z2]; exact List.mem_map.mpr ⟨y, hy, rfl⟩
    exact Rp.dp _ _ (Rp.monoS s _ _ (z3 y hy)) (plAll_mem ok1 _ m)
  · rw [f2]; exact ok2
  · rw [f2]; exact ok3
  · obtain ⟨y, hy, rfl⟩ := List.mem_map.mp hz
    have m : y.2 ∈ ds := by rw [← z2]; exact List.mem_map.mpr ⟨y, hy, rfl⟩
    exact ok4 _ m
  · have e1 : ((vs.zip ds).map fun z => (z.1, py z.2)).mergeSort (dataLe false (·.2)) = ((vs.zip ds).mergeSort (dataLe false fun z => py z.2)).map fun z => (z.1, py z.2) := (sort_maps (fun z : V × D => (z.1, py z.2)) (fun _ _ _ _ => rfl)).symm
    have e2 : ((vs.zip ds).mergeSort (dataLe false fun z => py z.2)).map (·.2) = ds.mergeSort leD := by
      have := sort_maps (r := dataLe false fun z : V × D => py z.2) (s := leD) (fun z : V × D => z.2) (l := vs.zip ds) (fun _ _ _ _ => rfl)
      rw [z2] at this
      exact this
    rw [e1, List.map_map]
    refine k p _ hp ?_
    have := rp_unzip (K := K) (H := Hv) (zs := (vs.zip ds).mergeSort (dataLe false fun z => py z.2)) fun z hz => z3 z (List.mem_mergeSort.mp hz)
    rw [e2] at this
    exact this
theorem cf_srt : CallF K W (rSrt K) rdSrt := by
  intro Γ σ Hv H vs ds Q Q' E r h k
  unfold rdSrt at h
  split at h
  · obtain ⟨v, rfl, rv⟩ := r.one
    cases rv with
    | lst h1 r1 =>
      refine srt_step E.ret.sub r1 h.1 (.inl (.of (E.ret.sub.lst h1))) fun p ys hp ry => ?_
      obtain ⟨s, F⟩ := E.stp.alloc0 (.lst ys) hp
      exact k p _ (.lst _) Hv _ s hp upd_same ⟨_, rfl, ry⟩ F h.2
  · obtain ⟨v, rfl, rv⟩ := r.one
    cases rv with
    | tup h1 r1 =>
      refine srt_step E.ret.sub r1 h.1 (.inr (seqT E.ret.sub h1)) fun p ys hp ry => ?_
      obtain ⟨s, F⟩ := E.stp.alloc0 (.lst ys) hp
      exact k p _ (.lst _) Hv _ s hp upd_same ⟨_, rfl, ry⟩ F h.2
  · exact h.elim
end
end VL
set_option Elab.async false
set_option linter.all false
set_option maxRecDepth 100000
set_option maxHeartbeats 4000000
namespace VL
open PySem PySem.Spec L2 PySem.W
open PyProof.Rows hiding St
def leT (a b : Str) : Bool := dataLe false (fun x : Str => PyData.str x) a b
theorem leT_eq (a b : Str) : leT a b = decide (a.cps.toList ≤ b.cps.toList) := by
  unfold leT
  rw [dataLe_str (fun x : Str => x)]
theorem leT_trans (a b c : Str) (h1 : leT a b = true) (h2 : leT b c = true) : leT a c = true := by
  rw [leT_eq, decide_eq_true_eq] at *
  exact List.le_trans h1 h2
theorem leT_total (a b : Str) : (leT a b || leT b a) = true := by
  rw [leT_eq, leT_eq, Bool.or_eq_true, decide_eq_true_eq, decide_eq_true_eq]
  exact List.le_total _ _
theorem leT_anti {a b : Str} (h1 : leT a b = true) (h2 : leT b a = true) : a = b := by
  rw [leT_eq, decide_eq_true_eq] at *
  exact str_of_cps (List.le_antisymm h1 h2)
def sortT (xs : List Str) : List Str := xs.mergeSort leT
theorem sortT_perm (xs : List Str) : (sortT xs).Perm xs := List.mergeSort_perm _ _
theorem sortT_len (xs : List Str) : (sortT xs).length = xs.length := List.length_mergeSort _
theorem sortT_mem {xs : List Str} {x : Str} : x ∈ sortT xs ↔ x ∈ xs := List.mem_mergeSort
theorem sortT_up (xs : List Str) : (sortT xs).Pairwise fun a b => leT a b = true := List.pairwise_mergeSort leT_trans leT_total xs
theorem sortT_one {xs ys : List Str} (p : ys.Perm xs) (h : ys.Pairwise fun a b => leT a b = true) : ys = sortT xs :=
  List.Perm.eq_of_pairwise (le := fun a b => leT a b = true) (fun _ _ _ _ h1 h2 => leT_anti h1 h2) h (sortT_up xs) (p.trans (sortT_perm xs).symm)
end VL
set_option Elab.async false
set_option linter.all false
set_option maxRecDepth 100000
set_option maxHeartbeats 4000000
namespace VL
open PySem PySem.Spec L2 PySem.W
open PyProof.Rows hiding St
end VL
set_option Elab.async false
set_option linter.all false
set_option maxRecDepth 100000
set_option maxHeartbeats 4000000
namespace VL
open PySem PySem.Spec L2 PySem.W
open PyProof.Rows hiding St
end VL
set_option Elab.async false
set_option linter.all false
set_option maxRecDepth 100000
set_option maxHeartbeats 4000000
namespace VL
open PySem PySem.Spec L2 PySem.W
open PyProof.Rows hiding St
open AutoSeq1 (wpAny_loadPart')
section
variable {W : Wc} {X : Cx} {K : PySem.W.Frag} {e : Expr}
def rdIEnumT (dt : TDF) : TDF := fun Γ Q => dt Γ fun ds Γ1 => match ds with | [.lst xs] => Q (enumD xs) Γ1 | [.tup xs] => Q (enumD xs) Γ1 | _ => False
end
end VL
set_option Elab.async false
set_option linter.all false
set_option maxRecDepth 100000
set_option maxHeartbeats 4000000
namespace VL
open PySem PySem.Spec L2 PySem.W
open PyProof.Rows hiding St
section
variable {K : PySem.W.Frag} {W : Wc}
def isN : D → Bool | .non => true | _ => false
def rdIsN (neg : Bool) : RD2 := fun x y Q => match y with
  | .non => Q (.bl (neg ^^ isN x))
  | _ => False
end
section
variable {W : Wc} {X : Cx} {a b : Expr} {t1 t2 : TE} {d1 d2 : TDE} {x y : Str} {i j : Nat} {px py pt pos : Pos} {kt k2 : Nat} {pt2 : Pos}
def rdPar2 (i j : Nat) (o1 o2 : Bool) (d1 d2 : TDE) : TDS := fun E Γ => d1 Γ fun d Γ1 => d2 Γ1 fun e Γ2 => E.nx ((Γ2.set i (if o1 then .own d else .dat d)).set j (if o2 then .own e else .dat e))
theorem ds_parOO (hc : X.calm = true) (hN : X.N.Nodup) (hi : X.N[i]? = some x) (hj : X.N[j]? = some y) (hij : i ≠ j)
    (hx : X.env.scope.names.lookup x = some .local) (hy : X.env.scope.names.lookup y = some .local) (h1 : DF W X a t1 d1) (h2 : DF W X b t2 d2)
    (hw : swappedStores [.Tuple [.Name x px, .Name y py] kt pt] (.Tuple [a, b] k2 pt2) X.env = pure (some [x, y]))
    (hs : swapsWithSole [.Tuple [.Name x px, .Name y py] kt pt] (.Tuple [a, b] k2 pt2) pos.line X.env = pure false := by rfl)
    (ha : starEach [a, b] X.env = (false, eval a X.env) :: starEach [b] X.env := by rfl) (hb : starEach [b] X.env = (false, eval b X.env) :: starEach [] X.env := by rfl) :
    DS W X (.Assign [.Tuple [.Name x px, .Name y py] kt pt] (.Tuple [a, b] k2 pt2) pos) (tPar i j (tCons t1 (tCons t2 tNil))) (rdPar2 i j true true d1 d2) := by
  refine ⟨ps_par hc hN hi hj hij hx hy (pa_cons h1.pe (pa_cons h2.pe pa_nil hb) ha) hw hs, fun Γ σ Hv H E E' Z h l => ?_⟩
  refine h1.ad Γ σ Hv H _ _ Z h fun p u d Γ1 Hv1 H1 s1 n1 p1 r1 F1 q => ?_
  refine h2.ad Γ1 σ Hv1 H1 _ _ s1.ev q fun p2 u2 e Γ2 Hv2 H2 s2 n2 q2 r2 F2 qq => ?_
  obtain ⟨e1, F1'⟩ := s2.fr p F1 (by rw [p1]; simp)
  have ne : p2 ≠ p := fun z => by rw [z, p1] at n2; cases n2
  have s12 := s1.trans s2
  have A := s12.keepOwn (i := i) F1' (e1.trans p1) (r1.mono s2.sv) n1
  have F2' : Fresh W (Γ2.set i (.own d)) (σ.set i (some (.ref p))) Hv2 p2 := F2.set s12.ev.len (fun _ z => ne (by injection z with z; injection z with z; exact z.symm))
  exact ⟨_, _, rfl, l.nx _ _ _ _ (A.keepOwn (i := j) F2' q2 r2 (s1.was n2)) qq⟩
end
section
variable {W : Wc} {X : Cx} {e : Expr} {te : TE} {de : TDE} {T1 T2 : String} {n1 n2 : Str} {p p2 p3 p4 pos : Pos} {kt : Nat}
def isiTys (Ts : List String) (d : D) : Option Bool := match tyName d with
  | none => none
  | some n => Ts.foldr (fun T r => match kitB n T, r with | some a, some b => some (a || b) | _, _ => none) (some false)
def rdIsiT2 (Ts : List String) (de : TDE) : TDE := fun Γ Q => de Γ fun d Γ1 => ∃ b, isiTys Ts d = some b ∧ Q (.bl b) Γ1
end
end VL
set_option Elab.async false
set_option linter.all false
set_option maxRecDepth 100000
set_option maxHeartbeats 4000000
namespace VL
open PySem PySem.Spec L2 PySem.W
open PyProof.Rows hiding St
theorem FnOk.r0 {P : Program} {w : World} {K : PySem.W.Frag} {mg : Str → Option Value} {base : Heap} {CX : CXT} {k : Nat} {f : Addr} {fd : FuncData} {ps : List Str} {sp : Sp} (F : FnOk P w K mg base CX k f fd ps sp) (hb : Binds K fd ps []) : FnR P w K mg base CX k f sp :=
  (F.raw hb .nil).imp fun vs H Q E h => by rw [List.append_nil]; exact h
end VL
set_option Elab.async false
set_option linter.all false
set_option maxRecDepth 100000
set_option maxHeartbeats 4000000
namespace VL
open PySem PySem.Spec L2 PySem.W
open PyProof.Rows hiding St
theorem hu1 {k : Nat} {A : Around} (r : Room k A) : A.units + 1 < cLine := by have := r.un; omega
def flV : List Bool → List V → List V
  | true :: bs, v :: vs => v :: flV bs vs
  | false :: bs, _ :: vs => flV bs vs
  | _, _ => []
def OA (K : PySem.W.Frag) (W : Wc) (Γ : Gm) (σ : L2.St) (Hv H0 H : Hp) : List Bool → List V → List D → Prop
  | [], [], [] => True
  | true :: bs, v :: vs, d :: ds => (∃ p u, v = .ref p ∧ H0 p = none ∧ H p = some u ∧ ObD K Hv d u ∧ Fresh W Γ σ Hv p ∧ (V.ref p) ∉ flV bs vs) ∧ OA K W Γ σ Hv H0 H bs vs ds
  | false :: bs, v :: vs, d :: ds => Rp K Hv v d ∧ OA K W Γ σ Hv H0 H bs vs ds
  | _, _, _ => False
section
variable {K : PySem.W.Frag} {W : Wc} {Γ Γ' : Gm} {σ σ' : L2.St} {Hv Hv' H0 H0' H H' : Hp}
theorem OA.new : ∀ {bs : List Bool} {vs : List V} {ds : List D} {p : Addr}, OA K W Γ σ Hv H0 H bs vs ds → V.ref p ∈ flV bs vs → H0 p = none
  | true :: bs, v :: vs, d :: ds, p, h, m => by
    obtain ⟨⟨p', u, rfl, h0, _⟩, h2⟩ := h
    rcases List.mem_cons.mp m with e | m
    · cases e; exact h0
    · exact OA.new h2 m
  | false :: bs, v :: vs, d :: ds, p, h, m => OA.new h.2 m
  | [], [], [], p, h, m => by cases m
  | [], v :: vs, ds, p, h, m => by cases m
  | b :: bs, [], ds, p, h, m => by cases b <;> cases m
  | true :: bs, v :: vs, [], p, h, m => h.elim
  | false :: bs, v :: vs, [], p, h, m => h.elim
  | [], [], d :: ds, p, h, m => by cases m
theorem OA.was : ∀ {bs : List Bool} {vs : List V} {ds : List D}, OA K W Γ σ Hv H0 H bs vs ds → (∀ p, H0 p = none → H0' p = none) → OA K W Γ σ Hv H0' H bs vs ds
  | true :: bs, v :: vs, d :: ds, h, k => by
    obtain ⟨⟨p', u, rfl, h0, r⟩, h2⟩ := h
    exact ⟨⟨p', u, rfl, k _ h0, r⟩, OA.was h2 k⟩
  | false :: bs, v :: vs, d :: ds, h, k => ⟨h.1, OA.was h.2 k⟩
  | [], [], [], h, k => True.intro
  | [], v :: vs, ds, h, k => by cases ds <;> exact h.elim
  | b :: bs, [], ds, h, k => by cases b <;> cases ds <;> exact h.elim
  | true :: bs, v :: vs, [], h, k => h.elim
  | false :: bs, v :: vs, [], h, k => h.elim
  | [], [], d :: ds, h, k => h.elim
/-- a slot set to what none of them is -/
theorem OA.setS {i : Nat} {s : Sl} {w : V} (hl : σ.length = Γ.length) : ∀ {bs : List Bool} {vs : List V} {ds : List D}, OA K W Γ σ Hv H0 H bs vs ds → (s.isOwn = true → w ∉ flV bs vs) → OA K W (Γ.set i s) (σ.set i (some w)) Hv H0 H bs vs ds
  | true :: bs, v :: vs, d :: ds, h, k => by
    obtain ⟨⟨p', u, rfl, h0, h1, r, F, nf⟩, h2⟩ := h
    exact ⟨⟨p', u, rfl, h0, h1, r, F.set hl (fun o z => k o (by injection z with z; rw [z]; exact List.mem_cons_self)), nf⟩, OA.setS hl h2 fun o m => k o (List.mem_cons_of_mem _ m)⟩
  | false :: bs, v :: vs, d :: ds, h, k => ⟨h.1, OA.setS hl h.2 fun o m => k o m⟩
  | [], [], [], h, k => True.intro
  | [], v :: vs, ds, h, k => by cases ds <;> exact h.elim
  | b :: bs, [], ds, h, k => by cases b <;> cases ds <;> exact h.elim
  | true :: bs, v :: vs, [], h, k => h.elim
  | false :: bs, v :: vs, [], h, k => h.elim
  | [], [], d :: ds, h, k => h.elim
end
section
variable {K : PySem.W.Frag} {W : Wc} {X : Cx}
def rSortC (K : PySem.W.Frag) : List V → Hp → VK → Prop := fun xs H Q => rSrt K xs H Q ∨ rSortD xs H Q
theorem cr_sortC (hc : X.calm = true) {k : Nat} (hr : Room k X.A) : CallR X (.builtin "sorted") (rSortC X.K) := (cr_srt hr).or (call_sortedD hc)
theorem risingS_up : ∀ {ys : List Str} {p : Str}, risingS p ys = true → (p :: ys).Pairwise fun a b => leT a b = true
  | [], p, _ => List.pairwise_singleton _ _
  | x :: r, p, h => by
    have h : (!ltCps x.cps.toList p.cps.toList && risingS x r) = true := h
    rw [Bool.and_eq_true, ltCps_eq] at h
    have l : leT p x = true := by
      rw [leT_eq, decide_eq_true_eq]
      have := h.1
      simpa using this
    have up := risingS_up h.2
    refine List.pairwise_cons.mpr ⟨fun y hy => ?_, up⟩
    rcases List.mem_cons.mp hy with rfl | hy
    · exact l
    · exact leT_trans _ _ _ l ((List.pairwise_cons.mp up).1 y hy)
theorem sortedS_up : ∀ {ys : List Str}, sortedS ys = true → ys.Pairwise fun a b => leT a b = true
  | [], _ => List.Pairwise.nil
  | _ :: _, h => risingS_up h
theorem sortedS_one {xs ys : List Str} (p : ys.Perm xs) (h : sortedS ys = true) : ys = sortT xs := sortT_one p (sortedS_up h)
def rdSortC : List D → (D → Prop) → Prop := fun ds Q => match ds with
  | [.dic ks _] => ∃ bs, keysS ks = some bs ∧ bs.length < 64 ∧ Q (.lst ((sortT bs).map D.str))
  | ds => rdSrt ds Q
theorem cf_sortC : CallF K W (rSortC K) rdSortC := by
  intro Γ σ Hv H vs ds Q Q' E r h k
  unfold rdSortC at h
  split at h
  · obtain ⟨bs, e1, e2, q⟩ := h
    obtain ⟨v, rfl, rv⟩ := r.one
    cases rv with
    | dic h1 h2 h3 =>
      refine .inr ⟨_, _, bs, rfl, E.ret.sub.dk h1, by rw [← h2]; exact keysS_eq e1, e2, fun ys p h3 h4 hp => ?_⟩
      obtain ⟨s, F⟩ := E.stp.alloc0 (.lst _) hp
      cases sortedS_one h3 h4
      exact k p _ (.lst _) Hv _ s hp upd_same ⟨_, rfl, rp_strs _⟩ F q
  · exact .inl (cf_srt Γ σ Hv H vs ds Q Q' E r h k)
end
end VL
set_option Elab.async false
set_option linter.all false
set_option maxRecDepth 100000
set_option maxHeartbeats 4000000
namespace VL
open PySem PySem.Spec L2 PySem.W
open PyProof.Rows hiding St
def IvL (K : PySem.W.Frag) (x : V) (H : Hp) (R : It → Hp → Prop) : Prop := ∃ a, x = .ref a ∧ (∃ xs, SqL K H a xs) ∧ R (Itl K a) H
def IvT (K : PySem.W.Frag) (x : V) (H : Hp) (R : It → Hp → Prop) : Prop := ∃ a, x = .ref a ∧ (∃ xs, SqT K H a xs) ∧ R (Itt K a) H
def IvS (x : V) (H : Hp) (R : It → Hp → Prop) : Prop := ∃ z, x = .str z ∧ R (Its z) H
def IvD (x : V) (H : Hp) (R : It → Hp → Prop) : Prop := ∃ a kvs, x = .ref a ∧ ((∃ o, H a = some (.frz o (.dK kvs)) ∧ R (Itk a o kvs) H) ∨ (H a = some (.dK kvs) ∧ ∀ o, R (Itk a o kvs) (upd H a (.frz o (.dK kvs)))))
def iAny (K : PySem.W.Frag) (te : TE) : TI := fun σ H R => te σ H fun x H1 => IvL K x H1 R ∨ IvT K x H1 R ∨ IvS x H1 R ∨ IvD x H1 R
section
variable {X : Cx} {tg e : Expr} {te : TE} {pins : List (Addr × Obj)} {σ : L2.St} {H : Hp} {s : Shared} {R : It → Hp → Prop} {x : V} {v : Value}
theorem keys_go {a : Addr} {o : Obj} {kvs : List (Key × V)} (I : Inv X pins σ H s) (hd : H a = some (.frz o (.dK kvs))) (q : R (Itk a o kvs) H) : wpAny (model X.prog X.w) X.A (pyIter (.ref a)) (PIE X pins σ tg R) X.xe s := by
  obtain ⟨hs, hgd, hx, es, ep, vs, hdt, hsz, kv, hm⟩ := I.frzK hd
  refine iter_keys hs hgd hx hdt (pi_one (tk := s.toks) I _ (turn_keys _ hdt) ⟨_, Heap.get?_push_size _ rfl, rfl, ?_⟩ q)
  rw [hsz] <;> rfl
theorem any_go (I : Inv X pins σ H s) (r : RelV x v) (h : IvL X.K x H R ∨ IvT X.K x H R ∨ IvS x H R ∨ IvD x H R) : wpAny (model X.prog X.w) X.A (pyIter v) (PIE X pins σ tg R) X.xe s := by
  rcases h with ⟨a, rfl, ⟨xs, hq⟩, q⟩ | ⟨a, rfl, ⟨xs, hq⟩, q⟩ | ⟨z, rfl, q⟩ | ⟨a, kvs, rfl, ⟨o, hd, q⟩ | ⟨hd, q⟩⟩
  · obtain rfl : v = Value.ref a := r
    obtain ⟨its, rv, p, hz⟩ := I.list hq
    exact wpAny_pyIter_list p.isList (pi_one (tk := s.toks) I _ (turn_list a _) ⟨_, Heap.get?_push_size _ rfl, rfl, rfl⟩ q)
  · obtain rfl : v = Value.ref a := r
    obtain ⟨its, rv, p, hz⟩ := I.tuple hq
    exact wpAny_pyIter_tuple (show s.heap.IsTuple a its.toArray from p) (pi_one (tk := s.toks) I _ (turn_tuple a _) ⟨_, Heap.get?_push_size _ rfl, rfl, rfl⟩ q)
  · obtain ⟨t, rfl⟩ := r
    cases ha : z.cps.all (· < 128)
    · exact wpAny_pyIter_wide ha (pi_one (tk := s.toks) I _ (turn_str _ z t "str_iterator" (.inr rfl)) ⟨_, Heap.get?_push_size _ rfl, rfl, rfl⟩ q)
    · exact wpAny_pyIter_ascii ha (pi_one (tk := s.toks) I _ (turn_str _ z t "str_ascii_iterator" (.inl rfl)) ⟨_, Heap.get?_push_size _ rfl, rfl, rfl⟩ q)
  · obtain rfl : v = Value.ref a := r
    exact keys_go I hd q
  · obtain rfl : v = Value.ref a := r
    obtain ⟨od, I2⟩ := I.lock hd trivial
    exact keys_go I2 upd_same (q od)
theorem pi_any (he : PE X e te) : PI X tg e (iAny X.K te) :=
  ⟨fun pins s σ H R I h => thn (he.run pins s σ H _ I h) fun v s1 ⟨x, H1, I1, r1, q1⟩ => any_go I1 r1 q1⟩
end
def asIt (d : D) (k : List D → Prop) : Prop := match d with
  | .lst ds => k ds
  | .tup ds => k ds
  | .str z => k (z.cps.toList.map fun c => D.str ⟨#[c]⟩)
  | .dic ks _ => k (ks.map kD1)
  | _ => False
def rdIAny (de : TDE) : TDF := fun Γ Q => de Γ fun d Γ1 => asIt d fun ds => Q ds Γ1
section
variable {W : Wc} {X : Cx} {K : PySem.W.Frag} {tg e : Expr} {te : TE} {de : TDE}
theorem di_any (hK : X.K = K) (he : DE W X e te de) : DI W X tg e (iAny K te) (rdIAny de) := by
  subst hK
  refine ⟨pi_any he.pe, fun Γ σ Hv H Q R E h k => he.ad Γ σ Hv H _ _ E h fun v d Γ1 Hv1 H1 s1 r1 q => ?_⟩
  cases d <;> first | exact q.elim | skip
  · cases r1
    rename_i z
    refine .inr (.inr (.inl ⟨z, rfl, k _ _ Γ1 Hv1 H1 s1 (fun Γ' σ' Hv' H' sm E' i => ⟨fun hi => ?_, fun d e => ?_⟩) q⟩))
    · rw [List.length_map, Array.length_toList] at hi
      exact hi
    · rw [List.getElem?_map, Array.getElem?_toList] at e
      cases q2 : z.cps[i]? with
      | none => rw [q2] at e; cases e
      | some c =>
        rw [q2] at e
        cases e
        refine ⟨(Array.getElem?_eq_some_iff.mp q2).1, fun x H2 y => ?_⟩
        obtain ⟨rfl, c', e', rfl⟩ := y
        rw [q2] at e'
        cases e'
        exact ⟨Hv', E'.stp, .str _⟩
  · cases r1 with
    | tup h1 ra => exact .inr (.inl ⟨_, rfl, ⟨_, seqT s1.ev.ret.sub h1⟩, k _ _ Γ1 Hv1 H1 s1 (itd_tup h1 ra) q⟩)
  · cases r1 with
    | lst h1 ra => exact .inl ⟨_, rfl, ⟨_, .of (s1.ev.ret.sub.lst h1)⟩, k _ _ Γ1 Hv1 H1 s1 (itd_list h1 ra) q⟩
  · cases r1 with
    | dic h1 h2 h3 =>
      rename_i a kvs
      subst h2
      refine .inr (.inr (.inr ⟨a, kvs, rfl, ?_⟩))
      have lock : (∃ o, H1 a = some (.frz o (.dK kvs)) ∧ Hv1 a = some (.frz o (.dK kvs))) ∨ (∃ o, H1 a = some (.frz o (.dK kvs)) ∧ Hv1 a = some (.dK kvs)) ∨ (H1 a = some (.dK kvs) ∧ Hv1 a = some (.dK kvs)) := by
        rcases h1 with h1 | ⟨o, h1⟩
        · rcases s1.ev.ret.sub a _ h1 with z | ⟨k2, ob, z, z2⟩
          · exact .inr (.inr ⟨z, h1⟩)
          · cases z; exact .inr (.inl ⟨ob, z2, h1⟩)
        · exact .inl ⟨o, s1.ev.ret.sub.at h1 (fun _ z => nomatch z), h1⟩
      rcases lock with ⟨o, l1, l2⟩ | ⟨o, l1, l2⟩ | ⟨l1, l2⟩
      · exact .inl ⟨o, l1, k _ _ Γ1 Hv1 H1 s1 (itd_keys l2) q⟩
      · refine .inl ⟨o, l1, ?_⟩
        have s2 := s1.lock l2 o
        have same : upd H1 a (.frz o (.dK kvs)) = H1 := by
          funext b
          by_cases hb : b = a
          · subst hb; rw [upd_same, l1]
          · rw [upd_ne hb]
        rw [same] at s2
        exact k _ _ Γ1 _ H1 s2 (itd_keys upd_same) q
      · exact .inr ⟨l1, fun o => k _ _ Γ1 _ _ (s1.lock l2 o) (itd_keys upd_same) q⟩
/-- name = [..] on one line; the list is shared at once -/
theorem ds_setLcD {j : Nat} {y : Str} {py : Pos} {elt tg iter : Expr} {ifs : List Expr} {scope : Scope} {own : List (Str × Nat)} {pos spos : Pos} {wi : TI} {di : TDF} {g : TG} {gd : TDG} {tt : TT} {td : TDT} {te : TE} {de : TDE} {is : List Nat} (hc : X.calm = true) (hN : X.N.Nodup) (hy : X.N[j]? = some y) (hyl : X.env.scope.names.lookup y = some .local)
    (hsw : swapsWith (.ListComp elt [⟨tg, iter, ifs, 0⟩] scope pos) (some (.Name y py)) spos.line X.env = pure true) (hi : DI W X tg iter wi di) (ok : BlkOk X.N X.env.scope scope own)
    (hg : ∀ (s : Shared) (H : Hp) (C : Addr) (cl : List (Str × Addr)) (fp : List Addr), DG W (X.blk s H scope (compEnvC scope cl C X.env) fp) tg g gd is) (ht : ∀ (s : Shared) (H : Hp) (C : Addr) (cl : List (Str × Addr)) (fp : List Addr), DTs W (X.blk s H scope (compEnvC scope cl C X.env) fp) ifs tt td)
    (he : ∀ (s : Shared) (H : Hp) (C : Addr) (cl : List (Str × Addr)) (fp : List Addr), DE W (X.blk s H scope (compEnvC scope cl C X.env) fp) elt te de) (hv : ∀ j ∈ is, j ∈ own.map (·.2)) (hs : ∀ x, foldedSetIterable iter X.env x = pure x := by intro _; rfl) :
    DS W X (.Assign [.Name y py] (.ListComp elt [⟨tg, iter, ifs, 0⟩] scope pos) spos) (tAsg (tLc wi g tt te (own.map (·.2))) (gName j)) (rdAsg (rdShare (rdLc di gd td de (own.map (·.2)))) (rgName j)) := by
  have L := ad_lc (K := X.K) (W := W) (tg := tg) (iter := iter) hi.ad (hg X.s_0 (fun _ => none) 0 [] []).ad (ht X.s_0 (fun _ => none) 0 [] []).ad (he X.s_0 (fun _ => none) 0 [] []).ad hv
  refine ⟨ps_setLc hc hN hy hyl hsw hi.pi ok (fun s H C cl fp => (hg s H C cl fp).pg) (fun s H C cl fp => (ht s H C cl fp).pt) (fun s H C cl fp => (he s H C cl fp).pe) hs, fun Γ σ Hv H E E' Z h l => ?_⟩
  refine L Γ σ Hv H _ _ Z h fun p u d Γ1 Hv1 H1 s1 hn hp r1 F q => ?_
  exact l.nx _ _ _ _ ((s1.share F hp hn).set (i := j) ((r1.mono (same_upd F.hv)).rp upd_same)) q
end
end VL
set_option Elab.async false
set_option linter.all false
set_option maxRecDepth 100000
set_option maxHeartbeats 4000000
namespace VL
open PySem PySem.Spec L2 PySem.W
open PyProof.Rows hiding St
end VL
set_option Elab.async false
set_option linter.all false
set_option maxRecDepth 100000
set_option maxHeartbeats 4000000
namespace VL
open PySem
def get {α : Type} : List (Str × α) → Str → Option α
  | [], _ => none
  | (k, v) :: r, n => if k = n then some v else get r n
def dom {α : Type} (B : List (Str × α)) : List Str := B.map (·.1)
section
variable {α : Type} {B C : List (Str × α)} {n m : Str} {v : α}
theorem get_none : get B n = none ↔ n ∉ dom B := by
  induction B with
  | nil => simp [get, dom]
  | cons p r ih =>
    obtain ⟨k, w⟩ := p
    unfold get
    by_cases h : k = n
    · subst h; simp [dom]
    · rw [if_neg h, ih]
      simp only [dom, List.map_cons, List.mem_cons, not_or]
      exact ⟨fun q => ⟨fun e => h e.symm, q⟩, fun q => q.2⟩
theorem get_some : (∃ v, get B n = some v) ↔ n ∈ dom B := by
  by_cases h : n ∈ dom B
  · refine ⟨fun _ => h, fun _ => ?_⟩
    cases e : get B n with
    | none => exact absurd h (get_none.mp e)
    | some v => exact ⟨v, rfl⟩
  · refine ⟨fun ⟨v, e⟩ => ?_, fun q => absurd q h⟩
    rw [get_none.mpr h] at e
    cases e
theorem get_dom (e : get B n = some v) : n ∈ dom B := get_some.mp ⟨v, e⟩
theorem get_of (nd : (dom B).Nodup) (h : (n, v) ∈ B) : get B n = some v := by
  induction B with
  | nil => cases h
  | cons p r ih =>
    obtain ⟨k, w⟩ := p
    have nd2 := List.nodup_cons.mp nd
    unfold get
    rcases List.mem_cons.mp h with e | h
    · cases e; rw [if_pos rfl]
    · have : k ≠ n := fun e => nd2.1 (by subst e; exact List.mem_map.mpr ⟨_, h, rfl⟩)
      rw [if_neg this]
      exact ih nd2.2 h
theorem get_app (h : n ∉ dom B) : get (B ++ C) n = get C n := by
  induction B with
  | nil => rfl
  | cons p r ih =>
    obtain ⟨k, w⟩ := p
    have h2 : n ≠ k ∧ n ∉ dom r := by simpa [dom] using h
    show (if k = n then some w else get (r ++ C) n) = _
    rw [if_neg (fun e => h2.1 e.symm), ih h2.2]
theorem get_app_l (h : n ∈ dom B) : get (B ++ C) n = get B n := by
  induction B with
  | nil => cases h
  | cons p r ih =>
    obtain ⟨k, w⟩ := p
    show (if k = n then some w else get (r ++ C) n) = if k = n then some w else get r n
    by_cases e : k = n
    · rw [if_pos e, if_pos e]
    · rw [if_neg e, if_neg e]
      refine ih ?_
      rcases List.mem_cons.mp h with q | q
      · exact absurd q.symm e
      · exact q
theorem dom_app : dom (B ++ C) = dom B ++ dom C := List.map_append
end
abbrev Rows' := List (List Str)
/-- x heads some row and stands in no tail -/
def good (rows : Rows') (x : Str) : Prop := (∃ r ∈ rows, r.head? = some x) ∧ ∀ r ∈ rows, x ∉ r.tail
instance (rows : Rows') (x : Str) : Decidable (good rows x) := by unfold good; infer_instance
/-- the first head that stands in no tail -/
def hdF (rows : Rows') : List Str → Option Str
  | [] => none
  | x :: _ => if ∀ o ∈ rows, x ∉ o.tail then some x else none
def hdOf (rows : Rows') : Option Str := rows.findSome? (hdF rows)
def without (x : Str) (rows : Rows') : Rows' := rows.map fun r => r.filter fun y => !decide (y = x)
inductive Mrg : Rows' → Option (List Str) → Prop where
  | done {rows} : (∀ r ∈ rows, r = []) → Mrg rows (some [])
  | stuck {rows} : (∃ r ∈ rows, r ≠ []) → hdOf rows = none → Mrg rows none
  | step {rows x o} : hdOf rows = some x → Mrg (without x rows) o → Mrg rows (o.map (x :: ·))
theorem hdOf_good {rows : Rows'} {x : Str} (h : hdOf rows = some x) : good rows x := by
  obtain ⟨r, hr, e⟩ := List.exists_of_findSome?_eq_some h
  cases r with
  | nil => cases e
  | cons y t =>
    have e : (if ∀ o ∈ rows, y ∉ o.tail then some y else none) = some x := e
    by_cases g : ∀ o ∈ rows, y ∉ o.tail
    · rw [if_pos g] at e
      cases e
      exact ⟨⟨_, hr, rfl⟩, g⟩
    · rw [if_neg g] at e; cases e
theorem hdOf_empty {rows : Rows'} (h : ∀ r ∈ rows, r = []) : hdOf rows = none := by
  refine List.findSome?_eq_none_iff.mpr fun r hr => ?_
  rw [h r hr]
  rfl
def size (rows : Rows') : Nat := (rows.map List.length).sum
theorem good_mem {rows : Rows'} {x : Str} (g : good rows x) : ∃ r ∈ rows, x ∈ r := by
  obtain ⟨r, hr, e⟩ := g.1
  exact ⟨r, hr, List.mem_of_mem_head? e⟩
theorem mrg_one {rows : Rows'} {o : Option (List Str)} (h : Mrg rows o) : ∀ {o'}, Mrg rows o' → o = o' := by
  induction h with
  | done e =>
    intro o' h'
    cases h' with
    | done _ => rfl
    | stuck ne _ => obtain ⟨r, hr, n⟩ := ne; exact absurd (e r hr) n
    | step q _ => rw [hdOf_empty e] at q; cases q
  | stuck ne q =>
    intro o' h'
    cases h' with
    | done e => obtain ⟨r, hr, n⟩ := ne; exact absurd (e r hr) n
    | stuck _ _ => rfl
    | step q' _ => rw [q] at q'; cases q'
  | step q h ih =>
    intro o' h'
    cases h' with
    | done e => rw [hdOf_empty e] at q; cases q
    | stuck _ q' => rw [q] at q'; cases q'
    | step q' h2 =>
      rw [q] at q'
      cases q'
      rw [ih h2]
/-- a row without the head: its tail, or itself -/
theorem cut_row {rows : Rows'} {x : Str} (g : good rows x) {r : List Str} (hr : r ∈ rows) : r.filter (fun y => !decide (y = x)) = if r.head? = some x then r.tail else r := by
  have h := g.2 r hr
  cases r with
  | nil => rfl
  | cons y t =>
    have ht : t.filter (fun y => !decide (y = x)) = t := List.filter_eq_self.mpr fun z hz => by
      have : z ≠ x := fun e => h (by rw [← e]; exact hz)
      simp [this]
    by_cases e : y = x
    · subst e
      simp [ht]
    · simp [e, ht]
theorem mem_without {x y : Str} {rows : Rows'} {r : List Str} (h : r ∈ without x rows) (hy : y ∈ r) : y ≠ x ∧ ∃ r' ∈ rows, y ∈ r' := by
  obtain ⟨r', hr', rfl⟩ := List.mem_map.mp h
  have := List.mem_filter.mp hy
  exact ⟨by simpa using this.2, r', hr', this.1⟩
theorem mrg_mem {rows : Rows'} {o : Option (List Str)} (h : Mrg rows o) : ∀ {l}, o = some l → (∀ y, y ∈ l ↔ ∃ r ∈ rows, y ∈ r) ∧ l.Nodup ∧ ∀ r ∈ rows, r.Sublist l := by
  induction h with
  | done e =>
    intro l q
    cases q
    refine ⟨fun y => ⟨(fun h => by cases h), fun ⟨r, hr, hy⟩ => by rw [e r hr] at hy; exact hy⟩, List.Pairwise.nil, fun r hr => by rw [e r hr]; exact List.nil_sublist _⟩
  | stuck _ _ => intro l q; cases q
  | step q h ih =>
    rename_i rows x o
    intro l e
    cases o with
    | none => cases e
    | some l' =>
      cases e
      obtain ⟨i1, i2, i3⟩ := ih rfl
      have g := hdOf_good q
      refine ⟨fun y => ⟨fun hy => ?_, fun ⟨r, hr, hy⟩ => ?_⟩, List.nodup_cons.mpr ⟨fun hx => ?_, i2⟩, fun r hr => ?_⟩
      · rcases List.mem_cons.mp hy with rfl | hy
        · exact good_mem g
        · obtain ⟨r, hr, hy⟩ := (i1 y).mp hy
          exact (mem_without hr hy).2
      · by_cases e : y = x
        · exact List.mem_cons.mpr (.inl e)
        · exact List.mem_cons_of_mem _ ((i1 y).mpr ⟨_, List.mem_map.mpr ⟨r, hr, rfl⟩, List.mem_filter.mpr ⟨hy, by simpa using e⟩⟩)
      · obtain ⟨r, hr, hy⟩ := (i1 x).mp hx
        exact (mem_without hr hy).1 rfl
      · have s := i3 _ (List.mem_map.mpr ⟨r, hr, rfl⟩)
        rw [cut_row g hr] at s
        cases r with
        | nil => exact List.nil_sublist _
        | cons y t =>
          by_cases e : y = x
          · subst e
            rw [if_pos (show (y :: t).head? = some y from rfl)] at s
            exact List.Sublist.cons_cons _ s
          · rw [if_neg (by simpa using e)] at s
            exact s.cons _
abbrev Bs := List (Str × List Str)
/-- the rows of a name with these bases -/
def rowsOfV (K : Bs) (bs : List Str) : Rows' := bs.map (fun b => (get K b).getD []) ++ [bs]
inductive Good (B : Bs) : Bs → Prop where
  | nil : Good B []
  | snoc {K n bs t} : Good B K → n ∉ dom K → get B n = some bs → (∀ b ∈ bs, b ∈ dom K) → Mrg (rowsOfV K bs) (some t) → Good B (K ++ [(n, n :: t)])
/-- nothing more can be known -/
def Closed (B K : Bs) : Prop := ∀ n bs, get B n = some bs → n ∉ dom K → (∀ b ∈ bs, b ∈ dom K) → Mrg (rowsOfV K bs) none
section
variable {B B' K K' : Bs} {n m b x : Str} {bs l t : List Str}
theorem rowsOf_same (h : ∀ b ∈ bs, get K b = get K' b) : rowsOfV K bs = rowsOfV K' bs := by
  unfold rowsOfV
  rw [List.map_congr_left fun b hb => by rw [h b hb]]
theorem Good.dom_sub (g : Good B K) : ∀ n ∈ dom K, n ∈ dom B := by
  induction g with
  | nil => intro n h; cases h
  | snoc g hn hb hs hm ih =>
    intro n h
    rw [dom_app] at h
    rcases List.mem_append.mp h with h | h
    · exact ih n h
    · rw [List.mem_singleton.mp h]; exact get_dom hb
theorem Good.unique (g : Good B K) (g' : Good B K') (c' : Closed B K') : ∀ n ∈ dom K, n ∈ dom K' ∧ get K' n = get K n := by
  induction g with
  | nil => intro n h; cases h
  | snoc g hn hb hs hm ih =>
    rename_i K n bs t
    intro m h
    rw [dom_app] at h
    rcases List.mem_append.mp h with h | h
    · rw [get_app_l h]; exact ih m h
    · rw [List.mem_singleton.mp h, get_app hn]
      show n ∈ dom K' ∧ get K' n = if n = n then some (n :: t) else none
      rw [if_pos rfl]
      have same : rowsOfV K' bs = rowsOfV K bs := rowsOf_same fun b hbb => (ih b (hs b hbb)).2
      have all : ∀ b ∈ bs, b ∈ dom K' := fun b hbb => (ih b (hs b hbb)).1
      have hin : n ∈ dom K' := by
        refine Classical.byContradiction fun no => ?_
        have := c' n bs hb no all
        rw [same] at this
        cases mrg_one hm this
      refine ⟨hin, ?_⟩
      -- the entry of n in K'
      have ent : ∀ {K2 : Bs}, Good B K2 → n ∈ dom K2 → ∃ K3 t3, (∀ b ∈ bs, b ∈ dom K3) ∧ (∀ b ∈ dom K3, get K2 b = get K3 b) ∧ Mrg (rowsOfV K3 bs) (some t3) ∧ get K2 n = some (n :: t3) := by
        intro K2 g2
        induction g2 with
        | nil => intro h; cases h
        | snoc g2 hn2 hb2 hs2 hm2 ih2 =>
          rename_i K4 n4 bs4 t4
          intro h
          by_cases e : n ∈ dom K4
          · obtain ⟨K3, t3, a1, a2, a3, a4⟩ := ih2 e
            refine ⟨K3, t3, a1, fun b hb3 => ?_, a3, by rw [get_app_l e]; exact a4⟩
            have : b ∈ dom K4 := by
              rw [← get_some]
              obtain ⟨v, ev⟩ := get_some.mpr hb3
              exact ⟨v, by rw [a2 b hb3]; exact ev⟩
            rw [get_app_l this]; exact a2 b hb3
          · rw [dom_app] at h
            rcases List.mem_append.mp h with h | h
            · exact absurd h e
            · have e4 : n = n4 := List.mem_singleton.mp h
              subst e4
              rw [hb] at hb2
              cases hb2
              refine ⟨K4, t4, hs2, fun b hb3 => get_app_l hb3, hm2, ?_⟩
              rw [get_app hn2]
              show (if n = n then some (n :: t4) else none) = _
              rw [if_pos rfl]
      obtain ⟨K3, t3, a1, a2, a3, a4⟩ := ent g' hin
      have same3 : rowsOfV K3 bs = rowsOfV K bs := rowsOf_same fun b hbb => by rw [← a2 b (a1 b hbb)]; exact (ih b (hs b hbb)).2
      rw [same3] at a3
      cases mrg_one hm a3
      exact a4
/-- what stands in a line: known names; no name twice; every line a part of the lines of those who have it -/
theorem Good.lines (g : Good B K) : ∀ n l, get K n = some l → l.Nodup ∧ (∀ x ∈ l, x ∈ dom K) ∧ ∀ x ∈ l, ∀ lx, get K x = some lx → lx.Sublist l := by
  induction g with
  | nil => intro n l h; cases h
  | snoc g hn hb hs hm ih =>
    rename_i K n bs t
    have sub : ∀ x ∈ t, x ∈ dom K := fun x hx => by
      obtain ⟨r, hr, hx⟩ := ((mrg_mem hm rfl).1 x).mp hx
      rcases List.mem_append.mp hr with hr | hr
      · obtain ⟨b, hb2, rfl⟩ := List.mem_map.mp hr
        obtain ⟨lb, eb⟩ := get_some.mpr (hs b hb2)
        rw [eb] at hx
        exact (ih b lb eb).2.1 x hx
      · rw [List.mem_singleton.mp hr] at hx
        exact hs x hx
    intro m l h
    by_cases hm' : m ∈ dom K
    · rw [get_app_l hm'] at h
      obtain ⟨a1, a2, a3⟩ := ih m l h
      refine ⟨a1, fun x hx => by rw [dom_app]; exact List.mem_append_left _ (a2 x hx), fun x hx lx e => ?_⟩
      rw [get_app_l (a2 x hx)] at e
      exact a3 x hx lx e
    · rw [get_app hm'] at h
      have h : (if n = m then some (n :: t) else none) = some l := h
      by_cases e : n = m
      · rw [if_pos e] at h
        cases h
        subst e
        obtain ⟨b1, b2, b3⟩ := mrg_mem hm rfl
        refine ⟨List.nodup_cons.mpr ⟨fun h => hn (sub n h), b2⟩, fun x hx => ?_, fun x hx lx ex => ?_⟩
        · rw [dom_app]
          rcases List.mem_cons.mp hx with rfl | hx
          · exact List.mem_append_right _ (List.mem_singleton.mpr rfl)
          · exact List.mem_append_left _ (sub x hx)
        · rcases List.mem_cons.mp hx with rfl | hx
          · rw [get_app hm'] at ex
            have ex : (if x = x then some (x :: t) else none) = some lx := ex
            rw [if_pos rfl] at ex
            cases ex
            exact List.Sublist.refl _
          · rw [get_app_l (sub x hx)] at ex
            obtain ⟨r, hr, hxr⟩ := (b1 x).mp hx
            refine List.Sublist.cons _ ?_
            rcases List.mem_append.mp hr with hr2 | hr2
            · obtain ⟨b, hb2, er⟩ := List.mem_map.mp hr2
              obtain ⟨lb, eb⟩ := get_some.mpr (hs b hb2)
              rw [eb] at er
              have er : lb = r := er
              subst er
              exact ((ih b lb eb).2.2 x hxr lx ex).trans (b3 _ hr)
            · have er := List.mem_singleton.mp hr2
              subst er
              have : (get K x).getD [] ∈ rowsOfV K r := List.mem_append_left _ (List.mem_map.mpr ⟨x, hxr, rfl⟩)
              rw [ex] at this
              exact b3 _ this
      · rw [if_neg e] at h; cases h
end
end VL
set_option Elab.async false
set_option linter.all false
set_option maxRecDepth 100000
set_option maxHeartbeats 4000000
namespace VL
open PySem PySem.Spec L2 PySem.W
open PyProof.Rows hiding St
/-- te comes to d, the slots as they were -/
def Vl (te : TDE) (Γ : Gm) (d : D) : Prop := ∀ Q : D → Gm → Prop, Q d Γ → te Γ Q
def VT (tt : TDT) (Γ : Gm) (b : Bool) : Prop := ∀ Q : Bool → Gm → Prop, Q b Γ → tt Γ Q
def VA (ta : TDF) (Γ : Gm) (ds : List D) : Prop := ∀ Q : List D → Gm → Prop, Q ds Γ → ta Γ Q
def VO (t : TDO) (Γ : Gm) (o : Option Int) : Prop := ∀ Q : Option Int → Gm → Prop, Q o Γ → t Γ Q
/-- an operation's value -/
def V2 (rd : RD2) (x y d : D) : Prop := ∀ Q : D → Prop, Q d → rd x y Q
def VC (rd : List D → (D → Prop) → Prop) (ds : List D) (d : D) : Prop := ∀ Q : D → Prop, Q d → rd ds Q
def VS (rd : D → Option Int → Option Int → (D → Prop) → Prop) (x : D) (lo hi : Option Int) (d : D) : Prop := ∀ Q : D → Prop, Q d → rd x lo hi Q
section
variable {Γ : Gm} {i j : Nat} {d x y z v : D} {ta tb tc : TDE} {tt tu : TDT} {tf : TDF} {ds : List D} {b b1 b2 : Bool} {rd r1 r2 : RD2}
theorem vl_var (h : Γ[i]? = some (.dat d)) : Vl (rdVar i) Γ d := fun Q q => by unfold rdVar; rw [h]; exact q
theorem vl_c : Vl (rdC d) Γ d := fun Q q => q
theorem vl_sh (h : Vl ta Γ d) : Vl (rdShare ta) Γ d := h
theorem vl_op (ha : Vl ta Γ x) (hb : Vl tb Γ y) (h : V2 rd x y d) : Vl (rdOp rd ta tb) Γ d := fun Q q => ha _ (hb _ (h _ q))
theorem vl_and (ha : Vl ta Γ (.bl b1)) (hb : b1 = true → Vl tb Γ (.bl b2)) : Vl (rdAndV ta tb) Γ (.bl (b1 && b2)) := fun Q q => andV_ok b1 b2 (fun K k => ha K k) (fun e K k => hb e K k) q
theorem vl_or (ha : Vl ta Γ (.bl b1)) (hb : b1 = false → Vl tb Γ (.bl b2)) : Vl (rdOrV ta tb) Γ (.bl (b1 || b2)) := fun Q q => orV_ok b1 b2 (fun K k => ha K k) (fun e K k => hb e K k) q
theorem vl_if (hc : VT tt Γ b) (ha : b = true → Vl ta Γ x) (hb : b = false → Vl tb Γ y) : Vl (rdIf tt ta tb) Γ (if b = true then x else y) := fun Q q => by
  refine hc _ ?_
  cases b with
  | false => exact hb rfl _ q
  | true => exact ha rfl _ q
theorem vl_notV (ha : Vl ta Γ (.bl b)) : Vl (rdNotV ta) Γ (.bl (!b)) := fun Q q => ha _ q
theorem vt_test (ha : Vl ta Γ (.bl b)) : VT (rdTest ta) Γ b := fun Q q => ha _ q
theorem vt_not (ha : VT tt Γ b) : VT (rdNot tt) Γ (!b) := fun Q q => ha _ q
theorem vt_and (ha : VT tt Γ b1) (hb : b1 = true → VT tu Γ b2) : VT (rdAnd tt tu) Γ (b1 && b2) := fun Q q => by
  refine ha _ ?_
  cases b1 with
  | false => exact q
  | true => exact hb rfl _ q
theorem vt_or (ha : VT tt Γ b1) (hb : b1 = false → VT tu Γ b2) : VT (rdOr tt tu) Γ (b1 || b2) := fun Q q => by
  refine ha _ ?_
  cases b1 with
  | true => exact q
  | false => exact hb rfl _ q
theorem va_nil : VA rdNil Γ [] := fun Q q => q
theorem va_cons (ha : Vl ta Γ d) (hr : VA tf Γ ds) : VA (rdCons ta tf) Γ (d :: ds) := fun Q q => ha _ (hr _ q)
theorem vl_tup (h : VA tf Γ ds) (hs : small ds.length) : Vl (rdTup tf) Γ (.tup ds) := fun Q q => h _ ⟨hs, q⟩
theorem vl_lst (h : VA tf Γ ds) (hs : small ds.length) : Vl (rdLst tf) Γ (.lst ds) := fun Q q => h _ ⟨hs, q⟩
theorem vl_cb {r : List D → (D → Prop) → Prop} (h : VA tf Γ ds) (hc : VC r ds d) : Vl (rdCB r tf) Γ d := fun Q q => h _ (hc _ q)
theorem vl_cf {r : List D → (D → Prop) → Prop} (h : VA tf Γ ds) (hc : VC r ds d) : Vl (rdCF r tf) Γ d := fun Q q => h _ (hc _ q)
theorem vl_call {F : FD} (h : VA tf Γ ds) (hc : VC F ds d) : Vl (rdCall F [] tf) Γ d := fun Q q => h _ (by rw [List.append_nil]; exact hc _ q)
theorem vo_no : VO rdNoPart Γ none := fun Q q => q
theorem vo_some {n : Int} (h : Vl ta Γ (.int n)) : VO (rdPart ta) Γ (some n) := fun Q q => h _ q
theorem vl_sl {r : D → Option Int → Option Int → (D → Prop) → Prop} {tl th : TDO} {lo hi : Option Int} (h : Vl ta Γ x) (hl : VO tl Γ lo) (hh : VO th Γ hi) (hs : VS r x lo hi d) : Vl (rdSl r ta tl th) Γ d := fun Q q => h _ (hl _ (hh _ (hs _ q)))
theorem vl_fld {cn f : Str} {ns : List Str} {es : List D} (h : Vl ta Γ (.obj cn ns es)) (hf : lookF ns es f = some v) : Vl (rdFld cn f ta) Γ v := fun Q q => h _ ⟨rfl, v, hf, q⟩
theorem vl_meth {cn m : Str} {F : FD} {ns : List Str} {es : List D} (h : Vl ta Γ (.obj cn ns es)) (hm : m ∉ ns) (ha : VA tf Γ ds) (hc : VC F (.obj cn ns es :: ds) d) : Vl (rdMeth cn m F [] ta tf) Γ d := fun Q q => h _ ⟨rfl, hm, ha _ (by rw [List.append_nil]; exact hc _ q)⟩
theorem vi_any {L : List D} (h : Vl ta Γ d) (hi : ∀ k : List D → Prop, k L → asIt d k) : VA (rdIAny ta) Γ L := fun Q q => h _ (hi _ q)
theorem vi_rng {n : Nat} (h : VA tf Γ [.int n]) (hn : n < 2 ^ 62) : VA (rdIRng tf) Γ (rangeD n) := fun Q q => h _ ⟨by omega, by rw [Int.toNat_natCast]; exact q⟩
theorem vl_pkL (hp : pkG Γ i fun d => d = x) (hb : Vl tb Γ y) (h : V2 rd x y (.bl b)) : Vl (rdPkL rd i tb) Γ (.bl b) := fun Q q => by
  have hx : ∀ k : D → Prop, k x → pkG Γ i k := fun k hk => by
    unfold pkG at hp ⊢
    split at hp <;> first | (subst hp; exact hk) | exact hp.elim
  exact ⟨hx _ True.intro, hb _ (hx _ (h _ q))⟩
theorem vl_pkR (ha : Vl ta Γ x) (hp : pkG Γ i fun d => d = y) (h : V2 rd x y (.bl b)) : Vl (rdPkR rd ta i) Γ (.bl b) := fun Q q => by
  have hx : ∀ k : D → Prop, k y → pkG Γ i k := fun k hk => by
    unfold pkG at hp ⊢
    split at hp <;> first | (subst hp; exact hk) | exact hp.elim
  exact ha _ (hx _ (h _ q))
theorem vl_pkIx (hp : pkG Γ i fun d => d = x) (hb : Vl tb Γ y) (h : V2 rdIxA x y d) : Vl (rdPkIx i tb) Γ d := fun Q q => by
  have hx : ∀ k : D → Prop, k x → pkG Γ i k := fun k hk => by
    unfold pkG at hp ⊢
    split at hp <;> first | (subst hp; exact hk) | exact hp.elim
  exact ⟨hx _ True.intro, hb _ (hx _ (h _ q))⟩
theorem vl_pkLen {n : Int} (hp : pkG Γ i fun d => d = x) (h : VC rdLenB [x] (.int n)) : Vl (rdPkLen i) Γ (.int n) := fun Q q => by
  have hx : ∀ k : D → Prop, k x → pkG Γ i k := fun k hk => by
    unfold pkG at hp ⊢
    split at hp <;> first | (subst hp; exact hk) | exact hp.elim
  exact hx _ (h _ q)
theorem vl_lc {α : Type} {g f : α → D} {p : α → Bool} {L : List α} (hi : VA tf Γ (L.map g)) (hn : i < Γ.length) (ho : noOwn Γ [i]) (hl : L.length ≤ sizeLine)
    (ht : ∀ a ∈ L, VT tt (Γ.set i (.dat (g a))) (p a)) (he : ∀ a ∈ L, p a = true → Vl ta (Γ.set i (.dat (g a))) (f a)) : Vl (rdLc tf (rgName i) tt ta [i]) Γ (.lst ((L.filter p).map f)) := fun Q q =>
  hi _ ⟨ho, goLc_a g p f hn L [] (by show 0 + L.length ≤ _; omega) (fun a ha k hk => ht a ha k hk) (fun a ha hp k hk => he a ha hp k hk) q⟩
theorem vl_lcm {α : Type} {g f : α → D} {L : List α} (hi : VA tf Γ (L.map g)) (hn : i < Γ.length) (ho : noOwn Γ [i]) (hl : L.length ≤ sizeLine)
    (he : ∀ a ∈ L, Vl ta (Γ.set i (.dat (g a))) (f a)) : Vl (rdLc tf (rgName i) (fun Γ Q => Q true Γ) ta [i]) Γ (.lst (L.map f)) := fun Q q =>
  hi _ ⟨ho, goLc_b g f hn L hl (fun a ha k hk => he a ha k hk) q⟩
end
section
variable {Γ : Gm} {E : EndsD} {i : Nat} {d : D} {b : Bool} {ta : TDE} {tt : TDT} {s t : TDS}
theorem st_asg (h : Vl ta Γ d) (n : E.nx (Γ.set i (.dat d))) : rdAsg ta (rgName i) E Γ := h _ n
theorem st_ret (h : Vl ta Γ d) (n : E.rt d) : rdRet ta E Γ := h _ n
theorem st_if (h : VT tt Γ b) (h1 : b = true → s E Γ) (h2 : b = false → t E Γ) : rdIfS tt s t E Γ := by
  refine h _ ?_
  cases b with
  | true => exact h1 rfl
  | false => exact h2 rfl
end
end VL
set_option Elab.async false
set_option linter.all false
set_option maxRecDepth 100000
set_option maxHeartbeats 4000000
namespace VL
open PySem PySem.Spec L2 PySem.W
open PyProof.Rows hiding St
abbrev sS (xs : List Str) : List D := xs.map D.str
abbrev sT (xs : List Str) : D := .tup (xs.map D.str)
abbrev sL (xs : List Str) : D := .lst (xs.map D.str)
def okT (x : Str) : Prop := PyData.strOk x = true
def okTs (xs : List Str) : Prop := ∀ x ∈ xs, okT x
section
variable {a b x n : Str} {xs ys : List Str} {i j : Int} {neg : Bool} {ds : List D} {d y : D}
theorem okS_tup (h : okTs xs) : okE (sT xs) := (okN_tup (n := 0) fun d hd => by
  obtain ⟨x, hx, rfl⟩ := List.mem_map.mp hd
  exact okN_str (h x hx)).e (by decide)
theorem okS_lst (h : okTs xs) : okE (sL xs) := (okN_lst (n := 0) fun d hd => by
  obtain ⟨x, hx, rfl⟩ := List.mem_map.mp hd
  exact okN_str (h x hx)).e (by decide)
theorem okE_str (h : okT x) : okE (.str x) := (okN_str h).e (by decide)
theorem eqD_str : eqD (.str a) (.str b) = decide (a = b) := by
  show PyData.eqv (.str a) (.str b) = _
  simp only [PyData.eqv]
  by_cases h : a = b
  · subst h; simp
  · rw [decide_eq_false h]; exact beq_false_of_ne h
theorem eqvAll_strs : ∀ {xs ys : List Str}, PyData.eqvAll (pyAll (sS xs)) (pyAll (sS ys)) = decide (xs = ys)
  | [], [] => by unfold pyAll; simp [PyData.eqvAll]
  | [], y :: ys => by unfold pyAll; simp [PyData.eqvAll]
  | x :: xs, [] => by unfold pyAll; simp [PyData.eqvAll]
  | x :: xs, y :: ys => by
    show PyData.eqvAll (py (.str x) :: pyAll (sS xs)) (py (.str y) :: pyAll (sS ys)) = _
    simp only [PyData.eqvAll]
    rw [eqvAll_strs, show PyData.eqv (py (.str x)) (py (.str y)) = decide (x = y) from eqD_str]
    by_cases h : x = y
    · subst h
      by_cases h2 : xs = ys
      · subst h2; simp
      · simp [h2]
    · simp [h]
theorem eqD_sT : eqD (sT xs) (sT ys) = decide (xs = ys) := by
  show PyData.eqv (.tuple (pyAll (sS xs))) (.tuple (pyAll (sS ys))) = _
  simp only [PyData.eqv]
  exact eqvAll_strs
theorem isIn_strs : isIn (.str x) (sS xs) = decide (x ∈ xs) := by
  induction xs with
  | nil => rfl
  | cons y r ih =>
    show (eqD (.str y) (.str x) || isIn (.str x) (sS r)) = _
    rw [ih, eqD_str]
    by_cases h : y = x
    · subst h; simp
    · have h2 : ¬ x = y := fun e => h e.symm
      simp [h, h2]
theorem v2_eqS : V2 rdEq (.str a) (.str b) (.bl (decide (a = b))) := fun Q q => q
theorem v2_eqI : V2 rdEq (.int i) (.int j) (.bl (decide (i = j))) := fun Q q => q
theorem v2_neS : V2 rdNe (.str a) (.str b) (.bl (!decide (a = b))) := fun Q q => q
theorem v2_neI : V2 rdNe (.int i) (.int j) (.bl (!decide (i = j))) := fun Q q => q
theorem v2_eqL0 (h1 : okE (.lst ds)) : V2 rdEq (.lst ds) (.lst []) (.bl ds.isEmpty) := fun Q q => ⟨h1, (okN_lst (n := 0) fun d hd => by cases hd).e (by decide), by rw [eqD_nil]; exact q⟩
theorem v2_neL0 (h1 : okE (.lst ds)) : V2 rdNe (.lst ds) (.lst []) (.bl (!ds.isEmpty)) := fun Q q => ⟨h1, (okN_lst (n := 0) fun d hd => by cases hd).e (by decide), by rw [eqD_nil]; exact q⟩
theorem v2_inT (h1 : okT x) (h2 : okTs xs) : V2 (rdInB neg) (.str x) (sT xs) (.bl (neg ^^ decide (x ∈ xs))) := fun Q q => by
  show rdIn neg (.str x) (.tup (sS xs)) Q
  rw [rdIn_t]
  exact ⟨okE_str h1, okS_tup h2, by rw [isIn_strs]; exact q⟩
theorem v2_inL (h1 : okT x) (h2 : okTs xs) : V2 (rdInB neg) (.str x) (sL xs) (.bl (neg ^^ decide (x ∈ xs))) := fun Q q => by
  show rdIn neg (.str x) (.lst (sS xs)) Q
  rw [rdIn_l]
  exact ⟨okE_str h1, okS_lst h2, by rw [isIn_strs]; exact q⟩
theorem v2_ixT {k : Nat} (h : ds[k]? = some d) : V2 rdIxA (.tup ds) (.int (k : Int)) d := fun Q q => ⟨d, by rw [atI_n]; exact h, q⟩
theorem v2_ixL {k : Nat} (h : ds[k]? = some d) : V2 rdIxA (.lst ds) (.int (k : Int)) d := fun Q q => ⟨d, by rw [atI_n]; exact h, q⟩
theorem v2_addT {es : List D} (h : ds.length + es.length ≤ sizeLine) : V2 rdAddB (.tup ds) (.tup es) (.tup (ds ++ es)) := fun Q q => ⟨h, q⟩
theorem v2_addL {es : List D} (h : ds.length + es.length ≤ sizeLine) : V2 rdAddB (.lst ds) (.lst es) (.lst (ds ++ es)) := fun Q q => ⟨h, q⟩
theorem v2_addI : V2 rdAddB (.int i) (.int j) (.int (i + j)) := fun Q q => q
theorem vc_lenL : VC rdLenB [.lst ds] (.int ds.length) := fun Q q => q
theorem vc_lenT : VC rdLenB [.tup ds] (.int ds.length) := fun Q q => q
theorem vc_lenS (h : a.length ≤ sizeLine) : VC rdLenB [.str a] (.int a.length) := fun Q q => ⟨h, q⟩
theorem vc_listL : VC rdListB [.lst ds] (.lst ds) := fun Q q => q
theorem vc_listT : VC rdListB [.tup ds] (.lst ds) := fun Q q => q
theorem vc_tupL : VC rdTuple [.lst ds] (.tup ds) := fun Q q => q
theorem vc_all {α : Type} {L : List α} {p : α → Bool} : VC rdAll [.lst (L.map fun a => D.bl (p a))] (.bl (L.all p)) := fun Q q => ⟨_, asBs_maps L p, by rw [all_id]; exact q⟩
theorem vc_isi {T nm : String} {c : Bool} (h : tyName d = some nm) (hk : kitB nm T = some c) : VC rdIsi [d, .ty T] (.bl c) := fun Q q => ⟨nm, c, h, hk, q⟩
theorem keysS_inr : ∀ xs : List Str, keysS (xs.map Sum.inr) = some xs
  | [] => rfl
  | x :: r => by show (keysS (r.map Sum.inr)).map (x :: ·) = _; rw [keysS_inr r]; rfl
theorem vc_sortD (h : xs.length < 64) : VC rdSortC [.dic (xs.map Sum.inr) ds] (sL (sortT xs)) := fun Q q => ⟨xs, keysS_inr xs, h, q⟩
theorem vs_Tto {k : Nat} : VS rdSlB (.tup ds) none (some (k : Int)) (.tup (ds.take k)) := fun Q q => by
  show Q (.tup (cutD ds none (some (k : Int))))
  rw [cutD_to]; exact q
theorem vs_Lto {k : Nat} : VS rdSlB (.lst ds) none (some (k : Int)) (.lst (ds.take k)) := fun Q q => by
  show Q (.lst (cutD ds none (some (k : Int))))
  rw [cutD_to]; exact q
end
def dB {α : Type} (f : α → D) (B : List (Str × α)) : D := .dic ((dom B).map Sum.inr) (B.map fun p => f p.2)
def setB {α : Type} (B : List (Str × α)) (n : Str) (v : α) : List (Str × α) := B.map fun p => if p.1 = n then (p.1, v) else p
def putB {α : Type} (B : List (Str × α)) (n : Str) (v : α) : List (Str × α) := if n ∈ dom B then setB B n v else B ++ [(n, v)]
section
variable {α : Type} {f : α → D} {B : List (Str × α)} {n m : Str} {v : α}
theorem dom_setB : dom (setB B n v) = dom B := by
  unfold dom setB
  rw [List.map_map]
  apply List.map_congr_left
  intro p _
  show (if p.1 = n then (p.1, v) else p).1 = p.1
  split <;> rfl
theorem dom_putB : dom (putB B n v) = if n ∈ dom B then dom B else dom B ++ [n] := by
  unfold putB
  by_cases h : n ∈ dom B
  · rw [if_pos h, if_pos h, dom_setB]
  · rw [if_neg h, if_neg h, dom_app]; rfl
theorem get_setB : get (setB B n v) m = if m = n then (get B m).map (fun _ => v) else get B m := by
  induction B with
  | nil => show none = if m = n then none else none; split <;> rfl
  | cons p r ih =>
    obtain ⟨k, w⟩ := p
    show get ((if k = n then (k, v) else (k, w)) :: setB r n v) m = _
    by_cases h : k = n
    · rw [if_pos h]
      show (if k = m then some v else get (setB r n v) m) = if m = n then (if k = m then some w else get r m).map (fun _ => v) else if k = m then some w else get r m
      rw [ih]
      by_cases e : k = m
      · rw [if_pos e, if_pos e, if_pos (e.symm.trans h)]; rfl
      · rw [if_neg e, if_neg e]
    · rw [if_neg h]
      show (if k = m then some w else get (setB r n v) m) = if m = n then (if k = m then some w else get r m).map (fun _ => v) else if k = m then some w else get r m
      rw [ih]
      by_cases e : k = m
      · rw [if_pos e, if_pos e, if_neg (fun z => h (e.trans z))]
      · rw [if_neg e, if_neg e]
theorem get_putB : get (putB B n v) m = if m = n then some v else get B m := by
  unfold putB
  by_cases h : n ∈ dom B
  · rw [if_pos h, get_setB]
    by_cases e : m = n
    · rw [if_pos e, if_pos e]
      subst e
      obtain ⟨w, ew⟩ := get_some.mpr h
      rw [ew]; rfl
    · rw [if_neg e, if_neg e]
  · rw [if_neg h]
    by_cases e : m = n
    · rw [if_pos e]
      subst e
      rw [get_app h]
      show (if m = m then some v else none) = _
      rw [if_pos rfl]
    · rw [if_neg e]
      by_cases hm : m ∈ dom B
      · exact get_app_l hm
      · rw [get_app hm, get_none.mpr hm]
        show (if n = m then some v else none) = none
        rw [if_neg fun z => e z.symm]
theorem hasK_dB : hasK ((dom B).map Sum.inr) (.inr n) = decide (n ∈ dom B) := by
  unfold hasK
  rw [List.any_map]
  induction dom B with
  | nil => rfl
  | cons k r ih =>
    rw [List.any_cons, ih]
    show (decide ((Sum.inr k : Key) = .inr n) || _) = _
    by_cases h : k = n
    · subst h; simp
    · have h2 : ¬ n = k := fun e => h e.symm
      simp [h, h2]
theorem valD_dB : valD ((dom B).map Sum.inr) (B.map fun p => f p.2) (.inr n) = (get B n).map f := by
  induction B with
  | nil => rfl
  | cons p r ih =>
    obtain ⟨k, w⟩ := p
    show (if (Sum.inr k : Key) = .inr n then some (f w) else valD ((dom r).map Sum.inr) (r.map fun p => f p.2) (.inr n)) = (if k = n then some w else get r n).map f
    by_cases h : k = n
    · subst h; rw [if_pos rfl, if_pos rfl]; rfl
    · rw [if_neg h, if_neg (fun e => h (Sum.inr.inj e)), ih]
theorem v2_ixD {d : D} {w : α} (h : get B n = some w) (hd : f w = d) : V2 rdIxA (dB f B) (.str n) d := fun Q q => ⟨.inr n, d, rfl, by rw [valD_dB, h, ← hd]; rfl, q⟩
theorem v2_inD {neg : Bool} : V2 (rdInB neg) (.str n) (dB f B) (.bl (neg ^^ decide (n ∈ dom B))) := fun Q q => ⟨.inr n, rfl, by rw [hasK_dB]; exact q⟩
theorem vc_lenB : VC rdLenB [dB f B] (.int B.length) := fun Q q => by
  show Q (.int ((dom B).map Sum.inr : List Key).length)
  rw [List.length_map]
  unfold dom
  rw [List.length_map]
  exact q
theorem vc_listB : VC rdListB [dB f B] (sL (dom B)) := fun Q q => by
  show Q (.lst (((dom B).map Sum.inr).map kD1))
  rw [List.map_map]
  exact q
theorem vc_sortB (h : B.length < 64) : VC rdSortC [dB f B] (sL (sortT (dom B))) := vc_sortD (by unfold dom; rw [List.length_map]; exact h)
theorem it_dB {k : List D → Prop} (h : k (sS (dom B))) : asIt (dB f B) k := by
  show k (((dom B).map Sum.inr).map kD1)
  rw [List.map_map]
  exact h
end
end VL
set_option Elab.async false
set_option linter.all false
set_option maxRecDepth 100000
set_option maxHeartbeats 4000000
namespace VL
open PySem PySem.Spec L2 PySem.W
open PyProof.Rows hiding St
section
variable {Γ : Gm} {E : EndsD} {i : Nat} {d : D} {b : Bool} {ta : TDE} {tt : TDT} {s t : TDS}
theorem sq_asg (h : Vl ta Γ d) (n : t E (Γ.set i (.dat d))) : rdSeq (rdAsg ta (rgName i)) t E Γ := h _ n
theorem sq_own (h : Vl ta Γ d) (n : t E (Γ.set i (.own d))) : rdSeq (rdSetOwn ta i) t E Γ := h _ n
theorem sq_drop (h : Vl ta Γ d) (n : t E Γ) : rdSeq (rdDrop ta) t E Γ := h _ n
theorem sq_if (h : VT tt Γ b) (h1 : b = true → s { E with nx := t E } Γ) (h2 : b = false → t E Γ) : rdSeq (rdIfS tt s rdNext) t E Γ := st_if h h1 h2
theorem if_N (h : VT tt Γ b) (h1 : b = true → s E Γ) (h2 : b = false → E.nx Γ) : rdIfS tt s rdNext E Γ := st_if h h1 h2
theorem sq_for {di : TDF} {gd : TDG} {L : List D} (h : VA di Γ L) (n : goFor gd s { E with nx := t E } L Γ) : rdSeq (rdFor di gd s) t E Γ := h _ n
end
section
variable {Γ : Gm} {d x : D} {ta tb : TDE} {tf : TDF} {ds : List D} {rd : RD2} {Q : D → Gm → Prop}
theorem nd_call {F : FD} (h : VA tf Γ ds) (hc : F ds fun d => Q d Γ) : rdCall F [] tf Γ Q := h _ (by rw [List.append_nil]; exact hc)
theorem nd_op (ha : Vl ta Γ x) (hb : tb Γ fun y Γ' => rd x y fun d => Q d Γ') : rdOp rd ta tb Γ Q := ha _ hb
end
end VL
set_option Elab.async false
set_option linter.all false
set_option maxRecDepth 100000
set_option maxHeartbeats 4000000
namespace VL
open PySem PySem.Spec L2
open PyProof.Rows hiding St
end VL
set_option Elab.async false
set_option linter.all false
set_option maxRecDepth 100000
set_option maxHeartbeats 4000000
namespace VL
open PySem PySem.Spec L2
open PyProof.Rows hiding St
/-- what a def tells: of its answer, of what it raises -/
abbrev FX := List D → (D → Prop) → (D → Prop) → Prop
/-- an exception in the air stands for data -/
def XR (K : PySem.W.Frag) (Hv : Hp) (cls : Value) (dd : Option Addr) (dat : D) : Prop := ∃ (C : Addr) (cn : Str) (fs : List (Str × V)) (ds : List D), cls = .ref C ∧ dat = .exc cn (fs.map (·.1)) ds ∧ XD Hv dd fs ∧ PySem.W.nsIn K mainGlobals cn = some (some (.ref C)) ∧ RpAll K Hv (fs.map (·.2)) ds
theorem XR.mono {K : PySem.W.Frag} {Hv Hv' : Hp} {cls : Value} {dd : Option Addr} {dat : D} (e : Sub Hv Hv') (h : XR K Hv cls dd dat) : XR K Hv' cls dd dat := by
  obtain ⟨C, cn, fs, ds, h1, h2, h3, h4, h5⟩ := h
  exact ⟨C, cn, fs, ds, h1, h2, e.xd h3, h4, RpAll.monoS e _ _ h5⟩
/-- what leaves the def is what its caller wishes -/
def Xok (W : Wc) (K : PySem.W.Frag) (E : XK) (xk : D → Prop) : Prop := ∀ cls dd dat Hv' H', Ret W.J.vol W.J.inv W.Hv0 W.H0 Hv' H' → XR K Hv' cls dd dat → xk dat → E cls dd H'
theorem xok_never {W : Wc} {K : PySem.W.Frag} {E : XK} : Xok W K E fun _ => False := fun _ _ _ _ _ _ _ z => z.elim
def rdMethX (cn m : Str) (F : FX) (xk : D → Prop) (do' : TDE) (dt : TDF) : TDE := fun Γ Q => do' Γ fun d Γ1 => asObj cn d fun ns es => m ∉ ns ∧ dt Γ1 fun ds Γ2 => F (d :: ds) (fun r => Q r Γ2) xk
section
variable {P : Program} {w : World} {K : PySem.W.Frag} {mg : Str → Option Value} {base : Heap}
theorem takes_x {N : List Str} {qual : Str} {scope : Scope} {f : Addr} {cd : Value} {A : Around} {outer : List Env} {s : Shared} {H : Hp} {E : XK} : Takes (cxOf (L2.CX P w) P w K mg base N qual scope f cd A outer s H E) fun cls d _ H => E cls d H := takes_of rfl rfl rfl rfl
theorem own_x {N : List Str} {qual : Str} {scope : Scope} {f : Addr} {cd : Value} {A : Around} {outer : List Env} {s : Shared} {H : Hp} {E : XK} : PassesOwn (model P w) (cxOf (L2.CX P w) P w K mg base N qual scope f cd A outer s H E).A (cxOf (L2.CX P w) P w K mg base N qual scope f cd A outer s H E).env (cxOf (L2.CX P w) P w K mg base N qual scope f cd A outer s H E).xe := PassesOwn.leaving
end
end VL
set_option Elab.async false
set_option linter.all false
set_option maxRecDepth 100000
set_option maxHeartbeats 4000000
namespace VL
open PySem PySem.Spec L2
open PyProof.Rows hiding St
/-- a def of the text with the class cell of D, in the main file -/
structure FunS (P : Program) (K : PySem.W.Frag) (x qual : Str) (st : Stmt) (f D : Addr) (fd : FuncData) : Prop where
  ex : ∃ (oc kV doc pm ct ccl cl : Value) (od an cdd cld : Option Addr) (osl ccs csl : Array (Option Value)) (cda cc : Addr) (vs : Array Value) (file : Str) (tf : Tok),
    fd = PySem.W.ksFn x qual (defArgs st) (defBody st) (defScope st) .none kV doc pm an (.ref cda) ct cc ∧ K.lookup f = some ⟨oc, od, .func fd, osl⟩ ∧ PySem.W.codeIn K (.ref cda) qual = true ∧
    K.lookup cda = some ⟨ccl, cdd, .fields vs, ccs⟩ ∧ vs[2]? = some (.str file tf) ∧ ((P.main.file : Str) == file) = true ∧ K.lookup cc = some ⟨cl, cld, .cell (some (.ref D)), csl⟩
/-- what it promises -/
def spE (C : Addr) (fld : Str) : Sp := fun vs H Q E => ∃ (a : Addr) (y : V), vs = [.ref a, y] ∧ H a = some (exo a C none) ∧ ∀ dx, H dx = none → dx ≠ a → Q .non (upd (upd H dx (exd dx [(fld, y)])) a (exo a C (some dx)))
section
variable {M : Model} {A : Around} {E : Value → Shared → Prop}
/-- the wrapper of the built-in __init__, called -/
theorem call_mw {P : Program} {w : World} {A : Around} {E : Value → Shared → Prop} {hp : Heap} {g : Array GenState} {d : Drawn} {tk : Nat} {os : OsState} {u a C t1 : Addr} {dd : Option Addr} {rest : List Value} {K : PySem.W.Frag} {Q : Value → Shared → Prop} (T : OexC K C) (kin : K.In hp)
    (hu : hp.get? u = some (PySem.W.kxs_mw "ValueError.__init__" a)) (ha : hp.get? a = some (PySem.W.excObj C t1 dd .none)) (hz : rest.length ≤ sizeLine)
    (h : ∀ h', (∀ b o, b ≠ a → hp.get? b = some o → h'.get? b = some o) → h'.get? a = some (PySem.W.excObj C hp.objs.size dd .none) → Q .none ⟨h', g, d, tk, os⟩) :
    wpAny (model P w) A (call (.ref u) rest) Q E ⟨hp, g, d, tk, os⟩ := by
  obtain ⟨nm, q, N, bs, bm, sn, sub, ab, col, dt, k0, k1, k2, k3, k5, hC, _⟩ := T.cls
  have FB := F.excBase_ValueError
  refine wpAny_call (codeAny_of_tree ?_)
  show wpAny _ A.in1 (callAny (.ref u) ⟨rest, []⟩) _ _ _
  unfold callAny
  refine wpAny_bind (wpAny_load hu ?_)
  have z : (Value.type "method-wrapper" == Value.type "method" || Value.type "method-wrapper" == Value.type "builtin_function_or_method" || Value.type "method-wrapper" == Value.type "method-wrapper") = true := by decide
  simp only [PySem.W.kxs_mw, z, if_true]
  refine PySem.W.KFB.if_so (by decide) ?_
  refine wpAny_bind (PySem.W.check_bound_init FB.toExcCallFacts (kin _ _ hC) ha rfl ?_)
  refine wpAny_bind (wpAny_pure (wpAny_pure ⟨plainId_quiet FB.init.plain _, codeAny_builtin FB.initEntry ?_⟩))
  exact PySem.W.exc_init_tree (cls := .ref C) (t0 := t1) (dv := dd) (c2 := .none) (c3 := .none) (b4 := .bool false) ha hz fun h' k e _ => h h' k e
end
section
variable {X : Cx} {x fld tx file : Str} {f C a cda cc : Addr} {fd : FuncData} {ar : Arg} {j : Nat} {oc ccl cl : Value} {od cdd cld : Option Addr} {osl ccs csl : Array (Option Value)} {vc : Array Value} {tf : Tok} {p0 p1 p2 p3 p4 p5 p6 p7 p8 p9 : Pos} {s : Shared} {σ : L2.St} {H : Hp} {y : V} {Q : VK} {body : List Stmt}
/-- its body -/
theorem ex_body {pl : Sem Bool} (hc : eval (.Call (.Attribute (.Call (.Name "super" p0) [] [] p1) "__init__" p2) [.Constant (.str tx) j p3] [] p4) X.env = (do
      let ov ← attributeBase (.Call (.Name "super" p0) [] [] p1) "__init__" X.env (eval (.Call (.Name "super" p0) [] [] p1) X.env)
      standAt p2.atName
      let (f, first) ← holding [ov] (getMethod ov "__init__" pl)
      callWith p4 f first (backTo p4 (starEach [.Constant (.str tx) j p3] X.env)) []))
    (hi : interactive X.env = false) (hfn : X.env.func = some f) (hco : X.env.code = .ref cda) (lf : X.K.lookup f = some ⟨oc, od, .func fd, osl⟩) (hp : (fd.params.posonlyargs ++ fd.params.args).head? = some ar) (har : ar.arg = "self")
    (lcd : X.K.lookup cda = some ⟨ccl, cdd, .fields vc, ccs⟩) (hvs : vc[2]? = some (.str file tf)) (hfile : ((X.prog.main.file : Str) == file) = true) (hcell : X.env.cells.lookup ("__class__" : Str) = some cc) (lcc : X.K.lookup cc = some ⟨cl, cld, .cell (some (.ref C)), csl⟩)
    (hks : X.env.kindOf "super" = some .globalImplicit) (hkc : X.env.kindOf "__class__" = some .free) (hka : X.env.kindOf "self" = some .local) (hN0 : X.N[0]? = some ("self" : Str)) (hN1 : X.N[1]? = some x) (hv1 : Vis X.env.scope x)
    (T : OexC X.K C) (hno : PySem.W.findIn X.K (.ref C) fld = some none) (hms : X.mg "super" = none) (htop : (X.prog.main.scope.names.lookup ("super" : Str)).isSome = false)
    (hmro : PySem.W.mroIn X.K C (.ref C) = some true) (hopq : PySem.W.nsIn X.K cStatics "thirdparty.any" = some none) (hsup : PySem.W.ks_superIn X.K C C "__init__" = some (some (.builtin "ValueError.__init__")))
    (hVE : PySem.W.subIn X.K (.ref C) (.type "ValueError") = some true) (hxd : (x == ("__debug__" : Str)) = false) (hxc : (x == ("__classdict__" : Str)) = false)
    (I : L2.Inv X [] σ H s) (h0 : σ[0]? = some (some (.ref a))) (h1 : σ[1]? = some (some y)) (ea : H a = some (exo a C none)) (q : ∀ dx, H dx = none → dx ≠ a → Q .non (upd (upd H dx (exd dx [(fld, y)])) a (exo a C (some dx)))) :
    _root_.PySem.wpAt (model X.prog X.w) X.A (.func body X.env) (execs [.Expr (.Call (.Attribute (.Call (.Name "super" p0) [] [] p1) "__init__" p2) [.Constant (.str tx) j p3] [] p4) p5, .Assign [.Attribute (.Name "self" p6) fld p7] (.Name x p8) p9] X.env)
      (SP X [] { nx := fun _ H' => Q .non H', rt := Q }) X.xe s := by
  obtain ⟨nm, qn, N, bs, bm, sn, sub, ab, col, dt, k0, k1, k2, k3, k5, hC, hbm⟩ := T.cls
  have hcl : PySem.W.clsIn X.K C = some { name := nm, bases := bs, mro := .ref C :: bm, ns := N, qualname := qn, hasDict := true, slotNames := sn, subclasses := sub, abstract := ab, collection := col, hasDel := false } := by unfold PySem.W.clsIn; rw [hC] <;> rfl
  obtain ⟨t1, ho⟩ := exo_at I.hok ea
  obtain ⟨m, hns, look⟩ := I.loc
  have hv0 : Vis X.env.scope "self" := .inl hka
  obtain ⟨u, ru, lu⟩ := look 0 "self" _ hN0 h0 hv0
  obtain rfl : u = Value.ref a := ru
  have hm0 : m "self" = some (.ref a) := by
    rcases lu with ⟨_, e⟩ | ⟨e, _⟩
    · exact e
    · rw [hka] at e
      rcases e with e | e <;> cases e
  obtain ⟨mb, b1, b2⟩ := I.mod.blt
  refine ks_wpAt_execs_cons ?_
  refine ks_wpAt_Expr_any ?_ hi
  refine ks_wpAt_MethodCall ?_ hc
  refine ks_wpAt_super_base hks hkc (by decide) hfn (I.kIn _ _ lf) rfl hp hco (I.kIn _ _ lcd) rfl hvs hfile htop ?_
  refine PySem.W.ks_loadName_global I.ok.kind hks (Calls.loadGlobal_builtin (by rw [I.ok.glob]; exact I.mod.glob.keeps I.bk) hms (by rw [I.ok.blt]; exact b1.keeps I.bk) ((b2 _ (by decide)).trans (show bootBuiltins "super" = some (.type "super") by boot_by_name)) ⟨rfl, ?_⟩)
  refine wpAny_loadName_free I.ok.kind hkc hcell ⟨_, I.kIn _ _ lcc, rfl⟩ ?_
  rw [har]
  refine wpAny_loadName_local I.ok.kind hka hns hm0 ?_
  obtain ⟨hh, g, d, t, os⟩ := s
  refine ks_wpAny_isType_cls (I.kIn _ _ hC) rfl ⟨rfl, ?_⟩
  refine ks_wpAny_call_super (I.kIn _ _ hC) rfl ho rfl (fun c e => by cases e) (PySem.W.looks_mroIn I.kIn hmro) (fun h' e k => ?_)
  have I1 : L2.Inv X [] σ H ⟨h', g, d, t, os⟩ := I.kept k
  have hal : PySem.W.alongIn X.K "__init__" (((Value.ref C :: bm).dropWhile (· != .ref C)).drop 1) = some (some (.builtin "ValueError.__init__")) := by
    unfold PySem.W.ks_superIn at hsup
    rw [hcl] at hsup
    exact hsup
  have hne : a ≠ C := fun z => by
    have e1 := I.kIn _ _ hC
    rw [← z, ho] at e1
    cases e1
  have ho1 := k _ _ ho
  have hI : PySem.W.Looks (model X.prog X.w) h' (isInstance (.ref a) (.type "ValueError")) true := (PySem.W.InstAt.type (show PySem.W.InstAt h' a _ C none from ⟨ho1, rfl, rfl, trivial⟩)).andThen (PySem.W.looks_subIn I1.kIn hVE)
  refine PySem.W.kxs_getMethod PySem.W.kxs_ValueError e (PySem.W.looks_opaque I1.kIn hopq) (l₀ := .ref C :: bm) (fun A Q E s k q => wpAny_bind ((PySem.W.looks_clsIn I1.kIn hcl) A _ E s k (wpAny_pure q))) rfl I1.kIn hal hI hne (by decide) ?_
  have hso : (h'.push (PySem.W.kxs_mw "ValueError.__init__" a)).get? h'.objs.size = some (PySem.W.kxs_mw "ValueError.__init__" a) := Heap.get?_push_at rfl rfl
  have I2 : L2.Inv X [(h'.objs.size, PySem.W.kxs_mw "ValueError.__init__" a)] σ H ⟨h'.push (PySem.W.kxs_mw "ValueError.__init__" a), g, d, t + 1, os⟩ :=
    (I1.kept (t' := t + 1) fun b o z => Heap.get?_push_of_some _ z).pins_of fun p hp => by
      rw [List.mem_singleton] at hp
      subst hp
      refine ⟨hso, I1.hok.fresh (Nat.le_refl _), fun z => ?_, I1.nofs (Nat.le_refl _), fun v z => by cases z⟩
      have := I1.lt
      rw [← z] at this
      exact absurd this (Nat.lt_irrefl _)
  have ha : PA X [.Constant (.str tx) j p3] (tCons (tC (.str tx)) tNil) := pa_cons pe_str pa_nil
  refine PySem.W.kxs_callWith (i := "ValueError.__init__") (x := a) rfl (Calls.evalArgs_plain (thn (ha.run p4 _ _ σ H (fun vs H1 => vs.length = 1 ∧ H1 = H) I2 ⟨rfl, rfl⟩) fun us s1 ⟨vs, H1, I3, r3, hl3, eH⟩ => ?_))
  subst eH
  have hu := (I3.pin (h'.objs.size, PySem.W.kxs_mw "ValueError.__init__" a) (List.mem_append_right _ (List.mem_singleton.mpr rfl))).1
  refine ⟨hu, ?_⟩
  obtain ⟨t3, ho3⟩ := exo_at I3.hok ea
  obtain ⟨h3, g3, d3, k3', os3⟩ := s1
  have hz : us.length ≤ sizeLine := by
    rw [← r3.length, hl3]
    decide
  refine call_mw T I3.kIn hu ho3 hz fun h4 k4 e4 => ?_
  have I4 := I3.write (t' := k3') (x := a) (e := a) (o := exo a C none) (by rw [ea]; exact True.intro) (.inl rfl) k4 ⟨_, e4⟩ (exo_ok e4)
  have eu : upd H1 a (exo a C none) = H1 := by
    funext b
    by_cases hb : b = a
    · rw [hb, upd_same, ea]
    · rw [upd_ne hb]
  rw [eu] at I4
  have I5 : L2.Inv X [] σ H1 ⟨h4, g3, d3, k3', os3⟩ := I4.pins_of fun p hp => absurd hp (by simp)
  refine wpAt_of_wpAny ?_
  have st : PS X (.Assign [.Attribute (.Name "self" p6) fld p7] (.Name x p8) p9) (tOst X.K fld (tVar 0) (tVar 1)) := ps_ost (pe_var hN0 hv0) (pe_var hN1 hv1 hxd hxc)
  refine wpAny_execs_cons (thn (st.run [] _ σ H1 { nx := fun _ H' => Q .non H', rt := Q } I5 ⟨y, h1, _, h0, a, C, rfl, T, hno, .inl ⟨ea, fun dx e1 e2 => q dx e1 e2⟩⟩) fun fl s' hs => ?_)
  cases fl with
  | next => exact wpAny_execs_nil hs
  | ret u => exact hs
  | brk => exact hs
  | cont => exact hs
end
section
variable {P : Program} {w : World} {K : PySem.W.Frag} {mg : Str → Option Value} {base : Heap}
/-- THE RULE for such an __init__ -/
theorem fn_exi {CX : CXT} {k j : Nat} {qual x fld tx : Str} {st : Stmt} {f C : Addr} {fd : FuncData} {ar : Arg} {p0 p1 p2 p3 p4 p5 p6 p7 p8 p9 : Pos}
    (Fn : FunS P K "__init__" qual st f C fd) (S : NdefX.NScope ["self", x, "__class__"] ["self", x] ["__class__"] (defScope st))
    (hbody : defBody st = [.Expr (.Call (.Attribute (.Call (.Name "super" p0) [] [] p1) "__init__" p2) [.Constant (.str tx) j p3] [] p4) p5, .Assign [.Attribute (.Name "self" p6) fld p7] (.Name x p8) p9])
    (hp : ((defArgs st).posonlyargs ++ (defArgs st).args).head? = some ar) (har : ar.arg = "self") (T : OexC K C) (hno : PySem.W.findIn K (.ref C) fld = some none)
    (hks : (defScope st).names.lookup ("super" : Str) = some .globalImplicit) (hms : mg "super" = none) (htop : (P.main.scope.names.lookup ("super" : Str)).isSome = false)
    (hmro : PySem.W.mroIn K C (.ref C) = some true) (hopq : PySem.W.nsIn K cStatics "thirdparty.any" = some none) (hsup : PySem.W.ks_superIn K C C "__init__" = some (some (.builtin "ValueError.__init__")))
    (hVE : PySem.W.subIn K (.ref C) (.type "ValueError") = some true)
    (hc : ∀ env : Env, env.scope = defScope st → ∃ pl : Sem Bool, eval (.Call (.Attribute (.Call (.Name "super" p0) [] [] p1) "__init__" p2) [.Constant (.str tx) j p3] [] p4) env = (do
      let ov ← attributeBase (.Call (.Name "super" p0) [] [] p1) "__init__" env (eval (.Call (.Name "super" p0) [] [] p1) env)
      standAt p2.atName
      let (f, first) ← holding [ov] (getMethod ov "__init__" pl)
      callWith p4 f first (backTo p4 (starEach [.Constant (.str tx) j p3] env)) [])) (hxd : (x == ("__debug__" : Str)) = false) (hxc : (x == ("__classdict__" : Str)) = false) : FnOk P w K mg base CX (k + 1) f fd ["self", x] (spE C fld) := by
  refine ⟨fun vs H Q E h => ?_, fun A outer s H args us vs Q E hr e0 hb r hsp => ?_⟩
  · obtain ⟨a, y, rfl, _⟩ := h
    rfl
  obtain ⟨a, y, rfl, ea, q⟩ := hsp
  obtain ⟨oc, kV, doc, pm, ct, ccl, cl, od, an, cdd, cld, osl, ccs, csl, cda, cc, vc, file, tf, rfl, lk, hcd, lcd, hvs, hfile, lcc⟩ := Fn.ex
  have kin : K.In s.heap := e0.mod.kin.keeps fun b o e => (e0.bs b o e).1
  have nol : s.heap.NoLimit := e0.mod.nolimit.keeps fun b o e => (e0.bs b o e).1
  have cellK : ∀ {h : Heap}, K.In h → h.IsCell cc (some (.ref C)) := fun {h} z => ⟨_, z _ _ lcc, rfl⟩
  let F : NdefX.NF := ⟨"__init__", qual, defArgs st, defBody st, defScope st, [("__class__", cc)], cda⟩
  have CA : NdefX.CellsAt F.cl ["__class__"] [none] s.heap H := by
    refine ⟨rfl, fun z c e => ?_, fun x1 x2 c e1 e2 => ?_, fun i z e => ?_⟩
    · have hc : c = cc := by
        have e : List.lookup z [(("__class__" : Str), cc)] = some c := e
        simp only [List.lookup] at e
        split at e <;> cases e
        rfl
      subst hc
      exact ⟨(e0.bs _ _ (e0.mod.kin _ _ lcc)).2, _, cellK kin⟩
    · have e1 : List.lookup x1 [(("__class__" : Str), cc)] = some c := e1
      have e2 : List.lookup x2 [(("__class__" : Str), cc)] = some c := e2
      simp only [List.lookup] at e1 e2
      split at e1 <;> cases e1
      split at e2 <;> cases e2
      rename_i h1 _ h2
      rw [eq_of_beq h1, eq_of_beq h2]
    · have hz : z = "__class__" := by
        cases i with
        | zero => exact (Option.some.inj e).symm
        | succ n => simp at e
      subst hz
      refine ⟨cc, by rfl, fun v hv => ?_⟩
      cases i with
      | zero => cases hv
      | succ n => simp at e
  refine codeAny_call_function hr.depth (kin _ _ lk) rfl S.co S.gen rfl (PySem.W.codeRec_of kin hcd) (hb _ _ _ _ ?_)
  refine wpAny_newFunctionEnv S.nocell (fun ⟨n, _⟩ hy => S.par n (List.of_mem_zip hy).1) (fun h₁ hns hsb => ⟨nol.fresh _ hsb, ?_⟩) S.kind
  have kp : ∀ b o, s.heap.get? b = some o → h₁.get? b = some o := fun b o e => hsb.extBut b o (Nat.ne_of_lt (Heap.lt_size e)) (Heap.get?_push_of_some _ e)
  have I0 : L2.Inv (NdefX.ncx CX P w K mg base ["self", x, "__class__"] F f A outer s H E) [] (NdefX.startF ["self", x, "__class__"] [.ref a, y] [none]) H { s with heap := h₁, toks := s.toks + ([("self" : Str), x].zip us).length } := NdefX.inv_startN S hr.hd e0 rfl r CA hns kp
  have hcode : codeAny (model P w) A (.func (defBody st) (NdefX.envF F f s.heap.objs.size)) (CR CX outer P w H s Q E) { s with heap := h₁, toks := s.toks + ([("self" : Str), x].zip us).length } := by
    refine ks_codeAny_funcAt ?_
    have hself : (defScope st).names.lookup ("self" : Str) = some .local := S.par "self" (by simp)
    have hx : (defScope st).names.lookup x = some .local := S.par x (by simp)
    have hcl : (defScope st).names.lookup ("__class__" : Str) = some .free := S.frk "__class__" (by simp)
    obtain ⟨pl, hc⟩ := hc (NdefX.envF F f s.heap.objs.size) rfl
    have B := ex_body (pl := pl) (Q := Q) (body := defBody st) (p0 := p0) (p1 := p1) (p2 := p2) (p3 := p3) (p4 := p4) (p5 := p5) (p6 := p6) (p7 := p7) (p8 := p8) (p9 := p9) (tx := tx) (j := j) (fld := fld) (y := y) (x := x)
      (X := NdefX.ncx CX P w K mg base ["self", x, "__class__"] F f A outer s H E) hc (by
        show interactive (NdefX.envF F f s.heap.objs.size) = false
        have hk : (NdefX.envF F f s.heap.objs.size).scope.kind = .function := S.kind
        unfold interactive
        rw [hk]
        rfl) rfl rfl lk hp har lcd hvs hfile (by rfl) lcc hks hcl hself rfl rfl (.inl hx) T hno hms htop hmro hopq hsup hVE hxd hxc I0 rfl rfl ea q
    rw [hbody]
    rw [hbody] at B
    refine ks_wpAt_mono B (fun fl s' hs => ?_) fun _ _ z => z
    have fin : ∀ {σ' : L2.St} {H' : Hp} {v : V} {u : Value}, L2.Inv (NdefX.ncx CX P w K mg base ["self", x, "__class__"] F f A outer s H E) [] σ' H' s' → L2.RelV v u → Q v H' → CE outer P w H s Q u s' := fun {σ' H' v u} J rv q => ⟨v, H', J.os, J.bare, J.base, J.hok, rv, q⟩
    cases fl with
    | next =>
      obtain ⟨_, _, J, q⟩ := hs
      exact fin (v := V.non) (u := Value.none) J rfl q
    | ret u =>
      obtain ⟨_, _, _, J, rv, q⟩ := hs
      exact fin J rv q
    | brk =>
      obtain ⟨_, _, _, q⟩ := hs
      exact q.elim
    | cont =>
      obtain ⟨_, _, _, q⟩ := hs
      exact q.elim
  exact hcode
end
end VL
set_option Elab.async false
set_option linter.all false
set_option maxRecDepth 100000
set_option maxHeartbeats 4000000
namespace VL
open PySem PySem.Spec L2
open PyProof.Rows hiding St
/-- C(e) is made and raised; xk is the wish for what is raised -/
def rdRaiseX (cn fld : Str) (xk : D → Prop) (dt : TDF) : TDS := fun _ Γ => dt Γ fun ds _ => ∃ d, ds = [d] ∧ xk (.exc cn [fld] [d])
section
variable {K : PySem.W.Frag} {W : Wc} {X : Cx} {E : XK} {xk : D → Prop} {t : TA} {dt : TDF} {k : Nat} {fI C : Addr} {fd : FuncData} {ps : List Str} {x cn fld : Str} {p pos pos' : Pos} {e : Expr} {es : List Expr}
theorem ad_raiseX (hc : CN K cn C) (hk : Xok W K E xk) (ha : AdA K W t dt) : AdS K W (fun _ σ H => tMkO C (spE C fld) [] t σ H fun cls d H' => E cls d H') (rdRaiseX cn fld xk dt) := fun Γ σ Hv H D E' Z h l => by
  refine ha Γ σ Hv H _ _ Z h fun vs ds Γ1 Hv1 H1 s1 r1 q => ?_
  obtain ⟨d, rfl, q⟩ := q
  obtain ⟨y, rfl, ry⟩ : ∃ y, vs = [y] ∧ Rp K Hv1 y d := by
    cases r1 with
    | cons a b =>
      cases b
      exact ⟨_, rfl, a⟩
  refine ⟨by simp, fun a hn => ⟨a, y, rfl, upd_same, fun dx hdx hne => ?_⟩⟩
  have hd1 : H1 dx = none := by
    rw [upd_ne hne] at hdx
    exact hdx
  refine ⟨rfl, dx, [(fld, y)], upd_same, by rw [upd_ne hne, upd_same], hd1, ?_⟩
  have eq : upd (del (upd (upd (upd H1 a (exo a C none)) dx (exd dx [(fld, y)])) a (exo a C (some dx))) a) dx (HO.xd [(fld, y)]) = upd H1 dx (.xd [(fld, y)]) := by
    funext b
    by_cases h1 : b = dx
    · rw [h1, upd_same, upd_same]
    · rw [upd_ne h1, upd_ne h1]
      by_cases h2 : b = a
      · rw [h2, del_same, hn]
      · rw [del_ne h2, upd_ne h2, upd_ne h1, upd_ne h2]
  rw [eq]
  have s2 := s1.alloc (.xd [(fld, y)]) hd1
  exact hk _ _ _ _ _ s2.ev.ret ⟨C, cn, [(fld, y)], [d], rfl, rfl, upd_same, hc, .cons (Rp.mono (same_upd (s1.ev.noneHv hd1)) _ _ ry) .nil⟩ q
/-- raise C(e), C's own __init__ keeping e -/
theorem ds_raiseX {CX : CXT} (hK : X.K = K) (hc : CN K cn C) (hk : Xok W K E xk) (hcalm : X.calm = true) (tk : Takes X fun cls d _ H => E cls d H) (T : OexC K C) (iC : PySem.W.findIn K (.ref C) "__init__" = some (some (.ref fI))) (tI : PySem.W.typeIn K (.ref fI) = some (.type "function"))
    (F1 : FnOk X.prog X.w K X.mg X.base CX k fI fd ps (spE C fld)) (hr : Room (k + 1) X.A) (hb : Binds K fd ps []) (hx : Passes CX X (fun _ _ _ => False)) (hg : Gl X x) (hm : X.mg x = some (.ref C)) (ha : DA W X (e :: es) t dt)
    (hdb : (x == ("__debug__" : Str)) = false := by decide) (he : starEach (e :: es) X.env = (false, eval e X.env) :: starEach es X.env := by rfl) (hpl : (backTo pos (starEach es X.env)).any (·.1) = false := by rfl) :
    DS W X (.Raise (some (.Call (.Name x p) (e :: es) [] pos)) none pos') (fun _ σ H => tMkO C (spE C fld) [] t σ H fun cls d H' => E cls d H') (rdRaiseX cn fld xk dt) := by
  subst hK
  exact ⟨ps_raise hcalm tk (pmk_oex T iC tI F1 hr hb .nil hx hg hm ha.pa hdb he hpl), ad_raiseX hc hk ha.ad⟩
end
end VL
set_option Elab.async false
set_option linter.all false
set_option maxRecDepth 100000
set_option maxHeartbeats 4000000
namespace VL
open PySem PySem.Spec L2
open PyProof.Rows hiding St
end VL
set_option Elab.async false
set_option linter.all false
set_option maxRecDepth 100000
set_option maxHeartbeats 4000000
namespace VL
open PySem PySem.Spec L2
open PyProof.Rows hiding St
end VL
set_option Elab.async false
set_option linter.all false
set_option maxRecDepth 100000
set_option maxHeartbeats 4000000
namespace VL
open PySem PySem.Spec L2
open PyProof.Rows hiding St
/-- an exception of one of the classes cs that keeps one value under f -/
def asExc1 (cs : List Str) (f : Str) (d : D) (k : D → Prop) : Prop := match d with | .exc c ns es => c ∈ cs ∧ ∃ r, ns = [f] ∧ es = [r] ∧ k r | _ => False
def rdFldX (cs : List Str) (f : Str) (de : TDE) : TDE := fun Γ Q => de Γ fun d Γ1 => asExc1 cs f d fun r => Q r Γ1
end VL
set_option Elab.async false
set_option linter.all false
set_option maxRecDepth 100000
set_option maxHeartbeats 4000000
namespace VL
open PySem PySem.Spec L2
open PyProof.Rows hiding St
end VL
set_option Elab.async false
set_option linter.all false
set_option maxRecDepth 100000
set_option maxHeartbeats 4000000
namespace VL
open PySem PySem.Spec L2
open PyProof.Rows hiding St
end VL
set_option Elab.async false
set_option linter.all false
set_option maxRecDepth 100000
set_option maxHeartbeats 4000000
namespace VL
open PySem PySem.Spec L2
open PyProof.Rows hiding St
def isX (tab : List (Str × Bool)) : D → Option Bool
  | .exc c _ _ => tab.lookup c
  | d => (tyName d).map fun _ => false
end VL
set_option Elab.async false
set_option linter.all false
set_option maxRecDepth 100000
set_option maxHeartbeats 4000000
namespace VL
open PySem PySem.Spec L2
open PyProof.Rows hiding St
/-- what the making of a lambda does to the heap -/
structure LamGo (T : List (Addr × Str)) (H H1 : Hp) : Prop where
  rest : ∀ b o, b ∉ T.map (·.1) → H b = some o → H1 b = some o
  nt : NT H H1
  tabs : LamX.Tabs T H1
theorem LamGo.refl {T : List (Addr × Str)} {H : Hp} (t : LamX.Tabs T H) : LamGo T H H := ⟨fun _ _ _ e => e, NT.refl _, t⟩
end VL
set_option Elab.async false
set_option linter.all false
set_option maxRecDepth 100000
set_option maxHeartbeats 4000000
namespace VL
open PySem PySem.Spec L2
open PyProof.Rows hiding St
section
variable {K : PySem.W.Frag} {W : Wc} {Γ : Gm} {σ : L2.St} {Hv H H1 : Hp} {T : List (Addr × Str)} {d c : Addr}
/-- the slots of the maker, as a lambda reads them -/
def roS : Sl → Sl
  | .dat d => .dat d
  | _ => .no
def roG (Γ : Gm) : Gm := Γ.map roS
/-- caught(lambda: body): None, or the exception, of a class of ok -/
def rdCaught (ok : List Str) (de : (D → Prop) → TDE) : TDE := fun Γ Q => de (fun x => (∃ cn fs ds, x = .exc cn fs ds ∧ cn ∈ ok) ∧ Q x Γ) (roG Γ) fun _ _ => Q .non Γ
end
end VL
set_option Elab.async false
set_option linter.all false
set_option maxRecDepth 100000
set_option maxHeartbeats 4000000
namespace VL
open PySem PySem.Spec L2
open PyProof.Rows hiding St
end VL
set_option Elab.async false
set_option linter.all false
set_option maxRecDepth 100000
set_option maxHeartbeats 4000000
namespace VL
open PySem PySem.Spec L2
open PyProof.Rows hiding St
/-- such an __init__'s promise -/
def spInitX (J : Vol) (K : PySem.W.Frag) (C : Addr) (F : FX) : Sp := fun vs H Q E => ∃ y dx ws H1 Hv ds Qd Xd, vs = .ref y :: ws ∧ H1 y = none ∧ H1 dx = none ∧ dx ≠ y ∧ H = upd (upd H1 dx (.own y)) y (.ins C dx []) ∧
  Sub Hv H1 ∧ J.inv H1 ∧ (∀ a, J.vol a → Hv a = none) ∧ RpAll K Hv ws ds ∧ F ds Qd Xd ∧ (∀ d Hv' H', Ret J.vol J.inv Hv H1 Hv' H' → Rp K Hv' (.ref y) d → Qd d → Q .non H') ∧
  ∀ cls dd dat Hv' H', Ret J.vol J.inv Hv H1 Hv' H' → XR K Hv' cls dd dat → Xd dat → E cls dd H'
/-- a call of a def that may raise, with defaults -/
def rdCallXD (F : FX) (dds : List D) (xk : D → Prop) (dt : TDF) : TDE := fun Γ Q => dt Γ fun ds Γ1 => F (ds ++ dds) (fun d => Q d Γ1) xk
end VL
set_option Elab.async false
set_option linter.all false
set_option maxRecDepth 100000
set_option maxHeartbeats 4000000
namespace VL
open PySem PySem.Spec L2 PySem.W
open PyProof.Rows hiding St
section
variable {K : PySem.W.Frag} {W : Wc} {X : Cx} {e : Expr} {te : TE} {de : TDE} {k : Nat} {p p1 p2 p3 pos : Pos} {x y : Str}
/-- isinstance(e, C) -/
def rdIsXc (tab : List (Str × Bool)) (de : TDE) : TDE := fun Γ Q => de Γ fun d Γ1 => ∃ b, isX tab d = some b ∧ Q (.bl b) Γ1
end
end VL
set_option Elab.async false
set_option linter.all false
set_option maxRecDepth 100000
set_option maxHeartbeats 4000000
namespace VL
open PySem PySem.Spec L2 PySem.W
open PyProof.Rows hiding St
section
variable {K : PySem.W.Frag} {C : Addr}
def oexCls (K : PySem.W.Frag) (C : Addr) : Bool := match K.lookup C with
  | some ⟨.type "type", _, .cls cd, sl⟩ => (match cd.mro, sl.toList with
    | .ref C1 :: bm, [_, _, _, _, some (.builtin n), _] => C1 == C && (n == "ValueError.__new__" && (!cd.hasDel && (cd.hasDict && PySem.HandSPX.refsVE bm)))
    | _, _ => false)
  | _ => false
theorem oexCls_ok (q : oexCls K C = true) : ∃ nm q N bs bm sn sub ab col dd k0 k1 k2 k3 k5, K.lookup C = some (excClassObj nm q C N bs bm true sn sub ab col dd k0 k1 k2 k3 k5 "ValueError.__new__") ∧ PySem.HandSPX.refsVE bm = true := by
  unfold oexCls at q
  split at q
  · rename_i e dd cd sl ho
    split at q
    · rename_i a1 a2 C1 bm k0 k1 k2 k3 n k5 em es
      rw [Bool.and_eq_true, Bool.and_eq_true, Bool.and_eq_true, Bool.and_eq_true, beq_iff_eq, beq_iff_eq, Bool.not_eq_true'] at q
      obtain ⟨hC, hn, hdel, hdict, hv⟩ := q
      obtain ⟨nm, bs, mro, ns, qn, hd, sn, sub, ab, col, del⟩ := cd
      dsimp only at em hdel hdict
      subst hC hn em hdel hdict
      obtain ⟨l⟩ := sl
      dsimp only at es
      subst es
      exact ⟨nm, qn, ns, bs, bm, sn, sub, ab, col, dd, k0, k1, k2, k3, k5, ho, hv⟩
    · cases q
  · cases q
def oexB (K : PySem.W.Frag) (C : Addr) : Bool := oexCls K C && (decide (PySem.W.findIn K (.ref C) "__setattr__" = some (some (.builtin "object.__setattr__"))) && (decide (PySem.W.subIn K (.ref C) (.type "BaseException") = some true) && (decide (PySem.W.typeIn K (.ref C) = some (.type "type")) && PySem.W.keepIn K (.ref C))))
theorem oexB_ok (q : oexB K C = true) : OexC K C := by
  unfold oexB at q
  rw [Bool.and_eq_true, Bool.and_eq_true, Bool.and_eq_true, Bool.and_eq_true, decide_eq_true_eq, decide_eq_true_eq, decide_eq_true_eq] at q
  obtain ⟨h1, h2, h3, h4, h5⟩ := q
  exact ⟨oexCls_ok h1, h2, h3, h4, h5⟩
end
end VL
set_option Elab.async false
set_option linter.all false
set_option maxRecDepth 100000
set_option maxHeartbeats 4000000
namespace VL
open PySem PySem.Spec L2 PySem.W
open PyProof.Rows hiding St
def cdaB (K : PySem.W.Frag) (cda : Addr) (file : Str) : Bool := match K.lookup cda with
  | some ⟨_, _, .fields vs, _⟩ => (match (vs[2]? : Option Value) with
    | some (.str fl _) => file == fl
    | _ => false)
  | _ => false
def ccB (K : PySem.W.Frag) (cc C : Addr) : Bool := match K.lookup cc with
  | some ⟨_, _, .cell (some (.ref D)), _⟩ => D == C
  | _ => false
theorem funS_mk {P : Program} {K : PySem.W.Frag} {x qual : Str} {st : Stmt} {f D cda cc : Addr} {oc kV doc pm ct : Value} {od an : Option Addr} {osl : Array (Option Value)}
    (l : K.lookup f = some ⟨oc, od, .func (PySem.W.ksFn x qual (defArgs st) (defBody st) (defScope st) .none kV doc pm an (.ref cda) ct cc), osl⟩) (c : PySem.W.codeIn K (.ref cda) qual = true) (h1 : cdaB K cda P.main.file = true) (h2 : ccB K cc D = true) :
    FunS P K x qual st f D (PySem.W.ksFn x qual (defArgs st) (defBody st) (defScope st) .none kV doc pm an (.ref cda) ct cc) := by
  unfold cdaB at h1
  split at h1
  · rename_i c1 d1 vs s1 e1
    split at h1
    · rename_i fl tf ev
      unfold ccB at h2
      split at h2
      · rename_i c2 d2 D2 s2 e2
        obtain rfl := eq_of_beq h2
        exact ⟨oc, kV, doc, pm, ct, c1, c2, od, an, d1, d2, osl, s1, s2, cda, cc, vs, fl, tf, rfl, l, c, e1, ev, h1, e2⟩
      · cases h2
    · cases h1
  · cases h1
end VL
set_option Elab.async false
set_option linter.all false
set_option maxRecDepth 100000
set_option maxHeartbeats 4000000
namespace VL
open PySem PySem.Spec L2 PySem.W
open PyProof.Rows hiding St
end VL
set_option Elab.async false
set_option linter.all false
set_option maxRecDepth 100000
set_option maxHeartbeats 4000000
namespace VL
open PySem PySem.Spec L2 PySem.W
open PyProof.Rows hiding St
end VL
set_option Elab.async false
set_option linter.all false
set_option maxRecDepth 100000
set_option maxHeartbeats 4000000
namespace VL
open PySem PySem.Spec L2
open PyProof.Rows hiding St
theorem sh_kv {kvs : List (PyData × PyData)} (h : (PyData.dict kvs).showable = true) : PyData.showableKv kvs = true := by unfold PyData.showable at h; exact h
theorem kD_map {ks : List Key} {ds : List D} (e : ks.length = ds.length) : ((ks.map kD).zip (pyAll ds)).map (·.1) = ks.map kD ∧ ((ks.map kD).zip (pyAll ds)).map (·.2) = pyAll ds := by
  induction ks generalizing ds with
  | nil => cases ds with
    | nil => exact ⟨rfl, by simp only [List.map_nil, pyAll, List.zip_nil_left]⟩
    | cons d ds => cases e
  | cons k ks ih => cases ds with
    | nil => cases e
    | cons d ds =>
      obtain ⟨e1, e2⟩ := ih (ds := ds) (by simpa using e)
      unfold pyAll
      rw [List.map_cons, List.zip_cons_cons, List.map_cons, List.map_cons, e1, e2]
      exact ⟨rfl, rfl⟩
section
variable {prog : Program} {w : World} {h : Heap}
theorem keys_shows : ∀ {es : List DictEntry} {vs : List (Key × Value)}, Pairs (mixKind prog w) es vs → PyData.showableAll (vs.map fun p => kD p.1) = true → (∀ t ∈ PyData.shownAll (vs.map fun p => kD p.1), t.length ≤ sizeLine) →
    ReadsAll h (es.map (·.key)) (vs.map fun p => kD p.1) [] ∧ ReprAllK prog w [] h (PyData.depthAll (vs.map fun p => kD p.1)) (es.map (·.key)) (PyData.shownAll (vs.map fun p => kD p.1)) ∧ es.map (·.val) = vs.map (·.2)
  | _, _, .nil, _, _ => ⟨.nil, by simp only [List.map_nil, PyData.shownAll]; exact .nil, rfl⟩
  | _, _, .cons (e := e) (kv := kv) (es := es) (kvs := kvs) h1 h2 hs, s, z => by
    have s' : (kD kv.1).showable = true ∧ PyData.showableAll (kvs.map fun p => kD p.1) = true := by simpa [PyData.showableAll] using s
    obtain ⟨r, k, ev⟩ := keys_shows hs s'.2 (fun t ht => z t (by simp only [List.map_cons, PyData.shownAll]; exact List.mem_cons_of_mem _ ht))
    have z1 := z (PyData.shown (kD kv.1)) (by simp only [List.map_cons, PyData.shownAll]; exact List.mem_cons_self ..)
    have q : Reads h e.key (kD kv.1) [] ∧ ReprK prog w [] h (kD kv.1).depth e.key (kD kv.1).shown := by
      obtain ⟨s1, _⟩ := s'
      obtain ⟨key, v⟩ := kv
      rcases keyIs_shape (show keyIs key e.key = true from h1) with ⟨i, t, e1, e2⟩ | ⟨x, t, e1, e2⟩
      · rw [e2]
        dsimp only at e1 s1 z1 ⊢
        rw [e1] at s1 ⊢
        unfold kD at s1 ⊢
        exact ⟨.int i t, by simp only [PyData.shown]; exact .of_is (ReprIs.int t (by simpa [PyData.showable] using s1)) _ _ _⟩
      · rw [e2]
        dsimp only at e1 s1 z1 ⊢
        rw [e1] at z1 ⊢
        unfold kD at z1 ⊢
        exact ⟨.str x t, by simp only [PyData.shown]; exact .of_is (ReprIs.str x t (by simpa only [PyData.shown] using z1)) _ _ _⟩
    refine ⟨by simpa using ReadsAll.cons q.1 r, ?_, by rw [List.map_cons, List.map_cons, ev, h2]⟩
    simp only [List.map_cons, PyData.shownAll, PyData.depthAll]
    exact .cons (q.2.level_le (Nat.le_max_left _ _)) (k.more_le (fun _ hb => hb) (Nat.le_max_right _ _))
end
theorem kv_vals {kvs : List (Key × V)} {vs : List (Key × Value)} (r : KV kvs vs) : Vals (kvs.map (·.2)) (vs.map (·.2)) := by
  unfold KV at r
  induction r with
  | nil => exact .nil
  | cons h t ih => exact .cons h.2 ih
/-- what the text of data needs of a value -/
def ShK (prog : Program) (w : World) (h : Heap) (u : Value) (d : PyData) : Prop :=
  ∃ as bs, Reads h u d as ∧ ReadAtMost h d.depth bs ∧ ReprK prog w bs h d.depth u d.shown
def ShA (prog : Program) (w : World) (h : Heap) (us : List Value) (ds : List PyData) : Prop :=
  ∃ as bs, ReadsAll h us ds as ∧ ReadAtMost h (PyData.depthAll ds) bs ∧ ReprAllK prog w bs h (PyData.depthAll ds) us (PyData.shownAll ds)
theorem ShA.nil {prog : Program} {w : World} {h : Heap} : ShA prog w h [] [] := ⟨[], [], .nil, (fun _ h => nomatch h), by simp only [PyData.shownAll]; exact .nil⟩
theorem ShA.cons {prog : Program} {w : World} {h : Heap} {u : Value} {us : List Value} {d : PyData} {ds : List PyData} (a : ShK prog w h u d) (b : ShA prog w h us ds) : ShA prog w h (u :: us) (d :: ds) := by
  obtain ⟨as, b1, r1, hb1, k1⟩ := a
  obtain ⟨bs, b2, r2, hb2, k2⟩ := b
  refine ⟨as ++ bs, b1 ++ b2, .cons r1 r2, ?_, ?_⟩
  · simp only [PyData.depthAll]
    exact (hb1.mono (Nat.le_max_left _ _)).append (hb2.mono (Nat.le_max_right _ _))
  · simp only [PyData.depthAll, PyData.shownAll]
    exact .cons ((k1.more fun b hb => List.mem_append_left _ hb).level_le (Nat.le_max_left _ _)) (k2.more_le (fun b hb => List.mem_append_right _ hb) (Nat.le_max_right _ _))
theorem shA_list {prog : Program} {w : World} {h : Heap} {a : Addr} {us : List Value} {ds : List PyData} {o : Obj} {n : Nat} (h1 : h.get? a = some o) (h2 : o.cls = .type "list") (h3 : o.data = .seq us.toArray n) (q : ShA prog w h us ds) : ShK prog w h (.ref a) (.list ds) := by
  obtain ⟨as, bs, r, hb, hk⟩ := q
  have r' : Reads h (.ref a) (.list ds) _ := .list h1 h2 h3 (by simpa using r)
  have hna : a ∉ bs := not_mem_of_deeper r' (by simp only [PyData.depth]; omega) hb
  refine ⟨_, a :: bs, r', ReadAtMost.cons r' (by simp only [PyData.depth]; omega) hb, ?_⟩
  simp only [PyData.depth, PyData.shown]
  cases us with
  | nil =>
    cases r
    simp only [PyData.shownAll, listText_nil]
    exact ReprK.listEmpty h1 h2 h3
  | cons x l => exact ReprK.list h1 h2 h3 hna (by simpa using hk.length_eq) (fun i y e => hk.item i y (by simpa using e))
theorem shA_tuple {prog : Program} {w : World} {h : Heap} {a : Addr} {us : List Value} {ds : List PyData} {o : Obj} {n : Nat} (h1 : h.get? a = some o) (h2 : o.cls = .type "tuple") (h3 : o.data = .seq us.toArray n) (q : ShA prog w h us ds) : ShK prog w h (.ref a) (.tuple ds) := by
  obtain ⟨as, bs, r, hb, hk⟩ := q
  have r' : Reads h (.ref a) (.tuple ds) _ := .tuple h1 h2 h3 (by simpa using r)
  have hna : a ∉ bs := not_mem_of_deeper r' (by simp only [PyData.depth]; omega) hb
  refine ⟨_, a :: bs, r', ReadAtMost.cons r' (by simp only [PyData.depth]; omega) hb, ?_⟩
  simp only [PyData.depth, PyData.shown]
  exact ReprK.tuple h1 h2 h3 hna (by simpa using hk)
theorem sh_dict {prog : Program} {w : World} {h : Heap} {a : Addr} {kvs : List (PyData × PyData)} {o : Obj} {es : Array DictEntry} {n : Nat} (h1 : h.get? a = some o) (h2 : o.cls = .type "dict") (h3 : o.data = .dict es n)
    (hsys : (a == sysModules) = false) (q1 : ReadsAll h (es.toList.map (·.key)) (kvs.map (·.1)) []) (k1 : ReprAllK prog w [] h (PyData.depthAll (kvs.map (·.1))) (es.toList.map (·.key)) (PyData.shownAll (kvs.map (·.1)))) (q2 : ShA prog w h (es.toList.map (·.val)) (kvs.map (·.2))) : 
    ShK prog w h (.ref a) (.dict kvs) ∧ ∃ bs, a ∉ bs ∧ ReprEntriesK prog w bs h (PyData.depthKv kvs) es.toList (PyData.shownKv kvs) := by
  obtain ⟨as, bs, r, hb, hk⟩ := q2
  have r' : Reads h (.ref a) (.dict kvs) _ := .dict h1 h2 h3 q1 r
  have hb' := hb.mono (PyData.depthAll_vals_le kvs)
  have hna : a ∉ bs := not_mem_of_deeper r' (by simp only [PyData.depth]; omega) hb'
  have ke : ReprEntriesK prog w bs h (PyData.depthKv kvs) es.toList (PyData.shownKv kvs) := by
    rw [PyData.shownKv_eq]
    exact ReprEntriesK.of_two es.toList _ _ (k1.more_le (fun b hb => absurd hb (List.not_mem_nil)) (PyData.depthAll_keys_le kvs)) (hk.more_le (fun b hb => hb) (PyData.depthAll_vals_le kvs))
  refine ⟨⟨_, a :: bs, r', ReadAtMost.cons r' (by simp only [PyData.depth]; omega) hb', ?_⟩, bs, hna, ke⟩
  simp only [PyData.depth, PyData.shown]
  exact ReprK.dict h1 h2 h3 hsys hna ke
section
variable {X : Cx} {pins : List (Addr × Obj)} {σ : L2.St} {H : Hp} {s : Shared}
/-- a dict's entries -/
theorem dic_entries (I : Inv X pins σ H s) {a : Addr} {kvs : List (Key × V)} {ds : List D} (hd : Rd H a (.dK kvs)) (hl : (kvs.map (·.2)).length = ds.length)
    (sh : (PyData.dict (((kvs.map (·.1)).map kD).zip (pyAll ds))).showable = true) (sz : (PyData.dict (((kvs.map (·.1)).map kD).zip (pyAll ds))).shown.length ≤ sizeLine) 
    (q : ∀ us, Vals (kvs.map (·.2)) us → ShA X.prog X.w s.heap us (pyAll ds)) :
    ∃ o es n, s.heap.get? a = some o ∧ o.cls = .type "dict" ∧ o.data = .dict es n ∧ (a == sysModules) = false ∧ ShK X.prog X.w s.heap (.ref a) (.dict (((kvs.map (·.1)).map kD).zip (pyAll ds))) ∧
      ∃ bs, a ∉ bs ∧ ReprEntriesK X.prog X.w bs s.heap (PyData.depthKv (((kvs.map (·.1)).map kD).zip (pyAll ds))) es.toList (PyData.shownKv (((kvs.map (·.1)).map kD).zip (pyAll ds))) := by
  obtain ⟨_, hsys, vs, kv, o, es, n, h1, hx, h3, _, pr, _⟩ := dk_rd I.hok hd
  obtain ⟨e1, e2⟩ := kD_map (ks := kvs.map (·.1)) (ds := ds) (by simpa using hl)
  have ek : (kvs.map (·.1)).map kD = vs.map fun p => kD p.1 := by rw [kv.keys, List.map_map]; rfl
  obtain ⟨s1, s2⟩ := PyData.showableKv_split _ (sh_kv sh)
  have sz' : (dictText (PyData.shownKv (((kvs.map (·.1)).map kD).zip (pyAll ds)))).length ≤ sizeLine := by simpa only [PyData.shown] using sz
  have z1 : ∀ t ∈ PyData.shownAll ((((kvs.map (·.1)).map kD).zip (pyAll ds)).map (·.1)), t.length ≤ sizeLine := fun t ht => let ⟨p, hp, hl⟩ := PyData.shownKv_key_le _ t ht; Nat.le_trans hl (Nat.le_trans (dictText_mem_le hp) sz')
  rw [e1, ek] at s1 z1
  obtain ⟨r, k, ev⟩ := keys_shows (h := s.heap) pr s1 z1
  refine ⟨o, es, n, h1, hx.1, h3, hsys, sh_dict h1 hx.1 h3 hsys ?_ ?_ ?_⟩
  · rw [e1, ek]; exact r
  · rw [e1, ek]; exact k
  · rw [e2, ev]; exact q _ (kv_vals kv)
mutual
theorem Rp.shK (I : Inv X pins σ H s) : ∀ (d : D) (v : V) (u : Value), Rp X.K H v d → RelV v u → pq d = true → (py d).showable = true → (py d).shown.length ≤ sizeLine → ShK X.prog X.w s.heap u (py d)
  | .non, _, _, .non, r, _, _, _ => by
    cases r; unfold py
    exact ⟨_, [], .none, (fun _ h => nomatch h), by simp only [PyData.shown]; exact .of_is ReprIs.none _ _ _⟩
  | .bl _, _, _, .bl b, r, _, _, _ => by
    cases r; unfold py
    exact ⟨_, [], .bool b, (fun _ h => nomatch h), by simp only [PyData.shown]; exact .of_is (ReprIs.bool b) _ _ _⟩
  | .int _, _, _, .int i, r, _, h, _ => by
    obtain ⟨t, rfl⟩ := r
    unfold py at h ⊢
    exact ⟨_, [], .int i t, (fun _ h => nomatch h), by simp only [PyData.shown]; exact .of_is (ReprIs.int t (by simpa [PyData.showable] using h)) _ _ _⟩
  | .str _, _, _, .str x, r, _, _, z => by
    obtain ⟨t, rfl⟩ := r
    unfold py at z ⊢
    exact ⟨_, [], .str x t, (fun _ h => nomatch h), by simp only [PyData.shown]; exact .of_is (ReprIs.str x t (by simpa only [PyData.shown] using z)) _ _ _⟩
  | .lst ds, _, _, .lst h1 ha, r, q, h, z => by
    cases r
    unfold py at h z ⊢
    unfold pq at q
    have z' : (listText (PyData.shownAll (pyAll ds))).length ≤ sizeLine := by simpa only [PyData.shown] using z
    obtain ⟨its, rv, ⟨o, n, ho, hc, _, hd⟩, _⟩ := I.list (SqL.of h1)
    exact shA_list ho hc hd (RpAll.shA I ds _ its ha rv q (by simpa [PyData.showable] using h) (fun t ht => Nat.le_trans (listText_mem_le ht) z'))
  | .tup ds, _, _, .tup h1 ha, r, q, h, z => by
    cases r
    unfold py at h z ⊢
    unfold pq at q
    have z' : (tupleText (PyData.shownAll (pyAll ds))).length ≤ sizeLine := by simpa only [PyData.shown] using z
    obtain ⟨its, rv, ⟨o, ho, hc, n, hd⟩, _⟩ := I.tuple h1.sq
    exact shA_tuple ho hc hd (RpAll.shA I ds _ its ha rv q (by simpa [PyData.showable] using h) (fun t ht => Nat.le_trans (tupleText_mem_le ht) z'))
  | .dic ks ds, _, _, .dic (kvs := kvs) h1 hk ha, r, q, h, z => by
    cases r
    cases hk
    unfold py at h z ⊢
    unfold pq at q
    have l := ha.length
    obtain ⟨e1, e2⟩ := kD_map (ks := kvs.map (·.1)) (ds := ds) (by simpa using l)
    obtain ⟨_, s2⟩ := PyData.showableKv_split _ (sh_kv h)
    rw [e2] at s2
    have z' : (dictText (PyData.shownKv (((kvs.map (·.1)).map kD).zip (pyAll ds)))).length ≤ sizeLine := by simpa only [PyData.shown] using z
    have z2 := fun t (ht : t ∈ PyData.shownAll (List.map (·.2) (((kvs.map (·.1)).map kD).zip (pyAll ds)))) => let ⟨p, hp, hl⟩ := PyData.shownKv_val_le _ t ht; Nat.le_trans hl (Nat.le_trans (dictText_mem_le hp) z')
    rw [e2] at z2
    obtain ⟨_, _, _, _, _, _, _, k, _⟩ := dic_entries I h1 l h z (fun us rv => RpAll.shA I ds _ us ha rv q s2 z2)
    exact k
  | .obj _ _ _, _, _, _, _, q, _, _ => by unfold pq at q; cases q
  | .exc _ _ _, _, _, _, _, q, _, _ => by unfold pq at q; cases q
  | .fz _, _, _, _, _, q, _, _ => by unfold pq at q; cases q
  | .ty _, _, _, _, _, q, _, _ => by unfold pq at q; cases q
  | .ref _, _, _, _, _, q, _, _ => by unfold pq at q; cases q
theorem RpAll.shA (I : Inv X pins σ H s) : ∀ (ds : List D) (vs : List V) (us : List Value), RpAll X.K H vs ds → Vals vs us → pqAll ds = true → PyData.showableAll (pyAll ds) = true → (∀ t ∈ PyData.shownAll (pyAll ds), t.length ≤ sizeLine) → ShA X.prog X.w s.heap us (pyAll ds)
  | [], _, _, .nil, r, _, _, _ => by cases r; unfold pyAll; exact .nil
  | d :: ds, _, _, .cons h hs, r, q, sh, z => by
    cases r with
    | cons r1 r2 =>
      unfold pqAll at q
      rw [Bool.and_eq_true] at q
      unfold pyAll at sh z ⊢
      have sh' : (py d).showable = true ∧ PyData.showableAll (pyAll ds) = true := by simpa [PyData.showableAll] using sh
      exact .cons (Rp.shK I d _ _ h r1 q.1 sh'.1 (z _ (by simp only [PyData.shownAll]; exact List.mem_cons_self ..))) (RpAll.shA I ds _ _ hs r2 q.2 sh'.2 (fun t ht => z t (by simp only [PyData.shownAll]; exact List.mem_cons_of_mem _ ht)))
end
/-- the text of an atom by `repr` -/
theorem shows_ref (I : Inv X pins σ H s) (d : D) {a : Addr} (rv : Rp X.K H (.ref a) d) (q : pq d = true) (sh : (py d).showable = true) (sz : (py d).shown.length ≤ sizeLine) : ∃ T idr, ShowsBy X.prog X.w s.heap a (py d) T idr := by
  have R := Rp.shK I d _ _ rv rfl q sh sz
  cases rv with
  | lst h1 ha =>
    rename_i xs ds
    unfold py at sh sz ⊢
    unfold pq at q
    have z' : (listText (PyData.shownAll (pyAll ds))).length ≤ sizeLine := by simpa only [PyData.shown] using sz
    obtain ⟨its, rv, ⟨o, n, ho, hc, _, hd⟩, _⟩ := I.list (SqL.of h1)
    obtain ⟨as, bs, r, hb, hk⟩ := RpAll.shA I ds _ its ha rv q (by simpa [PyData.showable] using sh) (fun t ht => Nat.le_trans (listText_mem_le ht) z')
    have r' : Reads s.heap (.ref a) (.list (pyAll ds)) _ := .list ho hc hd (by simpa using r)
    have hna : a ∉ bs := not_mem_of_deeper r' (by simp only [PyData.depth]; omega) hb
    refine ⟨"list", "list.__repr__", F.slot_list_repr.toG, F.slot_list_str, F.slot_list_format, fun s hk0 => ⟨o, hk0 _ _ ho, hc⟩, fun A E s Q hg hu hk0 hQ => ?_⟩
    simp only [PyData.depth] at hu
    simp only [PyData.shown] at hQ
    cases its with
    | nil =>
      generalize pyAll ds = pd at *
      cases r
      simp only [PyData.shownAll, listText_nil] at hQ
      exact call_list_repr_empty ⟨o, hk0 _ _ ho, hc⟩ (hk0 _ _ ho) hd (hQ s.heap _ _ fun _ _ e => e)
    | cons x l =>
      exact call_list_reprK ho hc hd hna (by simpa using hk.length_eq) (fun i y e => hk.item i y (by simpa using e)) hg (fun b _ => Clear.nil b) hu hk0 hQ z'
  | tup h1 ha =>
    rename_i xs ds
    unfold py at sh sz ⊢
    unfold pq at q
    have z' : (tupleText (PyData.shownAll (pyAll ds))).length ≤ sizeLine := by simpa only [PyData.shown] using sz
    obtain ⟨its, rv, ⟨o, ho, hc, n, hd⟩, _⟩ := I.tuple h1.sq
    obtain ⟨as, bs, r, hb, hk⟩ := RpAll.shA I ds _ its ha rv q (by simpa [PyData.showable] using sh) (fun t ht => Nat.le_trans (tupleText_mem_le ht) z')
    have r' : Reads s.heap (.ref a) (.tuple (pyAll ds)) _ := .tuple ho hc hd (by simpa using r)
    have hna : a ∉ bs := not_mem_of_deeper r' (by simp only [PyData.depth]; omega) hb
    refine ⟨"tuple", "tuple.__repr__", F.slot_tuple_repr, F.slot_tuple_str, F.slot_tuple_format, fun s hk0 => ⟨o, hk0 _ _ ho, hc⟩, fun A E s Q hg hu hk0 hQ => ?_⟩
    simp only [PyData.depth] at hu
    simp only [PyData.shown] at hQ
    exact call_tuple_reprK ho hc hd hna (by simpa using hk) hg (fun b _ => Clear.nil b) hu hk0 hQ z'
  | dic h1 hk ha =>
    rename_i kvs ks ds
    cases hk
    unfold py at sh sz ⊢
    unfold pq at q
    have l := ha.length
    obtain ⟨e1, e2⟩ := kD_map (ks := kvs.map (·.1)) (ds := ds) (by simpa using l)
    obtain ⟨_, s2⟩ := PyData.showableKv_split _ (sh_kv sh)
    rw [e2] at s2
    have z' : (dictText (PyData.shownKv (((kvs.map (·.1)).map kD).zip (pyAll ds)))).length ≤ sizeLine := by simpa only [PyData.shown] using sz
    have z2 := fun t (ht : t ∈ PyData.shownAll (List.map (·.2) (((kvs.map (·.1)).map kD).zip (pyAll ds)))) => let ⟨p, hp, hl⟩ := PyData.shownKv_val_le _ t ht; Nat.le_trans hl (Nat.le_trans (dictText_mem_le hp) z')
    rw [e2] at z2
    obtain ⟨o, es, n, ho, hc, hd, hsys, _, bs, hna, ke⟩ := dic_entries I h1 l sh sz (fun us rv => RpAll.shA I ds _ us ha rv q s2 z2)
    refine ⟨"dict", "dict.__repr__", F.slot_dict_repr, F.slot_dict_str, F.slot_dict_format, fun s hk0 => ⟨o, hk0 _ _ ho, hc⟩, fun A E s Q hg hu hk0 hQ => ?_⟩
    simp only [PyData.depth] at hu
    simp only [PyData.shown] at hQ
    exact call_dict_reprK ho hc hd hsys hna ke hg (fun b _ => Clear.nil b) hu hk0 hQ z'
  | _ => unfold pq at q; cases q
end
/-- data that repr may look at -/
def okQ (d : D) : Prop := pq d = true ∧ (py d).showable = true ∧ (py d).depth ≤ 60 ∧ (PyData.shown (py d)).length ≤ sizeLine
def rdRepQ : List D → (D → Prop) → Prop := fun ds Q => match ds with
  | [d] => okQ d ∧ Q (.str (PyData.shown (py d)))
  | _ => False
def rRepQ (K : PySem.W.Frag) : List V → Hp → VK → Prop := fun vs H Q => ∃ v d, vs = [v] ∧ Rp K H v d ∧ okQ d ∧ Q (.str (py d).shown) H
theorem cr_repQ {X : Cx} {k : Nat} (hr : Room k X.A) (hg : X.A.guards = some []) : CallR X (.builtin "repr") (rRepQ X.K) := by
  intro pins s σ H xs us Q I r h
  obtain ⟨v, d, rfl, hd, ⟨o1, o2, o3, o4⟩, q⟩ := h
  obtain ⟨u, rfl, ru⟩ := vals1 r
  have hu := hr.units
  have fin : ∀ h' t tk, (∀ b o, s.heap.get? b = some o → h'.get? b = some o) → (fun r s' => ∃ v H', Inv X pins σ H' s' ∧ RelV v r ∧ Q v H') (.str (py d).shown t) { s with heap := h', toks := tk } := fun h' t tk hk => ⟨.str (py d).shown, H, I.kept hk, ⟨t, rfl⟩, q⟩
  by_cases ha : ∃ a, v = .ref a
  · obtain ⟨a, rfl⟩ := ha
    cases ru
    obtain ⟨T, idr, S⟩ := shows_ref I d hd o1 o2 o4
    exact call_repr_slot (by omega) (S.typeIs s fun _ _ e => e) S.slotRepr (S.call X.A.in1 _ s _ hg (by show X.A.units + 1 + (py d).depth < cLine; omega) (fun _ _ e => e) fun h' u tk hk => ⟨_, _, rfl, fin h' u tk hk⟩)
  · cases hd with
    | non => cases ru; unfold py at fin; simp only [PyData.shown] at fin; exact P.repr_of_none (fin s.heap _ _ fun _ _ e => e)
    | bl b => cases ru; unfold py at fin; simp only [PyData.shown] at fin; exact P.repr_of_bool (fin s.heap _ _ fun _ _ e => e)
    | int i => obtain ⟨t, rfl⟩ := ru; unfold py at fin o2; simp only [PyData.shown] at fin; exact P.repr_of_int (by simpa [PyData.showable] using o2) (fin s.heap _ _ fun _ _ e => e)
    | str x => obtain ⟨t, rfl⟩ := ru; unfold py at fin o4; simp only [PyData.shown] at fin o4; exact P.repr_of_str (fin s.heap _ _ fun _ _ e => e) o4
    | ty n => unfold pq at o1; cases o1
    | _ => exact absurd ⟨_, rfl⟩ ha
theorem cd_repQ {W : Wc} {K : PySem.W.Frag} : CallD K W (rRepQ K) rdRepQ := by
  intro Γ σ Hv H vs ds Q Q' E r h k
  unfold rdRepQ at h
  split at h
  · obtain ⟨o, q⟩ := h
    obtain ⟨v, rfl, rv⟩ := r.one
    exact ⟨v, _, rfl, Rp.monoS E.ret.sub _ _ rv, o, k _ _ Hv H E.stp (.str _) q⟩
  · exact h.elim
end VL
set_option Elab.async false
set_option linter.all false
set_option maxRecDepth 100000
set_option maxHeartbeats 4000000
namespace VL
open PySem PySem.Spec L2
open PyProof.Rows hiding St
def rdIsXT2 (t1 t2 : List (Str × Bool)) (de : TDE) : TDE := fun Γ Q => de Γ fun d Γ1 => ∃ b1 b2, isX t1 d = some b1 ∧ isX t2 d = some b2 ∧ Q (.bl (b1 || b2)) Γ1
def rdCallXK (n : Nat) (F : FX) (xk : D → Prop) (dt : TDF) : TDE := fun Γ Q => dt Γ fun ds Γ1 => ds.length = n ∧ F ds (fun d => Q d Γ1) xk
end VL
set_option Elab.async false
set_option linter.all false
set_option maxRecDepth 100000
set_option maxHeartbeats 4000000
namespace VL
open PySem PySem.Spec L2
open PyProof.Rows hiding St
end VL
set_option Elab.async false
set_option linter.all false
set_option maxRecDepth 100000
set_option maxHeartbeats 4000000
namespace VL
open PySem PySem.Spec L2
open PyProof.Rows hiding St
section
open PySem.W
variable {prog : Program} {w : World} {A : Around} {E : Value → Shared → Prop} {s : Shared} {K : Frag} {x C L f : Addr} {h₀ : Heap} {m : Str → Option Value} {ox : Obj} {od : Option Obj} {b tb : Value}
theorem ne_slot : Slot "object" "__ne__" "object.__ne__" := .of (owner := "object") (n := "__ne__") (by rw [typeLookup_type, builtinLookup_eq_fast]; kernel_rfl) (by decide +kernel) (by decide +kernel) (by decide +kernel) (.inl (by decide +kernel)) (by rw [isSubtype_type]; kernel_rfl)
theorem ifBound_B {M : Model} {args : List Value} {name : Str} {i : String} {Q : Option Value → Shared → Prop} (X : K.In s.heap) (I : InstAt s.heap x ox C od) (hs : findIn K (.ref C) name = some (some (.builtin i))) (hb : ∀ self, bindSpecial (.builtin i) self = pure (.builtin i, [self]))
    (h : wpAny M A (call (.builtin i) (.ref x :: args)) (fun v => Q (some v)) E s) : wpAny M A (callSpecialIfBound? (.ref x) name args) Q E s := by
  simp only [callSpecialIfBound?, bindSpecialIfBound?]
  refine wpAny_holding (wpAny_bind (wpAny_bind (wpAny_bind (I.type.here ((looks_findIn X hs).here ?_)))))
  refine wpAny_bind (wpAny_askSetting (wpAny_ite ?_))
  have fin : wpAny M A (call (.builtin i) ([.ref x] ++ args) >>= fun v => pure (some v)) Q E s := wpAny_bind (wpAny_mono h (fun v s' h' => wpAny_pure h') fun _ _ h' => h')
  split
  · refine wpAny_bind ?_
    rw [hb]
    exact wpAny_pure (wpAny_pure (by exact fin))
  · refine wpAny_tryCatch (wpAny_bind ?_)
    rw [hb]
    exact wpAny_pure (wpAny_pure (by exact fin))
theorem ne_body {Q : Fin → Shared → Prop} (hu : A.units < cLine) (X : K.In s.heap) (I : InstAt s.heap x ox C od) (hs : findIn K (.ref C) "__eq__" = some (some (.ref f))) (hf : isFn K (.ref f) = true)
    (h : wpAny (model prog w) A (call (.ref f) [.ref x, b]) (fun v s' => ∃ c, v = .bool c ∧ Q (.done (.ret (.bool (!c)))) s') E s) : wpAny (model prog w) A (Builtin.«object.__ne__» ⟨[.ref x, b], []⟩) Q E s := by
  unfold Builtin.«object.__ne__»
  repeat (first
    | with_reducible refine wpAny_cRoomFor hu ?_
    | (refine wpAny_bind (m := callSpecialIfBound? (.ref x) (Str.ofString "__eq__") [b])
        (ifBound_K X I hs hf (wpAny_mono h (fun r s' hr => by
          obtain ⟨c, rfl, hq⟩ := hr
          repeat (first | exact hq | exact wpAny_pure hq | exact wpAny_truthy_bool hq | (refine wpAny_bind (m := truthy (.bool _)) (wpAny_truthy_bool ?_)) | wp_step)) fun _ _ e => e)))
    | wp_step)
theorem ne_K {Q : Value → Shared → Prop} (hu : A.units + 1 < cLine) (hF : Fr h₀ L s.heap m) (X₀ : K.In h₀) (I : InstAt s.heap x ox C od) (hb : Looks (model prog w) s.heap (typeOf b) tb) (hn : notFirst K C tb = true)
    (hne : findIn K (.ref C) "__ne__" = some (some (.builtin "object.__ne__"))) (ho : mroIn K C (.type "object") = some true) (hs : findIn K (.ref C) "__eq__" = some (some (.ref f))) (hf : isFn K (.ref f) = true)
    (h : wpAny (model prog w) A.in1 (call (.ref f) [.ref x, b]) (fun v s' => ∃ c, v = .bool c ∧ Q (.bool (!c)) s') E s) : wpAny (model prog w) A (richCompare .NotEq (.ref x) b) Q E s := by
  have X := X₀.keeps hF.keep
  have one : wpAny (model prog w) A (tryCompare (.ref x) (cmpInfo .NotEq).2.1 b) (fun r s' => ∃ c, r = some (.bool c) ∧ Q (.bool c) s') E s := by
    unfold tryCompare
    refine wpAny_bind (ifBound_B X I hne ne_slot.bind ?_)
    refine wpAny_call (codeAny_call_builtin ne_slot.plain F.cmpEntry_ne (check_slot F.cmpKind_ne F.cmpSplit_ne (I.type.andThen (looks_mroIn X ho)) (F.cmpArgs_ne _ _) (ne_body (A := A.in1) hu X I hs hf (wpAny_mono h (fun v s' hv => ?_) fun _ _ e => e))))
    obtain ⟨c, rfl, hq⟩ := hv
    exact ⟨c, rfl, wpAny_pure ⟨_, rfl, hq⟩⟩
  unfold richCompare
  simp only [oneThing_ref]
  refine wpAny_holding (wpAny_bind (wpAny_cRoomFor (Nat.lt_of_succ_lt hu) ?_))
  refine wpAny_bind (I.type.here (wpAny_bind (hb.here ?_)))
  split
  · rename_i q
    have e : subIn K tb (.ref C) = some false := by
      rcases Bool.or_eq_true_iff.mp hn with e | e
      · rw [beq_iff_eq.mp e] at q; simp at q
      · exact beq_iff_eq.mp e
    refine wpAny_bind ((looks_subIn X e).here ?_)
    simp only [Bool.false_eq_true, if_false]
    refine wpAny_bind (wpAny_mono one (fun r s' z => ?_) fun _ _ e => e)
    obtain ⟨c, rfl, hq⟩ := z
    exact wpAny_pure hq
  · refine wpAny_bind (wpAny_pure ?_)
    simp only [Bool.false_eq_true, if_false]
    refine wpAny_bind (wpAny_mono one (fun r s' z => ?_) fun _ _ e => e)
    obtain ⟨c, rfl, hq⟩ := z
    exact wpAny_pure hq
end
section
variable {X : Cx} {CX : CXT} {k : Nat} {g C : Addr} {sp : Sp} {E : XK}
def rOwnNe (K : PySem.W.Frag) (C : Addr) (sp : Sp) (E : XK) : R2 := fun x y H Q => ∃ a dx fs, x = .ref a ∧ H a = some (.ins C dx fs) ∧ TyB K C H y ∧ sp [x, y] H (fun r H' => ∃ c, r = .bl c ∧ Q (.bl (!c)) H') E
theorem op_ownNe (F : FnR X.prog X.w X.K X.mg X.base CX k g sp) (hr : Room (k + 1) X.A) (hx : Passes CX X E) (hs : Dun X.K C "__eq__" g) (hne : PySem.W.findIn X.K (.ref C) "__ne__" = some (some (.builtin "object.__ne__"))) (ho : PySem.W.mroIn X.K C (.type "object") = some true) : OpR X (compareOp .NotEq) (rOwnNe X.K C sp E) := by
  intro pins s σ H x y v u Q I rx ry h
  obtain ⟨a, dx, fs, rfl, ha, ty, hsp⟩ := h
  cases rx
  obtain ⟨mA, J, _⟩ := ins_get I.hok ha
  obtain ⟨od, J, _⟩ := J.look
  obtain ⟨m, hF⟩ := I.fr
  obtain ⟨tb, hb, hn⟩ := tyB_looks I ry ty
  have r2 : Vals [V.ref a, y] [Value.ref a, u] := .cons rfl (.cons ry .nil)
  have hu := hr.units
  refine ne_K (by omega) hF I.ok.mod.kin J hb hn hne ho hs.at_ hs.fn (wpAny_call (codeAny_mono (F X.A.in1 X.stack s H [.ref a, u] [.ref a, y] _ E hr.in1 I.env0.in1 r2 hsp) fun r s' hq => ?_))
  cases r with
  | error e => exact hx pins σ H s e s' I hq
  | ok fl =>
    cases fl with
    | ret w =>
      obtain ⟨z, H', I', rz, c, rfl, q⟩ := I.after hq
      cases rz
      exact ⟨c, rfl, .bl (!c), H', I', rfl, q⟩
    | next => exact False.elim hq
    | brk => exact False.elim hq
    | cont => exact False.elim hq
end
def rdOwnNe (cn : Str) (F : FD) : RD2 := fun x y Q => asObj cn x fun _ _ => okY cn y ∧ F [x, y] fun d => asB d fun b => Q (.bl (!b))
section
variable {K : PySem.W.Frag} {W : Wc} {F : FD} {E : XK} {cn : Str} {C : Addr}
theorem od_ownNe (k : CN K cn C) : OpD K W (rOwnNe K C (spD Vol.no K F) E) (rdOwnNe cn F) := by
  intro Γ σ Hv H x y dx dy Q Q' Z rx ry h kk
  obtain ⟨ns, es, rfl, ok, h⟩ := asObj_of h
  obtain ⟨a, d1, f1, rfl, h1⟩ := rp_obj k rx Z.ret.sub
  refine ⟨a, d1, f1, rfl, h1, tyB_of k ry Z.ret.sub ok, Hv, _, _, Z.ret.sub, True.intro, fun _ z => z.elim, .cons rx (.cons ry .nil), h, fun v d Hv2 H2 R r2 q2 => ?_⟩
  obtain ⟨c, rfl, q⟩ := asB_of r2 q2
  exact ⟨c, rfl, kk _ _ Hv2 H2 (Z.stp.after (Z.pure R)) (.bl _) q⟩
end
end VL
set_option Elab.async false
set_option linter.all false
set_option maxRecDepth 100000
set_option maxHeartbeats 4000000
namespace VL
open PySem PySem.Spec L2
open PyProof.Rows hiding St
def rdIsXT3 (t1 t2 t3 : List (Str × Bool)) (de : TDE) : TDE := fun Γ Q => de Γ fun d Γ1 => ∃ b1 b2 b3, isX t1 d = some b1 ∧ isX t2 d = some b2 ∧ isX t3 d = some b3 ∧ Q (.bl (b1 || (b2 || b3))) Γ1
def rdIsiK (cn : Str) (others : List Str) (de : TDE) : TDE := fun Γ Q => de Γ fun d Γ1 => ∃ b, isiO cn others d = some b ∧ Q (.bl b) Γ1
section
variable {K : PySem.W.Frag} {W : Wc} {X : Cx} {e : Expr} {te : TE} {de : TDE} {y cn : Str} {p p1 pos : Pos}
theorem d_isiK {others : List Str} {C : Addr} (hK : X.K = K) (kl : Kls K cn C) (o : Oth K C others) (hg : Gl X "isinstance") (hm : X.mg "isinstance" = none) (hv : bootBuiltins "isinstance" = some (.builtin "isinstance")) (he : DE W X e te de)
    (hgC : Gl X y) (hmC : X.mg y = some (.ref C)) (hdb : (y == ("__debug__" : Str)) = false := by decide)
    (hse : starEach [e, .Name y p1] X.env = (false, eval e X.env) :: starEach [.Name y p1] X.env := by rfl) (hpl : (backTo pos (starEach [.Name y p1] X.env)).any (·.1) = false := by rfl) :
    DE W X (.Call (.Name "isinstance" p) [e, .Name y p1] [] pos) (tCB (rIsi K) (tCons te (tCons (tC (.ref C)) tNil))) (rdIsiK cn others de) := by
  subst hK
  have DD := d_callB (p := p) call_isi (cd_isiC (W := W) kl o) hg hm hv (da_cons (hs := hse) he (da_cons (d_glob (pos := p1) (v := .ref C) (d := .ref C) hgC hmC rfl (fun _ => .ref _) hdb) da_nil)) (by decide) (by decide) hse hpl
  have eq : rdCB (rdIsiC C cn others) (rdCons de (rdCons (rdC (.ref C)) rdNil)) = rdIsiK cn others de := by
    funext Γ Q
    show (de Γ fun d Γ1 => (C = C ∧ ∃ b, isiO cn others d = some b ∧ Q (.bl b) Γ1)) = de Γ fun d Γ1 => ∃ b, isiO cn others d = some b ∧ Q (.bl b) Γ1
    congr 1
    funext d Γ1
    simp
  rw [eq] at DD
  exact DD
end
end VL
set_option Elab.async false
set_option linter.all false
set_option maxRecDepth 100000
set_option maxHeartbeats 4000000
namespace VL
open PySem PySem.Spec L2
open PyProof.Rows hiding St
def perm {α : Type} (idx : List Nat) (l : List α) : List α := idx.filterMap fun i => l[i]?
def rdPerm (n : Nat) (idx : List Nat) (dt : TDF) : TDF := fun Γ Q => dt Γ fun ds Γ1 => ds.length = n ∧ Q (perm idx ds) Γ1
end VL
set_option Elab.async false
set_option linter.all false
set_option maxRecDepth 100000
set_option maxHeartbeats 4000000
namespace VL
open PySem PySem.Spec L2
open PyProof.Rows hiding St
end VL
set_option Elab.async false
set_option linter.all false
set_option maxRecDepth 100000
set_option maxHeartbeats 4000000
namespace VL
open PySem PySem.Spec L2
open PyProof.Rows hiding St
end VL
set_option Elab.async false
set_option linter.all false
set_option maxRecDepth 100000
set_option maxHeartbeats 4000000
namespace VL
open PySem PySem.Spec L2
open PyProof.Rows hiding St
end VL
set_option Elab.async false
set_option linter.all false
set_option maxRecDepth 100000
set_option maxHeartbeats 4000000
namespace VL
open PySem PySem.Spec L2 StX
open PyProof.Rows hiding St
/-- the body of an __init__ that may raise, by its promise -/
theorem initX_core {K : PySem.W.Frag} {P : Program} {w : World} {mg : Str → Option Value} {base : Heap} {qual cn : Str} {st : Stmt} {f C : Addr} {N : List Str} {k : Nat} (J : Vol) {Fd : FX} (hc : CN K cn C) {td : (D → Prop) → TDS}
    (hbody : ∀ (cdv : Value) (A : Around) (outer : List Env) (s : Shared) (H : Hp) (E : XK) (W : Wc) (y : Addr) (xk : D → Prop), W.J = J → Room k (A.deeper (envOfC qual (defScope st) s.heap.objs.size f cdv)) → Xok W K E xk →
      ∃ t, DSs W (cxOf (L2.CX P w) P w K mg base N qual (defScope st) f cdv A outer s H E) (defBody st) t (td xk))
    (hq : ∀ ds Q xk y, Fd ds Q xk → td xk { nx := fun Γ => ∃ d, Γ[0]? = some (.slf y d) ∧ Q d, rt := fun _ => False } (.slf y (.obj cn [] []) :: startG N.tail ds)) (hN : N ≠ [])
    {cdv : Value} {A : Around} {outer : List Env} {s : Shared} {H : Hp} {vs : List V} {Q : VK} {E : XK} (hr : Room k (A.deeper (envOfC qual (defScope st) s.heap.objs.size f cdv))) (h : spInitX J K C Fd vs H Q E) :
    ∃ t, PSs (cxOf (L2.CX P w) P w K mg base N qual (defScope st) f cdv A outer s H E) (defBody st) t ∧ t { nx := fun _ H' => Q .non H', rt := Q } (L2.start N vs) H := by
  obtain ⟨y, dx, ws, H1, Hv, ds, Qd, Xd, rfl, hy, hdx, hne, rfl, sub, inv, nv, r, hf, out, outX⟩ := h
  let W : Wc := ⟨J, H1, Hv, inv, sub, nv⟩
  obtain ⟨t, hb⟩ := hbody cdv A outer s _ E W y Xd rfl hr outX
  refine ⟨t, hb.ps, ?_⟩
  have hvy : Hv y = none := sub.none hy
  have hvd : Hv dx = none := sub.none hdx
  have nvy : ¬ J.vol y := fun v => J.there _ _ inv v hy
  have nvd : ¬ J.vol dx := fun v => J.there _ _ inv v hdx
  have ret : Ret J.vol J.inv Hv H1 Hv (upd (upd H1 dx (.own y)) y (.ins C dx [])) := by
    have hyd : upd H1 dx (HO.own y) y = none := by rw [upd_ne hne.symm]; exact hy
    have nt : NT H1 (upd (upd H1 dx (.own y)) y (.ins C dx [])) := (NT.put fun _ z => by cases z).trans (NT.put fun _ z => by cases z)
    refine ⟨.refl _, same_left (same_left sub hvd) hvy, fun a o e _ _ => ?_, J.keep _ _ inv (fun a v => ?_) (fun a φ e => Xt.fresh hyd a φ (Xt.fresh hdx a φ e)) nt, nv, fun _ z _ => z, nt⟩
    · rw [upd_ne (ne_of_none e hy), upd_ne (ne_of_none e hdx)]; exact e
    · rw [upd_ne (fun z => nvy (by rw [← z]; exact v)), upd_ne (fun z => nvd (by rw [← z]; exact v))]
  obtain ⟨n0, N', rfl⟩ : ∃ n0 N', N = n0 :: N' := by
    cases N with
    | nil => exact absurd rfl hN
    | cons a b => exact ⟨a, b, rfl⟩
  have Z0 : Ev K W (startG N' ds) (L2.start N' ws) Hv (upd (upd H1 dx (.own y)) y (.ins C dx [])) := start_slots r ret
  have hst : L2.start (n0 :: N') (.ref y :: ws) = some (.ref y) :: L2.start N' ws := by
    unfold L2.start
    rw [List.length_cons, List.length_cons, Nat.add_sub_add_right]
    rfl
  have nown : ∀ (i : Nat) (sl : Sl), (startG N' ds)[i]? = some sl → sl.isOwn = false := fun i sl e => by
    unfold startG at e
    rcases List.mem_append.mp (List.mem_of_getElem? e) with m | m
    · obtain ⟨d, _, rfl⟩ := List.mem_map.mp m; rfl
    · rw [(List.mem_replicate.mp m).2]; rfl
  have Z : Ev K W (.slf y (.obj cn [] []) :: startG N' ds) (L2.start (n0 :: N') (.ref y :: ws)) Hv (upd (upd H1 dx (.own y)) y (.ins C dx [])) := by
    rw [hst]
    refine ⟨ret, by rw [List.length_cons, List.length_cons, Z0.len], fun i sl e => ?_, fun i j sl sl' a ne e1 e2 o1 o2 q => ?_⟩
    · cases i with
      | zero => cases e; exact ⟨_, rfl, upd_same, ⟨C, dx, [], rfl, hc, rfl, .nil⟩, hvy, hy⟩
      | succ i => exact Z0.slots i sl e
    · cases i with
      | zero =>
        cases j with
        | zero => exact absurd rfl ne
        | succ j => rw [nown j sl' e2] at o2; cases o2
      | succ i => rw [nown i sl e1] at o1; cases o1
  refine hb.ad _ _ Hv _ _ _ Z (hq ds Qd Xd y hf) ⟨fun Γ' σ' Hv' H' s q => ?_, fun v d Γ' σ' Hv' H' s rv q => q.elim, fun _ _ _ _ _ q => q.elim, fun _ _ _ _ _ q => q.elim, fun _ _ _ _ _ _ _ _ _ _ _ _ q => q.elim⟩
  obtain ⟨d, e, qd⟩ := q
  obtain ⟨u, h1, h2, h3, h4, h5⟩ := s.ev.getSlf e
  have R := s.ev.ret
  refine out d (upd Hv' y u) H' ⟨R.sv.trans (same_upd h4), same_share R.sub h2, R.old, R.inv, fun a v => ?_, fun a z e => ?_, R.nt⟩ ((h3.mono (same_upd h4)).rp upd_same) qd
  · rw [upd_ne (fun z => nvy (by rw [← z]; exact v))]; exact R.nv a v
  · rw [upd_ne (show a ≠ y from fun q => e (by rw [q]; exact hy))]; exact R.grow a z e
def starSp (n : Nat) (sp : Sp) : Sp := fun vs H Q E => ∃ ws rest, vs = ws ++ rest ∧ ws.length = n ∧ rest.length ≤ sizeLine ∧ ∀ p (o : Obj), H p = none → o.dict = none → sp (ws ++ [V.ref p]) (upd H p (.frz o (.tup rest))) Q E
/-- a def with a star parameter: what is left over is a new tuple, its object told -/
theorem fn_starX {K : PySem.W.Frag} {P : Program} {w : World} {mg : Str → Option Value} {base : Heap} {CX : CXT} {name qual : Str} {params : Arguments} {body : List Stmt} {scope : Scope} {dV kV doc pm cdv ct oc : Value} {an od : Option Addr} {osl : Array (Option Value)} {f : Addr} {N ps : List Str} {k : Nat} {sp : Sp} {pv : Str}
    (lk : K.lookup f = some ⟨oc, od, .func (PySem.W.fnOf name qual params body scope dV kV doc pm an cdv ct), osl⟩) (hcd : PySem.W.codeIn K cdv qual = true) (S : FnScope N (ps ++ [pv]) scope) (hCX : CXUp CX)
    (hbind : ∀ us rest : List Value, us.length = ps.length → bindArgs (PySem.W.fnOf name qual params body scope dV kV doc pm an cdv ct) ⟨us ++ rest, []⟩ = (newTuple rest >>= fun t => pure (ps.zip us ++ [(pv, t)])))
    (run : ∀ (A : Around) (outer : List Env) (s : Shared) (H : Hp) (vs : List V) (Q : VK) (E : XK), Room k (A.deeper (envOfC qual scope s.heap.objs.size f cdv)) → sp vs H Q E →
      ∃ t, PSs (cxOf CX P w K mg base N qual scope f cdv A outer s H E) body t ∧ t { nx := fun _ H' => Q .non H', rt := Q } (L2.start N vs) H) :
    FnR P w K mg base CX (k + 1) f (starSp ps.length sp) := by
  intro A outer s0 H0 us vs Qw Ew hr0 en0 rv0 hsp0
  obtain ⟨ws, rest, ev0, hl0, hz0, hq0⟩ := hsp0
  subst ev0
  obtain ⟨u1, u2, eu0, ra, rb⟩ := vals_split rv0
  subst eu0
  have free0 : H0 s0.heap.objs.size = Option.none := en0.hok.fresh (Nat.le_refl _)
  have la : u1.length = ps.length := by rw [← ra.length]; exact hl0
  have lb : u2.length ≤ sizeLine := by rw [← rb.length]; exact hz0
  refine run_bnd lk hcd S hr0 en0 (G := fun xs H2 => ∃ (p : Addr) (o : Obj), H0 p = Option.none ∧ o.dict = Option.none ∧ xs = ws ++ [V.ref p] ∧ H2 = upd H0 p (.frz o (.tup rest))) (fun A1 Ex Q1 hgo => ?_) fun s2 H2 xs ⟨p, o, hp, hd, ex, eH⟩ hr1 => ?_
  · rw [hbind u1 u2 la]
    refine wpAny_bind (wpAny_newTuple (wpAny_pure ?_) lb)
    have obj0 : ObjOk P w (upd H0 s0.heap.objs.size (.frz { cls := .type "tuple", data := .seq u2.toArray } (.tup rest))) (s0.heap.push ({ cls := .type "tuple", data := .seq u2.toArray } : Obj)) s0.heap.objs.size (.frz { cls := .type "tuple", data := .seq u2.toArray } (.tup rest)) := ⟨Heap.get?_push_size _ rfl, hz0, u2, rb, ⟨_, Heap.get?_push_size _ rfl, rfl, _, rfl⟩⟩
    have step0 := un_laid (fs := frs outer) (s := s0) (o := ({ cls := .type "tuple", data := .seq u2.toArray } : Obj)) (u := .frz { cls := .type "tuple", data := .seq u2.toArray } (.tup rest)) free0
    have z0 := hgo _ _ (ws ++ [V.ref s0.heap.objs.size]) (u1 ++ [Value.ref s0.heap.objs.size]) (env0_laid en0 obj0) step0 rfl (fun e s' => hCX outer s0 H0 _ _ Ew e s' step0 (fun _ _ q => Heap.get?_push_of_some _ q) rfl) (ra.append (.cons rfl .nil))
      (by rw [List.length_append, List.length_append, hl0] <;> rfl) ⟨_, _, free0, rfl, rfl, rfl⟩
    rw [List.zip_append la.symm] at z0
    exact z0
  · subst ex eH
    exact run A outer s2 _ _ Qw Ew hr1 (hq0 p o hp hd)
/-- how a def with a star parameter binds: ps ahead of it -/
def StarB (fd : FuncData) (ps : List Str) (pv : Str) : Prop := ∀ us rest : List Value, us.length = ps.length → bindArgs fd ⟨us ++ rest, []⟩ = (newTuple rest >>= fun t => pure (ps.zip us ++ [(pv, t)]))
/-- THE RULE for __init__(self, *v) that may raise -/
theorem fn_initXS {K : PySem.W.Frag} {P : Program} {w : World} {mg : Str → Option Value} {base : Heap} {xn qual cn : Str} {st : Stmt} {f C : Addr} {fd : FuncData} {N : List Str} {p0 pv : Str} {k : Nat} (J : Vol) {Fd : FX} (hc : CN K cn C) (Fn : Fun K xn qual st f fd) (hs : StarB fd [p0] pv) (S : FnScope N [p0, pv] (defScope st)) {td : (D → Prop) → TDS}
    (hbody : ∀ (cdv : Value) (A : Around) (outer : List Env) (s : Shared) (H : Hp) (E : XK) (W : Wc) (y : Addr) (xk : D → Prop), W.J = J → Room k (A.deeper (envOfC qual (defScope st) s.heap.objs.size f cdv)) → Xok W K E xk →
      ∃ t, DSs W (cxOf (L2.CX P w) P w K mg base N qual (defScope st) f cdv A outer s H E) (defBody st) t (td xk))
    (hq : ∀ ds Q xk y, Fd ds Q xk → td xk { nx := fun Γ => ∃ d, Γ[0]? = some (.slf y d) ∧ Q d, rt := fun _ => False } (.slf y (.obj cn [] []) :: startG N.tail ds)) (hN : N ≠ []) :
    FnR P w K mg base (L2.CX P w) (k + 1) f (starSp 1 (spInitX J K C Fd)) := by
  obtain ⟨oc, od, kV, doc, pm, an, cdv, ct, osl, rfl, lk, hcd⟩ := Fn.ex
  exact fn_starX (ps := [p0]) (pv := pv) lk hcd S cxUp hs fun A outer s H vs Q E hr h => initX_core J hc hbody hq hN hr h
/-- C(e, ..), C's __init__ with a star parameter -/
def rdCallS (F : FX) (xk : D → Prop) (dt : TDF) : TDE := fun Γ Q => dt Γ fun ds Γ1 => ds.length ≤ sizeLine ∧ F [.tup ds] (fun d => Q d Γ1) xk
theorem upd_swap {H : Hp} {a b : Addr} {o u : HO} (n : a ≠ b) : upd (upd H a o) b u = upd (upd H b u) a o := by
  funext x
  by_cases h1 : x = a
  · subst h1
    rw [upd_ne n, upd_same, upd_same]
  · by_cases h2 : x = b
    · subst h2
      rw [upd_same, upd_ne h1, upd_same]
    · rw [upd_ne h2, upd_ne h1, upd_ne h1, upd_ne h2]
section
variable {K : PySem.W.Frag} {W : Wc} {X : Cx} {E : XK} {xk : D → Prop} {F : FX} {t : TA} {dt : TDF} {CX : CXT} {k : Nat} {f C : Addr} {x cn : Str} {p pos sp_ sp2 : Pos} {e e2 call : Expr} {es : List Expr} {te : TE} {de : TDE} {sp : Sp}
theorem ad_makeS (hk : Xok W K E xk) (ha : AdA K W t dt) : Ad K W (tMakeR C (starSp 1 (spInitX Vol.no K C F)) E t) (rdCallS F xk dt) := fun Γ σ Hv H Q Q' Z h k => by
  refine ha Γ σ Hv H _ _ Z h fun vs ds Γ1 Hv1 H1 s1 r1 q => ?_
  intro y dx hy hdx hne
  refine ⟨[.ref y], vs, rfl, rfl, by rw [r1.length]; exact q.1, fun pp po hp hpd => ?_⟩
  have py : pp ≠ y := fun z => by rw [z, upd_same] at hp; cases hp
  rw [upd_ne py] at hp
  have pd : pp ≠ dx := fun z => by rw [z, upd_same] at hp; cases hp
  rw [upd_ne pd] at hp
  have s2 := s1.alloc (.frz po (.tup vs)) hp
  have r2 : RpAll K (upd Hv1 pp (.frz po (.tup vs))) vs ds := RpAll.mono (same_upd (s1.ev.noneHv hp)) _ _ r1
  refine ⟨y, dx, [.ref pp], upd H1 pp (.frz po (.tup vs)), upd Hv1 pp (.frz po (.tup vs)), [.tup ds], _, xk, rfl, (upd_ne py.symm).trans hy, (upd_ne pd.symm).trans hdx, hne, ?_, s2.ev.ret.sub, True.intro, fun _ z => z.elim, .cons (.tup (.of upd_same hpd) r2) .nil, q.2, fun d Hv2 H2 R r3 q3 => ⟨rfl, k _ d Γ1 Hv2 H2 (s2.after (s2.ev.pure R)) r3 q3⟩, fun cls dd dat Hv2 H2 R r3 q3 => hk cls dd dat Hv2 H2 (s2.after (s2.ev.pure R)).ev.ret r3 q3⟩
  rw [upd_swap py.symm, upd_swap pd.symm]
theorem d_makeS (hK : X.K = K) (hk : Xok W K E xk) (h : PA X es t → PE X call (tMakeR C (starSp 1 (spInitX Vol.no K C F)) E t)) (ha : DA W X es t dt) : DE W X call (tMakeR C (starSp 1 (spInitX Vol.no K C F)) E t) (rdCallS F xk dt) := by
  subst hK
  exact ⟨h ha.pa, ad_makeS hk ha.ad⟩
def rdStar (de : TDE) (dt : TDF) : TDF := fun Γ Q => de Γ fun d Γ1 => match d with
  | .tup xs => dt Γ1 fun ds Γ2 => Q (xs ++ ds) Γ2
  | .lst xs => dt Γ1 fun ds Γ2 => Q (xs ++ ds) Γ2
  | _ => False
theorem da_star (hK : X.K = K) (he : DE W X e te de) (hr : DA W X es t dt) (hs : starEach (.Starred e sp_ :: es) X.env = (true, eval e X.env) :: starEach es X.env := by rfl) : DA W X (.Starred e sp_ :: es) (tStar K te t) (rdStar de dt) := by
  subst hK
  refine ⟨pa_star he.pe hr.pa hs, fun Γ σ Hv H Q Q' Z h k => ?_⟩
  refine he.ad Γ σ Hv H _ _ Z h fun v d Γ1 Hv1 H1 s1 r1 q => ?_
  split at q
  · cases r1 with
    | tup h1 r2 =>
      exact ⟨_, _, rfl, .inl (seqT s1.ev.ret.sub h1), hr.ad Γ1 σ Hv1 H1 _ _ s1.ev q fun vs ds Γ2 Hv2 H2 s2 r3 q2 => k _ _ Γ2 Hv2 H2 (s1.trans s2) ((RpAll.mono s2.sv _ _ r2).append r3) q2⟩
  · cases r1 with
    | lst h1 r2 =>
      exact ⟨_, _, rfl, .inr (.inl (.inl (s1.ev.ret.sub.lst h1))), hr.ad Γ1 σ Hv1 H1 _ _ s1.ev q fun vs ds Γ2 Hv2 H2 s2 r3 q2 => k _ _ Γ2 Hv2 H2 (s1.trans s2) ((RpAll.mono s2.sv _ _ r2).append r3) q2⟩
  · exact q.elim
theorem pe_makeR0 (M : Mk X.K C f) (F : FnR X.prog X.w X.K X.mg X.base CX k f sp) (hr : Room (k + 1) X.A) (hg : Gl X x) (hm : X.mg x = some (.ref C)) (hx : Passes CX X E) (hdb : (x == ("__debug__" : Str)) = false := by decide) : PE X (.Call (.Name x p) [] [] pos) (tMakeR C sp E tNil) := by
  refine ⟨fun pins s σ H Q I h => ?_⟩
  refine wpAny_Call_Name_kw (ld_glob I hg hm ?_ hdb)
  exact PySem.W.callWith_K0 I.kIn M.kp (run_makeR M F hr hx I (us := []) .nil h)
/-- C(*e) -/
theorem pe_makeS1 (M : Mk X.K C f) (F : FnR X.prog X.w X.K X.mg X.base CX k f sp) (hr : Room (k + 1) X.A) (hg : Gl X x) (hm : X.mg x = some (.ref C)) (hx : Passes CX X E) (ha : PA X [.Starred e sp_] (tStar X.K te tNil)) (he : PE X e te) (hdb : (x == ("__debug__" : Str)) = false := by decide)
    (hst : starEach [.Starred e sp_] X.env = [(true, eval e X.env)] := by rfl) : PE X (.Call (.Name x p) [.Starred e sp_] [] pos) (tMakeR C sp E (tStar X.K te tNil)) := by
  refine ⟨fun pins s σ H Q I h => ?_⟩
  refine wpAny_Call_Name_kw (ld_glob I hg hm ?_ hdb)
  refine PySem.W.callWith_S (h₀ := X.base) I.ok.mod.kin M.kp (thn (he.run pins s σ H _ I h) fun v s1 ⟨y, H1, I1, ry, a, xs, ey, hxs, q⟩ => ?_) hst
  subst ey
  obtain rfl : v = Value.ref a := ry
  have q : ∀ x dx, H1 x = none → H1 dx = none → dx ≠ x → sp (V.ref x :: (xs ++ [])) (upd (upd H1 dx (.own x)) x (.ins C dx [])) (fun v H2 => v = .non ∧ Q (.ref x) H2) E := q
  rw [List.append_nil] at q
  exact star_any I1 hxs fun us s2 I2 rv => ⟨I2.kIn, run_makeR M F hr hx I2 rv q⟩
theorem evalArgs_two {M : Model} {A : Around} {E : Value → Shared → Prop} {s : Shared} {g : Value} {a b : Bool × Sem Value} {rest : List (Bool × Sem Value)} {Q : Args → Shared → Prop}
    (h : wpAny M A (spliced (a :: b :: rest)) (fun vs s' => Q ⟨vs, []⟩ s') E s) : wpAny M A (evalArgs g true (a :: b :: rest) []) Q E s := by
  obtain ⟨a1, a2⟩ := a
  cases a1
  · unfold evalArgs
    show wpAny M A (spliced ((false, a2) :: b :: rest) >>= _) Q E s
    refine wpAny_bind (wpAny_mono h (fun vs s' h' => ?_) fun _ _ x => x)
    refine wpAny_holding ?_
    exact wpAny_bind (wpAny_pure (wpAny_bind (wpAny_pure (wpAny_pure h'))))
  · unfold evalArgs
    show wpAny M A (spliced ((true, a2) :: b :: rest) >>= _) Q E s
    refine wpAny_bind (wpAny_mono h (fun vs s' h' => ?_) fun _ _ x => x)
    refine wpAny_holding ?_
    exact wpAny_bind (wpAny_pure (wpAny_bind (wpAny_pure (wpAny_pure h'))))
/-- C(*e, *e2) -/
theorem pe_makeS2 (M : Mk X.K C f) (F : FnR X.prog X.w X.K X.mg X.base CX k f sp) (hr : Room (k + 1) X.A) (hg : Gl X x) (hm : X.mg x = some (.ref C)) (hx : Passes CX X E) (ha : PA X [.Starred e sp_, .Starred e2 sp2] t) (hdb : (x == ("__debug__" : Str)) = false := by decide)
    (hst : starEach [.Starred e sp_, .Starred e2 sp2] X.env = [(true, eval e X.env), (true, eval e2 X.env)] := by rfl) : PE X (.Call (.Name x p) [.Starred e sp_, .Starred e2 sp2] [] pos) (tMakeR C sp E t) := by
  refine ⟨fun pins s σ H Q I h => ?_⟩
  refine wpAny_Call_Name_kw (ld_glob I hg hm ?_ hdb)
  have z := ha.run pos pins s σ H _ I h
  rw [hst] at z ⊢
  exact PySem.W.ks_call rfl (PySem.W.keeps_K M.kp) (evalArgs_two (thn z fun us s1 ⟨vs, H1, I1, r, q⟩ => ⟨I1.kIn, run_makeR M F hr hx I1 r q⟩))
end
def strsB : List Value → List Str → Bool
  | [], [] => true
  | .str x _ :: us, y :: ys => decide (x = y) && strsB us ys
  | _, _ => false
def tupSB (K : PySem.W.Frag) (u : Value) (l : List Str) : Bool := match u with
  | .ref a => match K.lookup a with
    | some ⟨.type T, none, .seq its _, _⟩ => T == "tuple" && decide (its.size ≤ 1000) && strsB its.toList l
    | _ => false
  | _ => false
def tupsSB (K : PySem.W.Frag) : List Value → List (List Str) → Bool
  | [], [] => true
  | u :: us, l :: ls => tupSB K u l && tupsSB K us ls
  | _, _ => false
def tupTB (K : PySem.W.Frag) (a : Addr) (l : List (List Str)) : Bool := match K.lookup a with
  | some ⟨.type T, none, .seq its _, _⟩ => T == "tuple" && decide (its.size ≤ 1000) && tupsSB K its.toList l
  | _ => false
def tS (l : List Str) : D := .tup (l.map D.str)
section
variable {K : PySem.W.Frag} {H : Hp}
theorem strsB_ok : ∀ {us : List Value} {l : List Str}, strsB us l = true → Vals (l.map V.str) us ∧ RpAll K H (l.map V.str) (l.map D.str)
  | [], [], _ => ⟨.nil, .nil⟩
  | .str x t :: us, y :: ys, h => by
    simp only [strsB, Bool.and_eq_true, decide_eq_true_eq] at h
    obtain ⟨rfl, h⟩ := h
    obtain ⟨r1, r2⟩ := strsB_ok h
    exact ⟨.cons ⟨t, rfl⟩ r1, .cons (.str x) r2⟩
theorem tupSB_ok {u : Value} {l : List Str} (h : tupSB K u l = true) : ∃ v, RelV v u ∧ Rp K H v (tS l) := by
  unfold tupSB at h
  split at h
  · rename_i a
    split at h
    · rename_i T its n sl e
      simp only [Bool.and_eq_true, decide_eq_true_eq, beq_iff_eq] at h
      obtain ⟨⟨rfl, h2⟩, h3⟩ := h
      obtain ⟨r1, r2⟩ := strsB_ok (K := K) (H := H) h3
      exact ⟨.ref a, rfl, .tup ⟨.inr ⟨_, its, n, e, rfl, rfl, Nat.le_trans h2 (Nat.le_of_lt (small1000 (Nat.le_refl _))), r1⟩, .inr ⟨_, e, rfl⟩⟩ r2⟩
    · cases h
  · cases h
theorem tupsSB_ok : ∀ {us : List Value} {ls : List (List Str)}, tupsSB K us ls = true → ∃ vs, Vals vs us ∧ RpAll K H vs (ls.map tS)
  | [], [], _ => ⟨[], .nil, .nil⟩
  | u :: us, l :: ls, h => by
    simp only [tupsSB, Bool.and_eq_true] at h
    obtain ⟨v, r1, r2⟩ := tupSB_ok (H := H) h.1
    obtain ⟨vs, s1, s2⟩ := tupsSB_ok h.2
    exact ⟨v :: vs, .cons r1 s1, .cons r2 s2⟩
theorem tupTB_ok {a : Addr} {l : List (List Str)} (h : tupTB K a l = true) : Rp K H (.ref a) (.tup (l.map tS)) := by
  unfold tupTB at h
  split at h
  · rename_i T its n sl e
    simp only [Bool.and_eq_true, decide_eq_true_eq, beq_iff_eq] at h
    obtain ⟨⟨rfl, h2⟩, h3⟩ := h
    obtain ⟨vs, r1, r2⟩ := tupsSB_ok (H := H) h3
    exact .tup ⟨.inr ⟨_, its, n, e, rfl, rfl, Nat.le_trans h2 (Nat.le_of_lt (small1000 (Nat.le_refl _))), r1⟩, .inr ⟨_, e, rfl⟩⟩ r2
  · cases h
end
end VL
set_option Elab.async false
set_option linter.all false
set_option maxRecDepth 100000
set_option maxHeartbeats 4000000
namespace VL
open PySem PySem.Spec L2
open PyProof.Rows hiding St
section
variable {K : PySem.W.Frag} {W : Wc} {X : Cx} {E : XK} {xk : D → Prop} {F : FX} {t : TA} {dt : TDF} {C : Addr} {n : Nat} {idx : List Nat} {call : Expr} {kws : List Keyword}
def rdCallXP (n : Nat) (idx : List Nat) (F : FX) (xk : D → Prop) (dt : TDF) : TDE := fun Γ Q => dt Γ fun ds Γ1 => ds.length = n ∧ F (perm idx ds) (fun d => Q d Γ1) xk
end
end VL
set_option Elab.async false
set_option linter.all false
set_option maxRecDepth 100000
set_option maxHeartbeats 4000000
namespace VL
open PySem PySem.Spec L2 StX
open PyProof.Rows hiding St
section
variable {K : PySem.W.Frag} {W : Wc} {X : Cx} {E : XK} {xk : D → Prop} {F : FX} {CX : CXT} {k : Nat} {f C : Addr} {x : Str} {p pos sp_ : Pos} {e : Expr} {te : TE} {de : TDE}
theorem d_makeS1 (hK : X.K = K) (hk : Xok W K E xk) (M : Mk K C f) (G : FnR X.prog X.w X.K X.mg X.base CX k f (starSp 1 (spInitX Vol.no K C F))) (hr : Room (k + 1) X.A) (hg : Gl X x) (hm : X.mg x = some (.ref C)) (hx : Passes CX X E) (he : DE W X e te de) (hdb : (x == ("__debug__" : Str)) = false := by decide)
    (hst : starEach [.Starred e sp_] X.env = [(true, eval e X.env)] := by rfl) : DE W X (.Call (.Name x p) [.Starred e sp_] [] pos) (tMakeR C (starSp 1 (spInitX Vol.no K C F)) E (tStar K te tNil)) (rdCallS F xk (rdStar de rdNil)) := by
  subst hK
  have ha : DA W X [.Starred e sp_] (tStar X.K te tNil) (rdStar de rdNil) := da_star rfl he da_nil hst
  exact ⟨pe_makeS1 M G hr hg hm hx ha.pa he.pe hdb hst, ad_makeS hk ha.ad⟩
end
section
variable {K : PySem.W.Frag} {W : Wc} {X : Cx} {E : XK} {xk : D → Prop} {F : FX} {FP : FD} {CX : CXT} {k : Nat} {f : Addr} {fd : FuncData} {ps : List Str} {x : Str} {p pos : Pos}
/-- f() -/
theorem d_call0PK (hK : X.K = K) (G : FnOk X.prog X.w K X.mg X.base CX k f fd ps (spD Vol.no K FP)) (hr : Room k X.A) (hg : Gl X x) (hm : X.mg x = some (.ref f)) (hk : PySem.W.keepIn K (.ref f) = true) (hb : Binds K fd ps []) (hx : Passes CX X E) (hdb : (x == ("__debug__" : Str)) = false := by decide) :
    DE W X (.Call (.Name x p) [] [] pos) (tCall (spD Vol.no K FP) [] E tNil) (rdCall FP [] rdNil) := by
  subst hK
  exact ⟨pe_call0 G hr hg hm hk hb .nil hx hdb, ad_callP (fun _ => .nil) (da_nil (W := W) (X := X)).ad⟩
end
theorem starB_mk {fd : FuncData} {p pv : Str} (h0 : ∀ a, bindArgs fd ⟨[a], []⟩ = (newTuple [] >>= fun t => pure [(p, a), (pv, t)])) (h1 : ∀ a r rs, bindArgs fd ⟨a :: r :: rs, []⟩ = (newTuple (r :: rs) >>= fun t => pure [(p, a), (pv, t)])) : StarB fd [p] pv :=
  fun us rest hl => bind_star1 (B := fun l => bindArgs fd ⟨l, []⟩) h0 h1 us rest hl
/-- the program's guards -/
def L_GUARDS : List (List Str) := [["all"], ["bases", "ahead"], ["bases", "order"], ["bases", "owner"], ["bases", "receiver"], ["found"], ["line", "ahead"], ["line", "order"], ["line", "owner"], ["line", "receiver"],
  ["own", "ahead"], ["own", "order"], ["own", "owner"], ["own", "receiver"], ["spot", "ahead"], ["spot", "order"], ["spot", "owner"], ["spot", "receiver"], ["tag", "ahead"], ["tag", "order"], ["tag", "owner"], ["tag", "receiver"], ["word"]]
def D_GUARDS : D := .tup (L_GUARDS.map tS)
end VL
set_option Elab.async false
set_option linter.all false
set_option maxRecDepth 100000
set_option maxHeartbeats 4000000
namespace VL
open PySem PySem.Spec L2
open PyProof.Rows hiding St
abbrev TupAt (P : Program) (w : World) (h : Heap) (g : List Str) (b : Addr) : Prop := IsTupleKey (PySem.strKind P w) h g b
abbrev hashG (P : Program) (w : World) (g : List Str) : Int := tupleKeyHash (PySem.strKind P w) g
abbrev RowG := Addr × List Str
abbrev entG (P : Program) (w : World) (r : RowG) : Int × Value := (hashG P w r.2, .ref r.1)
section
variable {P : Program} {w : World} {A : Around} {E : Value → Shared → Prop} {s : Shared} {h h' : Heap} {g : List Str} {b S x : Addr}
theorem items_tx : ∀ {g : List Str} {vs : List Value}, ItemsAre (PySem.strKind P w) g vs → ∀ v ∈ vs, ∃ y k, v = Value.str y k
  | _, _, .cons r rs, v, m => by
    rcases List.mem_cons.mp m with rfl | m
    · obtain ⟨k, e⟩ := Value.isStrOf_shape r
      exact ⟨_, k, e⟩
    · exact items_tx rs v m
theorem TupAt.stay (T : TupAt P w h g b) (k : ∀ c o, h.get? c = some o → h'.get? c = some o) : TupAt P w h' g b := let ⟨o, its, n, ho, r⟩ := T; ⟨o, its, n, k b o ho, r⟩
/-- a tuple is not the set -/
theorem TupAt.aside {es : Array (Int × Value)} {ep : Nat} {t : SetTable} {o : Obj} (T : TupAt P w h g b) (ho : h.get? S = some o) (hd : o.data = .set es ep t) (sb : Heap.SameBut S h h') : TupAt P w h' g b := by
  obtain ⟨o2, its, n, e, c, d, i⟩ := T
  refine ⟨o2, its, n, (sb.2 b fun z => ?_).trans e, c, d, i⟩
  rw [z, ho] at e
  cases e
  rw [hd] at d
  cases d
theorem cls_tx (n : Nat) (y : Str) (k : Tok) : ofAClassStatement n (.str y k) = pure false := by cases n <;> rfl
theorem cls_tup {Q : Bool → Shared → Prop} (T : TupAt P w s.heap g b) (q : Q false s) : wpAny (model P w) A (ofAClassStatement 8 (.ref b)) Q E s := by
  have ty := T.typeIs
  obtain ⟨o, its, n, ho, hc, hd, hi⟩ := T
  unfold ofAClassStatement
  refine wpAny_bind (wpAny_typeOf ty ?_)
  simp only [show (("tuple" : String) == "tuple") = true from by decide, if_true, Bool.not_true, Bool.false_eq_true, if_false]
  try refine wpAny_bind (wpAny_pure ?_)
  try simp only [Bool.not_true, Bool.false_eq_true, if_false]
  change wpAny _ _ (seqItems? (.ref b) >>= _) _ _ s
  refine wpAny_bind (wpAny_seqItems ho hd (wpAny_bind ?_))
  change wpAny _ _ (forIn its _ _) _ _ s
  rw [← Array.forIn_toList]
  refine wpAny_forIn_list _ (fun left z s2 => z.1 = none ∧ s2 = s ∧ ∀ v ∈ left, ∃ y k, v = Value.str y k) _ (fun v left z s2 ⟨z1, z2, z3⟩ => ?_) (fun z s2 ⟨z1, z2, _⟩ => ?_) _ _ ⟨rfl, rfl, items_tx hi⟩
  · subst z2
    obtain ⟨y, k, rfl⟩ := z3 v List.mem_cons_self
    rw [cls_tx]
    refine wpAny_bind (wpAny_pure ?_)
    simp only [Bool.false_eq_true, if_false]
    exact wpAny_pure ⟨rfl, rfl, fun u m => z3 u (List.mem_cons_of_mem _ m)⟩
  · obtain ⟨a1, a2⟩ := z
    simp only at z1
    subst z1 z2
    exact wpAny_pure q
theorem hash_tx (n : Nat) (y : Str) (k : Tok) : hashByValue n (.str y k) = pure false := hashByValue_scannable n rfl
theorem hash_tup {Q : Bool → Shared → Prop} (T : TupAt P w s.heap g b) (q : ∀ c, Q c s) : wpAny (model P w) A (hashByValue 8 (.ref b)) Q E s := by
  have ty := T.typeIs
  obtain ⟨o, its, n, ho, hc, hd, hi⟩ := T
  unfold hashByValue
  refine wpAny_bind (wpAny_specialOf ty PySem.F.slot_tuple_hash.lookup ?_)
  change wpAny _ _ (seqItems? (.ref b) >>= _) _ _ s
  refine wpAny_bind (wpAny_seqItems ho hd (wpAny_bind ?_))
  change wpAny _ _ (forIn its _ _) _ _ s
  rw [← Array.forIn_toList]
  refine wpAny_forIn_list _ (fun left z s2 => s2 = s ∧ ∀ v ∈ left, ∃ y k, v = Value.str y k) _ (fun v left z s2 ⟨z2, z3⟩ => ?_) (fun z s2 ⟨z2, _⟩ => ?_) _ _ ⟨rfl, items_tx hi⟩
  · subst z2
    obtain ⟨y, k, rfl⟩ := z3 v List.mem_cons_self
    rw [hash_tx]
    refine wpAny_bind (wpAny_pure ?_)
    simp only [Bool.not_false, if_true]
    exact wpAny_pure (wpAny_pure (q _))
  · subst z2
    obtain ⟨a1, a2⟩ := z
    cases a1 with
    | none => exact wpAny_pure (q _)
    | some c => exact wpAny_pure (q _)
theorem quiet_tup {Q : Bool → Shared → Prop} (T : TupAt P w s.heap g b) {ys : List Value} (hy : ∀ y ∈ ys, ∃ g' c, y = Value.ref c ∧ TupAt P w s.heap g' c) (q : Q false s) : wpAny (model P w) A (searchCouldBeSeen (.ref b) ys) Q E s := by
  unfold searchCouldBeSeen
  refine wpAny_bind (wpAny_forIn_list _ (fun left z s2 => z.1 = none ∧ s2 = s ∧ ∀ y ∈ left, ∃ g' c, y = Value.ref c ∧ TupAt P w s.heap g' c) _ (fun v left z s2 ⟨z1, z2, z3⟩ => ?_) (fun z s2 ⟨z1, z2, _⟩ => ?_) _ _ ⟨rfl, rfl, hy⟩)
  · subst z2
    obtain ⟨g', c, rfl, T2⟩ := z3 v List.mem_cons_self
    have more : ∀ y ∈ left, ∃ g' c, y = Value.ref c ∧ TupAt P w s2.heap g' c := fun u m => z3 u (List.mem_cons_of_mem _ m)
    by_cases very : (b == c || (carriedByValue (.ref b) && carriedByValue (.ref c))) = true
    · exact wp_if_pos very (wpAny_pure ⟨rfl, rfl, more⟩)
    · refine wp_if_neg very (wpAny_bind (wpAny_eqIsQuiet_tuple T ?_))
      simp only [Bool.not_true, Bool.false_eq_true, if_false]
      refine wpAny_bind (wpAny_eqIsQuiet_tuple T2 ?_)
      simp only [Bool.not_true, Bool.false_eq_true, if_false]
      refine wpAny_bind (cls_tup T ?_)
      simp only [Bool.false_eq_true, if_false]
      refine wpAny_bind (cls_tup T2 ?_)
      simp only [Bool.false_eq_true, if_false]
      exact wpAny_pure ⟨rfl, rfl, more⟩
  · obtain ⟨a1, a2⟩ := z
    simp only at z1
    subst z1 z2
    exact wpAny_pure q
/-- at S stands a set: its rows L, each the place of a tuple and its texts, in the order of the table -/
structure TSet (P : Program) (w : World) (h : Heap) (S : Addr) (L : List RowG) (es : Array (Int × Value)) (ep : Nat) (t : SetTable) : Prop where
  obj : ∃ o, h.get? S = some o ∧ o.ExactSet ∧ o.data = .set es ep t
  ent : es.toList = L.map (entG P w)
  tab : TabOk t (L.map fun r => hashG P w r.2)
  uniq : (L.map (·.2)).Nodup
  tups : ∀ r ∈ L, TupAt P w h r.2 r.1
  led : w.params.followText "set-order" = true ∨ t.led = true
  gap : L.length * 5 < t.mask * 3
  few : L.length < 64
variable {L : List RowG} {es : Array (Int × Value)} {ep : Nat} {t : SetTable}
theorem ent_size (e : es.toList = L.map (entG P w)) : es.size = L.length := by rw [← Array.length_toList, e, List.length_map]
theorem ent_at (e : es.toList = L.map (entG P w)) {i : Nat} {r : RowG} (hr : L[i]? = some r) : es[i]? = some (entG P w r) := by rw [← Array.getElem?_toList, e, List.getElem?_map, hr]; rfl
theorem fits_of {hs : List Int} (T : TabOk t hs) (hl : hs.length ≤ t.mask) {n : Nat} (e : n = hs.length) : t.fits n = true := by
  have := T.sz
  unfold SetTable.fits SetTable.fill
  rw [T.dm, Bool.and_eq_true, beq_iff_eq, decide_eq_true_eq]
  exact ⟨this.trans e.symm, by show t.place.size + 0 ≤ t.mask; omega⟩
theorem TSet.fits (R : TSet P w h S L es ep t) : t.fits es.size = true := fits_of R.tab (by rw [List.length_map]; have := R.gap; omega) (by rw [ent_size R.ent, List.length_map])
theorem TSet.stay (R : TSet P w h S L es ep t) (kS : ∀ o, h.get? S = some o → h'.get? S = some o) (kT : ∀ r ∈ L, TupAt P w h' r.2 r.1) : TSet P w h' S L es ep t := by
  obtain ⟨o, ho, r⟩ := R.obj
  exact ⟨⟨o, kS o ho, r⟩, R.ent, R.tab, R.uniq, kT, R.led, R.gap, R.few⟩
/-- looking: N is the first empty place on the way -/
theorem TSet.seek (R : TSet P w s.heap S L es ep t) (T : TupAt P w s.heap g x) (hu : A.units < cLine) {N : Nat} (hN : N < 10 * SetTable.turns t.mask) (hfree : way t.mask (hashG P w g) N ∉ t.place.toList) (hbusy : ∀ c, c < N → way t.mask (hashG P w g) c ∈ t.place.toList)
    {Q : SetFound → Shared → Prop} (yes : g ∈ L.map (·.2) → Q (.there none) s) (no : g ∉ L.map (·.2) → Q (.free (way t.mask (hashG P w g) N) false) s) :
    ∀ (fuel c : Nat) (pr : Option SetTable.Probe), pr.getD (t.probeStart (hashG P w g)) = nth t.mask (runAt t.mask (SetTable.bits (hashG P w g) % (t.mask + 1)) (SetTable.bits (hashG P w g))) c → c ≤ N → N - c < fuel →
      (∀ (i : Nat) (r : RowG), L[i]? = some r → r.2 = g → ∃ c', c ≤ c' ∧ c' < N ∧ t.place.toList[i]? = some (way t.mask (hashG P w g) c')) → wpAny (model P w) A (setSearchFrom S (.ref x) (hashG P w g) true fuel pr) Q E s := by
  generalize hH : hashG P w g = H at *
  generalize hst : runAt t.mask (SetTable.bits H % (t.mask + 1)) (SetTable.bits H) = st
  have wj : ∀ c, way t.mask H c = (nth t.mask st c).j := fun c => by rw [← hst]
  have nd : ∀ (n : Nat) (p : SetTable.Probe), p.dummy = none → (nth t.mask p n).dummy = none := by
    intro n
    induction n with
    | zero => exact fun p e => e
    | succ n ih => exact fun p e => ih _ (by unfold adv; split <;> exact e)
  intro fuel
  induction fuel with
  | zero => intro c pr _ _ z; exact absurd z (Nat.not_lt_zero _)
  | succ fuel ih =>
    intro c pr hpr hc hf hre
    obtain ⟨o, ho, hex, hd⟩ := R.obj
    rw [setSearchFrom_succ]
    refine wpAny_bind (wpAny_setState_of ho hd R.fits ?_)
    refine wp_if_neg (by unfold SetTable.gaveWay; rw [mask_odd R.tab.mok]; decide) ?_
    try refine wpAny_bind (wpAny_pure ?_)
    have sum : ∀ q, (nth t.mask (nth t.mask st c) q).j = way t.mask H (c + q) := fun q => by rw [wj, nth_add]
    have hat : ∀ (i : Nat) (r : RowG), L[i]? = some r → (es[i]?.map (·.1)).getD 0 = hashG P w r.2 := fun i r e => by rw [ent_at R.ent e]; rfl
    rcases go_spec t R.tab.ris R.tab.dm (fun i => (es[i]?.map (·.1)).getD 0) H (10 * SetTable.turns t.mask) (N - c) (nth t.mask st c) (nd c st (by rw [← hst]; rfl)) (by omega)
      (fun q hq => by rw [sum]; exact hbusy _ (by omega)) (by rw [sum, show c + (N - c) = N by omega]; exact hfree) with ⟨q, i, hq, hi, _, first, go⟩ | ⟨none_, go⟩
    · have met : t.probe (fun i => (es[i]?.map (·.1)).getD 0) H (pr.getD (t.probeStart H)) = some (.candidate (way t.mask H (c + q)) i (nth t.mask st (c + (q + 1)))) := by
        rw [hpr, ← sum, nth_add]
        exact go
      rw [met]
      dsimp only
      rw [sum] at hi
      have li : i < L.length := by
        have a := (List.getElem?_eq_some_iff.mp hi).1
        have e := R.tab.sz
        rw [List.length_map] at e
        rw [Array.length_toList] at a
        omega
      obtain ⟨r, hr⟩ : ∃ r, L[i]? = some r := ⟨_, List.getElem?_eq_getElem li⟩
      have mr : r ∈ L := List.mem_of_getElem? hr
      have slot : t.slot (way t.mask H (c + q)) = .live i := slot_live R.tab.ris hi
      have rest : wpAny (model P w) A (searchRest S (.ref x) H true fuel es t (way t.mask H (c + q)) i (nth t.mask st (c + (q + 1)))) Q E s := by
        unfold searchRest
        rw [ent_at R.ent hr]
        refine wpAny_bind (wpAny_holding (wpAny_eqBool_tuple hu (R.tups r mr) T (wpAny_bind (wpAny_setState_of ho hd R.fits ?_))))
        by_cases same : r.2 = g
        · exact wp_if_pos (by simp [same]) (wpAny_pure (yes (List.mem_map.mpr ⟨r, mr, same⟩)))
        · refine wp_if_neg (by simp [same]) ?_
          try refine wpAny_bind (wpAny_pure ?_)
          rw [sameMem]
          simp only [if_true, slot, ent_at R.ent hr]
          refine wpAny_bind (wpAny_isSame_ref_self (wpAny_bind (wpAny_pure ?_)))
          simp only [if_true]
          refine wp_if_neg (by simp [same]) (ih (c + (q + 1)) _ rfl (by omega) (by omega) fun i2 r2 h2 e2 => ?_)
          obtain ⟨c', a1, a2, a3⟩ := hre i2 r2 h2 e2
          refine ⟨c', ?_, a2, a3⟩
          by_cases z1 : c' < c + q
          · refine absurd ?_ (first (c' - c) i2 (by omega) (by rw [sum, show c + (c' - c) = c' by omega]; exact a3))
            rw [hat i2 r2 h2, e2, hH]
          · by_cases z2 : c' = c + q
            · exfalso
              rw [z2] at a3
              have s2 := slot_live R.tab.ris a3
              rw [slot] at s2
              injection s2 with s2
              rw [← s2, hr] at h2
              cases h2
              exact same e2
            · omega
      by_cases hl : t.led = true
      · refine wp_if_neg (by simp [hl]) ?_
        try refine wpAny_bind (wpAny_pure ?_)
        exact rest
      · refine wp_if_pos (by simp [hl]) (wpAny_bind (quiet_tup T (fun y hy => ?_) ?_))
        · obtain ⟨e, he, rfl⟩ := List.mem_map.mp hy
          have he : e ∈ es.toList := by
            have := (List.mem_filter.mp (by simpa using he : e ∈ es.toList.filter (·.1 == H))).1
            exact this
          rw [R.ent] at he
          obtain ⟨r2, m2, rfl⟩ := List.mem_map.mp he
          exact ⟨r2.2, r2.1, rfl, R.tups r2 m2⟩
        · refine wp_if_neg (by decide) ?_
          try refine wpAny_bind (wpAny_pure ?_)
          exact rest
    · have met : t.probe (fun i => (es[i]?.map (·.1)).getD 0) H (pr.getD (t.probeStart H)) = some (.empty (way t.mask H N) none) := by
        have e2 : way t.mask H N = (nth t.mask (nth t.mask st c) (N - c)).j := by rw [sum, show c + (N - c) = N by omega]
        rw [hpr, e2]
        exact go
      rw [met]
      refine wpAny_pure (no fun hm => ?_)
      obtain ⟨r, mr, e⟩ := List.mem_map.mp hm
      obtain ⟨i, hi, ei⟩ := List.getElem_of_mem mr
      have hr : L[i]? = some r := by rw [List.getElem?_eq_getElem hi, ei]
      obtain ⟨c', a1, a2, a3⟩ := hre i r hr e
      refine none_ (c' - c) i (by omega) (by rw [sum, show c + (c' - c) = c' by omega]; exact a3) ?_
      show (es[i]?.map (·.1)).getD 0 = H
      rw [hat i r hr, e, hH]
theorem TSet.look (R : TSet P w s.heap S L es ep t) (T : TupAt P w s.heap g x) (hu : A.units < cLine) {Q : SetFound → Shared → Prop} (yes : g ∈ L.map (·.2) → Q (.there none) s)
    (no : ∀ N, g ∉ L.map (·.2) → way t.mask (hashG P w g) N ∉ t.place.toList → (∀ c, c < N → way t.mask (hashG P w g) c ∈ t.place.toList) → Q (.free (way t.mask (hashG P w g) N) false) s) :
    wpAny (model P w) A (setSearch S (.ref x) (hashG P w g) true) Q E s := by
  have gap := R.gap
  obtain ⟨N, n1, n2, n3⟩ := R.tab.first (by rw [List.length_map]; omega) (hashG P w g)
  have big : 10 * SetTable.turns t.mask ≤ 1420 := by
    unfold SetTable.turns
    rcases R.tab.mok with e | e | e <;> omega
  unfold setSearch
  refine R.seek T hu n1 n2 n3 yes (fun z => no N z n2 n3) 100000 0 none rfl (Nat.zero_le _) (by omega) fun i r hr e => ?_
  have li : i < t.place.toList.length := by
    have a := (List.getElem?_eq_some_iff.mp hr).1
    have e := R.tab.sz
    rw [List.length_map] at e
    rw [Array.length_toList]
    omega
  obtain ⟨c, c1, c2⟩ := R.tab.before (h := hashG P w g) n2 (i := i) (by rw [List.getElem?_map, hr, ← e]; rfl) (List.getElem?_eq_getElem li)
  exact ⟨c, Nat.zero_le _, c1, by rw [List.getElem?_eq_getElem li, c2]⟩
end
end VL
set_option Elab.async false
set_option linter.all false
set_option maxRecDepth 100000
set_option maxHeartbeats 4000000
namespace VL
open PySem PySem.Spec L2
open PyProof.Rows hiding St
section
variable {P : Program} {w : World} {A : Around} {E : Value → Shared → Prop} {s : Shared} {h h' : Heap} {g : List Str} {b S x : Addr} {L : List RowG} {es : Array (Int × Value)} {ep : Nat} {t : SetTable}
theorem pick_all {α : Type} : ∀ l : List α, (List.range l.length).filterMap (fun i => l[i]?) = l
  | [] => rfl
  | a :: l => by
    rw [List.length_cons, List.range_succ_eq_map, List.filterMap_cons]
    show a :: ((List.range l.length).map Nat.succ).filterMap (fun i => (a :: l)[i]?) = a :: l
    rw [List.filterMap_map]
    exact congrArg (a :: ·) (pick_all l)
theorem pick_ent (e : es.toList = L.map (entG P w)) (l : List Nat) : l.filterMap (fun i => es[i]?) = (l.filterMap fun i => L[i]?).map (entG P w) := by
  rw [List.map_filterMap]
  refine congrArg (fun f => l.filterMap f) (funext fun i => ?_)
  rw [← Array.getElem?_toList, e, List.getElem?_map]
theorem pick_hash (e : es.toList = L.map (entG P w)) : ∀ l : List Nat, (∀ i ∈ l, i < L.length) → ((l.filterMap fun i => L[i]?).map fun r => hashG P w r.2) = l.map fun i => (es.map (·.1)).getD i 0
  | [], _ => rfl
  | i :: l, hl => by
    have hi := List.getElem?_eq_getElem (hl i List.mem_cons_self)
    rw [List.filterMap_cons_some hi, List.map_cons, List.map_cons, pick_hash e l fun j hj => hl j (List.mem_cons_of_mem _ hj)]
    congr 1
    rw [Array.getD_eq_getD_getElem?, Array.getElem?_map, ent_at e hi]
    rfl
theorem TabOk.alike {t2 : SetTable} {hs : List Int} (T : TabOk t hs) (e1 : t2.place = t.place) (e2 : t2.dummies = t.dummies) (e3 : t2.mask = t.mask) : TabOk t2 hs := by
  obtain ⟨a, b, c, d, e, f⟩ := T
  exact ⟨by rw [e1]; exact a, by rw [e2]; exact b, by rw [e1]; exact c, by rw [e3]; exact d, by rw [e1, e3]; exact e, by rw [e1, e3]; exact f⟩
/-- the table laid anew -/
theorem tset_relay {o : Obj} (ho : s.heap.get? S = some o) (hex : o.ExactSet) (hd : o.data = .set es ep t) (ent : es.toList = L.map (entG P w)) (T : TabOk t (L.map fun r => hashG P w r.2)) (hm : L.length ≤ t.mask) (uniq : (L.map (·.2)).Nodup) (tups : ∀ r ∈ L, TupAt P w s.heap r.2 r.1)
    (led : w.params.followText "set-order" = true ∨ t.led = true) (few : L.length < 64) {wanted M : Nat} (hw : SetTable.sizeAbove wanted - 1 = M) (hM : MaskOk M) (hw2 : SetTable.sizeAbove wanted ≤ 128) (gap : L.length * 5 < M * 3) {Q : Unit → Shared → Prop}
    (q : ∀ h' L' es' ep' t', Heap.SameBut S s.heap h' → TSet P w h' S L' es' ep' t' → L'.Perm L → Q () { s with heap := h' }) : wpAny (model P w) A (setRelay S wanted) Q E s := by
  have sz := ent_size ent
  have sml : ∀ n, n ≤ 1000 → n ≤ sizeLine := fun n hn => Nat.le_of_lt (small1000 hn)
  obtain ⟨t', order, e, pm, T', em, el, _, _⟩ := relaid_ok t (hs := es.map (·.1)) (wanted := wanted) hw hM (by rw [Array.size_map, sz]; omega)
  rw [Array.size_map, sz] at pm
  have e1 : (order.filterMap (es[·]?)).toList = ((order.toList.filterMap fun i => L[i]?).map (entG P w)) := by rw [Array.toList_filterMap]; exact pick_ent ent _
  have p1 : (order.toList.filterMap fun i => L[i]?).Perm L := by
    have := pm.filterMap fun i => L[i]?
    rw [pick_all] at this
    exact this
  rw [← pick_hash ent _ fun i hi => List.mem_range.mp (pm.mem_iff.mp hi)] at T'
  generalize (order.toList.filterMap fun i => L[i]?) = L2 at e1 p1 T'
  have z2 : (order.filterMap (es[·]?)).size = L.length := by rw [ent_size e1, p1.length_eq]
  rw [setRelay_eq]
  refine wpAny_bind (wpAny_setState_of ho hd (fits_of T (by rw [List.length_map]; exact hm) (by rw [sz, List.length_map])) ?_)
  refine wp_if_neg (Nat.not_lt.mpr (Nat.le_trans hw2 (sml _ (by decide)))) ?_
  try refine wpAny_bind (wpAny_pure ?_)
  rw [e]
  dsimp only
  generalize order.filterMap (es[·]?) = es2 at e1 z2 ⊢
  refine wpAny_bind (wp_if_neg (by rw [z2, sz]; simp) ?_)
  try refine wpAny_bind (wpAny_pure ?_)
  refine wpAny_pure (wpAny_storeSet_of ho hd ?_ (by rw [z2]; exact sml _ (by omega)))
  have sb : Heap.SameBut S s.heap (s.heap.update S (Obj.putSet es2 t')) := Heap.SameBut.update ..
  exact q _ L2 es2 (ep + 1) t' sb ⟨⟨_, store_at ho hd, ⟨hex.1, hex.2.1, hex.2.2⟩, rfl⟩, e1, T', (p1.map (·.2)).nodup_iff.mpr uniq, fun r hr => TupAt.aside (tups r (p1.mem_iff.mp hr)) ho hd sb, by rw [el]; exact led, by rw [p1.length_eq, em]; exact gap, by rw [p1.length_eq]; exact few⟩ p1
/-- put in -/
theorem TSet.add (R : TSet P w s.heap S L es ep t) (T : TupAt P w s.heap g x) (hu : A.units < cLine) (few : L.length + 1 < 64) {Q : Bool → Shared → Prop}
    (q : ∀ c h' L' es' ep' t', Heap.SameBut S s.heap h' → TSet P w h' S L' es' ep' t' → (g ∈ L.map (·.2) → L' = L) → (g ∉ L.map (·.2) → L'.Perm ((x, g) :: L)) → Q c { s with heap := h' }) :
    wpAny (model P w) A (setAddHashed S (.ref x) (hashG P w g)) Q E s := by
  obtain ⟨o, ho, hex, hd⟩ := R.obj
  have sz := ent_size R.ent
  have gap := R.gap
  have sml : ∀ n, n ≤ 1000 → n ≤ sizeLine := fun n hn => Nat.le_of_lt (small1000 hn)
  unfold setAddHashed
  refine wpAny_holding ?_
  rw [show (100000 : Nat) = 99999 + 1 from rfl, setAddHashedIn_succ]
  refine wpAny_bind (wpAny_setState_of ho hd R.fits (wp_if_neg (by simp [byScan, Value.scannable]) ?_))
  try refine wpAny_bind (wpAny_pure ?_)
  refine wpAny_bind (R.look T hu (fun m => wpAny_pure (q false s.heap L es ep t (.refl S s.heap) R (fun _ => rfl) fun z => absurd m z)) fun N nm n2 n3 => ?_)
  refine wpAny_bind (wpAny_setState_of ho hd R.fits ?_)
  dsimp only
  obtain ⟨q1, q2, q3, q4, q5, q6, q7, q8, q9⟩ := R.tab.put n2 n3
  have ins : (SetTable.insertAt es (SetTable.below t.place (way t.mask (hashG P w g) N)) (hashG P w g, Value.ref x)).toList = (L.take (SetTable.below t.place (way t.mask (hashG P w g) N)) ++ (x, g) :: L.drop (SetTable.below t.place (way t.mask (hashG P w g) N))).map (entG P w) := by
    rw [SetTable.toList_insertAt, R.ent, List.map_append, List.map_cons, List.map_take, List.map_drop]
  generalize t.put (way t.mask (hashG P w g) N) = pt at q1 q3 q4 q5 q6 q7 q8 q9 ⊢
  obtain ⟨t1, k⟩ := pt
  dsimp only at q1 q3 q4 q5 q6 q7 q8 q9 ⊢
  subst q1
  generalize SetTable.below t.place (way t.mask (hashG P w g) N) = k at q2 q3 ins ⊢
  have pm := put_perm L k (x, g)
  have ln : (L.take k ++ (x, g) :: L.drop k).length = L.length + 1 := pm.length_eq
  have eh : (L.map fun r => hashG P w r.2).take k ++ hashG P w g :: (L.map fun r => hashG P w r.2).drop k = (L.take k ++ (x, g) :: L.drop k).map fun r => hashG P w r.2 := by rw [List.map_append, List.map_cons, List.map_take, List.map_drop]
  rw [eh] at q3
  have z1 := ent_size ins
  rw [ln] at z1
  generalize SetTable.insertAt es k (hashG P w g, Value.ref x) = es1 at ins z1 ⊢
  generalize L.take k ++ (x, g) :: L.drop k = L1 at pm ln q3 ins
  have un1 : (L1.map (·.2)).Nodup := (pm.map (·.2)).nodup_iff.mpr (List.nodup_cons.mpr ⟨nm, R.uniq⟩)
  /- what comes behind, the table marked or not -/
  have fin : ∀ t2 : SetTable, t2.place = t1.place → t2.dummies = t1.dummies → t2.mask = t1.mask → t2.led = t1.led →
      wpAny (model P w) A (storeSet S es1 t2 >>= fun _ => (if (!false && t2.tooFull) = true then setRelay S (SetTable.grown (es.size + 1)) >>= fun _ => pure true else pure true)) Q E s := fun t2 e1 e2 e3 e4 => by
    have T2 : TabOk t2 (L1.map fun r => hashG P w r.2) := TabOk.alike q3 e1 e2 e3
    have led2 : w.params.followText "set-order" = true ∨ t2.led = true := by rw [e4, q5]; exact R.led
    have f2 : t2.fill = L.length + 1 := by
      have : t2.fill = t1.fill := by unfold SetTable.fill; rw [e1, e2]
      rw [this, q9, List.length_map]
    have m2 : t2.mask = t.mask := e3.trans q4
    refine wpAny_bind (wpAny_storeSet_of ho hd ?_ (by rw [z1]; exact sml _ (by omega)))
    have sb : Heap.SameBut S s.heap (s.heap.update S (Obj.putSet es1 t2)) := Heap.SameBut.update ..
    have at1 := store_at (es' := es1) (t' := t2) ho hd
    generalize s.heap.update S (Obj.putSet es1 t2) = h1 at sb at1 ⊢
    have tu1 : ∀ r ∈ L1, TupAt P w h1 r.2 r.1 := fun r hr => by
      rcases List.mem_cons.mp (pm.mem_iff.mp hr) with e | hr
      · rw [e]; exact TupAt.aside T ho hd sb
      · exact TupAt.aside (R.tups r hr) ho hd sb
    by_cases hf : t2.tooFull = true
    · refine wp_if_pos (by simp [hf]) ?_
      have full : (L.length + 1) * 5 ≥ t.mask * 3 := by
        unfold SetTable.tooFull at hf
        rw [decide_eq_true_eq, f2, m2] at hf
        exact hf
      have go : ∀ M, SetTable.sizeAbove (SetTable.grown (L.length + 1)) - 1 = M → MaskOk M → SetTable.sizeAbove (SetTable.grown (L.length + 1)) ≤ 128 → (L.length + 1) * 5 < M * 3 →
          wpAny (model P w) A (setRelay S (SetTable.grown (es.size + 1)) >>= fun _ => pure true) Q E { s with heap := h1 } := fun M w1 w2 w3 w4 => by
        rw [sz]
        refine wpAny_bind (tset_relay (s := { s with heap := h1 }) at1 ⟨hex.1, hex.2.1, hex.2.2⟩ rfl ins T2 (by rw [ln, m2]; rcases R.tab.mok with e | e | e <;> omega) un1 tu1 led2 (by rw [ln]; exact few) w1 w2 w3 (by rw [ln]; exact w4) fun h' L' es' ep' t' sb2 R2 p2 => ?_)
        exact wpAny_pure (q true h' L' es' ep' t' (sb.trans sb2) R2 (fun z => absurd z nm) fun _ => p2.trans pm)
      rcases R.tab.mok with e | e | e
      · have e4 : L.length = 4 := by omega
        exact go 31 (by rw [e4, size_20]) (.inr (.inl rfl)) (by rw [e4, size_20]; decide) (by omega)
      · have e4 : L.length = 18 := by omega
        exact go 127 (by rw [e4, size_76]) (.inr (.inr rfl)) (by rw [e4, size_76]; decide) (by omega)
      · exfalso
        omega
    · refine wp_if_neg (by simp [hf]) (wpAny_pure (q true h1 L1 es1 (ep + 1) t2 sb ⟨⟨_, at1, ⟨hex.1, hex.2.1, hex.2.2⟩, rfl⟩, ins, T2, un1, tu1, led2, ?_, by rw [ln]; exact few⟩ (fun z => absurd z nm) fun _ => pm))
      unfold SetTable.tooFull at hf
      rw [decide_eq_true_eq, f2, m2] at hf
      rw [ln, m2]
      omega
  by_cases hp : t1.plain = true
  · refine wp_if_pos hp (wpAny_bind (hash_tup T fun c => ?_))
    cases c
    · exact fin _ rfl rfl rfl rfl
    · exact fin _ rfl rfl rfl rfl
  · refine wp_if_neg hp (wpAny_bind (wpAny_pure ?_))
    exact fin _ rfl rfl rfl rfl
end
end VL
set_option Elab.async false
set_option linter.all false
set_option maxRecDepth 100000
set_option maxHeartbeats 4000000
namespace VL
open PySem PySem.Spec L2
open PyProof.Rows hiding St
/-- the set at S has just the first i of the rows -/
def SGot (P : Program) (w : World) (h : Heap) (S : Addr) (ks : List RowG) (i : Nat) : Prop := ∃ L es ep t, TSet P w h S L es ep t ∧ (∀ r ∈ L, r ∈ ks.take i) ∧ (∀ r ∈ ks.take i, r.2 ∈ L.map (·.2)) ∧ L.length ≤ i
section
variable {P : Program} {w : World} {A : Around} {E : Value → Shared → Prop} {s : Shared} {ks : List RowG}
theorem sgot_fresh {h : Heap} {S : Addr} (ho : h.get? S = some { cls := .type "set", dict := none, data := .set #[] 0 (.fresh 0 0 (!w.params.followText "set-order")) }) : SGot P w h S ks 0 := by
  refine ⟨[], #[], 0, _, ⟨⟨_, ho, ⟨rfl, rfl, rfl⟩, rfl⟩, rfl, ⟨List.Pairwise.nil, rfl, rfl, .inl rfl, fun x hx => (by cases hx), fun i k j hi => (by simp at hi)⟩, List.nodup_nil, fun r hr => (by cases hr), ?_, (by show 0 * 5 < 7 * 3; decide), (by show 0 < 64; decide)⟩, fun r hr => (by cases hr), fun r hr => (by simp at hr), Nat.le_refl _⟩
  show _ ∨ (!w.params.followText "set-order") = true
  cases w.params.followText "set-order"
  · exact .inr rfl
  · exact .inl rfl
theorem sgot_same {L : List RowG} {i : Nat} {r : RowG} (a : ∀ y ∈ L, y ∈ ks.take i) (b : ∀ y ∈ ks.take i, y.2 ∈ L.map (·.2)) (hr : ks[i]? = some r) (m : r.2 ∈ L.map (·.2)) : (∀ y ∈ L, y ∈ ks.take (i + 1)) ∧ ∀ y ∈ ks.take (i + 1), y.2 ∈ L.map (·.2) := by
  have e : ks.take (i + 1) = ks.take i ++ [r] := by rw [List.take_add_one, hr]; rfl
  rw [e]
  refine ⟨fun y hy => List.mem_append_left _ (a y hy), fun y hy => ?_⟩
  rcases List.mem_append.mp hy with hy | hy
  · exact b y hy
  · rw [List.mem_singleton.mp hy]; exact m
theorem sgot_more {L L' : List RowG} {i : Nat} {r : RowG} (a : ∀ y ∈ L, y ∈ ks.take i) (b : ∀ y ∈ ks.take i, y.2 ∈ L.map (·.2)) (hr : ks[i]? = some r) (p : L'.Perm (r :: L)) : (∀ y ∈ L', y ∈ ks.take (i + 1)) ∧ ∀ y ∈ ks.take (i + 1), y.2 ∈ L'.map (·.2) := by
  have e : ks.take (i + 1) = ks.take i ++ [r] := by rw [List.take_add_one, hr]; rfl
  rw [e]
  refine ⟨fun y hy => ?_, fun y hy => (p.map (·.2)).mem_iff.mpr ?_⟩
  · rcases List.mem_cons.mp (p.mem_iff.mp hy) with rfl | hy
    · exact List.mem_append_right _ (List.mem_singleton.mpr rfl)
    · exact List.mem_append_left _ (a y hy)
  · rcases List.mem_append.mp hy with hy | hy
    · exact List.mem_cons_of_mem _ (b y hy)
    · rw [List.mem_singleton.mp hy]; exact List.mem_cons_self
theorem tset_loop {I : Addr} {fp wr : List Addr} {G : Array GenState → Array GenState → Prop} {n : Nat} {Pv : Nat → Value → Prop} {St : Nat → Shared → Prop} {R : Result → Shared → Prop}
    (W : WalksS P w A.in1 I fp wr G n Pv St) (S : Addr) (nf : S ∉ fp) (ks : List RowG) (hn : n = ks.length) (few : ∀ L : List RowG, (∀ y ∈ L, y ∈ ks) → (L.map (·.2)).Nodup → L.length < 63) (hu : A.in1.units < cLine) (h0 : Heap) (gone : h0.get? S = none) (wr0 : ∀ b ∈ wr, h0.get? b = none) (hk : ∀ r ∈ ks, TupAt P w h0 r.2 r.1)
    (val : ∀ i v, Pv i v → ∃ r, ks[i]? = some r ∧ v = .ref r.1) :
    ∀ (k i : Nat) (s : Shared), k + i = n → St i s → (∀ b o, h0.get? b = some o → s.heap.get? b = some o) → SGot P w s.heap S ks i →
      (∀ s', Moved (S :: wr) G s s' → SGot P w s'.heap S ks ks.length → R (.ok (.ret .none)) s') → codeAny (model P w) A (.builtin "set.update.loop" ⟨[.ref S, .ref I], []⟩) R s := by
  have nw : S ∉ wr := fun z => nf (W.sub _ z)
  have up : ∀ b ∈ wr, b ∈ S :: wr := fun b z => List.mem_cons_of_mem _ z
  have later : ∀ {s s' : Shared}, Moved wr G s s' → (∀ b o, h0.get? b = some o → s.heap.get? b = some o) → ∀ b o, h0.get? b = some o → s'.heap.get? b = some o := fun mv kp b o e => mv.heap b o (fun z => by rw [wr0 b z] at e; cases e) (kp b o e)
  intro k
  induction k with
  | zero =>
    intro i s hi st kp ⟨L, es, ep, t, T, a, b, l⟩ fin
    have hi : i = n := by omega
    subst hi
    refine codeAny_builtin PyProof.Rows.F.entry_set_update_loop ?_
    rw [Around.under_plainId PyProof.Rows.F.plain_set_update_loop _]
    change wpAny _ A.in1 (pyNext (.ref I) >>= _) _ _ s
    refine wpAny_bind (W.done s _ _ st fun s' mv => ?_)
    refine wpAny_pure (fin s' (mv.mono up) ⟨L, es, ep, t, T.stay (fun o e => mv.heap S o nw e) fun r hr => TupAt.stay (hk r (List.mem_of_mem_take (a r hr))) (later mv kp), ?_, ?_, ?_⟩)
    · rw [← hn]; exact a
    · rw [← hn]; exact b
    · rw [← hn]; exact l
  | succ k ih =>
    intro i s hi st kp ⟨L, es, ep, t, T, a, b, l⟩ fin
    refine codeAny_builtin PyProof.Rows.F.entry_set_update_loop ?_
    rw [Around.under_plainId PyProof.Rows.F.plain_set_update_loop _]
    change wpAny _ A.in1 (pyNext (.ref I) >>= _) _ _ s
    refine wpAny_bind (W.item i s _ _ (by omega) st fun v s' hP st' mv => ?_)
    obtain ⟨r, hr, rfl⟩ := val i v hP
    have kp' := later mv kp
    have T' : TSet P w s'.heap S L es ep t := T.stay (fun o e => mv.heap S o nw e) fun y hy => TupAt.stay (hk y (List.mem_of_mem_take (a y hy))) kp'
    have at_ : TupAt P w s'.heap r.2 r.1 := TupAt.stay (hk r (List.mem_of_getElem? hr)) kp'
    change wpAny _ A.in1 (holding [Value.ref r.1] (setAdd S (.ref r.1)) >>= _) _ _ s'
    refine wpAny_bind (wpAny_holding ?_)
    unfold setAdd
    refine wpAny_holding (wpAny_bind (wpAny_pyHash_tuple hu at_ ?_))
    refine TSet.add (s := { s' with toks := s'.toks + (r.2.length + 1) }) T' at_ hu (by have := few L (fun y hy => List.mem_of_mem_take (a y hy)) T.uniq; omega) fun c h' L' es' ep' t' sb T2 c1 c2 => ?_
    have got : (∀ y ∈ L', y ∈ ks.take (i + 1)) ∧ (∀ y ∈ ks.take (i + 1), y.2 ∈ L'.map (·.2)) ∧ L'.length ≤ i + 1 := by
      by_cases m : r.2 ∈ L.map (·.2)
      · rw [c1 m]
        obtain ⟨g1, g2⟩ := sgot_same a b hr m
        exact ⟨g1, g2, by omega⟩
      · have p := c2 m
        obtain ⟨g1, g2⟩ := sgot_more a b hr p
        exact ⟨g1, g2, by rw [p.length_eq, List.length_cons]; omega⟩
    have kp2 : ∀ b o, h0.get? b = some o → h'.get? b = some o := fun b o e => (sb.2 b fun z => by rw [z, gone] at e; cases e).trans (kp' b o e)
    refine wpAny_pure ⟨plainId_quiet PyProof.Rows.F.plain_set_update_loop _, ih (i + 1) _ (by omega) (W.frame _ s' _ _ st' (Nat.le_add_right _ _) fun b hb o e => ?_) kp2 ⟨L', es', ep', t', T2, got⟩ fun s'' mv2 T3 => ?_⟩
    · exact (sb.2 b fun z => nf (by rw [← z]; exact hb)).trans e
    · refine fin s'' (Moved.trans W.gtrans ((mv.mono up).then_heap (Nat.le_add_right _ _) fun b o hb e => ?_) mv2) T3
      exact (sb.2 b fun z => hb (by rw [z]; exact List.mem_cons_self)).trans e
set_option maxHeartbeats 3200000 in
theorem call_setG {l : Addr} {items : Array Value} (ks : List RowG) {Q : Value → Shared → Prop} (hh : A.handled = none) (hl : s.heap.IsList l items) (hi : items.toList = ks.map fun r => Value.ref r.1) (hk : ∀ r ∈ ks, TupAt P w s.heap r.2 r.1) (few : ∀ L : List RowG, (∀ y ∈ L, y ∈ ks) → (L.map (·.2)).Nodup → L.length < 63) (hu : A.units + 3 < cLine)
    (q : ∀ (h' : Heap) (tk : Nat), SGot P w h' s.heap.objs.size ks ks.length → (∀ b o, s.heap.get? b = some o → h'.get? b = some o) → Q (.ref s.heap.objs.size) { s with heap := h', toks := tk }) :
    wpAny (model P w) A (call (.type "set") [.ref l]) Q E s := by
  have hlen : items.size = ks.length := by rw [← Array.length_toList, hi, List.length_map]
  obtain ⟨c, tl, hmro⟩ := PySem.F.called_set.mro
  have made := PySem.F.called_set.made
  have sub := PySem.F.called_set.sub
  refine wpAny_call (codeAny_of_tree ?_)
  show wpAny _ _ (callAny (.type "set") _) _ _ _
  refine wpAny_pure ⟨Code.quiet_builtin _ (by decide +kernel), codeAny_builtin PySem.F.entry_type_call ?_⟩
  rw [Around.under_plain (weight_type_call_type "set" [.ref l] []) rfl]
  have n1 := PySem.F.called_set.notType
  have n2 := PySem.F.called_set.canCreate
  have n3 := PySem.F.typeCall_set_1 (.ref l)
  repeat (any_goals (first | assumption | wp_step))
  refine codeAny_mono (code_set_led1 (.ref l) (E := E) (Q₁ := fun v s₁ => v = .ref s.heap.objs.size ∧ s₁ = { s with heap := s.heap.push (set0 w) }) ⟨rfl, rfl⟩) fun r s₁ hr => ?_
  cases r with
  | error e => exact hr
  | ok fl =>
    cases fl with
    | ret v =>
      obtain ⟨rfl, rfl⟩ := hr
      have at0 : (s.heap.push (set0 w)).get? s.heap.objs.size = some (set0 w) := Heap.get?_push_size _ rfl
      have hT : Shared.TypeIs { s with heap := s.heap.push (set0 w) } (.ref s.heap.objs.size) "set" := ⟨_, at0, rfl⟩
      have n4 := PySem.F.called_set.init.lookup
      have n5 := PySem.F.called_set.init.bind (.ref s.heap.objs.size)
      repeat (any_goals (first | assumption | wp_step))
      refine codeAny_mono (codeAny_call_builtin (R := wants (fun r s₂ => r = .none ∧ ∃ h' tk, s₂ = { s with heap := h', toks := tk } ∧ SGot P w h' s.heap.objs.size ks ks.length ∧ ∀ b o, s.heap.get? b = some o → h'.get? b = some o) E)
        PySem.F.called_set.init.plain PySem.F.entry_set_init (check_set_init_1 hT ?_)) fun r₂ s₂ hr₂ => ?_
      · obtain ⟨ol, hol, hcl, nl, hdl⟩ := hl
        obtain ⟨ocls, odict, odata, oslots⟩ := ol
        simp only at hcl hdl
        subst hcl; subst hdl
        have hol2 : (s.heap.push (set0 w)).get? l = some { cls := .type "list", dict := odict, data := .seq items nl, slots := oslots } := Heap.get?_push_of_some _ hol
        have m1 := PySem.F.sub_list_set
        have m2 := PySem.F.sub_list_frozenset
        have m3 : (Value.type "list" == Value.type "dict") = false := by decide
        have il : (s.heap.push (set0 w)).IsList l items := ⟨_, hol2, rfl, nl, rfl⟩
        unfold Builtin.«set.__init__» noKeywords Builtin.Frozenset.updateFrom
        generalize hPI : pyIter = PI
        wp_walk
        subst hPI
        refine wpAny_pyIter_list il (wpAny_bind (wpAny_runValue ?_))
        have lt : l < s.heap.objs.size := Heap.lt_size hol
        have nI : l ≠ (s.heap.push (set0 w)).objs.size := by rw [Heap.size_push]; exact Nat.ne_of_lt (Nat.lt_succ_of_lt lt)
        have nS : s.heap.objs.size ∉ [(s.heap.push (set0 w)).objs.size, l] := by
          rw [Heap.size_push]
          intro z
          rcases List.mem_cons.mp z with z | z
          · exact Nat.ne_of_lt (Nat.lt_succ_self _) z
          · exact Nat.ne_of_gt lt (List.mem_singleton.mp z)
        have gone : ∀ b, s.heap.objs.size ≤ b → s.heap.get? b = none := fun b hb => by
          cases z : s.heap.get? b with
          | none => rfl
          | some o => exact absurd (Heap.lt_size z) (Nat.not_lt.mpr hb)
        refine tset_loop (P := P) (w := w) ((Walks.list (by simp [hh]) _ l nI items).toS) s.heap.objs.size nS ks hlen few hu s.heap (gone _ (Nat.le_refl _)) (fun b hb => gone b (by rw [List.mem_singleton.mp hb, Heap.size_push]; exact Nat.le_succ _)) hk (fun i v hv => ?_) items.size 0 _ rfl ⟨⟨_, Heap.get?_push_size _ rfl, rfl, rfl⟩, il.push _⟩ (fun b o e => Heap.get?_push_of_some _ (Heap.get?_push_of_some _ e)) (sgot_fresh (Heap.get?_push_of_some _ at0)) fun s' mv T => ?_
        · have hv : items.toList[i]? = some v := by rw [Array.getElem?_toList]; exact hv
          rw [hi, List.getElem?_map] at hv
          cases z : ks[i]? with
          | none => rw [z] at hv; cases hv
          | some r => rw [z] at hv; cases hv; exact ⟨r, rfl, rfl⟩
        obtain ⟨h', g2, d', tk', os'⟩ := s'
        have e1 : g2 = s.gens := mv.gens
        have e2 : d' = s.drawn := mv.drawn
        have e3 : os' = s.os := mv.os
        subst e1; subst e2; subst e3
        show wpAny _ _ _ _ _ _
        refine wpAny_pure ?_
        show wpAny _ _ (ret Value.none) _ _ _
        refine wpAny_pure ⟨rfl, h', tk', rfl, T, fun b o e => ?_⟩
        have lb := Heap.lt_size e
        refine mv.heap b o (fun z => ?_) (Heap.get?_push_of_some _ (Heap.get?_push_of_some _ e))
        rcases List.mem_cons.mp z with z | z
        · exact Nat.ne_of_lt lb z
        · have z := List.mem_singleton.mp z
          rw [Heap.size_push] at z
          exact Nat.ne_of_lt (Nat.lt_succ_of_lt lb) z
      · cases r₂ with
        | error e => exact hr₂
        | ok fl₂ =>
          cases fl₂ with
          | ret r =>
            obtain ⟨rfl, h', tk, rfl, T, k⟩ := hr₂
            repeat (any_goals (first | assumption | wp_step))
            exact q _ _ T k
          | _ => exact hr₂.elim
    | _ => exact hr.elim
end
end VL
set_option Elab.async false
set_option linter.all false
set_option maxRecDepth 100000
set_option maxHeartbeats 4000000
namespace VL
open PySem PySem.Spec L2 PySem.W PySem.SeqAt PySem.Calls
open PyProof.Rows hiding St
def fullT : PyData → Bool
  | .tuple (_ :: _) => true
  | _ => false
section
variable {P : Program} {w : World} {A : Around} {E : Value → Shared → Prop} {s : Shared}
theorem oneLt_tup {xs ys : List PyData} {a b : Value} {as bs : List Addr} {Q : Bool → Shared → Prop} (ra : Reads s.heap a (.tuple xs) as) (rb : Reads s.heap b (.tuple ys) bs) (h : alike (.tuple xs) (.tuple ys) = true)
    (hu : A.units + min (PyData.tuple xs).depth (PyData.tuple ys).depth < cLine) (q : Q (dataLt (.tuple xs) (.tuple ys)) s) : wpAny (model P w) A (oneLt' true a b) Q E s := by
  have al : alikeAll xs ys = true := by simpa [alike] using h
  cases ra with
  | @tuple l o vs n _ _ h1 h2 h3 h4 =>
    cases rb with
    | @tuple l2 o2 vs2 n2 _ _ k1 k2 k3 k4 =>
      have z1 : vs.size = xs.length := by simpa using ReadsAll.length _ _ _ h4
      have z2 : vs2.size = ys.length := by simpa using ReadsAll.length _ _ _ k4
      rw [dataLt_tuple, ← firstLt_toks xs ys al, ← z1, ← z2] at q
      rw [oneLt'_eq]
      simp only [if_true]
      refine wpAny_bind (wpAny_cRoomFor (room_here hu) (wpAny_bind ?_))
      obtain ⟨c1, dd1, dt1, sl1⟩ := o
      obtain ⟨c2, dd2, dt2, sl2⟩ := o2
      simp only at h2 h3 k2 k3
      subst h2 h3 k2 k3
      refine wpAny_callSpecialIfBound?_slot (T := "tuple") ⟨_, h1, rfl⟩ PySem.F.slot_tuple_lt (call_meets PySem.F.slot_tuple_lt ⟨_, h1, rfl⟩ PySem.F.entry_tuple_lt (PySem.F.args_tuple_lt_2 _ _) (tuple_ltAt l l2 vs vs2 n n2 dd1 dd2 sl1 sl2 (pairEq xs ys) fun j => dataLt (xs.getD j .none) (ys.getD j .none)) ⟨h1, k1, fun j j1 j2 => ?_, fun j j1 j2 hj => ?_, ?_⟩)
      · have := eqAt_alikeAll xs ys A.in1 s vs.toList vs2.toList _ _ h4 k4 al (room_in hu) j (by simpa using j1) (by simpa using j2)
        simpa using this
      · have := rcLt_alikeAll xs ys A.in1 s vs.toList vs2.toList _ _ h4 k4 al (room_in hu) j (by simpa using j1) (by simpa using j2) hj
        simpa using this
      · exact wpAny_truthy_bool q
theorem first_tup {v : Value} {xs : List PyData} {as : List Addr} (r : Reads s.heap v (.tuple xs) as) {Q : Option Value → Shared → Prop} (q : ∀ o : Option Value, o.isSome = fullT (.tuple xs) → Q o s) : wpAny (model P w) A (firstOfTuple' v) Q E s := by
  cases r with
  | @tuple l o vs n _ _ h1 h2 h3 h4 =>
    rw [kas_first_eq]
    refine wpAny_bind (Looks.here (show Looks _ s.heap (typeOf (.ref l)) o.cls from (Looks.ld h1).andThen .now) ?_)
    rw [h2, if_neg (by simp)]
    refine wpAny_bind (listItems_at h1 h3 (wpAny_pure (q _ ?_)))
    have z : vs.toList.length = xs.length := ReadsAll.length _ _ _ h4
    rw [Array.length_toList] at z
    cases xs with
    | nil =>
      rw [Array.getElem?_eq_none (by rw [z]; exact Nat.le_refl _)]
      rfl
    | cons x r =>
      rw [Array.getElem?_eq_getElem (by rw [z]; exact Nat.succ_pos _)]
      rfl
theorem firsts_tup : ∀ {vs : List Value} {ds : List PyData} {Q : List (Option Value) → Shared → Prop}, EachIs (fun v d => ∃ as, Reads s.heap v d as) vs ds → (∀ d ∈ ds, ∃ xs, d = .tuple xs) → (∀ fs, fs.map Option.isSome = ds.map fullT → Q fs s) → wpAny (model P w) A (vs.mapM firstOfTuple') Q E s
  | _, _, _, .nil, _, q => by rw [List.mapM_nil]; exact wpAny_pure (q [] rfl)
  | v :: vs, d :: ds, _, .cons ⟨as, r⟩ e, ht, q => by
    obtain ⟨xs, rfl⟩ := ht d List.mem_cons_self
    rw [List.mapM_cons]
    refine wpAny_bind (first_tup r fun o ho => wpAny_bind (firsts_tup e (fun d hd => ht d (List.mem_cons_of_mem _ hd)) fun fs hf => wpAny_pure (q (o :: fs) ?_)))
    rw [List.map_cons, List.map_cons, ho, hf]
/-- tuples can be sorted, empty ones too -/
theorem sortsAt_tup {vs : List Value} {ds : List PyData} (e : EachIs (fun v d => ∃ as, Reads s.heap v d as) vs ds) (al : AllAlike ds) (ht : ∀ d ∈ ds, ∃ xs, d = .tuple xs) (hu : ∀ d, d ∈ ds → A.units + d.depth < cLine) : SortsAt P w A s (dataKind s.heap ds) vs := by
  by_cases full : ∀ d ∈ ds, fullT d = true
  · refine SortsAt.data e al (.inl fun d hd => ?_) hu
    obtain ⟨xs, rfl⟩ := ht d hd
    cases xs with
    | nil => exact absurd (full _ hd) (by decide)
    | cons x r => exact ⟨x, r, rfl⟩
  have room : ∀ {d d' : PyData}, d ∈ ds → A.units + min d.depth d'.depth < cLine := fun {d d'} hd => Nat.lt_of_le_of_lt (Nat.add_le_add_left (Nat.min_le_left _ _) _) (hu d hd)
  have lt : ∀ (f : Bool) (E : Value → Shared → Prop) (x y : Value) (a b : (dataKind s.heap ds).α) {Q : Bool → Shared → Prop}, (dataKind s.heap ds).keyOf x = some a → (dataKind s.heap ds).keyOf y = some b → Q ((dataKind s.heap ds).blt a b) s → wpAny (model P w) A (oneLt' f x y) Q E s := fun f E x y a b Q ka kb q => by
    obtain ⟨d, as, hd, ra, rfl⟩ := dataKind_inv ka
    obtain ⟨d', as', hd', rb, rfl⟩ := dataKind_inv kb
    obtain ⟨xs, rfl⟩ := ht d hd
    obtain ⟨ys, rfl⟩ := ht d' hd'
    cases f with
    | false => exact oneLt_alike (fun z => by cases z) ra rb (al _ hd _ hd') (fun z => by cases z) (room hd) q
    | true => exact oneLt_tup ra rb (al _ hd _ hd') (room hd) q
  refine ⟨fun v hv => ?_, ?_⟩
  · obtain ⟨d, hd, as, r⟩ := e.left v hv
    exact ⟨_, dataKind_some al hd r⟩
  have no : (ds.map fullT).all id = false := by
    cases z : (ds.map fullT).all id with
    | false => rfl
    | true =>
      refine absurd (fun d hd => ?_) full
      exact List.all_eq_true.mp z _ (List.mem_map.mpr ⟨d, hd, rfl⟩)
  have ask : ∀ {kd : SortKind}, kd = (if fullT (ds.headD .none) = true then general' else oneType') → 2 ≤ vs.length → ∀ (E : Value → Shared → Prop) {Q : SortKind → Shared → Prop}, Q kd s → wpAny (model P w) A (keyKind' vs.toArray) Q E s := fun {kd} ek h2 E Q q => by
    rw [keyKind'_eq, List.mapM_toArray, map_eq_pure_bind]
    refine wpAny_bind (wpAny_bind (firsts_tup e ht fun fs hf => wpAny_pure ?_))
    have n1 : ¬ (fs.toArray.all fun x => x.isSome) = true := by
      rw [List.all_toArray]
      intro z
      have : (fs.map Option.isSome).all id = true := by rw [List.all_map]; exact z
      rw [hf, no] at this
      cases this
    rw [if_neg n1]
    have len := e.length
    cases ds with
    | nil => rw [len] at h2; exact absurd h2 (by decide)
    | cons d0 ds =>
      cases fs with
      | nil => cases hf
      | cons f0 fs =>
        have hf0 : f0.isSome = fullT d0 := (List.cons.inj hf).1
        have e0 : ((f0 :: fs).toArray[0]?.bind id).isSome = fullT d0 := by simpa using hf0
        rw [e0]
        rw [show (d0 :: ds).headD .none = d0 from rfl] at ek
        by_cases c : fullT d0 = true
        · rw [if_pos c]
          rw [if_pos c] at ek
          rw [← ek]
          exact wpAny_pure q
        · rw [if_neg c]
          rw [if_neg c] at ek
          obtain ⟨v1, v2, rest, rfl⟩ : ∃ v1 v2 rest, vs = v1 :: v2 :: rest := by
            match vs, h2 with
            | v1 :: v2 :: rest, _ => exact ⟨v1, v2, rest, rfl⟩
          rw [oneTypeOnly'_eq, List.mapM_toArray, map_eq_pure_bind]
          refine wpAny_bind (wpAny_bind (wpAny_bind (kas_mapM (r := Value.type "tuple") _ (fun v hv Q' hq => ?_) (wpAny_pure ?_))))
          · obtain ⟨d, hd, as, r⟩ := e.left v hv
            obtain ⟨xs, rfl⟩ := ht d hd
            exact (looks_reads r).here hq
          · have all_ : ((List.map (fun _ => Value.type "tuple") (v1 :: v2 :: rest)).toArray.all fun x => x == Value.type "tuple") = true := by
              simp only [List.all_toArray, List.all_map, List.all_eq_true]
              intro _ _
              rfl
            have h0 : (List.map (fun _ => Value.type "tuple") (v1 :: v2 :: rest)).toArray[0]? = some (Value.type "tuple") := by simp
            rw [h0]
            simp only [all_, if_true]
            rw [← ek]
            exact wpAny_pure (wpAny_pure q)
  by_cases c : fullT (ds.headD .none) = true
  · exact ⟨general', fun E x y a b Q ka kb q => lt false E x y a b ka kb q, ask (by rw [if_pos c])⟩
  · exact ⟨oneType', fun E x y a b Q ka kb q => lt true E x y a b ka kb q, ask (by rw [if_neg c])⟩
end
end VL
set_option Elab.async false
set_option linter.all false
set_option maxRecDepth 100000
set_option maxHeartbeats 4000000
namespace VL
open PySem PySem.Spec L2 PySem.W
open PyProof.Rows hiding St
section
variable {P : Program} {w : World} {A : Around} {E : Value → Shared → Prop} {s : Shared} {β : Type} {enc : β → PyData} {R : Value → β → Prop} {vs : List Value} {bs : List β}
theorem list_sort_tup {a : Addr} {n : Nat} {Q : Value → Shared → Prop} (ho : s.heap.get? a = some (seqObj "list" vs.toArray n)) (e : EachIs R vs bs) (er : EachIs (fun v b => ∃ as, Reads s.heap v (enc b) as ∧ a ∉ as) vs bs) (al : AllAlike (bs.map enc)) (tp : ∀ b ∈ bs, ∃ xs, enc b = .tuple xs) (hL : bs.length ≤ sizeLine)
    (hu : ∀ b, b ∈ bs → A.units + 1 + (enc b).depth < cLine) (q : ∀ out, out.length = bs.length → EachIs R out (bs.mergeSort (dataLe false enc)) → Q .none { s with heap := sortedHeap s.heap a vs (List.toArray out) }) :
    wpAny (model P w) A (call (.builtin "list.sort") [.ref a]) Q E s := by
  have er2 : EachIs (fun v b => ∃ as, Reads (sortingHeap s.heap a vs) v (enc b) as) vs bs := each_keepBut (h' := sortingHeap s.heap a vs) (fun _ _ hb q => sortingHeap_old hb q) (fun o q => by rw [ho] at q; rw [← Option.some.inj q]) al er
  have em : EachIs (fun v d => ∃ as, Reads (sortingHeap s.heap a vs) v d as) vs (bs.map enc) := each_map (R := fun v d => ∃ as, Reads (sortingHeap s.heap a vs) v d as) enc er2
  have tm : ∀ d ∈ bs.map enc, ∃ xs, d = .tuple xs := fun d hd => by
    obtain ⟨b, hb, rfl⟩ := List.mem_map.mp hd
    exact tp b hb
  refine wpAny_call_entry slot_list_sort ⟨_, ho, rfl⟩ entry_list_sort (list_sort_vals (κ := dataKind (sortingHeap s.heap a vs) (bs.map enc)) ho (sortsAt_tup (s := { s with heap := sortingHeap s.heap a vs }) em al tm (bound_map hu)) (by rw [e.length]; exact hL) ⟨.none, rfl, ?_⟩) (args_list_sort _)
  exact q _ (by rw [sortVals_length false rfl]; exact e.length) (sortVals_data false e er2 al)
/-- what sorted asks of the values that were gathered -/
structure SrtOkT (h : Heap) (A : Around) (R : Value → β → Prop) (enc : β → PyData) (vs : List Value) (bs : List β) : Prop where
  is : EachIs R vs bs
  rd : EachIs (fun v b => ∃ as, Reads h v (enc b) as) vs bs
  al : AllAlike (bs.map enc)
  tp : ∀ b ∈ bs, ∃ xs, enc b = .tuple xs
  ln : bs.length ≤ sizeLine
  dp : ∀ b ∈ bs, A.units + 2 + (enc b).depth < cLine
theorem sorted_colT {v : Value} {Q : Value → Shared → Prop} (hc : wpAny (model P w) A.in1 (collect v) (fun vs s1 => ∃ bs, SrtOkT s1.heap A R enc vs bs ∧
      ∀ (s2 : Shared) (out : List Value) (c : Nat), (∀ b o, s1.heap.get? b = some o → s2.heap.get? b = some o) → s2.gens = s1.gens → s2.os = s1.os → s2.heap.get? s1.heap.objs.size = some (seqObj "list" out.toArray c) →
        EachIs R out (bs.mergeSort (dataLe false enc)) → Q (.ref s1.heap.objs.size) s2) E s) : wpAny (model P w) A (call (.builtin "sorted") [v]) Q E s := by
  refine Calls.call_function_entry kind_sorted plain_sorted entry_sorted (args_sorted1 _) ?_
  unfold Builtin.«sorted»
  refine wpAny_bind (m := checkCount "sorted" 1 1 _) (wpAny_pure ?_)
  refine wpAny_bind (wpAny_mono hc (fun vs s1 h1 => ?_) fun _ _ e => e)
  obtain ⟨bs, ok, q⟩ := h1
  have hvl : vs.length = bs.length := by
    have := ok.is
    clear q ok
    induction this with
    | nil => rfl
    | cons _ _ ih => rw [List.length_cons, List.length_cons, ih]
  refine wpAny_bind (wpAny_newList ?_ (by rw [hvl]; exact ok.ln))
  have keep : ∀ b o, s1.heap.get? b = some o → (s1.heap.push (seqObj "list" vs.toArray 0)).get? b = some o := fun b o e => Heap.get?_push_of_some _ e
  have new : s1.heap.get? s1.heap.objs.size = none := by
    cases z : s1.heap.get? s1.heap.objs.size with
    | none => rfl
    | some o => exact absurd (Heap.lt_size z) (Nat.lt_irrefl _)
  have at_ : (s1.heap.push (seqObj "list" vs.toArray 0)).get? s1.heap.objs.size = some (seqObj "list" vs.toArray 0) := Heap.get?_push_size _ rfl
  refine wpAny_bind (wpAny_holding (list_sort_tup (s := { s1 with heap := s1.heap.push (seqObj "list" vs.toArray 0) }) (enc := enc) at_ ok.is (ok.rd.mono fun u b ⟨as, r⟩ => ⟨as, PyProof.Rows.Reads.keeps keep r, reads_new new _ _ _ r⟩) ok.al ok.tp ok.ln (fun b hb => by
    have := ok.dp b hb
    show A.units + 1 + 1 + _ < _
    exact this) fun out ho he => ?_))
  obtain ⟨c, hcc⟩ := sortedHeap_at (vs := vs) (out := out.toArray) at_
  refine wpAny_pure ⟨_, rfl, q _ out c (fun b u e => ?_) rfl rfl hcc he⟩
  have lt := Heap.lt_size e
  show (sortedHeap (s1.heap.push (seqObj "list" vs.toArray 0)) s1.heap.objs.size vs out.toArray).get? b = some u
  rw [sortedHeap_old (Nat.ne_of_lt lt) (by rw [Heap.size_push]; exact Nat.lt_succ_of_lt lt)]
  exact keep b u e
end
theorem perm_map_of {α β : Type} {f : α → β} {out m : List β} (h : out.Perm m) : ∀ L : List α, m = L.map f → ∃ L1 : List α, L1.Perm L ∧ out = L1.map f := by
  induction h with
  | nil =>
    intro L e
    cases L with
    | nil => exact ⟨[], .nil, rfl⟩
    | cons a L => cases e
  | cons x h ih =>
    intro L e
    cases L with
    | nil => cases e
    | cons a L =>
      obtain ⟨e1, e2⟩ := List.cons.inj e
      obtain ⟨L1, p, r⟩ := ih L e2
      exact ⟨a :: L1, p.cons a, by rw [e1, r]; rfl⟩
  | swap x y l =>
    intro L e
    match L, e with
    | a :: b :: L, e =>
      obtain ⟨e1, e2⟩ := List.cons.inj e
      obtain ⟨e3, e4⟩ := List.cons.inj e2
      exact ⟨b :: a :: L, .swap a b L, by rw [e1, e3, e4]; rfl⟩
  | trans h1 h2 ih1 ih2 =>
    intro L e
    obtain ⟨L2, p2, r2⟩ := ih2 L e
    obtain ⟨L1, p1, r1⟩ := ih1 L2 r2
    exact ⟨L1, p1.trans p2, r1⟩
def encG (g : List Str) : PyData := .tuple (g.map PyData.str)
def leG (a b : List Str) : Bool := dataLe false encG a b
theorem py_strs : ∀ l : List Str, pyAll (l.map D.str) = l.map PyData.str
  | [] => rfl
  | x :: l => by show PyData.str x :: pyAll (l.map D.str) = _; rw [py_strs l]; rfl
theorem py_tS (l : List Str) : py (tS l) = encG l := by
  show PyData.tuple (pyAll (l.map D.str)) = _
  rw [py_strs]; rfl
theorem pl_tS (l : List Str) : pl (tS l) = true := by
  show plAll (l.map D.str) = true
  induction l with
  | nil => rfl
  | cons x l ih => show (true && plAll (l.map D.str)) = true; rw [ih]; rfl
theorem alike_tx : ∀ (a b : List Str), alikeAll (a.map PyData.str) (b.map PyData.str) = true
  | [], [] => rfl
  | [], _ :: _ => rfl
  | _ :: _, [] => rfl
  | x :: a, y :: b => by
    show (alike (.str x) (.str y) && alikeAll (a.map PyData.str) (b.map PyData.str)) = true
    rw [alike_tx a b]; rfl
theorem alike_encG (a b : List Str) : alike (encG a) (encG b) = true := by
  unfold encG
  simp only [alike]
  exact alike_tx a b
theorem depth_tx : ∀ l : List Str, PyData.depthAll (l.map PyData.str) = 0
  | [] => rfl
  | x :: l => by simp only [List.map_cons, PyData.depthAll, PyData.depth, depth_tx l]; rfl
theorem depth_encG (l : List Str) : (encG l).depth ≤ 1 := by
  unfold encG
  simp only [PyData.depth, depth_tx]
  decide
/-- a list of tuples of texts: ks their places and texts -/
def TgOf (K : PySem.W.Frag) (H : Hp) (x : V) (ks : List RowG) : Prop := ∃ l, x = .ref l ∧ SqL K H l (ks.map fun r => V.ref r.1) ∧ ∀ r ∈ ks, SqX K H r.1 (r.2.map V.str)
theorem nodup_few {α : Type} [DecidableEq α] : ∀ {xs ys : List α}, xs.Nodup → (∀ x ∈ xs, x ∈ ys) → xs.length ≤ ys.length
  | [], _, _, _ => Nat.zero_le _
  | x :: xs, ys, nd, h => by
    obtain ⟨n1, n2⟩ := List.nodup_cons.mp nd
    have hx := h x List.mem_cons_self
    have ih := nodup_few (ys := ys.erase x) n2 fun y hy => (List.mem_erase_of_ne (fun e => n1 (by rw [← e]; exact hy))).mpr (h y (List.mem_cons_of_mem _ hy))
    rw [List.length_erase_of_mem hx] at ih
    have := List.length_pos_of_mem hx
    rw [List.length_cons]
    omega
/-- few texts among them -/
def fewG (gs : List (List Str)) : Prop := ∃ B : List (List Str), B.length < 63 ∧ ∀ g ∈ gs, g ∈ B
theorem fewG_of {ks : List RowG} (h : fewG (ks.map (·.2))) : ∀ L : List RowG, (∀ y ∈ L, y ∈ ks) → (L.map (·.2)).Nodup → L.length < 63 := fun L m nd => by
  obtain ⟨B, hB, hb⟩ := h
  have := nodup_few (ys := B) nd fun g hg => by
    obtain ⟨y, hy, rfl⟩ := List.mem_map.mp hg
    exact hb _ (List.mem_map.mpr ⟨y, m y hy, rfl⟩)
  rw [List.length_map] at this
  omega
def tSortSetG (K : PySem.W.Frag) (ta : TE) : TE := fun σ H Q => ta σ H fun x H1 => ∃ ks : List RowG, TgOf K H1 x ks ∧ fewG (ks.map (·.2)) ∧ ∀ p (L : List RowG), (∀ r ∈ L, r ∈ ks) → (∀ r ∈ ks, r.2 ∈ L.map (·.2)) → (L.map (·.2)).Nodup → (L.map (·.2)).Pairwise (fun a b => leG a b = true) → H1 p = none → Q (.ref p) (upd H1 p (.lst (L.map fun r => V.ref r.1)))
theorem refs_tx : ∀ {ks : List RowG} {us : List Value}, Vals (ks.map fun r => V.ref r.1) us → us = ks.map fun r => Value.ref r.1
  | [], _, .nil => rfl
  | r :: ks, _, .cons a t => by cases a; rw [refs_tx t]; rfl
theorem vals_tx : ∀ ks : List RowG, Vals (ks.map fun r => V.ref r.1) (ks.map fun r => Value.ref r.1)
  | [] => .nil
  | r :: ks => .cons rfl (vals_tx ks)
theorem items_of_tx {P : Program} {w : World} : ∀ {g : List Str} {us : List Value}, Vals (g.map V.str) us → ItemsAre (PySem.strKind P w) g us
  | [], _, .nil => .nil
  | x :: g, _, .cons r t => by
    obtain ⟨k, rfl⟩ := r
    exact .cons (strKind_is P w x k) (items_of_tx t)
theorem each_refs : ∀ ks : List RowG, EachIs (fun u (r : RowG) => u = Value.ref r.1) (ks.map fun r => Value.ref r.1) ks
  | [] => .nil
  | r :: ks => .cons rfl (each_refs ks)
theorem refs_each {ks : List RowG} {us : List Value} (h : EachIs (fun u (r : RowG) => u = Value.ref r.1) us ks) : us = ks.map fun r => Value.ref r.1 := by
  induction h with
  | nil => rfl
  | cons a t ih => rw [ih, a]; rfl
section
variable {X : Cx} {a : Expr} {ta : TE} {p p2 q pos : Pos}
theorem tupAt_of {pins : List (Addr × Obj)} {σ : L2.St} {H : Hp} {s : Shared} {b : Addr} {g : List Str} (I : Inv X pins σ H s) (h : SqT X.K H b (g.map V.str)) : TupAt X.prog X.w s.heap g b := by
  obtain ⟨its, r, ⟨o, ho, hc, n, hd⟩, _⟩ := I.tuple h
  exact ⟨o, its.toArray, n, ho, hc, hd, by simpa using items_of_tx r⟩
theorem pe_sortSetG (hc : X.calm = true) {k : Nat} (hr : Room k X.A) (hg : Gl X "sorted") (hm : X.mg "sorted" = none) (hv : bootBuiltins "sorted" = some (.builtin "sorted")) (hg2 : Gl X "set") (hm2 : X.mg "set" = none) (ha : PE X a ta)
    (na : starEach [a] X.env = (false, eval a X.env) :: starEach [] X.env := by rfl) : PE X (.Call (.Name "sorted" p) [.Call (.Name "set" p2) [a] [] q] [] pos) (tSortSetG X.K ta) := by
  refine ⟨fun pins s σ H Q I h => ?_⟩
  have un := hr.un
  refine Call_ (ld_blt I hg hm hv ?_)
  refine PyProof.Rows.callWith_builtin1 (PyProof.Rows.args_cons ?_ rfl) rfl rfl
  refine Call_ (ld_blt I hg2 hm2 boot_set ?_)
  refine PyProof.Rows.callWith_type1 (PyProof.Rows.args_cons (thn (ha.run pins s σ H _ I h) fun v s1 ⟨x, H1, I1, r1, q1⟩ => PyProof.Rows.args_nil ?_) na) na rfl
  obtain ⟨ks, ⟨l, rfl, hs, ht⟩, few, q1⟩ := q1
  cases r1
  obtain ⟨its, rv, pl, _⟩ := I1.list hs
  refine call_setG ks (I1.ok.hd hc) pl.isList (by simpa using refs_tx rv) (fun r hr => tupAt_of I1 (ht r hr).sq) (fewG_of few) (by omega) fun h' tk G kp => PyProof.Rows.args_nil ?_
  have I2 : Inv X pins σ H1 { s1 with heap := h', toks := tk } := I1.kept kp
  obtain ⟨L, es, ep, t, T, g1, g2, g3⟩ := G
  rw [List.take_length] at g1 g2
  obtain ⟨o, ho, hex, hd⟩ := T.obj
  have sz := ent_size T.ent
  have lt := T.few
  refine sorted_colT (R := fun u (y : RowG) => u = Value.ref y.1) (enc := fun y => encG y.2) (collect_set (A := X.A.in1) (I2.ok.hd hc) ⟨o, ho, hex.1, hd⟩ T.fits (by unfold scanBound; omega) T.tab.ris T.led fun s2 out k1 hz gg oo po => ?_)
  have e1 : es.toList.map (·.2) = L.map fun r => Value.ref r.1 := by rw [T.ent, List.map_map]; rfl
  rw [e1] at po
  obtain ⟨L1, p1, rfl⟩ := perm_map_of po L rfl
  have I3 : Inv X pins σ H1 { s1 with heap := s2.heap, toks := s1.toks } := I1.kept fun b o e => k1 b o (kp b o e)
  have mem1 : ∀ r ∈ L1, r ∈ ks := fun r hr => g1 r (p1.mem_iff.mp hr)
  have small2 : L1.length ≤ sizeLine := Nat.le_of_lt (small1000 (by rw [p1.length_eq]; omega))
  refine ⟨L1, ⟨each_refs L1, ?_, AllAlike.of fun x y => alike_encG x.2 y.2, fun r _ => ⟨_, rfl⟩, small2, fun r _ => ?_⟩, fun s3 o2 c k2 g4 os2 at_ eo => ?_⟩
  · refine each_and (each_refs L1) fun u r hr eu => ?_
    subst eu
    have rp : Rp X.K H1 (.ref r.1) (tS r.2) := .tup (ht r (mem1 r hr)) (rp_strs r.2)
    have := Dp.reads I3 _ _ (Value.ref r.1) (Rp.dp _ _ rp (pl_tS r.2)) rfl
    rw [py_tS] at this
    exact this
  · have := depth_encG r.2
    show X.A.units + 2 + (encG r.2).depth < cLine
    omega
  · rw [refs_each eo] at at_
    have pm : (L1.mergeSort (dataLe false fun y : RowG => encG y.2)).Perm L := (List.mergeSort_perm _ _).trans p1
    have pw : ((L1.mergeSort (dataLe false fun y : RowG => encG y.2)).map (·.2)).Pairwise fun a b => leG a b = true := List.pairwise_map.mpr (sort_pairwise (sortLe_total (listOrd itemOrd) false fun y : RowG => keyToks (encG y.2)) L1)
    generalize L1.mergeSort (dataLe false fun y : RowG => encG y.2) = L2 at pm pw at_
    have J := Inv.newList (ys := L2.map fun r => V.ref r.1) I2 (fun b o e => k2 b o (k1 b o e)) (g4.trans gg) (os2.trans oo) hz at_ (vals_tx L2) (by rw [List.length_map, pm.length_eq]; exact Nat.le_of_lt (small1000 (by omega)))
    exact ⟨.ref _, _, J, rfl, q1 _ L2 (fun r hr => g1 r (pm.mem_iff.mp hr)) (fun r hr => (pm.map (·.2)).mem_iff.mpr (g2 r hr)) ((pm.map (·.2)).nodup_iff.mpr T.uniq) pw (I2.hok.fresh hz)⟩
end
section
variable {W : Wc} {X : Cx} {K : PySem.W.Frag} {a : Expr} {ta : TE} {da : TDE} {p p2 q pos : Pos}
theorem rows_rp {H : Hp} : ∀ {gs : List (List Str)} {vs : List V}, RpAll K H vs (gs.map tS) → ∃ ks : List RowG, vs = ks.map (fun r => V.ref r.1) ∧ gs = ks.map (·.2) ∧ ∀ r ∈ ks, SqX K H r.1 (r.2.map V.str)
  | [], _, h => by cases h; exact ⟨[], rfl, rfl, fun _ z => by cases z⟩
  | g :: gs, _, h => by
    cases h with
    | cons a h =>
      obtain ⟨ks, e1, e2, e3⟩ := rows_rp h
      cases a with
      | @tup b xs _ h1 h2 =>
        have ex : xs = g.map V.str := by
          clear h1
          induction g generalizing xs with
          | nil => cases h2; rfl
          | cons y g ih =>
            cases h2 with
            | cons b h2 => cases b; rw [ih h2]; rfl
        subst ex
        refine ⟨(b, g) :: ks, by rw [e1]; rfl, by rw [e2]; rfl, fun r hr => ?_⟩
        rcases List.mem_cons.mp hr with rfl | hr
        · exact h1
        · exact e3 r hr
theorem rp_rows {H : Hp} : ∀ {ks : List RowG}, (∀ r ∈ ks, SqX K H r.1 (r.2.map V.str)) → RpAll K H (ks.map fun r => V.ref r.1) ((ks.map (·.2)).map tS)
  | [], _ => .nil
  | r :: ks, h => .cons (.tup (h r List.mem_cons_self) (rp_strs r.2)) (rp_rows fun y hy => h y (List.mem_cons_of_mem _ hy))
def rdSortSetG (da : TDE) : TDE := fun Γ Q => da Γ fun d Γ1 => ∃ gs : List (List Str), d = .lst (gs.map tS) ∧ fewG gs ∧ ∀ ys : List (List Str), ys.Nodup → (∀ g, g ∈ ys ↔ g ∈ gs) → ys.Pairwise (fun a b => leG a b = true) → Q (.lst (ys.map tS)) Γ1
theorem df_sortSetG (hK : X.K = K) (hc : X.calm = true) {k : Nat} (hr : Room k X.A) (hg : Gl X "sorted") (hm : X.mg "sorted" = none) (hv : bootBuiltins "sorted" = some (.builtin "sorted")) (hg2 : Gl X "set") (hm2 : X.mg "set" = none) (ha : DE W X a ta da)
    (na : starEach [a] X.env = (false, eval a X.env) :: starEach [] X.env := by rfl) : DF W X (.Call (.Name "sorted" p) [.Call (.Name "set" p2) [a] [] q] [] pos) (tSortSetG K ta) (rdSortSetG da) := by
  subst hK
  refine ⟨pe_sortSetG hc hr hg hm hv hg2 hm2 ha.pe na, fun Γ σ Hv H Q Q' E h k => ?_⟩
  refine ha.ad Γ σ Hv H _ _ E h fun x d Γ1 Hv1 H1 s1 r1 q => ?_
  obtain ⟨gs, rfl, few, q⟩ := q
  cases r1 with
  | lst h1 r2 =>
    obtain ⟨ks, rfl, rfl, e3⟩ := rows_rp r2
    refine ⟨ks, ⟨_, rfl, .of (s1.ev.ret.sub.lst h1), fun r hr => seqX s1.ev.ret.sub (e3 r hr)⟩, few, fun p L m1 m2 nd pw hp => ?_⟩
    obtain ⟨s2, F⟩ := s1.alloc0 (.lst (L.map fun r => V.ref r.1)) hp
    exact k p _ (.lst _) Γ1 _ _ s2 (s1.was hp) upd_same ⟨_, rfl, rp_rows fun r hr => e3 r (m1 r hr)⟩ F (q (L.map (·.2)) nd (fun g => ⟨fun m => by
      obtain ⟨r, hr, rfl⟩ := List.mem_map.mp m
      exact List.mem_map.mpr ⟨r, m1 r hr, rfl⟩, fun m => by
      obtain ⟨r, hr, rfl⟩ := List.mem_map.mp m
      exact m2 r hr⟩) pw)
end
end VL
set_option Elab.async false
set_option linter.all false
set_option maxRecDepth 100000
set_option maxHeartbeats 4000000
namespace VL
open PySem PySem.Spec L2
open PyProof.Rows hiding St
end VL
set_option Elab.async false
set_option linter.all false
set_option maxRecDepth 100000
set_option maxHeartbeats 4000000
namespace VL
open PySem PySem.Spec L2
open PyProof.Rows hiding St
section
variable {W : Wc} {X : Cx} {e : Expr} {te : TE} {de : TDE} {x : Str} {i : Nat} {pos pos' p : Pos}
theorem Ret.share {J : Vol} {Hv H Hv' H' : Hp} {p : Addr} {u : HO} (R : Ret J.vol J.inv Hv H Hv' H') (inv : J.inv H) (hp : H p = none) (hq : H' p = some u) (hn : Hv' p = none) : Ret J.vol J.inv Hv H (upd Hv' p u) H' := by
  refine ⟨R.sv.trans (same_upd hn), fun a o e => ?_, R.old, R.inv, fun a v => ?_, fun a z e => ?_, R.nt⟩
  · by_cases h : a = p
    · subst h; rw [upd_same] at e; cases e; exact .inl hq
    · rw [upd_ne h] at e; exact R.sub a o e
  · rw [upd_ne (fun z => J.there H a inv v (by rw [z]; exact hp))]
    exact R.nv a v
  · rw [upd_ne (fun q => e (by rw [q]; exact hp))]
    exact R.grow a z e
variable {es : List Expr} {t : TA} {dt : TDF} {CX : CXT} {k : Nat} {f : Addr} {fd : FuncData} {ps : List Str} {F : FD} {dvs : List V} {dds : List D} {ds : List Value} {E : XK} {K : PySem.W.Frag}
def rdRetF (de : TDE) : TDS := fun E Γ => de Γ fun d _ => E.rf d
end
end VL
set_option Elab.async false
set_option linter.all false
set_option maxRecDepth 100000
set_option maxHeartbeats 4000000
namespace VL
open PySem PySem.Spec L2
open PyProof.Rows hiding St
section
variable {W : Wc} {X : Cx} {K : PySem.W.Frag} {a b : Expr} {ta tb : TE} {da db : TDE} {pos p apos cpos : Pos} {x : Str} {i : Nat}
def ixOf (zs : List Str) (z : Str) : Option Nat := zs.findIdx? fun y => decide (y = z)
theorem ixOf_some {zs : List Str} {z : Str} {j : Nat} (h : ixOf zs z = some j) : zs[j]? = some z ∧ ∀ m, m < j → zs[m]? ≠ some z := by
  obtain ⟨hj, h1, h2⟩ := List.findIdx?_eq_some_iff_getElem.mp h
  refine ⟨by rw [List.getElem?_eq_getElem hj, of_decide_eq_true h1], fun m hm e => ?_⟩
  have hm' : m < zs.length := by omega
  rw [List.getElem?_eq_getElem hm'] at e
  exact h2 m hm (decide_eq_true (Option.some.inj e))
def rdPkRep (i : Nat) : TDE := fun Γ Q => pkG Γ i fun d => okQ d ∧ Q (.str (PyData.shown (py d))) Γ
end
end VL
set_option Elab.async false
set_option linter.all false
set_option maxRecDepth 100000
set_option maxHeartbeats 4000000
namespace VL
open PySem PySem.Spec L2
open PyProof.Rows hiding St
mutual
inductive KeyAt (K : PySem.W.Frag) (H : Hp) : V → NestedKey → Prop
  | non : KeyAt K H .non .none
  | bl (b : Bool) : KeyAt K H (.bl b) (.num (if b = true then 1 else 0))
  | int (i : Int) : KeyAt K H (.int i) (.num i)
  | str (x : Str) : KeyAt K H (.str x) (.text x)
  | tup {a : Addr} {xs : List V} {ks : List NestedKey} : SqT K H a xs → KeyAll K H xs ks → KeyAt K H (.ref a) (.tup ks)
inductive KeyAll (K : PySem.W.Frag) (H : Hp) : List V → List NestedKey → Prop
  | nil : KeyAll K H [] []
  | cons {v : V} {vs : List V} {k : NestedKey} {ks : List NestedKey} : KeyAt K H v k → KeyAll K H vs ks → KeyAll K H (v :: vs) (k :: ks)
end
section
variable {K : PySem.W.Frag} {H : Hp}
mutual
theorem Rp.key : ∀ (d : D) (v : V) (k : NestedKey), Rp K H v d → keyN d = some k → KeyAt K H v k
  | .non, _, _, .non, e => by unfold keyN at e; cases e; exact .non
  | .bl _, _, _, .bl b, e => by unfold keyN at e; cases e; exact .bl b
  | .int _, _, _, .int i, e => by unfold keyN at e; cases e; exact .int i
  | .str _, _, _, .str x, e => by unfold keyN at e; cases e; exact .str x
  | .tup ds, _, k, .tup h hs, e => by
    unfold keyN at e
    obtain ⟨ks, e1, rfl⟩ := Option.map_eq_some_iff.mp e
    exact .tup h.sq (RpAll.key ds _ ks hs e1)
  | .ty _, _, _, _, e => by unfold keyN at e; cases e
  | .ref _, _, _, _, e => by unfold keyN at e; cases e
  | .lst _, _, _, _, e => by unfold keyN at e; cases e
  | .dic _ _, _, _, _, e => by unfold keyN at e; cases e
  | .obj _ _ _, _, _, _, e => by unfold keyN at e; cases e
  | .exc _ _ _, _, _, _, e => by unfold keyN at e; cases e
  | .fz _, _, _, _, e => by unfold keyN at e; cases e
  | .dct _ _ _, _, _, _, e => by unfold keyN at e; cases e
  | .wtup _, _, _, _, e => by unfold keyN at e; cases e
theorem RpAll.key : ∀ (ds : List D) (vs : List V) (ks : List NestedKey), RpAll K H vs ds → keyNs ds = some ks → KeyAll K H vs ks
  | [], _, _, .nil, e => by unfold keyNs at e; cases e; exact .nil
  | d :: ds, _, ks, .cons h hs, e => by
    unfold keyNs at e
    cases e1 : keyN d with
    | none => rw [e1] at e; cases e
    | some k =>
      cases e2 : keyNs ds with
      | none => rw [e1, e2] at e; cases e
      | some ks' =>
        rw [e1, e2] at e
        cases e
        exact .cons (Rp.key d _ k h e1) (RpAll.key ds _ ks' hs e2)
end
end
section
variable {X : Cx} {pins : List (Addr × Obj)} {σ : L2.St} {H : Hp} {s : Shared}
mutual
theorem KeyAt.is (I : Inv X pins σ H s) : ∀ (k : NestedKey) (v : V) (u : Value), KeyAt X.K H v k → RelV v u → NestedIs s.heap k u
  | .none, _, u, .non, r => by cases r; exact .none
  | .num _, _, u, .bl b, r => by cases r; exact .bool rfl
  | .num _, _, u, .int i, r => by obtain ⟨t, rfl⟩ := r; exact .int i t
  | .text _, _, u, .str x, r => by obtain ⟨t, rfl⟩ := r; exact .text x t
  | .tup ks, _, u, .tup h hs, r => by
    cases r
    obtain ⟨its, rv, ⟨o, ho, hc, n, hd⟩, _⟩ := I.tuple h
    exact .tup ho hc hd (by simpa using KeyAll.is I ks _ its hs rv)
theorem KeyAll.is (I : Inv X pins σ H s) : ∀ (ks : List NestedKey) (vs : List V) (us : List Value), KeyAll X.K H vs ks → Vals vs us → NestedAll s.heap ks us
  | [], _, _, .nil, .nil => .nil
  | k :: ks, _, _, .cons h hs, .cons r rs => .cons (KeyAt.is I k _ _ h r) (KeyAll.is I ks _ _ hs rs)
end
end
end VL
set_option Elab.async false
set_option linter.all false
set_option maxRecDepth 100000
set_option maxHeartbeats 4000000
namespace VL
open PySem PySem.Spec L2 PySem.W
open PyProof.Rows hiding St
end VL
set_option Elab.async false
set_option linter.all false
set_option maxRecDepth 100000
set_option maxHeartbeats 4000000
namespace VL
open PySem PySem.Spec L2 StX ClX
open PyProof.Rows hiding St
section
variable {X : Cx} {CX : CXT} {k : Nat} {f C p g : Addr} {mc : Value} {sp : Sp} {E : XK} {o e fe : Expr} {m : Str} {pos apos : Pos} {te ta tf : TE} {pl : Sem Bool}
/-- fe(*e), fe an expression that gives the class at C -/
def tMakeL (C : Addr) (sp : Sp) (E : XK) (tf : TE) (t : TA) : TE := fun σ H Q => tf σ H fun y H1 => y = V.ref C ∧ tMakeR C sp E t σ H1 Q
theorem pe_makeLS1 (M : Mk X.K C f) (F : FnR X.prog X.w X.K X.mg X.base CX k f sp) (hr : Room (k + 1) X.A) (hx : Passes CX X E) (hf : PE X fe tf) (he : PE X e te)
    (ht : eval (.Call fe [.Starred e sp_] [] pos) X.env = (do callWith pos (← eval fe X.env) [] (backTo pos (starEach [.Starred e sp_] X.env)) (backToKw pos (keywordEach [] X.env))) := by rfl)
    (hst : starEach [.Starred e sp_] X.env = [(true, eval e X.env)] := by rfl) : PE X (.Call fe [.Starred e sp_] [] pos) (tMakeL C sp E tf (tStar X.K te tNil)) := by
  refine ⟨fun pins s σ H Q I h => ?_⟩
  refine Call_ (thn (hf.run pins s σ H _ I h) fun u0 s0 ⟨y0, H0, I0, r0, e0, h⟩ => ?_) ht
  subst e0
  obtain rfl : u0 = Value.ref C := r0
  refine PySem.W.callWith_S (h₀ := X.base) I0.ok.mod.kin M.kp (thn (he.run pins s0 σ H0 _ I0 h) fun v s1 ⟨y, H1, I1, ry, a, xs, ey, hxs, q⟩ => ?_) hst
  subst ey
  obtain rfl : v = Value.ref a := ry
  have w1 : ∀ x dx, H1 x = none → H1 dx = none → dx ≠ x → sp (V.ref x :: (xs ++ [])) (upd (upd H1 dx (.own x)) x (.ins C dx [])) (fun v H2 => v = .non ∧ Q (.ref x) H2) E := q
  rw [List.append_nil] at w1
  exact star_any I1 hxs fun us s2 I2 rv => ⟨I2.kIn, run_makeR M F hr hx I2 rv w1⟩
/-- C.m(), m a classmethod -/
theorem pe_cmeth0 (hc : PE X o ta) (r : CRead X.K C mc) (c : CMet X.K C mc m p g) (F : FnR X.prog X.w X.K X.mg X.base CX k g sp) (hr : Room k X.A) (hx : Passes CX X E)
    (ht : eval (.Call (.Attribute o m apos) [] [] pos) X.env = (do
      let ov ← eval o X.env
      standAt apos.atName
      let (f, first) ← holding [ov] (getMethod ov m pl)
      callWith pos f first (backTo pos (starEach [] X.env)) (backToKw pos (keywordEach [] X.env))) := by rfl) :
    PE X (.Call (.Attribute o m apos) [] [] pos) (tCMeth C sp E ta tNil) := by
  refine ⟨fun pins s σ H Q I h => ?_⟩
  refine PySem.W.methodCall_KW (pl := pl) (thn (hc.run pins s σ H _ I h) fun u s1 ⟨x, H1, I1, rx, ex, q⟩ => ?_) ht
  subst ex
  obtain rfl : u = Value.ref C := rx
  exact getmethcm_ok I1 r c fun s2 I2 => PySem.W.callWith_M0 ⟨pin_at I2, I2.kIn⟩ c.fi (run_cm F hr hx I2 .nil q)
end
section
variable {W : Wc} {X : Cx} {K : PySem.W.Frag} {CX : CXT} {k : Nat} {f C p g : Addr} {mc : Value} {F : FX} {FP : FD} {E : XK} {xk : D → Prop} {x m : Str} {e fe : Expr} {te tf : TE} {de df : TDE} {pos apos px : Pos} {pl : Sem Bool}
def rdMkL (C : Addr) (F : FX) (xk : D → Prop) (df : TDE) (dt : TDF) : TDE := fun Γ Q => df Γ fun c Γ1 => c = .ref C ∧ rdCallS F xk dt Γ1 Q
theorem d_makeLS1 (hK : X.K = K) (hk : Xok W K E xk) (M : Mk K C f) (G : FnR X.prog X.w X.K X.mg X.base CX k f (starSp 1 (spInitX Vol.no K C F))) (hr : Room (k + 1) X.A) (hx : Passes CX X E) (hf : DE W X fe tf df) (he : DE W X e te de)
    (ht : eval (.Call fe [.Starred e sp_] [] pos) X.env = (do callWith pos (← eval fe X.env) [] (backTo pos (starEach [.Starred e sp_] X.env)) (backToKw pos (keywordEach [] X.env))) := by rfl)
    (hst : starEach [.Starred e sp_] X.env = [(true, eval e X.env)] := by rfl) : DE W X (.Call fe [.Starred e sp_] [] pos) (tMakeL C (starSp 1 (spInitX Vol.no K C F)) E tf (tStar K te tNil)) (rdMkL C F xk df (rdStar de rdNil)) := by
  subst hK
  have ha : DA W X [.Starred e sp_] (tStar X.K te tNil) (rdStar de rdNil) := da_star rfl he da_nil hst
  refine ⟨pe_makeLS1 M G hr hx hf.pe he.pe ht hst, fun Γ σ Hv H Q Q' Z h kk => ?_⟩
  refine hf.ad Γ σ Hv H _ _ Z h fun v c Γ1 Hv1 H1 s1 r1 q => ?_
  obtain ⟨rfl, q⟩ := q
  cases r1
  exact ⟨rfl, ad_makeS hk ha.ad Γ1 σ Hv1 H1 _ _ s1.ev q fun v d Γ2 Hv2 H2 s2 r2 q2 => kk v d Γ2 Hv2 H2 (s1.trans s2) r2 q2⟩
/-- the promise of a classmethod: the class ahead of the data -/
def spC (C : Addr) (K : PySem.W.Frag) (FP : FD) : Sp := fun vs H Q E => ∃ ws, vs = V.ref C :: ws ∧ spD Vol.no K FP ws H Q E
theorem d_cmeth0 (hK : X.K = K) (hg : Gl X x) (hm : X.mg x = some (.ref C)) (r : CRead K C mc) (c : CMet K C mc m p g) (G : FnR X.prog X.w X.K X.mg X.base CX k g (spC C K FP)) (hr : Room k X.A) (hx : Passes CX X E) (hd : (x == ("__debug__" : Str)) = false := by decide)
    (ht : eval (.Call (.Attribute (.Name x px) m apos) [] [] pos) X.env = (do
      let ov ← eval (.Name x px) X.env
      standAt apos.atName
      let (f, first) ← holding [ov] (getMethod ov m pl)
      callWith pos f first (backTo pos (starEach [] X.env)) (backToKw pos (keywordEach [] X.env))) := by rfl) :
    DE W X (.Call (.Attribute (.Name x px) m apos) [] [] pos) (tCMeth C (spC C K FP) E (tC (.ref C)) tNil) (rdCall FP [] rdNil) := by
  subst hK
  refine ⟨pe_cmeth0 (pe_glob hg hm rfl hd) r c G hr hx ht, fun Γ σ Hv H Q Q' Z h kk => ?_⟩
  exact ⟨rfl, [], rfl, ad_callP (E := E) (fun _ => .nil) (da_nil (W := W) (X := X)).ad Γ σ Hv H Q Q' Z h kk⟩
end
section
variable {K : PySem.W.Frag} {P : Program} {w : World} {mg : Str → Option Value} {base : Heap}
theorem fn_cls {x qual : Str} {st : Stmt} {f C : Addr} {fd : FuncData} {N ps : List Str} {k : Nat} {Fd : FD} (F : Fun K x qual st f fd) (S : FnScope N ps (defScope st)) (len : ∀ ds Q, Fd ds Q → ds.length + 1 = ps.length)
    (hbody : ∀ (cdv : Value) (A : Around) (outer : List Env) (s : Shared) (H : Hp) (E : XK) (W : Wc), W.J = Vol.no → Room k (A.deeper (envOfC qual (defScope st) s.heap.objs.size f cdv)) →
      ∃ t td, DSs W (cxOf CX0 P w K mg base N qual (defScope st) f cdv A outer s H E).nox (defBody st) t td ∧ ∀ ds Q, Fd ds Q → td { nx := fun _ => Q .non, rt := Q } (startG N (.ref C :: ds))) :
    FnOk P w K mg base CX0 (k + 1) f fd ps (spC C K Fd) := by
  refine F.ok S (fun vs H Q E h => ?_) (fun cdv A outer s H vs Q E hr h => ?_)
  · obtain ⟨ws, rfl, Hv, ds, Qd, _, _, _, r, hf, _⟩ := h
    rw [List.length_cons, r.length, len _ _ hf]
  · obtain ⟨ws, rfl, Hv, ds, Qd, sub, inv, nv, r, hf, out⟩ := h
    let W : Wc := ⟨Vol.no, H, Hv, inv, sub, nv⟩
    obtain ⟨t, td, hb, hq⟩ := hbody cdv A outer s H E W rfl hr
    refine ⟨t, hb.ps, ?_⟩
    have Z : Ev K W (startG N (.ref C :: ds)) (L2.start N (.ref C :: ws)) Hv H := start_slots (.cons (.ref C) r) ⟨.refl _, sub, fun _ _ e _ _ => e, inv, nv, fun _ z _ => z, NT.refl _⟩
    refine hb.ad _ _ Hv H _ _ Z (hq ds Qd hf) ⟨fun Γ' σ' Hv' H' s q => ?_, fun v d Γ' σ' Hv' H' s rv q => ?_, fun _ _ _ _ _ q => q.elim, fun _ _ _ _ _ q => q.elim, fun _ _ _ _ _ _ _ _ _ _ _ _ q => q.elim⟩
    · exact out .non .non Hv' H' s.ev.ret .non q
    · exact out v d Hv' H' s.ev.ret rv q
end
end VL
set_option Elab.async false
set_option linter.all false
set_option maxRecDepth 100000
set_option maxHeartbeats 4000000
namespace VL
open PySem PySem.Spec L2 PySem.W
open PyProof.Rows hiding St
end VL
set_option Elab.async false
set_option linter.all false
set_option maxRecDepth 100000
set_option maxHeartbeats 4000000
namespace VL
open PySem PySem.Spec L2
open PyProof.Rows hiding St
/-- instances of these own classes are no instances of T -/
def IsO (K : PySem.W.Frag) (T : String) (cns : List Str) : Prop := ∀ cn ∈ cns, ∃ C, Kls K cn C ∧ PySem.W.kitOne K (.ref C) (.type T) = some false
theorem IsO.nil {K : PySem.W.Frag} {T : String} : IsO K T [] := fun _ h => by cases h
theorem IsO.cons {K : PySem.W.Frag} {T : String} {cn : Str} {cns : List Str} {C : Addr} (k : Kls K cn C) (h : PySem.W.kitOne K (.ref C) (.type T) = some false) (r : IsO K T cns) : IsO K T (cn :: cns) := fun x hx => by
  rcases List.mem_cons.mp hx with rfl | hx
  · exact ⟨C, k, h⟩
  · exact r x hx
def rdIsiO (T : String) (cns : List Str) : List D → (D → Prop) → Prop := fun ds Q => match ds with
  | [.obj cn _ _, .ty t] => t = T ∧ cn ∈ cns ∧ Q (.bl false)
  | ds => rdIsi ds Q
theorem cd_isiO {K : PySem.W.Frag} {W : Wc} {T : String} {cns : List Str} (h0 : IsO K T cns) : CallD K W (rIsi K) (rdIsiO T cns) := by
  intro Γ σ Hv H vs ds Q Q' E r h k
  unfold rdIsiO at h
  split at h
  · obtain ⟨rfl, hc, q⟩ := h
    obtain ⟨v, w, rfl, rv, rw'⟩ := r.two
    cases rw'
    obtain ⟨C, kl, hk⟩ := h0 _ hc
    cases Rp.monoS E.ret.sub _ _ rv with
    | obj hi hn _ _ =>
      obtain rfl := kl.cn.same hn
      exact ⟨_, _, _, _, false, rfl, .ty _, kl.tyX hi, hk, k _ _ Hv H E.stp (.bl _) q⟩
  · exact cd_isi Γ σ Hv H vs _ Q Q' E r h k
end VL
set_option Elab.async false
set_option linter.all false
set_option maxRecDepth 100000
set_option maxHeartbeats 4000000
namespace VL
open PySem PySem.Spec L2
open PyProof.Rows hiding St
end VL
set_option Elab.async false
set_option linter.all false
set_option maxRecDepth 100000
set_option maxHeartbeats 4000000
namespace VL
open PySem PySem.Spec L2
open PyProof.Rows hiding St
def goIn (gd : TDG) (tt : TDT) (te : TDE) (vs vs1 : List Nat) (k : List D → Gm → Prop) : List D → List D → Gm → Prop
  | [], acc, Γ => k acc Γ
  | d :: r, acc, Γ => gd d (wipeG Γ vs1) fun Γ2 => tt Γ2 fun b Γ3 => if b = true then te Γ3 fun y Γ4 => acc.length < sizeLine ∧ goIn gd tt te vs vs1 k r (acc ++ [y]) (backG Γ Γ4 vs) else goIn gd tt te vs vs1 k r acc (backG Γ Γ3 vs)
end VL
set_option Elab.async false
set_option linter.all false
set_option maxRecDepth 100000
set_option maxHeartbeats 4000000
namespace VL
open PySem PySem.Spec L2
open PyProof.Rows hiding St
end VL
set_option Elab.async false
set_option linter.all false
set_option maxRecDepth 100000
set_option maxHeartbeats 4000000
namespace GQ
open PySem PySem.SeqAt
open AutoSeq1 (wpAny_loadPart')
open MeetsSeq MeetsSeq2 MeetsSeq3 SeqRoads2
section
variable {prog : Program} {w : World} {A : Around} {E : Value → Shared → Prop} {s : Shared}
theorem tup_eq_no {t x : Addr} {items : Array Value} {Q : Value → Shared → Prop} (ht : PyProof.Rows.IsTup s.heap t items) (hI : PySem.W.Looks (model prog w) s.heap (isInstance (.ref x) (.type "tuple")) false) (q : Q .notImplemented s) :
    wpAny (model prog w) A (call (.builtin "tuple.__eq__") [.ref t, .ref x]) Q E s := by
  refine wpAny_call_entry F.slot_tuple_eq ht.typeIs F.entry_tuple_eq ?_ (F.args_tuple_eq_2 _ _)
  obtain ⟨hp, g, d, tk, os⟩ := s
  show wpAny _ _ (do
    if !(← isInstance (.ref x) (.type "tuple")) then return ← ret .notImplemented
    _) _ _ _
  refine wpAny_bind (hI.here ?_)
  exact wpAny_bind (wpAny_pure (wpAny_pure ⟨_, rfl, q⟩))
theorem rc_tup_own {K : PySem.W.Frag} {t x C f : Addr} {ox : Obj} {od : Option Obj} {items : Array Value} {Q : Value → Shared → Prop} (hu : A.units < cLine) (X : K.In s.heap) (J : PySem.W.InstAt s.heap x ox C od) (ht : PyProof.Rows.IsTup s.heap t items)
    (hn : PySem.W.subIn K (.ref C) (.type "tuple") = some false) (hs : PySem.W.findIn K (.ref C) "__eq__" = some (some (.ref f))) (hf : PySem.W.isFn K (.ref f) = true)
    (h : wpAny (model prog w) A (call (.ref f) [.ref x, .ref t]) (PySem.W.CmpBack Q) E s) : wpAny (model prog w) A (richCompare .Eq (.ref t) (.ref x)) Q E s := by
  have L := PySem.W.looks_subIn (M := model prog w) X hn
  have one : wpAny (model prog w) A (tryCompare (.ref x) "__eq__" (.ref t)) (fun r s' => ∃ v, r = some v ∧ Q v s') E s := by
    unfold tryCompare
    refine wpAny_bind (PySem.W.ifBound_K X J hs hf (wpAny_mono h (fun v s' hv => ?_) fun _ _ e => e))
    cases v <;> first | exact hv.elim | exact wpAny_pure ⟨_, rfl, hv⟩
  unfold richCompare
  simp only [oneThing_ref]
  refine wpAny_holding (wpAny_bind (wpAny_cRoomFor hu ?_))
  refine wpAny_bind (wpAny_typeOf ht.typeIs (wpAny_bind (J.type.here ?_)))
  split
  · refine wpAny_bind (L.here ?_)
    simp only [Bool.false_eq_true, if_false]
    refine wpAny_bind (m := tryCompare (.ref t) _ (.ref x)) (wpAny_tryCompare_declines ht.typeIs F.slot_tuple_eq (tup_eq_no ht (J.type.andThen L) ⟨rfl, ?_⟩))
    simp only [Bool.not_false, if_true]
    refine wpAny_bind (m := tryCompare (.ref x) _ (.ref t)) (wpAny_mono one (fun r s' z => ?_) fun _ _ e => e)
    obtain ⟨v, rfl, hq⟩ := z
    exact wpAny_pure hq
  · rename_i hh
    exact absurd rfl hh
theorem rc_tup_dict {t d : Addr} {items : Array Value} {od : Obj} {Q : Value → Shared → Prop} (hu : A.units < cLine) (ht : PyProof.Rows.IsTup s.heap t items) (hd : s.heap.get? d = some od) (hc : od.cls = .type "dict") (q : Q (.bool false) s) :
    wpAny (model prog w) A (richCompare .Eq (.ref t) (.ref d)) Q E s := by
  have hT : s.TypeIs (.ref d) "dict" := ⟨od, hd, hc⟩
  have s1 : isSubtype (.type "dict") (.type "tuple") = pure false := by rw [isSubtype_type]; kernel_rfl
  have s2 : isSubtype (.type "tuple") (.type "dict") = pure false := by rw [isSubtype_type]; kernel_rfl
  have ne : t ≠ d := fun z => by
    subst z
    obtain ⟨o, ho, hc', _⟩ := ht
    rw [ho] at hd
    injection hd with hd
    rw [← hd, hc'] at hc
    injection hc with hc
    exact absurd hc (by decide)
  refine rc_eq_decline_or (Ta := "tuple") (Tb := "dict") (k := false) ht.typeIs hT (by decide) s1 F.slot_tuple_eq F.slot_dict_eq_refl (fun Q' q' => ?_) (fun Q' q' => ?_) (fun Q' q' => ?_) (.inr hu) q
  · refine wpAny_call_entry F.slot_tuple_eq ht.typeIs F.entry_tuple_eq ?_ (F.args_tuple_eq_2 _ _)
    show wpAny _ _ (do
      if !(← isInstance (.ref d) (.type "tuple")) then return ← ret .notImplemented
      _) _ _ _
    exact wpAny_bind (wpAny_isInstance (T := "dict") hT s1 (wpAny_bind (wpAny_pure (wpAny_pure ⟨_, rfl, q'⟩))))
  · refine wpAny_call_entry F.slot_dict_eq_refl hT F.entry_dict_eq ?_ (F.args_dict_eq_2 _ _)
    show wpAny _ _ (Builtin.Dict.dictSlotArgs "__eq__" ⟨[.ref d, .ref t], []⟩ >>= _) _ _ s
    refine wpAny_bind ?_
    unfold Builtin.Dict.dictSlotArgs
    refine wpAny_bind (wpAny_notOrdered_dict hT ?_)
    show wpAny _ _ (pure (Value.ref d, Value.ref t)) _ _ s
    refine wpAny_pure ?_
    refine wpAny_bind (wpAny_isInstance (T := "tuple") ht.typeIs s2 ?_)
    simp only [Bool.not_false, if_true]
    exact wpAny_bind (wpAny_rule (wpAny_bind (wpAny_pure (wpAny_pure ⟨_, rfl, q'⟩))))
  · obtain ⟨o, ho, hc', _⟩ := ht
    exact wpAny_isSame_ref_other' ne ho hd (by rw [hc]; decide) q'
theorem eqAt_tup_dict {t d : Addr} {items : Array Value} {od : Obj} (hu : A.units < cLine) (ht : PyProof.Rows.IsTup s.heap t items) (hd : s.heap.get? d = some od) (hc : od.cls = .type "dict") : EqAt A s (.ref t) (.ref d) false := fun prog w E Q q => by
  have ne : t ≠ d := fun z => by
    subst z
    obtain ⟨o, ho, hc', _⟩ := ht
    rw [ho] at hd
    injection hd with hd
    rw [← hd, hc'] at hc
    injection hc with hc
    exact absurd hc (by decide)
  exact eqBool_refG ne (rc_tup_dict hu ht hd hc ⟨false, rfl, q⟩)
/-- the loop of x in l, no item equal to x -/
def InI (prog : Program) (w : World) (A : Around) (E : Value → Shared → Prop) (l : Addr) (x : Value) (N : Nat) (I : Nat → Shared → Prop) : Prop :=
  ∀ i s, I i s → ∃ (items : Array Value) (n : Nat), s.heap.get? l = some { cls := .type "list", data := .seq items n } ∧ items.size = N ∧
    ∀ (h1 : i < items.size), wpAny (model prog w) A.in1 (eqBool items[i] x) (fun r s' => r = false ∧ I (i + 1) s') E s
theorem in_loopG {R : Result → Shared → Prop} (l : Addr) (x : Value) (N : Nat) (I : Nat → Shared → Prop) (hl : InI prog w A (fun e s' => R (.error e) s') l x N I)
    (fin : ∀ s, I N s → R (.ok (.ret (.bool false))) s) (k : Nat) :
    ∀ i : Nat, N - i = k → i ≤ N → ∀ s, I i s →
      wpAny (model prog w) A.in1 (Builtin.«list.__contains__.loop» ⟨[.ref l, x, rawInt i], []⟩) (FinOf prog w A R) (fun e s' => R (.error e) s') s := by
  induction k with
  | zero =>
    intro i hk hi s h
    obtain ⟨items, n, hl1, hs1, _⟩ := hl _ _ h
    have hi' : i = N := by omega
    have hR : R (.ok (.ret (.bool false))) s := fin s (hi' ▸ h)
    obtain ⟨hp, g, d, tk, os⟩ := s
    wp_walk using wpAny_loadPart' hl1
    have hi1 : items[((i : Nat) : Int).toNat]? = none := by simp; omega
    rw [hi1]
    wp_walk
    exact hR
  | succ k ih =>
    intro i hk hi s h
    obtain ⟨items, n, hl1, hs1, turn⟩ := hl _ _ h
    have hlt : i < items.size := by omega
    have ht := turn hlt
    obtain ⟨hp, g, d, tk, os⟩ := s
    wp_walk using wpAny_loadPart' hl1
    have hi1 : items[((i : Nat) : Int).toNat]? = some items[i] := by simp [hlt]
    have hc : ((i : Int) + 1) = ((i + 1 : Nat) : Int) := by omega
    rw [hi1]
    refine wpAny_bind (wpAny_mono ht (fun r s2 h2 => ?_) fun _ _ x => x)
    obtain ⟨hr, h2⟩ := h2
    subst hr
    have hrec := ih (i + 1) (by omega) (by omega) s2 h2
    obtain ⟨hp2, g2, d2, tk2, os2⟩ := s2
    wp_walk
    rw [hc]
    exact ⟨plainId_quiet plain_contains_loop _, codeAny_builtin entry_contains_loop (by
      rw [Around.under_plainId plain_contains_loop _]
      exact hrec)⟩
theorem list_inG {R : Result → Shared → Prop} (l : Addr) (x : Value) (N : Nat) (I : Nat → Shared → Prop) (hl : InI prog w A (fun e s' => R (.error e) s') l x N I)
    (fin : ∀ s, I N s → R (.ok (.ret (.bool false))) s) {s : Shared} (h : I 0 s) :
    wpAny (model prog w) A.in1 (Builtin.«list.__contains__» ⟨[.ref l, x], []⟩) (FinOf prog w A R) (fun e s' => R (.error e) s') s := by
  obtain ⟨items, n, hl1, hs1, _⟩ := hl _ _ h
  have hrec := in_loopG (A := A) (R := R) l x N I hl fin _ 0 rfl (Nat.zero_le _) s h
  obtain ⟨hp, g, d, tk, os⟩ := s
  wp_walk using wpAny_loadPart' hl1
  exact ⟨plainId_quiet plain_contains_loop _, codeAny_builtin entry_contains_loop (by
    rw [Around.under_plainId plain_contains_loop _]
    exact hrec)⟩
theorem contains_G {l : Addr} {x : Value} {N : Nat} {Q : Bool → Shared → Prop} (I : Nat → Shared → Prop) (hl : InI prog w A E l x N I) (fin : ∀ s, I N s → Q false s) (h : I 0 s) : wpAny (model prog w) A (contains (.ref l) x) Q E s := by
  obtain ⟨items, n, hl1, hs1, _⟩ := hl _ _ h
  have hT : s.TypeIs (.ref l) "list" := ⟨_, hl1, rfl⟩
  unfold contains
  refine wpAny_holding ?_
  refine wpAny_bind (wpAny_specialOf hT PyProof.Rows.slot_list_contains.lookup ?_)
  rw [if_neg (by decide)]
  refine wpAny_bind (wpAny_callSpecialUnlessNone?_slot (name := Str.ofString "__contains__") hT PyProof.Rows.slot_list_contains
    (call_here PyProof.Rows.slot_list_contains hT PyProof.Rows.entry_list_contains (PyProof.Rows.args_list_contains _ _) ?_))
  exact list_inG (R := wants (fun v s' => wpAny (model prog w) A (truthy v) Q E s') E) l x N I hl (fun s' q => wpAny_truthy_bool (fin s' q)) h
end
end GQ
namespace VL
open PySem PySem.Spec L2
open PyProof.Rows hiding St
section
variable {X : Cx} {CX : CXT} {k : Nat} {C g : Addr} {sp : Sp} {E : XK} {pins : List (Addr × Obj)} {σ : L2.St}
theorem run_in1 {H : Hp} {s : Shared} {Q : VK} {us : List Value} {vs : List V} (F : FnR X.prog X.w X.K X.mg X.base CX k g sp) (hr : Room k X.A.in1) (hx : Passes CX X E) (I : Inv X pins σ H s) (r : Vals vs us) (h : sp vs H Q E) :
    codeAny (model X.prog X.w) X.A.in1 (.call (.ref g) ⟨us, []⟩) (fun r s' => match r with | .ok (.ret v) => EP X pins σ Q v s' | .ok _ => False | .error e => X.xe e s') s := by
  refine codeAny_mono (F X.A.in1 X.stack s H us vs Q E hr I.env0.in1 r h) fun r s' hq => ?_
  cases r with
  | error e => exact hx pins σ H s e s' I hq
  | ok fl =>
    cases fl with
    | ret u => exact I.after hq
    | next => exact False.elim hq
    | brk => exact False.elim hq
    | cont => exact False.elim hq
/-- the own == of the instance at a, asked with one item behind the other: never true -/
def goOwnEq (K : PySem.W.Frag) (C : Addr) (sp : Sp) (E : XK) (a l : Addr) (all : List V) (Q : Hp → Prop) : List V → Hp → Prop
  | [], H => H l = some (.lst all) ∧ Q H
  | v :: vs, H => H l = some (.lst all) ∧ (∃ dx fs, H a = some (.ins C dx fs)) ∧ (∃ b xs, v = .ref b ∧ SqT K H b xs) ∧ sp [.ref a, v] H (fun r H' => r = .bl false ∧ goOwnEq K C sp E a l all Q vs H') E
theorem goOwnEq_l {K : PySem.W.Frag} {a l : Addr} {all : List V} {Q : Hp → Prop} {H : Hp} : ∀ {vs : List V}, goOwnEq K C sp E a l all Q vs H → H l = some (.lst all)
  | [], h => h.1
  | _ :: _, h => h.1
def rInOwnL (K : PySem.W.Frag) (C : Addr) (sp : Sp) (E : XK) (neg : Bool) : R2 := fun x y H Q => ∃ a l all, x = .ref a ∧ y = .ref l ∧ goOwnEq K C sp E a l all (fun H' => Q (.bl neg) H') all H
theorem vals_at {vs : List V} {us : List Value} (r : Vals vs us) : ∀ {i : Nat} (h1 : i < vs.length) (h2 : i < us.length), RelV vs[i] us[i] := by
  induction r with
  | nil => intro i h1; cases h1
  | cons a r ih =>
    intro i h1 h2
    cases i with
    | zero => exact a
    | succ i => exact ih (by simpa using h1) (by simpa using h2)
theorem in_ownL (F : FnR X.prog X.w X.K X.mg X.base CX k g sp) (hr : Room (k + 1) X.A) (hx : Passes CX X E) (hs : Dun X.K C "__eq__" g) (hn : PySem.W.subIn X.K (.ref C) (.type "tuple") = some false) {H : Hp} {s : Shared} {a l : Addr} {all : List V} {Q : Hp → Prop}
    (I : Inv X pins σ H s) (h : goOwnEq X.K C sp E a l all Q all H) : wpAny (model X.prog X.w) X.A (contains (.ref l) (.ref a)) (fun r s' => r = false ∧ ∃ H', Inv X pins σ H' s' ∧ Q H') X.xe s := by
  refine GQ.contains_G (N := all.length) (fun i s' => i ≤ all.length ∧ ∃ H', Inv X pins σ H' s' ∧ goOwnEq X.K C sp E a l all Q (all.drop i) H') ?_ ?_ ⟨Nat.zero_le _, H, I, h⟩
  · rintro i s' ⟨hi, H', I', h'⟩
    obtain ⟨its, n, r, e, _⟩ := I'.lst (goOwnEq_l h')
    have hlen := r.length
    refine ⟨its.toArray, n, e, by rw [List.size_toArray, ← hlen], fun h1 => ?_⟩
    rw [List.size_toArray] at h1
    have h2 : i < all.length := by omega
    rw [List.drop_eq_getElem_cons h2] at h'
    obtain ⟨_, ⟨dx, fs, ha⟩, ⟨b, xs, eb, hb⟩, hsp⟩ := h'
    have rb := vals_at r h2 h1
    rw [eb] at rb
    have eu : its.toArray[i] = Value.ref b := by
      have : its[i] = Value.ref b := rb
      simpa using this
    rw [eu]
    obtain ⟨mA, J, _⟩ := ins_get I'.hok ha
    obtain ⟨od, J, _⟩ := J.look
    obtain ⟨its', r', ⟨o, ho, hc, n', hd⟩, _⟩ := I'.tuple hb
    obtain ⟨m, hF⟩ := I'.fr
    have hne : b ≠ a := fun z => by
      subst z
      have e1 := J.at_.symm.trans ho
      injection e1 with e1
      have e2 := J.cls
      rw [e1, hc] at e2
      cases e2
    have r2 : Vals [V.ref a, all[i]] [Value.ref a, Value.ref b] := .cons rfl (.cons (by rw [eb]; rfl) .nil)
    refine GQ.eqBool_refG hne ?_
    refine GQ.rc_tup_own (hr.in1.units0) (I'.kIn) J ⟨o, ho, hc, n', hd⟩ hn hs.at_ hs.fn ?_
    refine wpAny_mono (wpAny_call (run_in1 F hr.in1 hx I' r2 hsp)) (fun v s2 q => ?_) fun _ _ e => e
    refine (?_ : PySem.W.CmpBack _ v s2)
    obtain ⟨v', H2, I2, rv, rfl, go⟩ := q
    obtain rfl : v = Value.bool false := rv
    exact ⟨false, rfl, rfl, h2, H2, I2, go⟩
  · rintro s' ⟨_, H', I', h'⟩
    rw [List.drop_length] at h'
    exact ⟨rfl, H', I', h'.2⟩
theorem op_inOwnL (F : FnR X.prog X.w X.K X.mg X.base CX k g sp) (hr : Room (k + 1) X.A) (hx : Passes CX X E) (hs : Dun X.K C "__eq__" g) (hn : PySem.W.subIn X.K (.ref C) (.type "tuple") = some false) : OpR X (compareOp .In) (rInOwnL X.K C sp E false) := by
  intro pins s σ H x y v u Q I rx ry h
  obtain ⟨a, l, all, rfl, rfl, h⟩ := h
  cases rx
  cases ry
  refine wpAny_bind (wpAny_mono (in_ownL F hr hx hs hn I h) (fun r s' q => ?_) fun _ _ e => e)
  obtain ⟨rfl, H', I', q⟩ := q
  exact wpAny_pure ⟨.bl false, H', I', rfl, q⟩
def rInDl (K : PySem.W.Frag) : R2 := fun x y H Q => ∃ a kvs l vs, x = .ref a ∧ Rd H a (.dK kvs) ∧ y = .ref l ∧ H l = some (.lst vs) ∧ (∀ v ∈ vs, ∃ b xs, v = .ref b ∧ SqT K H b xs) ∧ Q (.bl false) H
theorem op_inDl (hu : X.A.units + 65 < cLine) : OpR X (compareOp .In) (rInDl X.K) := by
  intro pins s σ H x y v u Q I rx ry h
  obtain ⟨a, kvs, l, vs, rfl, ha, rfl, hl, hv, q⟩ := h
  cases rx
  cases ry
  obtain ⟨its, n, r, e, _⟩ := I.lst hl
  obtain ⟨_, hsys, _, kv, o, es, n2, h1, hx, h3, _⟩ := dk_rd I.hok ha
  refine SeqAt.in_listAt (fun _ => false) ⟨_, e, rfl, n, rfl⟩ (fun y hy => ?_) ⟨.bl false, H, I, by rw [show its.toArray.any (fun _ => false) = false by simp]; rfl, q⟩
  obtain ⟨i, hi, rfl⟩ := List.mem_iff_getElem.mp (by simpa using hy : y ∈ its)
  have hi2 : i < vs.length := by rw [r.length]; exact hi
  obtain ⟨b, xs, eb, hb⟩ := hv _ (List.getElem_mem hi2)
  have rb := vals_at r hi2 hi
  rw [eb] at rb
  have eu : its[i] = Value.ref b := rb
  rw [eu]
  obtain ⟨its', r', ⟨o', ho, hc, n', hd⟩, _⟩ := I.tuple hb
  exact GQ.eqAt_tup_dict (A := X.A.in1) (by show X.A.units + 1 < cLine; omega) ⟨o', ho, hc, n', hd⟩ h1 hx.1
def rInOwn (K : PySem.W.Frag) (C : Addr) (sp : Sp) (E : XK) : R2 := fun x y H Q => rInOwnL K C sp E false x y H Q ∨ rInDl K x y H Q ∨ rInB K x y H Q
theorem op_inOwn (F : FnR X.prog X.w X.K X.mg X.base CX k g sp) (hr : Room (k + 1) X.A) (hu : X.A.units + 65 < cLine) (hx : Passes CX X E) (hs : Dun X.K C "__eq__" g) (hn : PySem.W.subIn X.K (.ref C) (.type "tuple") = some false) : OpR X (compareOp .In) (rInOwn X.K C sp E) := (op_inOwnL F hr hx hs hn).or ((op_inDl hu).or (op_inB hu))
end
section
variable {K : PySem.W.Frag} {W : Wc} {F : FD} {E : XK} {cn : Str} {C : Addr}
theorem rpAll_of {H : Hp} : ∀ {vs : List V} {ds : List D}, RpAll K H vs ds → ∀ v ∈ vs, ∃ d ∈ ds, Rp K H v d
  | _, _, .nil, v, hv => by cases hv
  | _, _, .cons a r, v, hv => by
    rcases List.mem_cons.mp hv with rfl | hv
    · exact ⟨_, List.mem_cons_self, a⟩
    · obtain ⟨d, hd, h⟩ := rpAll_of r v hv
      exact ⟨d, List.mem_cons_of_mem _ hd, h⟩
def rdInOwn (cn : Str) (F : FD) : RD2 := fun x y Q => match x with
  | .obj c ns es => c = cn ∧ ∃ ds, y = .lst ds ∧ (∀ d ∈ ds, (∃ zs, d = .tup zs) ∧ ∀ Q', Q' (.bl false) → F [.obj c ns es, d] Q') ∧ Q (.bl false)
  | .dic ks es => ∃ ds, y = .lst ds ∧ (∀ d ∈ ds, ∃ zs, d = .tup zs) ∧ Q (.bl false)
  | x => rdInB false x y Q
theorem od_inOwn (k : CN K cn C) : OpD K W (rInOwn K C (spD Vol.no K F) E) (rdInOwn cn F) := by
  intro Γ σ Hv H x y dx dy Q Q' Z rx ry h kk
  by_cases ho : ∃ c ns es, dx = .obj c ns es
  · obtain ⟨c, ns, es, rfl⟩ := ho
    obtain ⟨rfl, ds, rfl, hd, q⟩ := h
    refine .inl ?_
    cases ry with
    | @lst l vs _ hl hr =>
      obtain ⟨a, d1, f1, rfl, h1⟩ := rp_obj k rx Z.ret.sub
      refine ⟨a, l, vs, rfl, rfl, ?_⟩
      have go : ∀ (ds' : List D) (vs' : List V) (Hv1 H1 : Hp), Stp K W Γ σ Hv H Γ σ Hv1 H1 → Sub Hv Hv1 → RpAll K Hv vs' ds' → (∀ d ∈ ds', d ∈ ds) → goOwnEq K C (spD Vol.no K F) E a l vs (fun H' => Q' (.bl false) H') vs' H1 := by
        intro ds'
        induction ds' with
        | nil =>
          intro vs' Hv1 H1 S sv r _
          cases r
          exact ⟨S.ev.ret.sub.lst (sv.lst hl), kk _ _ Hv1 H1 S (.bl _) q⟩
        | cons d ds' ih =>
          intro vs' Hv1 H1 S sv r hm
          cases r with
          | cons r1 r2 =>
            rename_i v vs'
            obtain ⟨⟨zs, rfl⟩, hF⟩ := hd d (hm d List.mem_cons_self)
            have rx1 := Rp.monoS sv _ _ rx
            have rv1 := Rp.monoS sv _ _ r1
            refine ⟨S.ev.ret.sub.lst (sv.lst hl), ?_, ?_, ?_⟩
            · obtain ⟨a', d2, f2, e, h2⟩ := rp_obj k rx1 S.ev.ret.sub
              cases e
              exact ⟨d2, f2, h2⟩
            · cases rv1 with
              | @tup b xs _ hb _ => exact ⟨b, xs, rfl, (seqX S.ev.ret.sub hb).sq⟩
            · refine ⟨Hv1, _, fun d => d = .bl false, S.ev.ret.sub, True.intro, fun _ z => z.elim, .cons rx1 (.cons rv1 .nil), hF _ rfl, fun v d Hv2 H2 R r3 q2 => ?_⟩
              subst q2
              cases r3
              exact ⟨rfl, ih vs' Hv2 H2 (S.after (S.ev.pure R)) (sv.trans R.sv) r2 fun d hd => hm d (List.mem_cons_of_mem _ hd)⟩
      exact go ds vs Hv H Z.stp (.refl _) hr fun _ h => h
  by_cases hd : ∃ ks es, dx = .dic ks es
  · obtain ⟨ks, es, rfl⟩ := hd
    obtain ⟨ds, rfl, hds, q⟩ := h
    refine .inr (.inl ?_)
    cases rx with
    | @dic a kvs _ _ h1 h2 h3 =>
      cases ry with
      | @lst l vs _ hl hr =>
        refine ⟨a, kvs, l, vs, rfl, Z.ret.sub.dk h1, rfl, Z.ret.sub.lst hl, fun v hv => ?_, kk _ _ Hv H Z.stp (.bl _) q⟩
        obtain ⟨d, hd, rd⟩ := rpAll_of hr v hv
        obtain ⟨zs, rfl⟩ := hds d hd
        cases rd with
        | @tup b xs _ hb _ => exact ⟨b, xs, rfl, (seqX Z.ret.sub hb).sq⟩
  · refine .inr (.inr (od_inB _ _ _ _ _ _ _ _ _ _ Z rx ry (show rdInB false dx dy Q from ?_) kk))
    cases dx <;> first | exact absurd ⟨_, _, _, rfl⟩ ho | exact absurd ⟨_, _, rfl⟩ hd | exact h
end
end VL
set_option Elab.async false
set_option linter.all false
set_option maxRecDepth 100000
set_option maxHeartbeats 4000000
namespace TB
open PySem PySem.Spec L2 VL
open PyProof.Rows hiding St
def smalls : Str := "abcdefghijklmnopqrstuvwxyz"
def larges : Str := "ABCDEFGHIJKLMNOPQRSTUVWXYZ"
def okV : D → Prop
  | .str z => z.length ≤ 100
  | d => tyName d ≠ none
def isWs (z : Str) : Bool := decide (1 ≤ z.length) && decide (z.length ≤ 8) && z.cps.toList.all fun c => decide (c ∈ smalls.cps.toList)
def isW : D → Bool
  | .str z => isWs z
  | _ => false
def isCs (z : Str) : Bool := decide (1 ≤ z.length) && decide (z.length ≤ 8) && (match z.cps.toList with | c :: r => decide (c ∈ larges.cps.toList) && r.all fun c => decide (c ∈ smalls.cps.toList) | [] => false)
def areS (ns : List Str) (n : Str) (bs : List Str) : Bool := decide (bs.length ≤ 3) && bs.all (fun b => decide (b ∈ ns) && !decide (b = n)) && decide bs.Nodup
/-- bases of a table, well formed -/
structure BOk (B : Bs) : Prop where
  nd : (dom B).Nodup
  len : B.length ≤ 10
  nm : ∀ n ∈ dom B, okT n
  ok : ∀ n bs, get B n = some bs → bs.length ≤ 3 ∧ ∀ b ∈ bs, b ∈ dom B
structure TabOk (B W K : Bs) : Prop where
  nd : (dom B).Nodup
  len : 1 ≤ B.length ∧ B.length ≤ 6
  dw : dom W = dom B
  cn : ∀ n ∈ dom B, isCs n = true ∧ okT n
  ok : ∀ n bs, get B n = some bs → areS (dom B) n bs = true
  wk : ∀ n ws, get W n = some ws → ws.length ≤ 4 ∧ ws.Nodup ∧ ∀ w ∈ ws, isWs w = true ∧ okT w
  g : Good B K
  all : ∀ n ∈ dom B, n ∈ dom K
def tabD (B W K : Bs) : D := .obj "Table" ["own_bases", "own_words", "own_orders"] [dB sT B, dB sT W, dB sT K]
def modD (B K W : Bs) : D := .dic [.inr "bases", .inr "lines", .inr "words"] [dB sT B, dB sT K, dB sT W]
def F_is_word : FD := fun ds Q => ∃ d, ds = [d] ∧ okV d ∧ Q (.bl (isW d))
def F_is_list : FD := fun ds Q => ∃ d b, ds = [d] ∧ isiTys ["list", "tuple"] d = some b ∧ Q (.bl b)
/-- bases and words of a class, as a list or as a tuple -/
abbrev Pr := List Str × List Str × Bool
def F_Table___contains__ : FD := fun ds Q => ∃ B W K n, ds = [tabD B W K, .str n] ∧ Q (.bl (decide (n ∈ dom B)))
/-- a dict of classes, well formed, whose lines are all known -/
structure COk (C : List (Str × Pr)) (K : Bs) : Prop where
  nd : (dom C).Nodup
  len : 1 ≤ C.length ∧ C.length ≤ 6
  cn : ∀ n ∈ dom C, isCs n = true ∧ okT n
  ok : ∀ n p, get C n = some p → areS (dom C) n p.1 = true ∧ p.2.1.length ≤ 4 ∧ p.2.1.Nodup ∧ ∀ w ∈ p.2.1, isWs w = true ∧ okT w
  g : Good (C.map fun p => (p.1, p.2.1)) K
  all : ∀ n ∈ dom C, n ∈ dom K
def basesOf (C : List (Str × Pr)) : Bs := (sortT (dom C)).map fun n => (n, ((get C n).map (·.1)).getD [])
def wordsOf (C : List (Str × Pr)) : Bs := (sortT (dom C)).map fun n => (n, sortT (((get C n).map (·.2.1)).getD []))
def F__law_mixed (d : Addr) : FD := fun ds Q => ∃ xs : List Str, ds = [.ref d, sL xs] ∧ xs.length ≤ 100 ∧ okTs xs ∧ ∀ ys, ys.Perm xs → Q (sL ys)
abbrev N__law_begin : List Str := ["_law_script", "_law_cell"]
abbrev N__law_pick : List Str := ["_law_draw", "_law_some"]
abbrev N__law_mixed : List Str := ["_law_draw", "_law_some", "_law_left", "_law_found"]
def rd__law_begin : TDS :=
    (rdRet (rdShare (rdLst (rdCons (rdOrT (rdShare (rdLc (rdIAny (rdSl rdSlB (rdVar 0) rdNoPart (rdPart (rdC (.int 63))))) (rgName 1) (fun Γ Q => Q true Γ) (rdCB rdAbs (rdCons (rdVar 1) rdNil)) [1])) (rdShare (rdLst (rdCons (rdC (.int 7)) rdNil)))) (rdCons (rdC (.int 0)) (rdCons (rdC (.int 1)) (rdCons (rdC (.int 0)) rdNil)))))))
def rd__law_pick (d : Addr) : TDS :=
    (rdRet (rdOp rdIxA (rdVar 1) (rdCall (Ftake d) [] (rdCons (rdVar 0) (rdCons (rdCB rdLenB (rdCons (rdVar 1) rdNil)) rdNil)))))
def rd__law_mixed (d : Addr) : TDS :=
    (rdSeq (rdPar2 2 3 true true (rdCF rdListB (rdCons (rdVar 1) rdNil)) (rdLst rdNil))
    (rdSeq (rdWhile (rdTest (rdPkL rdNe 2 (rdShare (rdLst rdNil)))) (rdDrop (rdApp 3 (rdPop 2 (rdCall (Ftake d) [] (rdCons (rdVar 0) (rdCons (rdPkLen 2) rdNil)))))))
    (rdRet (rdVar 3))))
end TB
set_option Elab.async false
set_option linter.all false
set_option maxRecDepth 100000
set_option maxHeartbeats 4000000
namespace TB
open PySem PySem.Spec L2 VL
open PyProof.Rows hiding St
end TB
set_option Elab.async false
set_option linter.all false
set_option maxRecDepth 100000
set_option maxHeartbeats 4000000
namespace TB
open PySem PySem.Spec L2 VL
open PyProof.Rows hiding St
theorem vt_eq {t : TDT} {Γ : Gm} {b b' : Bool} (h : VT t Γ b') (e : b' = b) : VT t Γ b := e ▸ h
theorem vl_eq {t : TDE} {Γ : Gm} {b b' : D} (h : Vl t Γ b') (e : b' = b) : Vl t Γ b := e ▸ h
theorem small_n {n : Nat} (h : n ≤ 1000) : n ≤ sizeLine := Nat.le_trans h (by decide)
theorem rdl__law_begin {ds : List D} {Q : D → Prop} (h : Fbegin ds Q) : rd__law_begin { nx := fun _ => Q .non, rt := Q } (startG N__law_begin ds) := by
  obtain ⟨ns, rfl, q⟩ := h
  refine ⟨noOwn_of (by rfl), ?_⟩
  show goLc _ _ _ _ _ (cutD (ns.map D.int) none (some ((63 : Nat) : Int))) [] _
  rw [cutD_to, ← List.map_take]
  have hl : (ns.take 63).length ≤ 63 := by rw [List.length_take]; omega
  refine goLc_b D.int (fun i => .int (if i < 0 then -i else i)) (show 1 < 2 by decide) _ (Nat.le_trans hl (by decide)) (fun i hi k hk => hk) ?_
  cases e : ns.take 63 with
  | nil => exact ⟨small_of (by decide), small_of (by decide), q [7] (by simp) (by decide) (by intro x hx; simp at hx; omega)⟩
  | cons n r =>
    refine ⟨small_of (show 4 ≤ 1000 by decide), ?_⟩
    have q' := q ((ns.take 63).map fun i => if i < 0 then -i else i) (by rw [e]; simp) (by rw [List.length_map]; exact hl) (fun x hx => by
      obtain ⟨i, _, rfl⟩ := List.mem_map.mp hx
      split <;> omega)
    rw [List.map_map, e] at q'
    exact q'
theorem rdl__law_pick {d : Addr} {ds : List D} {Q : D → Prop} (h : FpickS d ds Q) : rd__law_pick d { nx := fun _ => Q .non, rt := Q } (startG N__law_pick ds) := by
  rcases h with ⟨xs, rfl, h1, h2, q⟩ | ⟨z, rfl, h1, h2, q⟩
  · have h0 : 0 < xs.length := List.length_pos_iff.mpr h1
    show rdOp rdIxA _ _ _ _
    refine nd_op (vl_var rfl) (nd_call (va_cons (vl_var rfl) (va_cons (vl_cb (va_cons (vl_var rfl) va_nil) vc_lenL) va_nil)) ?_)
    refine take_ok (by omega) (by omega) fun r hr => ?_
    have hr' : r < xs.length := by omega
    exact v2_ixL (List.getElem?_eq_getElem hr') _ (q _ (List.getElem_mem hr'))
  · have hz : z.length ≤ sizeLine := Nat.le_trans (Nat.le_of_lt h2) (by decide)
    show rdOp rdIxA _ _ _ _
    refine nd_op (vl_var rfl) (nd_call (va_cons (vl_var rfl) (va_cons (vl_cb (va_cons (vl_var rfl) va_nil) (vc_lenS hz)) va_nil)) ?_)
    refine take_ok (by omega) (by omega) fun r hr => ?_
    refine ⟨hz, ?_⟩
    have hr' : r < z.cps.toList.length := by rw [lenS]; omega
    refine ⟨z.cps.toList[r], ?_, q _ (List.getElem_mem hr')⟩
    rw [atI_n]
    exact List.getElem?_eq_getElem hr'
end TB
set_option Elab.async false
set_option linter.all false
set_option maxRecDepth 100000
set_option maxHeartbeats 1000000
namespace TB
open PySem PySem.Spec L2 VL
open PyProof.Rows hiding St
theorem goW_go {c : TDT} {tb : TDS} {E : EndsD} {n : Nat} {Γ : Gm} (h : VT c Γ true) (q : tb { E with nx := goW c tb E n, ct := goW c tb E n, bk := E.nx } Γ) : goW c tb E (n + 1) Γ := h _ q
theorem isWs_len {w : Str} (h : isWs w = true) : w.length ≤ 8 := by
  unfold isWs at h
  simp only [Bool.and_eq_true, decide_eq_true_eq] at h
  exact h.1.2
end TB
set_option Elab.async false
set_option linter.all false
set_option maxRecDepth 100000
set_option maxHeartbeats 1000000
namespace TB
open PySem PySem.Spec L2 VL
open PyProof.Rows hiding St
def ne (rows : Rows') : Rows' := rows.filter fun r => !decide (r = [])
end TB
set_option Elab.async false
set_option linter.all false
set_option maxRecDepth 100000
set_option maxHeartbeats 1000000
namespace TB
open PySem PySem.Spec L2 VL
open PyProof.Rows hiding St
def hd (r : List Str) : Str := r.head?.getD Str.empty
def tls (rows : Rows') : List Str := (rows.map List.tail).flatten
def hp (rows : Rows') (r : List Str) : Bool := !decide (r = []) && !decide (hd r ∈ tls rows)
end TB
set_option Elab.async false
set_option linter.all false
set_option maxRecDepth 100000
set_option maxHeartbeats 1000000
namespace TB
open PySem PySem.Spec L2 VL
open PyProof.Rows hiding St
theorem vl_dic0 {Γ : Gm} : Vl rdDic0 Γ (.dic [] []) := fun Q q => q
theorem nodup_le : ∀ {xs ys : List Str}, xs.Nodup → (∀ x ∈ xs, x ∈ ys) → xs.length ≤ ys.length
  | [], _, _, _ => Nat.zero_le _
  | x :: xs, ys, nd, h => by
    have nd2 := List.nodup_cons.mp nd
    have hx := h x List.mem_cons_self
    have := nodup_le (ys := ys.erase x) nd2.2 fun y hy => by
      have ne : y ≠ x := fun e => nd2.1 (by rw [← e]; exact hy)
      exact (List.mem_erase_of_ne ne).mpr (h y (List.mem_cons_of_mem _ hy))
    rw [List.length_erase_of_mem hx] at this
    have pos : 0 < ys.length := List.length_pos_of_mem hx
    rw [List.length_cons]
    omega
def Fail (B K : Bs) (n : Str) : Prop := ∃ bs, get B n = some bs ∧ (∀ b ∈ bs, b ∈ dom K) ∧ Mrg (rowsOfV K bs) none
theorem Fail.mono {B K L : Bs} {n : Str} (h : Fail B K n) : Fail B (K ++ L) n := by
  obtain ⟨bs, h1, h2, h3⟩ := h
  refine ⟨bs, h1, fun b hb => by rw [dom_app]; exact List.mem_append_left _ (h2 b hb), ?_⟩
  rw [rowsOf_same fun b hb => get_app_l (h2 b hb)]
  exact h3
theorem line_len {B K : Bs} (ok : BOk B) (g : Good B K) {n : Str} {l : List Str} (h : get K n = some l) : l.length ≤ 10 ∧ okTs l := by
  obtain ⟨a1, a2, _⟩ := g.lines n l h
  have sub : ∀ x ∈ l, x ∈ dom B := fun x hx => g.dom_sub x (a2 x hx)
  refine ⟨?_, fun x hx => ok.nm x (sub x hx)⟩
  have := nodup_le a1 sub
  unfold dom at this
  rw [List.length_map] at this
  exact Nat.le_trans this ok.len
theorem bs_ok {B : Bs} (ok : BOk B) {n : Str} {bs : List Str} (h : get B n = some bs) : bs.length ≤ 3 ∧ okTs bs := ⟨(ok.ok n bs h).1, fun b hb => ok.nm b ((ok.ok n bs h).2 b hb)⟩
theorem goW_end {c : TDT} {tb : TDS} {E : EndsD} {n : Nat} {Γ : Gm} (h : VT c Γ false) (q : E.nx Γ) : goW c tb E (n + 1) Γ := h _ q
end TB
set_option Elab.async false
set_option linter.all false
set_option maxRecDepth 100000
set_option maxHeartbeats 1000000
namespace TB
open PySem PySem.Spec L2 VL
open PyProof.Rows hiding St
end TB
set_option Elab.async false
set_option linter.all false
set_option maxRecDepth 100000
set_option maxHeartbeats 1000000
namespace TB
open PySem PySem.Spec L2 VL
open PyProof.Rows hiding St
theorem sq_par2 {i j : Nat} {o1 o2 : Bool} {d1 d2 : TDE} {d e : D} {t : TDS} {E : EndsD} {Γ : Gm} (h1 : Vl d1 Γ d) (h2 : Vl d2 Γ e) (n : t E ((Γ.set i (if o1 then .own d else .dat d)).set j (if o2 then .own e else .dat e))) : rdSeq (rdPar2 i j o1 o2 d1 d2) t E Γ := h1 _ (h2 _ n)
theorem erase_perm {α : Type} : ∀ (xs : List α) (k : Nat) (h : k < xs.length), (xs[k] :: xs.eraseIdx k).Perm xs
  | x :: xs, 0, _ => List.Perm.refl _
  | x :: xs, k + 1, h => by
    have := erase_perm xs k (by simpa using h)
    show (xs[k]'(by simpa using h) :: x :: xs.eraseIdx k).Perm (x :: xs)
    exact (List.Perm.swap _ _ _).trans (this.cons x)
theorem erase_map {α β : Type} (f : α → β) : ∀ (xs : List α) (k : Nat), (xs.map f).eraseIdx k = (xs.eraseIdx k).map f
  | [], _ => rfl
  | x :: xs, 0 => rfl
  | x :: xs, k + 1 => by show f x :: (xs.map f).eraseIdx k = f x :: (xs.eraseIdx k).map f; rw [erase_map f xs k]
end TB
set_option Elab.async false
set_option linter.all false
set_option maxRecDepth 100000
set_option maxHeartbeats 1000000
namespace TB
open PySem PySem.Spec L2 VL
open PyProof.Rows hiding St
theorem dom_names {α : Type} (L : List Str) (g : Str → α) : dom (L.map fun n => (n, g n)) = L := by
  unfold dom
  rw [List.map_map]
  exact List.map_id' _
theorem get_names {α : Type} {g : Str → α} {m : Str} : ∀ {L : List Str}, get (L.map fun n => (n, g n)) m = if m ∈ L then some (g m) else none
  | [] => rfl
  | n :: L => by
    show (if n = m then some (g n) else get (L.map fun n => (n, g n)) m) = _
    rw [get_names]
    by_cases e : n = m
    · subst e; simp
    · have e2 : ¬ m = n := fun z => e z.symm
      simp [e, e2]
theorem get_map {α β : Type} {f : α → β} {m : Str} : ∀ {B : List (Str × α)}, get (B.map fun p => (p.1, f p.2)) m = (get B m).map f
  | [] => rfl
  | (k, v) :: B => by
    show (if k = m then some (f v) else get (B.map fun p => (p.1, f p.2)) m) = (if k = m then some v else get B m).map f
    by_cases e : k = m
    · rw [if_pos e, if_pos e]; rfl
    · rw [if_neg e, if_neg e]; exact get_map
theorem Good.congr {B B' K : Bs} (h : ∀ n, get B n = get B' n) (g : Good B K) : Good B' K := by
  induction g with
  | nil => exact .nil
  | snoc g hn hb hs hm ih => exact .snoc ih hn (by rw [← h]; exact hb) hs hm
theorem sort_nodup {xs : List Str} (h : xs.Nodup) : (sortT xs).Nodup := (sortT_perm xs).nodup_iff.mpr h
end TB
set_option Elab.async false
set_option linter.all false
set_option maxRecDepth 100000
set_option maxHeartbeats 1000000
namespace TB
open PySem PySem.Spec L2 VL
open PyProof.Rows hiding St
theorem st_putF {i : Nat} {cn f : Str} {dv : TDE} {E : EndsD} {Γ : Gm} {y : Addr} {ns : List Str} {es : List D} {d : D} (hv : Vl dv Γ d) (hs : Γ[i]? = some (.slf y (.obj cn ns es))) (hl : ns.length < 1000) (q : E.nx (Γ.set i (.slf y (.obj cn (putNs ns f) (putEs ns es f d))))) : rdPutF i cn f dv E Γ := hv _ ⟨y, ns, es, hs, hl, q⟩
theorem get_bases {C : List (Str × Pr)} {n : Str} : get (basesOf C) n = get (C.map fun p => (p.1, p.2.1)) n := by
  unfold basesOf
  rw [get_names, get_map (f := fun p : Pr => p.1)]
  by_cases h : n ∈ dom C
  · rw [if_pos (sortT_mem.mpr h)]
    obtain ⟨p, e⟩ := get_some.mpr h
    rw [e]; rfl
  · rw [if_neg (fun z => h (sortT_mem.mp z)), get_none.mpr h]; rfl
theorem get_bases' {C : List (Str × Pr)} {n : Str} : get (basesOf C) n = (get C n).map (·.1) := by
  rw [get_bases, get_map (f := fun p : Pr => p.1)]
theorem get_words {C : List (Str × Pr)} {n : Str} : get (wordsOf C) n = (get C n).map fun p => sortT p.2.1 := by
  unfold wordsOf
  rw [get_names]
  by_cases h : n ∈ dom C
  · rw [if_pos (sortT_mem.mpr h)]
    obtain ⟨p, e⟩ := get_some.mpr h
    rw [e]; rfl
  · rw [if_neg (fun z => h (sortT_mem.mp z)), get_none.mpr h]; rfl
theorem dom_bases {C : List (Str × Pr)} : dom (basesOf C) = sortT (dom C) := dom_names _ _
theorem dom_words {C : List (Str × Pr)} : dom (wordsOf C) = sortT (dom C) := dom_names _ _
theorem areS_same {ns ms : List Str} (h : ∀ x, x ∈ ns ↔ x ∈ ms) (n : Str) (bs : List Str) : areS ns n bs = areS ms n bs := by
  unfold areS
  have : ∀ b : Str, decide (b ∈ ns) = decide (b ∈ ms) := fun b => decide_eq_decide.mpr (h b)
  simp only [this]
theorem areS_mem {ns : List Str} {n : Str} {bs : List Str} (h : areS ns n bs = true) : bs.length ≤ 3 ∧ (∀ b ∈ bs, b ∈ ns ∧ b ≠ n) ∧ bs.Nodup := by
  unfold areS at h
  simp only [Bool.and_eq_true, decide_eq_true_eq, List.all_eq_true, Bool.not_eq_true', decide_eq_false_iff_not] at h
  exact ⟨h.1.1, h.1.2, h.2⟩
theorem COk.bok {C : List (Str × Pr)} {K : Bs} (c : COk C K) : BOk (basesOf C) := by
  refine ⟨by rw [dom_bases]; exact sort_nodup c.nd, ?_, fun n hn => ?_, fun n bs e => ?_⟩
  · unfold basesOf
    rw [List.length_map, sortT_len]
    unfold dom
    rw [List.length_map]
    have := c.len.2
    omega
  · rw [dom_bases] at hn
    exact (c.cn n (sortT_mem.mp hn)).2
  · rw [get_bases'] at e
    cases h : get C n with
    | none => rw [h] at e; cases e
    | some p =>
      rw [h] at e
      cases e
      have a := areS_mem (c.ok n p h).1
      exact ⟨a.1, fun b hb => by rw [dom_bases]; exact sortT_mem.mpr (a.2.1 b hb).1⟩
theorem COk.tab {C : List (Str × Pr)} {K0 K : Bs} (c : COk C K0) (g : Good (basesOf C) K) (cl : Closed (basesOf C) K) : TabOk (basesOf C) (wordsOf C) K := by
  refine ⟨by rw [dom_bases]; exact sort_nodup c.nd, ?_, by rw [dom_bases, dom_words], fun n hn => ?_, fun n bs e => ?_, fun n ws e => ?_, g, fun n hn => ?_⟩
  · unfold basesOf
    rw [List.length_map, sortT_len]
    unfold dom
    rw [List.length_map]
    exact c.len
  · rw [dom_bases] at hn
    exact c.cn n (sortT_mem.mp hn)
  · rw [get_bases'] at e
    cases h : get C n with
    | none => rw [h] at e; cases e
    | some p =>
      rw [h] at e
      cases e
      rw [dom_bases, areS_same fun x => sortT_mem]
      exact (c.ok n p h).1
  · rw [get_words] at e
    cases h : get C n with
    | none => rw [h] at e; cases e
    | some p =>
      rw [h] at e
      cases e
      obtain ⟨_, h1, h2, h3⟩ := c.ok n p h
      exact ⟨by rw [sortT_len]; exact h1, sort_nodup h2, fun w hw => h3 w (sortT_mem.mp hw)⟩
  · rw [dom_bases] at hn
    have g0 : Good (basesOf C) K0 := Good.congr (fun n => get_bases.symm) c.g
    exact (g0.unique g cl n (c.all n (sortT_mem.mp hn))).1
theorem isCs_len {w : Str} (h : isCs w = true) : w.length ≤ 8 := by
  unfold isCs at h
  simp only [Bool.and_eq_true, decide_eq_true_eq] at h
  exact h.1.2
end TB
set_option Elab.async false
set_option linter.all false
set_option maxRecDepth 100000
set_option maxHeartbeats 1000000
namespace TB
open PySem PySem.Spec L2 VL
open PyProof.Rows hiding St
theorem sq_tup2 {i j : Nat} {a b : D} {ta : TDE} {t : TDS} {E : EndsD} {Γ : Gm} (h : Vl ta Γ (.tup [a, b])) (n : t E ((Γ.set i (.dat a)).set j (.dat b))) : rdSeq (rdAsg ta (rgTup 2 (rgCons (rgName i) (rgCons (rgName j) rgNil)))) t E Γ := h _ ⟨rfl, rfl, n⟩
theorem TabOk.bok {B W K : Bs} (t : TabOk B W K) : BOk B := ⟨t.nd, by have := t.len.2; omega, fun n hn => (t.cn n hn).2, fun n bs e => by
  have a := areS_mem (t.ok n bs e)
  exact ⟨a.1, fun b hb => (a.2.1 b hb).1⟩⟩
theorem len_setB {α : Type} {B : List (Str × α)} {n : Str} {v : α} : (setB B n v).length = B.length := List.length_map _
theorem putB_old {α : Type} {B : List (Str × α)} {n : Str} {v : α} (h : n ∈ dom B) : putB B n v = setB B n v := if_pos h
theorem BOk.put {B : Bs} (ok : BOk B) {n : Str} {bs : List Str} (hn : n ∈ dom B) (h : areS (dom B) n bs = true) : BOk (putB B n bs) := by
  have hd : dom (putB B n bs) = dom B := by rw [dom_putB, if_pos hn]
  refine ⟨by rw [hd]; exact ok.nd, by rw [putB_old hn, len_setB]; exact ok.len, fun m hm => ok.nm m (by rw [← hd]; exact hm), fun m l e => ?_⟩
  rw [get_putB] at e
  by_cases q : m = n
  · rw [if_pos q] at e
    cases e
    have a := areS_mem h
    exact ⟨a.1, fun b hb => by rw [hd]; exact (a.2.1 b hb).1⟩
  · rw [if_neg q] at e
    exact ⟨(ok.ok m l e).1, fun b hb => by rw [hd]; exact (ok.ok m l e).2 b hb⟩
end TB
set_option Elab.async false
set_option linter.all false
set_option maxRecDepth 100000
set_option maxHeartbeats 1000000
namespace TB
open PySem PySem.Spec L2 VL
open PyProof.Rows hiding St
theorem mod_bases {B K W : Bs} : V2 rdIxA (modD B K W) (.str "bases") (dB sT B) := v2_ixD (f := fun d : D => d) (B := [("bases", dB sT B), ("lines", dB sT K), ("words", dB sT W)]) (if_pos rfl) rfl
theorem mod_words {B K W : Bs} : V2 rdIxA (modD B K W) (.str "words") (dB sT W) := v2_ixD (f := fun d : D => d) (B := [("bases", dB sT B), ("lines", dB sT K), ("words", dB sT W)]) (by
  unfold VL.get
  rw [if_neg (by decide)]
  unfold VL.get
  rw [if_neg (by decide)]
  exact if_pos rfl) rfl
end TB
set_option Elab.async false
set_option linter.all false
set_option maxRecDepth 100000
set_option maxHeartbeats 1000000
namespace TB
open PySem PySem.Spec L2 VL
open PyProof.Rows hiding St
theorem Good.more {B B1 K : Bs} (h : ∀ n ∈ dom B, get B1 n = get B n) (g : Good B K) : Good B1 K := by
  induction g with
  | nil => exact .nil
  | snoc g hn hb hs hm ih => exact .snoc ih hn (by rw [h _ (get_dom hb)]; exact hb) hs hm
end TB
set_option Elab.async false
set_option linter.all false
set_option maxRecDepth 100000
set_option maxHeartbeats 1000000
namespace TB
open PySem PySem.Spec L2 VL
open PyProof.Rows hiding St
end TB
set_option Elab.async false
set_option linter.all false
set_option maxRecDepth 100000
set_option maxHeartbeats 1000000
namespace TB
open PySem PySem.Spec L2 VL
open PyProof.Rows hiding St
end TB
set_option Elab.async false
set_option linter.all false
set_option maxRecDepth 100000
set_option maxHeartbeats 1000000
namespace TB
open PySem PySem.Spec L2 VL
open PyProof.Rows hiding St
def ownO (W K : Bs) (n w : Str) : Option Str := ((get K n).getD []).find? fun m => decide (w ∈ (get W m).getD [])
/-- a dict of classes, well formed -/
structure CPre (C : List (Str × Pr)) : Prop where
  nd : (dom C).Nodup
  len : 1 ≤ C.length ∧ C.length ≤ 6
  cn : ∀ n ∈ dom C, isCs n = true ∧ okT n
  ok : ∀ n p, get C n = some p → areS (dom C) n p.1 = true ∧ p.2.1.length ≤ 4 ∧ p.2.1.Nodup ∧ ∀ w ∈ p.2.1, isWs w = true ∧ okT w
theorem eqvAll_rows {f : List Str → D} (hf : ∀ a b, eqD (f a) (f b) = decide (a = b)) : ∀ {xs ys : List (List Str)}, PyData.eqvAll (pyAll (xs.map f)) (pyAll (ys.map f)) = decide (xs = ys)
  | [], [] => by unfold pyAll; simp [PyData.eqvAll]
  | [], y :: ys => by unfold pyAll; simp [PyData.eqvAll]
  | x :: xs, [] => by unfold pyAll; simp [PyData.eqvAll]
  | x :: xs, y :: ys => by
    show PyData.eqvAll (py (f x) :: pyAll (xs.map f)) (py (f y) :: pyAll (ys.map f)) = _
    simp only [PyData.eqvAll]
    rw [eqvAll_rows hf, show PyData.eqv (py (f x)) (py (f y)) = decide (x = y) from hf x y]
    by_cases h : x = y
    · subst h
      by_cases h2 : xs = ys
      · subst h2; simp
      · simp [h2]
    · simp [h]
theorem eqD_rows {xs ys : List (List Str)} : eqD (.lst (xs.map sT)) (.lst (ys.map sT)) = decide (xs = ys) := by
  show PyData.eqv (.list (pyAll (xs.map sT))) (.list (pyAll (ys.map sT))) = _
  simp only [PyData.eqv]
  exact eqvAll_rows fun a b => eqD_sT
theorem TabOk.line {B W K : Bs} (t : TabOk B W K) {n : Str} (hn : n ∈ dom B) : ∃ l, get K n = some l ∧ l.length ≤ 10 ∧ okTs l ∧ ∀ m ∈ l, m ∈ dom B := by
  obtain ⟨l, e⟩ := get_some.mpr (t.all n hn)
  obtain ⟨h1, h2⟩ := line_len t.bok t.g e
  exact ⟨l, e, h1, h2, fun m hm => t.g.dom_sub m ((t.g.lines n l e).2.1 m hm)⟩
theorem TabOk.base {B W K : Bs} (t : TabOk B W K) {n : Str} (hn : n ∈ dom B) : ∃ bs, get B n = some bs ∧ bs.length ≤ 3 ∧ okTs bs := by
  obtain ⟨bs, e⟩ := get_some.mpr hn
  obtain ⟨h1, h2⟩ := bs_ok t.bok e
  exact ⟨bs, e, h1, h2⟩
theorem mod_lines {B K W : Bs} : V2 rdIxA (modD B K W) (.str "lines") (dB sT K) := v2_ixD (f := fun d : D => d) (B := [("bases", dB sT B), ("lines", dB sT K), ("words", dB sT W)]) (by
  unfold VL.get
  rw [if_neg (by decide)]
  exact if_pos rfl) rfl
end TB
set_option Elab.async false
set_option linter.all false
set_option maxRecDepth 100000
set_option maxHeartbeats 1000000
namespace TB
open PySem PySem.Spec L2 VL
open PyProof.Rows hiding St
theorem CPre.bok {C : List (Str × Pr)} (c : CPre C) : BOk (basesOf C) := by
  refine ⟨by rw [dom_bases]; exact sort_nodup c.nd, ?_, fun n hn => ?_, fun n bs e => ?_⟩
  · unfold basesOf
    rw [List.length_map, sortT_len]
    unfold dom
    rw [List.length_map]
    have := c.len.2
    omega
  · rw [dom_bases] at hn
    exact (c.cn n (sortT_mem.mp hn)).2
  · rw [get_bases'] at e
    cases h : get C n with
    | none => rw [h] at e; cases e
    | some p =>
      rw [h] at e
      cases e
      have a := areS_mem (c.ok n p h).1
      exact ⟨a.1, fun b hb => by rw [dom_bases]; exact sortT_mem.mpr (a.2.1 b hb).1⟩
end TB
set_option Elab.async false
set_option linter.all false
set_option maxRecDepth 100000
set_option maxHeartbeats 1000000
namespace TB
open PySem PySem.Spec L2 VL
open PyProof.Rows hiding St
theorem v2_neB {a b : Bool} : V2 rdNe (.bl a) (.bl b) (.bl (a != b)) := fun Q q => by
  refine ⟨(okN_bl a).e (by decide), (okN_bl b).e (by decide), ?_⟩
  have e : eqD (.bl a) (.bl b) = (a == b) := by cases a <;> cases b <;> rfl
  rw [e]
  exact q
theorem v2_isN' {x : D} {neg : Bool} : V2 (rdIsN neg) x .non (.bl (neg ^^ isN x)) := fun Q q => q
/-- bases of nm, of the classes ns so far -/
structure Wld (nm : List Str) (B : Bs) (ns : List Str) : Prop where
  db : dom B = ns
  ok : ∀ n bs, get B n = some bs → bs.length ≤ 3 ∧ (∀ b ∈ bs, b ∈ nm ∧ b ≠ n) ∧ bs.Nodup
theorem Wld.new {nm : List Str} {B : Bs} {ns : List Str} {n : Str} {v : List Str} (h : Wld nm B ns) (hn : n ∉ ns) (l : v.length ≤ 3) (s : ∀ b ∈ v, b ∈ nm ∧ b ≠ n) (nd : v.Nodup) : Wld nm (putB B n v) (ns ++ [n]) := by
  refine ⟨by rw [dom_putB, h.db, if_neg hn], fun m bs e => ?_⟩
  rw [get_putB] at e
  by_cases z : m = n
  · rw [if_pos z] at e; cases e; rw [z]; exact ⟨l, s, nd⟩
  · rw [if_neg z] at e; exact h.ok m bs e
theorem Wld.old {nm : List Str} {B : Bs} {ns : List Str} {n : Str} {v : List Str} (h : Wld nm B ns) (hn : n ∈ ns) (l : v.length ≤ 3) (s : ∀ b ∈ v, b ∈ nm ∧ b ≠ n) (nd : v.Nodup) : Wld nm (putB B n v) ns := by
  refine ⟨by rw [dom_putB, h.db, if_pos hn], fun m bs e => ?_⟩
  rw [get_putB] at e
  by_cases z : m = n
  · rw [if_pos z] at e; cases e; rw [z]; exact ⟨l, s, nd⟩
  · rw [if_neg z] at e; exact h.ok m bs e
end TB
set_option Elab.async false
set_option linter.all false
set_option maxRecDepth 100000
set_option maxHeartbeats 1000000
namespace TB
open PySem PySem.Spec L2 VL
open PyProof.Rows hiding St
/-- data of a built-in kind, its text plain -/
def okX (d : D) : Prop := okV d ∧ ∀ z, d = .str z → okT z
def inT (ns : List Str) : D → Bool
  | .str z => decide (z ∈ ns)
  | _ => false
end TB
set_option Elab.async false
set_option linter.all false
set_option maxRecDepth 100000
set_option maxHeartbeats 1000000
namespace TBW
open PySem PySem.Spec L2 VL TB
open PyProof.Rows hiding St
def seqOf : D → Option (List D)
  | .tup ws => some ws
  | .lst ws => some ws
  | _ => none
end TBW
set_option Elab.async false
set_option linter.all false
set_option maxRecDepth 100000
set_option maxHeartbeats 1000000
namespace TBW
open PySem PySem.Spec L2 VL TB
open PyProof.Rows hiding St
end TBW
set_option Elab.async false
set_option linter.all false
set_option maxRecDepth 100000
set_option maxHeartbeats 1000000
namespace TBW
open PySem PySem.Spec L2 VL TB
open PyProof.Rows hiding St
end TBW
set_option Elab.async false
set_option linter.all false
set_option maxRecDepth 100000
set_option maxHeartbeats 1000000
namespace TBW
open PySem PySem.Spec L2 VL TB
open PyProof.Rows hiding St
end TBW
set_option Elab.async false
set_option linter.all false
set_option maxRecDepth 100000
set_option maxHeartbeats 1000000
namespace TBW
open PySem PySem.Spec L2 VL TB
open PyProof.Rows hiding St
theorem filter_empty {α : Type} (p : α → Bool) (f : α → D) : ∀ L : List α, ((L.filter fun a => !p a).map f).isEmpty = L.all p
  | [] => rfl
  | a :: L => by
    rw [List.all_cons, List.filter_cons, ← filter_empty p f L]
    cases h : p a
    · rfl
    · rfl
end TBW
set_option Elab.async false
set_option linter.all false
set_option maxRecDepth 100000
set_option maxHeartbeats 1000000
namespace TBW
open PySem PySem.Spec L2 VL TB
open PyProof.Rows hiding St
end TBW
set_option Elab.async false
set_option linter.all false
set_option maxRecDepth 100000
set_option maxHeartbeats 1000000
namespace TBW
open PySem PySem.Spec L2 VL TB
open PyProof.Rows hiding St
end TBW
set_option Elab.async false
set_option linter.all false
set_option maxRecDepth 100000
set_option maxHeartbeats 1000000
namespace TBW
open PySem PySem.Spec L2 VL TB
open PyProof.Rows hiding St
def at0 : D → Bool
  | .non => true
  | .bl _ => true
  | .int i => decide (0 ≤ i) && decide (i ≤ 9)
  | .str z => PyData.strOk z && decide (z.length ≤ 9) && decide ((PyData.shown (.str z)).length ≤ 12)
  | _ => false
def lv (m : Nat) : Nat → D → Prop
  | 0, d => at0 d = true
  | k + 1, d => at0 d = true ∨ ∃ ys, seqOf d = some ys ∧ ys.length ≤ m ∧ ∀ y ∈ ys, lv m k y
theorem seqOf_cases {d : D} {ys : List D} (h : seqOf d = some ys) : d = .lst ys ∨ d = .tup ys := by
  cases d <;> first | (cases h; done) | (cases h; first | exact .inl rfl | exact .inr rfl)
theorem at0_lv {m k : Nat} {d : D} (h : at0 d = true) : lv m k d := by
  cases k with
  | zero => exact h
  | succ k => exact .inl h
theorem lv_seq {m k : Nat} {d : D} {ys : List D} (h : seqOf d = some ys) (hl : ys.length ≤ m) (hy : ∀ y ∈ ys, lv m k y) : lv m (k + 1) d := .inr ⟨ys, h, hl, hy⟩
theorem lv_lst {m k : Nat} {ys : List D} (hl : ys.length ≤ m) (hy : ∀ y ∈ ys, lv m k y) : lv m (k + 1) (.lst ys) := lv_seq rfl hl hy
theorem lv_tup {m k : Nat} {ys : List D} (hl : ys.length ≤ m) (hy : ∀ y ∈ ys, lv m k y) : lv m (k + 1) (.tup ys) := lv_seq rfl hl hy
theorem lv_m {m m' : Nat} (h : m ≤ m') : ∀ {k : Nat} {d : D}, lv m k d → lv m' k d
  | 0, _, a => a
  | k + 1, _, .inl a => .inl a
  | k + 1, _, .inr ⟨ys, e, l, hy⟩ => .inr ⟨ys, e, Nat.le_trans l h, fun y m => lv_m h (hy y m)⟩
theorem lv_k {m : Nat} : ∀ {k : Nat} {d : D}, lv m k d → lv m (k + 1) d
  | 0, _, a => .inl a
  | k + 1, _, .inl a => .inl a
  | k + 1, _, .inr ⟨ys, e, l, hy⟩ => .inr ⟨ys, e, l, fun y m => lv_k (hy y m)⟩
theorem lv_items {m k : Nat} {d : D} {ys : List D} (h : lv m (k + 1) d) (e : seqOf d = some ys) : ys.length ≤ m ∧ ∀ y ∈ ys, lv m k y := by
  rcases h with h | ⟨ys', e', l, hy⟩
  · cases d <;> first | (cases e; done) | (cases h; done)
  · rw [e] at e'; cases e'; exact ⟨l, hy⟩
theorem at0_okX {d : D} (h : at0 d = true) : okX d ∧ okN 0 d := by
  cases d <;> first | (cases h; done) | skip
  · exact ⟨⟨(fun z => by cases z), fun z e => by cases e⟩, okN_non⟩
  · exact ⟨⟨(fun z => by cases z), fun z e => by cases e⟩, okN_bl _⟩
  · exact ⟨⟨(fun z => by cases z), fun z e => by cases e⟩, okN_int _⟩
  · rename_i z
    have h : (PyData.strOk z && decide (z.length ≤ 9) && decide ((PyData.shown (.str z)).length ≤ 12)) = true := h
    rw [Bool.and_eq_true, Bool.and_eq_true] at h
    refine ⟨⟨?_, fun w e => by cases e; exact h.1.1⟩, okN_str h.1.1⟩
    have := of_decide_eq_true h.1.2
    show z.length ≤ 100
    omega
theorem okX_seq {d : D} {ys : List D} (e : seqOf d = some ys) : okX d := by
  rcases seqOf_cases e with rfl | rfl
  · exact ⟨(fun z => by cases z), fun z e => by cases e⟩
  · exact ⟨(fun z => by cases z), fun z e => by cases e⟩
theorem lv_ok {m : Nat} : ∀ {k : Nat} {d : D}, lv m k d → okX d ∧ okN k d
  | 0, _, a => at0_okX a
  | k + 1, _, .inl a => ⟨(at0_okX a).1, (at0_okX a).2.up (Nat.zero_le _)⟩
  | k + 1, _, .inr ⟨ys, e, l, hy⟩ => ⟨okX_seq e, by
    rcases seqOf_cases e with rfl | rfl
    · exact okN_lst fun d hd => (lv_ok (hy d hd)).2
    · exact okN_tup fun d hd => (lv_ok (hy d hd)).2⟩
/-- the text of a thing: how deep, how long -/
structure Sh (n L : Nat) (d : D) : Prop where
  pq : pq d = true
  sh : (py d).showable = true
  dp : (py d).depth ≤ n
  ln : (PyData.shown (py d)).length ≤ L
theorem Sh.okQ {n L : Nat} {d : D} (h : Sh n L d) (hn : n ≤ 60) (hl : L ≤ sizeLine) : okQ d := ⟨h.pq, h.sh, Nat.le_trans h.dp hn, Nat.le_trans h.ln hl⟩
theorem Sh.up {n L n' L' : Nat} {d : D} (h : Sh n L d) (hn : n ≤ n') (hl : L ≤ L') : Sh n' L' d := ⟨h.pq, h.sh, Nat.le_trans h.dp hn, Nat.le_trans h.ln hl⟩
theorem sh_at {d : D} (h : at0 d = true) : Sh 0 12 d := by
  cases d <;> first | (cases h; done) | skip
  · exact ⟨rfl, rfl, Nat.le_refl _, by decide +kernel⟩
  · rename_i b
    refine ⟨rfl, rfl, Nat.le_refl _, ?_⟩
    cases b <;> decide +kernel
  · rename_i i
    have h : (decide (0 ≤ i) && decide (i ≤ 9)) = true := h
    rw [Bool.and_eq_true] at h
    have h1 := of_decide_eq_true h.1
    have h2 := of_decide_eq_true h.2
    obtain ⟨n, rfl⟩ : ∃ n : Nat, i = n := ⟨i.toNat, by omega⟩
    have h3 : n < 10 := by omega
    have key : ∀ n : Nat, n < 10 → (PyData.showable (.int (n : Int))) = true ∧ (PyData.shown (.int (n : Int))).length ≤ 12 := by decide +kernel
    obtain ⟨k1, k2⟩ := key n h3
    exact ⟨rfl, by unfold py; exact k1, by unfold py; simp [PyData.depth], by unfold py; exact k2⟩
  · rename_i z
    have h : (PyData.strOk z && decide (z.length ≤ 9) && decide ((PyData.shown (.str z)).length ≤ 12)) = true := h
    rw [Bool.and_eq_true, Bool.and_eq_true] at h
    exact ⟨rfl, by unfold py; simp [PyData.showable], by unfold py; simp [PyData.depth], by unfold py; exact of_decide_eq_true h.2⟩
theorem sh_all {n L : Nat} : ∀ {ys : List D}, (∀ y ∈ ys, Sh n L y) → pqAll ys = true ∧ PyData.showableAll (pyAll ys) = true ∧ PyData.depthAll (pyAll ys) ≤ n ∧ ((PyData.shownAll (pyAll ys)).map (·.length)).sum ≤ ys.length * L ∧ (PyData.shownAll (pyAll ys)).length = ys.length
  | [], _ => ⟨rfl, rfl, Nat.zero_le _, by simp [pyAll, PyData.shownAll], rfl⟩
  | y :: ys, h => by
    have a := h y List.mem_cons_self
    obtain ⟨b1, b2, b3, b4, b5⟩ := sh_all fun y hy => h y (List.mem_cons_of_mem _ hy)
    unfold pqAll pyAll
    simp only [PyData.showableAll, PyData.depthAll, PyData.shownAll, a.pq, a.sh, b1, b2, Bool.and_self, true_and, List.map_cons, List.sum_cons, List.length_cons, b5, and_true]
    have e1 := a.dp
    have e2 := a.ln
    rw [Nat.succ_mul]
    omega
theorem sh_lst {n L m : Nat} {ys : List D} (h : ∀ y ∈ ys, Sh n L y) (hl : ys.length ≤ m) : Sh (n + 1) (m * (L + 2) + 3) (.lst ys) := by
  obtain ⟨b1, b2, b3, b4, b5⟩ := sh_all h
  have e := listText_len_le (PyData.shownAll (pyAll ys))
  have e2 : ys.length * L + 2 * ys.length ≤ m * (L + 2) := by
    rw [Nat.mul_comm 2, ← Nat.mul_add]
    exact Nat.mul_le_mul_right _ hl
  refine ⟨by unfold pq; exact b1, by unfold py; simp only [PyData.showable]; exact b2, by unfold py; simp only [PyData.depth]; omega, ?_⟩
  unfold py
  simp only [PyData.shown]
  omega
theorem sh_tup {n L m : Nat} {ys : List D} (h : ∀ y ∈ ys, Sh n L y) (hl : ys.length ≤ m) : Sh (n + 1) (m * (L + 2) + 3) (.tup ys) := by
  obtain ⟨b1, b2, b3, b4, b5⟩ := sh_all h
  have e := tupleText_len_le (PyData.shownAll (pyAll ys))
  have e2 : ys.length * L + 2 * ys.length ≤ m * (L + 2) := by
    rw [Nat.mul_comm 2, ← Nat.mul_add]
    exact Nat.mul_le_mul_right _ hl
  refine ⟨by unfold pq; exact b1, by unfold py; simp only [PyData.showable]; exact b2, by unfold py; simp only [PyData.depth]; omega, ?_⟩
  unfold py
  simp only [PyData.shown]
  omega
theorem sh_kv {n L : Nat} : ∀ {C : List (Str × D)}, (∀ p ∈ C, at0 (.str p.1) = true ∧ Sh n L p.2) → pqAll (C.map (·.2)) = true ∧ PyData.showableKv (((C.map fun p => (Sum.inr p.1 : Key)).map kD).zip (pyAll (C.map (·.2)))) = true ∧ PyData.depthKv (((C.map fun p => (Sum.inr p.1 : Key)).map kD).zip (pyAll (C.map (·.2)))) ≤ n ∧
      ((PyData.shownKv (((C.map fun p => (Sum.inr p.1 : Key)).map kD).zip (pyAll (C.map (·.2))))).map (·.length)).sum ≤ C.length * (L + 14) ∧ (PyData.shownKv (((C.map fun p => (Sum.inr p.1 : Key)).map kD).zip (pyAll (C.map (·.2))))).length = C.length
  | [], _ => ⟨rfl, rfl, Nat.zero_le _, by simp [pyAll, PyData.shownKv], rfl⟩
  | p :: C, h => by
    obtain ⟨a0, a⟩ := h p List.mem_cons_self
    obtain ⟨b1, b2, b3, b4, b5⟩ := sh_kv fun y hy => h y (List.mem_cons_of_mem _ hy)
    have s0 := sh_at a0
    have ek : (kD (.inr p.1)) = py (.str p.1) := by unfold py kD; rfl
    rw [List.map_cons, List.map_cons, List.map_cons]
    unfold pqAll pyAll
    rw [List.zip_cons_cons]
    have e1 := a.dp
    have e2 := a.ln
    have e3 := s0.dp
    have e4 := s0.ln
    refine ⟨by rw [a.pq, b1]; rfl, ?_, ?_, ?_, ?_⟩
    · unfold PyData.showableKv
      rw [ek, s0.sh, a.sh, b2]
      rfl
    · unfold PyData.depthKv
      rw [ek]
      omega
    · unfold PyData.shownKv
      rw [List.map_cons, List.sum_cons, List.length_cons, Nat.succ_mul, ek, strLen_append, strLen_append]
      have e5 : (": " : Str).length = 2 := by decide +kernel
      rw [e5]
      omega
    · unfold PyData.shownKv
      rw [List.length_cons, List.length_cons, b5]
theorem sh_dic {n L m : Nat} {C : List (Str × D)} (h : ∀ p ∈ C, at0 (.str p.1) = true ∧ Sh n L p.2) (hl : C.length ≤ m) : Sh (n + 1) (m * (L + 16) + 3) (dB (fun d : D => d) C) := by
  obtain ⟨b1, b2, b3, b4, b5⟩ := sh_kv h
  have e := dictText_len_le (PyData.shownKv (((C.map fun p => (Sum.inr p.1 : Key)).map kD).zip (pyAll (C.map (·.2)))))
  have e2 : C.length * (L + 14) + 2 * C.length ≤ m * (L + 16) := by
    rw [Nat.mul_comm 2, ← Nat.mul_add]
    exact Nat.mul_le_mul_right _ hl
  have ed : dB (fun d : D => d) C = .dic (C.map fun p => (Sum.inr p.1 : Key)) (C.map (·.2)) := by
    unfold dB dom
    rw [List.map_map]
    rfl
  rw [ed]
  refine ⟨by unfold pq; exact b1, by unfold py; simp only [PyData.showable]; exact b2, by unfold py; simp only [PyData.depth]; omega, ?_⟩
  unfold py
  simp only [PyData.shown]
  omega
def SL (m : Nat) : Nat → Nat
  | 0 => 12
  | k + 1 => 12 + (m * (SL m k + 2) + 3)
theorem lv_sh {m : Nat} : ∀ {k : Nat} {d : D}, lv m k d → Sh k (SL m k) d
  | 0, _, a => sh_at a
  | k + 1, _, .inl a => (sh_at a).up (Nat.zero_le _) (Nat.le_add_right _ _)
  | k + 1, _, .inr ⟨ys, e, l, hy⟩ => by
    have : ∀ y ∈ ys, Sh k (SL m k) y := fun y hm => lv_sh (hy y hm)
    rcases seqOf_cases e with rfl | rfl
    · exact (sh_lst this l).up (Nat.le_refl _) (Nat.le_add_left _ _)
    · exact (sh_tup this l).up (Nat.le_refl _) (Nat.le_add_left _ _)
end TBW
set_option Elab.async false
set_option linter.all false
set_option maxRecDepth 100000
set_option maxHeartbeats 1000000
namespace TBW
open PySem PySem.Spec L2 VL TB
open PyProof.Rows hiding St
end TBW
set_option Elab.async false
set_option linter.all false
set_option maxRecDepth 100000
set_option maxHeartbeats 1000000
namespace TBW
open PySem PySem.Spec L2 VL TB
open PyProof.Rows hiding St
end TBW
set_option Elab.async false
set_option linter.all false
set_option maxRecDepth 100000
set_option maxHeartbeats 1000000
namespace TBW
open PySem PySem.Spec L2 VL TB
open PyProof.Rows hiding St
/-- a part of a pair: {}, or a thing of two levels -/
def lv2e (m : Nat) (d : D) : Prop := lv m 2 d ∨ d = .dic [] []
/-- the value of a class -/
def vl3 (m : Nat) (w : D) : Prop := lv2e m w ∨ ∃ ys, seqOf w = some ys ∧ ys.length ≤ m ∧ ∀ y ∈ ys, lv2e m y
structure Bt (m L : Nat) (C : List (Str × D)) : Prop where
  nd : (dom C).Nodup
  len : C.length ≤ L
  key : ∀ n ∈ dom C, at0 (.str n) = true
  val : ∀ n w, get C n = some w → vl3 m w
abbrev dI : D → D := fun d => d
def odd4 : List D := [.non, .lst [], .str "A", .int 5, .dic [] [], .tup [], .bl true, .dic [.inl 5] [.tup [.tup [], .tup []]]]
theorem lv2e_m {m m' : Nat} (h : m ≤ m') {d : D} : lv2e m d → lv2e m' d
  | .inl a => .inl (lv_m h a)
  | .inr a => .inr a
theorem vl3_m {m m' : Nat} (h : m ≤ m') {d : D} : vl3 m d → vl3 m' d
  | .inl a => .inl (lv2e_m h a)
  | .inr ⟨ys, e, l, hy⟩ => .inr ⟨ys, e, Nat.le_trans l h, fun y hm => lv2e_m h (hy y hm)⟩
theorem Bt.up {m m' L L' : Nat} {C : List (Str × D)} (h : Bt m L C) (hm : m ≤ m') (hl : L ≤ L') : Bt m' L' C := ⟨h.nd, Nat.le_trans h.len hl, h.key, fun n w e => vl3_m hm (h.val n w e)⟩
theorem Bt.put {m L : Nat} {C : List (Str × D)} {n : Str} {w : D} (h : Bt m L C) (hn : at0 (.str n) = true) (hw : vl3 m w) : Bt m (L + 1) (putB C n w) := by
  have hd := dom_putB (B := C) (n := n) (v := w)
  refine ⟨?_, ?_, fun k hk => ?_, fun k v e => ?_⟩
  · rw [hd]
    by_cases z : n ∈ dom C
    · rw [if_pos z]; exact h.nd
    · rw [if_neg z]
      exact List.nodup_append.mpr ⟨h.nd, by simp, fun a ha b hb e => z (by rw [← List.mem_singleton.mp hb, ← e]; exact ha)⟩
  · have e1 : (dom (putB C n w)).length = (putB C n w).length := List.length_map _
    have e2 : (dom C).length = C.length := List.length_map _
    have := h.len
    rw [← e1, hd]
    by_cases z : n ∈ dom C
    · rw [if_pos z]; omega
    · rw [if_neg z, List.length_append]; simp; omega
  · rw [hd] at hk
    by_cases z : n ∈ dom C
    · rw [if_pos z] at hk; exact h.key k hk
    · rw [if_neg z] at hk
      rcases List.mem_append.mp hk with hk | hk
      · exact h.key k hk
      · rw [List.mem_singleton.mp hk]; exact hn
  · rw [get_putB] at e
    by_cases z : k = n
    · rw [if_pos z] at e; cases e; exact hw
    · rw [if_neg z] at e; exact h.val k v e
theorem Bt.putOld {m L : Nat} {C : List (Str × D)} {n : Str} {w : D} (h : Bt m L C) (hn : n ∈ dom C) (hw : vl3 m w) : Bt m L (putB C n w) := by
  have p := h.put (h.key n hn) hw
  refine ⟨p.nd, ?_, p.key, p.val⟩
  have e1 : (dom (putB C n w)).length = (putB C n w).length := List.length_map _
  have e2 : (dom C).length = C.length := List.length_map _
  rw [← e1, dom_putB, if_pos hn, e2]
  exact h.len
def rowOf (d : D) : List D := (seqOf d).getD []
theorem row_lv {m : Nat} {d : D} (h : lv2e m d) : (rowOf d).length ≤ m ∧ ∀ y ∈ rowOf d, lv m 1 y := by
  unfold rowOf
  cases e : seqOf d with
  | none => exact ⟨Nat.zero_le _, fun y hy => by cases hy⟩
  | some ys =>
    rcases h with h | h
    · exact lv_items h e
    · subst h; cases e
end TBW
set_option Elab.async false
set_option linter.all false
set_option maxRecDepth 100000
set_option maxHeartbeats 4000000
namespace TBW
open PySem PySem.Spec L2 VL TB
open PyProof.Rows hiding St
theorem sm {n : Nat} (h : Nat.ble n 1000 = true) : small n := small_of (Nat.le_of_ble_eq_true h)
theorem lt1000 {n : Nat} (h : Nat.ble (n + 1) 1000 = true) : n < 1000 := Nat.le_of_ble_eq_true h
end TBW
set_option Elab.async false
set_option linter.all false
set_option maxRecDepth 100000
set_option maxHeartbeats 4000000
namespace TBW
open PySem PySem.Spec L2 VL TB
open PyProof.Rows hiding St
section
variable {d : Addr} {Q : D → Prop} {m L : Nat} {C : List (Str × D)} {n o : Str} {a b : D} {r : Nat} {s10 s11 s12 : Sl} {E : EndsD}
/-- what is known ahead of the ways -/
structure BtI (m L : Nat) (C : List (Str × D)) (n o : Str) (a b : D) : Prop where
  bt : Bt m L C
  m4 : 4 ≤ m
  m100 : m ≤ 100
  l50 : L ≤ 50
  ha : lv2e m a
  hb : lv2e m b
  hn : n ∈ dom C
  ho : o ∈ dom C
def fin (E : EndsD) (m L : Nat) : Prop := ∀ C' Γ', Γ'[2]? = some (.own (dB dI C')) → Bt (2 * m) (L + 6) C' → E.nx Γ'
theorem BtI.lt (I : BtI m L C n o a b) : C.length < 1000 := by have := I.bt.len; have := I.l50; omega
theorem BtI.put (I : BtI m L C n o a b) {w : D} (h : vl3 (2 * m) w) : Bt (2 * m) (L + 6) (putB C n w) := ((I.bt.up (m' := 2 * m) (L' := L) (by omega) (Nat.le_refl _)).putOld I.hn h).up (Nat.le_refl _) (by omega)
theorem BtI.row (I : BtI m L C n o a b) {x : D} (hx : lv2e m x) {ys : List D} (hl : ys.length ≤ m) (hy : ∀ y ∈ ys, lv (2 * m) 1 y) : (rowOf x ++ ys).length ≤ 2 * m ∧ ∀ y ∈ rowOf x ++ ys, lv (2 * m) 1 y := by
  obtain ⟨r1, r2⟩ := row_lv hx
  refine ⟨by rw [List.length_append]; omega, fun y hm => ?_⟩
  rcases List.mem_append.mp hm with h | h
  · exact lv_m (by omega) (r2 y h)
  · exact hy y h
theorem BtI.key (I : BtI m L C n o a b) {z : Str} (h : z ∈ dom C) : at0 (.str z) = true := I.bt.key z h
theorem dl (I : BtI m L C n o a b) : (sortT (dom C)).length ≤ 50 ∧ C.length < 64 := by
  have e2 : (dom C).length = C.length := List.length_map _
  have := I.bt.len
  have := I.l50
  rw [sortT_len, e2]
  omega
end
end TBW
set_option Elab.async false
set_option linter.all false
set_option maxRecDepth 100000
set_option maxHeartbeats 4000000
set_option pp.maxSteps 300
namespace TBW
open PySem PySem.Spec L2 VL TB
open PyProof.Rows hiding St
theorem sq_tup2 {i j : Nat} {a b : D} {ta : TDE} {t : TDS} {E : EndsD} {Γ : Gm} (h : Vl ta Γ (.tup [a, b])) (n : t E ((Γ.set i (.dat a)).set j (.dat b))) : rdSeq (rdAsg ta (rgTup 2 (rgCons (rgName i) (rgCons (rgName j) rgNil)))) t E Γ := h _ ⟨rfl, rfl, n⟩
end TBW
set_option Elab.async false
set_option linter.all false
set_option maxRecDepth 100000
set_option maxHeartbeats 4000000
namespace TBW
open PySem PySem.Spec L2 VL TB
open PyProof.Rows hiding St
def lets : List Nat := smalls.cps.toList ++ larges.cps.toList
theorem rc_one : ∀ c ∈ lets, ∀ q ∈ ([39, 34] : List Nat), (Builtin.Str.reprChar q c).length ≤ 1 := by decide +kernel
theorem lets_lt : ∀ c ∈ lets, c < 1114112 := by decide +kernel
theorem fold_le {f : Nat → Nat} : ∀ (l : List Nat) (k : Nat), (∀ c ∈ l, f c ≤ 1) → l.foldl (fun n c => n + f c) k ≤ k + l.length
  | [], k, _ => Nat.le_refl _
  | c :: l, k, h => by
    have ih := fold_le l (k + f c) fun x hx => h x (List.mem_cons_of_mem _ hx)
    have := h c List.mem_cons_self
    rw [List.foldl_cons, List.length_cons]
    omega
theorem let_at {z : Str} (hl : z.length ≤ 9) (h : ∀ c ∈ z.cps.toList, c ∈ lets) : at0 (.str z) = true := by
  have hq : reprQuote z ∈ ([39, 34] : List Nat) := by
    unfold reprQuote
    split <;> simp
  have e : (reprText z).length ≤ 2 + z.length := by
    rw [← reprLen_eq, ← Array.foldl_toList]
    have := fold_le (f := fun c => (Builtin.Str.reprChar (reprQuote z) c).length) z.cps.toList 2 fun c hc => rc_one c (h c hc) _ hq
    rw [lenS] at this
    exact this
  have ot : PyData.strOk z = true := strOk_all.mpr fun c hc => lets_lt c (h c hc)
  show (PyData.strOk z && decide (z.length ≤ 9) && decide ((PyData.shown (.str z)).length ≤ 12)) = true
  rw [ot, decide_eq_true hl, decide_eq_true (by simp only [PyData.shown]; omega)]
  rfl
theorem isCs_at {z : Str} (h : isCs z = true) : at0 (.str z) = true := by
  have hl := isCs_len h
  refine let_at (by omega) fun c hc => ?_
  unfold isCs at h
  rw [Bool.and_eq_true] at h
  have h2 := h.2
  cases el : z.cps.toList with
  | nil => rw [el] at hc; cases hc
  | cons x r =>
    rw [el] at h2 hc
    have h2 : (decide (x ∈ larges.cps.toList) && r.all fun c => decide (c ∈ smalls.cps.toList)) = true := h2
    rw [Bool.and_eq_true] at h2
    rcases List.mem_cons.mp hc with rfl | hc
    · exact List.mem_append_right _ (of_decide_eq_true h2.1)
    · exact List.mem_append_left _ (of_decide_eq_true (List.all_eq_true.mp h2.2 c hc))
theorem isWs_at {z : Str} (h : isWs z = true) : at0 (.str z) = true := by
  have hl := isWs_len h
  refine let_at (by omega) fun c hc => ?_
  unfold isWs at h
  rw [Bool.and_eq_true] at h
  exact List.mem_append_left _ (of_decide_eq_true (List.all_eq_true.mp h.2 c hc))
theorem sh_e {m : Nat} {d : D} (h : lv2e m d) : Sh 2 (SL m 2) d := by
  rcases h with h | rfl
  · exact lv_sh h
  · have : Sh 1 (0 * (12 + 16) + 3) (dB dI []) := sh_dic (n := 0) (L := 12) (m := 0) (fun p hp => by cases hp) (Nat.le_refl _)
    refine Sh.up (d := .dic [] []) this (by decide) ?_
    show _ ≤ 12 + _
    omega
theorem sh_3 {m : Nat} {w : D} (h : vl3 m w) : Sh 3 (SL m 2 + (m * (SL m 2 + 2) + 3)) w := by
  rcases h with h | ⟨ys, e, l, hy⟩
  · exact (sh_e h).up (by decide) (by omega)
  · have : ∀ y ∈ ys, Sh 2 (SL m 2) y := fun y hm => sh_e (hy y hm)
    rcases seqOf_cases e with rfl | rfl
    · exact (sh_lst this l).up (Nat.le_refl _) (by omega)
    · exact (sh_tup this l).up (Nat.le_refl _) (by omega)
theorem Bt.okQ {m L : Nat} {C : List (Str × D)} (b : Bt m L C) (hm : m ≤ 32) (hL : L ≤ 24) : okQ (dB dI C) := by
  have b := b.up hm hL
  have s := sh_dic (n := 3) (L := SL 32 2 + (32 * (SL 32 2 + 2) + 3)) (m := 24) (C := C) (fun p hp => ⟨b.key p.1 (List.mem_map.mpr ⟨p, hp, rfl⟩), sh_3 (b.val p.1 p.2 (get_of b.nd hp))⟩) b.len
  exact s.okQ (by decide) (by decide)
def okQb (d : D) : Bool := VL.pq d && (py d).showable && decide ((py d).depth ≤ 60) && decide ((PyData.shown (py d)).length ≤ sizeLine)
theorem okQ_of {d : D} (h : okQb d = true) : VL.okQ d := by
  unfold okQb at h
  rw [Bool.and_eq_true, Bool.and_eq_true, Bool.and_eq_true] at h
  exact ⟨h.1.1.1, h.1.1.2, of_decide_eq_true h.1.2, of_decide_eq_true h.2⟩
theorem odd4_okb : odd4.all okQb = true := by decide +kernel
theorem odd4_okQ {x : D} (h : x ∈ odd4) : VL.okQ x := okQ_of (List.all_eq_true.mp odd4_okb x h)
def Th (m L : Nat) (d : D) : Prop := (∃ C, d = dB dI C ∧ Bt m L C) ∨ d ∈ odd4
theorem Th.okQ {m L : Nat} {d : D} (h : Th m L d) (hm : m ≤ 32) (hL : L ≤ 24) : VL.okQ d := by
  rcases h with ⟨C, rfl, b⟩ | h
  · exact b.okQ hm hL
  · exact odd4_okQ h
end TBW
set_option Elab.async false
set_option linter.all false
set_option maxRecDepth 100000
set_option maxHeartbeats 1000000
namespace TBW
open PySem PySem.Spec L2 VL TB
open PyProof.Rows hiding St
def F_Table___contains__ : FD := fun ds Q => ∃ B W K d, ds = [tabD B W K, d] ∧ tyName d ≠ none ∧ Q (.bl (inT (dom B) d))
/-- a table as the law and the program make it: classes and words in order -/
structure TabS (B W K : Bs) : Prop where
  ok : TabOk B W K
  so : sortT (dom B) = dom B
  sw : ∀ n ws, get W n = some ws → sortT ws = ws
end TBW
set_option Elab.async false
set_option linter.all false
set_option maxRecDepth 100000
set_option maxHeartbeats 1000000
namespace TBW
open PySem PySem.Spec L2 VL TB
open PyProof.Rows hiding St
inductive Act where
  | bases (n : Str) (bs : List Str)
  | put (n w : Str)
  | drop (n w : Str)
def wsOf (W : Bs) (n : Str) : List Str := (get W n).getD []
/-- of the right form -/
def form (B : Bs) : Act → Prop
  | .bases n bs => n ∈ dom B ∧ areS (dom B) n bs = true
  | .put n w => n ∈ dom B ∧ isWs w = true
  | .drop n w => n ∈ dom B ∧ isWs w = true
theorem wsOf_some {W : Bs} {n : Str} {ws : List Str} (e : get W n = some ws) : wsOf W n = ws := by unfold wsOf; rw [e]; rfl
end TBW
set_option Elab.async false
set_option linter.all false
set_option maxRecDepth 100000
set_option maxHeartbeats 1000000
namespace TBW
open PySem PySem.Spec L2 VL TB
open PyProof.Rows hiding St
def nB (B : Bs) : Act → Bs
  | .bases n bs => putB B n bs
  | _ => B
def less (W : Bs) (n w : Str) : List Str := (wsOf W n).filter fun x => !decide (x = w)
def nW (W : Bs) : Act → Bs
  | .put n w => putB W n (sortT (less W n w ++ [w]))
  | .drop n w => putB W n (sortT (less W n w))
  | .bases _ _ => W
section
variable {B W K : Bs}
theorem TabS.ws (t : TabS B W K) {n : Str} (hn : n ∈ dom B) : get W n = some (wsOf W n) ∧ (wsOf W n).length ≤ 4 ∧ (wsOf W n).Nodup ∧ ∀ w ∈ wsOf W n, isWs w = true ∧ okT w := by
  obtain ⟨ws, ew⟩ := get_some.mpr (show n ∈ dom W by rw [t.ok.dw]; exact hn)
  rw [wsOf_some ew]
  exact ⟨ew, t.ok.wk n ws ew⟩
theorem TabS.bs (t : TabS B W K) {n : Str} (hn : n ∈ dom B) : get B n = some ((get B n).getD []) ∧ areS (dom B) n ((get B n).getD []) = true := by
  obtain ⟨bs, eb⟩ := get_some.mpr hn
  rw [eb]
  exact ⟨rfl, t.ok.ok n bs eb⟩
theorem dom_nB {a : Act} (f : form B a) : dom (nB B a) = dom B := by
  cases a with
  | bases n bs => unfold nB; rw [dom_putB, if_pos f.1]
  | put n w => rfl
  | drop n w => rfl
end
end TBW
set_option Elab.async false
set_option linter.all false
set_option maxRecDepth 100000
set_option maxHeartbeats 1000000
namespace TBW
open PySem PySem.Spec L2 VL TB
open PyProof.Rows hiding St
end TBW
set_option Elab.async false
set_option linter.all false
set_option maxRecDepth 100000
set_option maxHeartbeats 1000000
namespace TBW
open PySem PySem.Spec L2 VL TB
open PyProof.Rows hiding St
def ch (s : Str) : List Nat := s.cps.toList
def Lt (z : Str) : Prop := ∀ c ∈ ch z, c ∈ lets
theorem isCs_Lt {z : Str} (h : isCs z = true) : Lt z := fun c hc => by
  unfold isCs at h
  rw [Bool.and_eq_true] at h
  have h2 := h.2
  cases el : z.cps.toList with
  | nil => unfold ch at hc; rw [el] at hc; cases hc
  | cons x r =>
    unfold ch at hc
    rw [el] at h2 hc
    have h2 : (decide (x ∈ larges.cps.toList) && r.all fun c => decide (c ∈ smalls.cps.toList)) = true := h2
    rw [Bool.and_eq_true] at h2
    rcases List.mem_cons.mp hc with rfl | hc
    · exact List.mem_append_right _ (of_decide_eq_true h2.1)
    · exact List.mem_append_left _ (of_decide_eq_true (List.all_eq_true.mp h2.2 c hc))
theorem isWs_Lt {z : Str} (h : isWs z = true) : Lt z := fun c hc => by
  unfold isWs at h
  rw [Bool.and_eq_true] at h
  exact List.mem_append_left _ (of_decide_eq_true (List.all_eq_true.mp h.2 c hc))
/-- the rest of a joined text -/
def tl : List Str → List Nat
  | [] => []
  | t :: r => 44 :: 32 :: (ch t ++ tl r)
def LtP (p : Str × List Str) : Prop := Lt p.1 ∧ ∀ b ∈ p.2, Lt b
theorem TabS.lt {B W K : Bs} (t : TabS B W K) : (∀ p ∈ B, LtP p) ∧ ∀ p ∈ W, LtP p := by
  constructor
  · intro p hp
    have hn : p.1 ∈ dom B := List.mem_map.mpr ⟨p, hp, rfl⟩
    have am := areS_mem (t.ok.ok p.1 p.2 (get_of t.ok.nd hp))
    exact ⟨isCs_Lt (t.ok.cn _ hn).1, fun b hb => isCs_Lt (t.ok.cn b (am.2.1 b hb).1).1⟩
  · intro p hp
    have hn : p.1 ∈ dom B := by rw [← t.ok.dw]; exact List.mem_map.mpr ⟨p, hp, rfl⟩
    have wk := t.ok.wk p.1 p.2 (get_of (by rw [t.ok.dw]; exact t.ok.nd) hp)
    exact ⟨isCs_Lt (t.ok.cn _ hn).1, fun b hb => isWs_Lt (wk.2.2 b hb).1⟩
end TBW
set_option Elab.async false
set_option linter.all false
set_option maxRecDepth 100000
set_option maxHeartbeats 1000000
namespace TBW
open PySem PySem.Spec L2 VL TB
open PyProof.Rows hiding St
section
variable {B W K B2 W2 K2 : Bs}
theorem sh_rows (h : ∀ p ∈ B, at0 (.str p.1) = true ∧ p.2.length ≤ 4 ∧ ∀ b ∈ p.2, at0 (.str b) = true) (hl : B.length ≤ 6) : Sh 2 (6 * (SL 4 1 + 16) + 3) (dB sT B) := by
  have e : dB sT B = dB dI (B.map fun p => (p.1, sT p.2)) := by
    unfold dB
    have hd : dom (B.map fun p : Str × List Str => (p.1, sT p.2)) = dom B := by unfold dom; rw [List.map_map]; rfl
    rw [hd, List.map_map]
    rfl
  rw [e]
  refine sh_dic (n := 1) (L := SL 4 1) (fun p hp => ?_) (by rw [List.length_map]; exact hl)
  obtain ⟨q, hq, rfl⟩ := List.mem_map.mp hp
  obtain ⟨h1, h2, h3⟩ := h q hq
  refine ⟨h1, lv_sh (lv_tup (by rw [List.length_map]; exact h2) fun y hy => ?_)⟩
  obtain ⟨b, hb, rfl⟩ := List.mem_map.mp hy
  exact h3 b hb
theorem TabS.rowsB (t : TabS B W K) : ∀ p ∈ B, at0 (.str p.1) = true ∧ p.2.length ≤ 4 ∧ ∀ b ∈ p.2, at0 (.str b) = true := fun p hp => by
  have hn : p.1 ∈ dom B := List.mem_map.mpr ⟨p, hp, rfl⟩
  have am := areS_mem (t.ok.ok p.1 p.2 (get_of t.ok.nd hp))
  exact ⟨isCs_at (t.ok.cn _ hn).1, by have := am.1; omega, fun b hb => isCs_at (t.ok.cn b (am.2.1 b hb).1).1⟩
theorem TabS.rowsW (t : TabS B W K) : ∀ p ∈ W, at0 (.str p.1) = true ∧ p.2.length ≤ 4 ∧ ∀ b ∈ p.2, at0 (.str b) = true := fun p hp => by
  have hn : p.1 ∈ dom B := by rw [← t.ok.dw]; exact List.mem_map.mpr ⟨p, hp, rfl⟩
  have wk := t.ok.wk p.1 p.2 (get_of (by rw [t.ok.dw]; exact t.ok.nd) hp)
  exact ⟨isCs_at (t.ok.cn _ hn).1, wk.1, fun b hb => isWs_at (wk.2.2 b hb).1⟩
theorem TabS.lenW (t : TabS B W K) : W.length ≤ 6 := by
  have e : (dom W).length = W.length := List.length_map _
  have e2 : (dom B).length = B.length := List.length_map _
  have := t.ok.len.2
  rw [← e, t.ok.dw, e2]
  exact this
theorem TabS.okQ (t : TabS B W K) : VL.okQ (.lst [dB sT B, dB sT W]) := by
  have s1 := sh_rows t.rowsB t.ok.len.2
  have s2 := sh_rows t.rowsW t.lenW
  have s := sh_lst (m := 2) (ys := [dB sT B, dB sT W]) (fun y hy => by
    rcases List.mem_cons.mp hy with rfl | hy
    · exact s1
    · rw [List.mem_singleton.mp hy]; exact s2) (Nat.le_refl _)
  exact s.okQ (by decide) (by decide)
theorem vl_rep {te : TDE} {Γ : Gm} {o : D} (h : Vl te Γ o) (ok : VL.okQ o) : Vl (rdCB rdRepQ (rdCons te rdNil)) Γ (.str (PyData.shown (py o))) := vl_cb (va_cons h va_nil) fun Q q => ⟨ok, q⟩
end
end TBW
set_option Elab.async false
set_option linter.all false
set_option maxRecDepth 100000
set_option maxHeartbeats 1000000
namespace TBW
open PySem PySem.Spec L2 VL TB
open PyProof.Rows hiding St
end TBW
set_option Elab.async false
set_option linter.all false
set_option maxRecDepth 100000
set_option maxHeartbeats 1000000
namespace TBW
open PySem PySem.Spec L2 VL TB
open PyProof.Rows hiding St
/-- things by levels, empty dicts among the atoms -/
def lvE (m : Nat) : Nat → D → Prop
  | 0, d => at0 d = true ∨ d = .dic [] []
  | k + 1, d => (at0 d = true ∨ d = .dic [] []) ∨ ∃ ys, seqOf d = some ys ∧ ys.length ≤ m ∧ ∀ y ∈ ys, lvE m k y
theorem lvE_at {m k : Nat} {d : D} (h : at0 d = true) : lvE m k d := by
  cases k with
  | zero => exact .inl h
  | succ k => exact .inl (.inl h)
theorem lvE_e {m k : Nat} : lvE m k (.dic [] []) := by
  cases k with
  | zero => exact .inr rfl
  | succ k => exact .inl (.inr rfl)
theorem lvE_seq {m k : Nat} {d : D} {ys : List D} (h : seqOf d = some ys) (hl : ys.length ≤ m) (hy : ∀ y ∈ ys, lvE m k y) : lvE m (k + 1) d := .inr ⟨ys, h, hl, hy⟩
theorem sh_emp : Sh 1 3 (.dic [] []) := sh_dic (n := 0) (L := 12) (m := 0) (C := []) (fun p hp => by cases hp) (Nat.le_refl _)
theorem lvE_sh {m : Nat} : ∀ {k : Nat} {d : D}, lvE m k d → Sh (k + 1) (SL m k) d
  | 0, _, .inl a => (sh_at a).up (Nat.zero_le _) (Nat.le_refl _)
  | 0, _, .inr a => by subst a; exact sh_emp.up (Nat.le_refl _) (show 3 ≤ 12 by decide)
  | k + 1, _, .inl (.inl a) => (sh_at a).up (Nat.zero_le _) (Nat.le_add_right _ _)
  | k + 1, _, .inl (.inr a) => by subst a; exact sh_emp.up (by omega) (by show 3 ≤ 12 + _; omega)
  | k + 1, _, .inr ⟨ys, e, l, hy⟩ => by
    have : ∀ y ∈ ys, Sh (k + 1) (SL m k) y := fun y hm => lvE_sh (hy y hm)
    rcases seqOf_cases e with rfl | rfl
    · exact (sh_lst this l).up (Nat.le_refl _) (Nat.le_add_left _ _)
    · exact (sh_tup this l).up (Nat.le_refl _) (Nat.le_add_left _ _)
/-- a thing drawn -/
def Tg (x : D) : Prop := lvE 6 3 x ∧ ∀ y ys, x = .tup (y :: ys) → okN 40 y
theorem Tg.okQ {x : D} (h : Tg x) : VL.okQ x := (lvE_sh h.1).okQ (by decide) (by decide)
/-- what is drawn first: a kind and parts -/
structure Fd (x : D) : Prop where
  ex : ∃ k rest, x = .tup (.str k :: rest) ∧ at0 (.str k) = true ∧ 1 ≤ rest.length ∧ rest.length ≤ 2 ∧ ∀ y ∈ rest, lvE 6 2 y
theorem tx : ∀ z ∈ (["put", "drop", "bases", "Put", "call", "Nobody", "a", "", "A", "m", "n", "zz", "p", "q", "abcdefghi", "a b"] : List Str), at0 (.str z) = true := by decide +kernel
end TBW
set_option Elab.async false
set_option linter.all false
set_option maxRecDepth 100000
set_option maxHeartbeats 1000000
namespace TBW
open PySem PySem.Spec L2 VL TB
open PyProof.Rows hiding St
def isPut (a : Act) (o : Option Str) (w : Str) : Bool := match a, o with
  | .put n v, some m => decide (n = m) && decide (v = w)
  | _, _ => false
def turnB (W K W2 K2 : Bs) (a : Act) (n w : Str) : Bool := !decide (ownO W2 K2 n w = ownO W K n w) || isPut a (ownO W2 K2 n w) w
end TBW
set_option Elab.async false
set_option linter.all false
set_option maxRecDepth 100000
set_option maxHeartbeats 1000000
namespace TBW
open PySem PySem.Spec L2 VL TB
open PyProof.Rows hiding St
end TBW
set_option Elab.async false
set_option linter.all false
set_option maxRecDepth 100000
set_option maxHeartbeats 1000000
namespace TBW
open PySem PySem.Spec L2 VL TB
open PyProof.Rows hiding St
abbrev Gs := List (List Str)
theorem G_okb : (L_GUARDS.all fun g => (g.all fun x => PyData.strOk x) && !g.isEmpty) = true ∧ L_GUARDS.Nodup ∧ L_GUARDS.length = 23 := by decide +kernel
theorem G_ok {g : List Str} (h : g ∈ L_GUARDS) : okTs g ∧ g ≠ [] := by
  have := List.all_eq_true.mp G_okb.1 g h
  rw [Bool.and_eq_true] at this
  refine ⟨fun x hx => List.all_eq_true.mp this.1 x hx, fun e => ?_⟩
  rw [e] at this
  exact absurd this.2 (by decide)
theorem okN_sT {l : List Str} (h : okTs l) : okN 1 (sT l) := okN_tup (n := 0) fun d hd => by
  obtain ⟨x, hx, rfl⟩ := List.mem_map.mp hd
  exact okN_str (h x hx)
theorem okN_G {g : List Str} (h : g ∈ L_GUARDS) : okN 40 (sT g) := (okN_sT (G_ok h).1).up (by decide)
theorem isIn_sT {g : List Str} : ∀ {gs : Gs}, isIn (sT g) (gs.map sT) = decide (g ∈ gs)
  | [] => rfl
  | y :: r => by
    show (eqD (sT y) (sT g) || isIn (sT g) (r.map sT)) = _
    rw [isIn_sT, eqD_sT]
    by_cases h : y = g
    · subst h; simp
    · have h2 : ¬ g = y := fun e => h e.symm
      simp [h, h2]
theorem eqD_gs : ∀ {a b : Gs}, eqD (.tup (a.map sT)) (.tup (b.map sT)) = decide (a = b) := fun {a b} => by
  have h : PyData.eqvAll (pyAll (a.map sT)) (pyAll (b.map sT)) = decide (a = b) := by
    have := eqD_rows (xs := a) (ys := b)
    exact this
  show PyData.eqv (.tuple (pyAll (a.map sT))) (.tuple (pyAll (b.map sT))) = _
  simp only [PyData.eqv]
  exact h
theorem okN_gs {a : Gs} (h : ∀ g ∈ a, okTs g) : okN 2 (.tup (a.map sT)) := okN_tup (n := 1) fun d hd => by
  obtain ⟨g, hg, rfl⟩ := List.mem_map.mp hd
  exact okN_sT (h g hg)
theorem okN_gl {a : Gs} (h : ∀ g ∈ a, okTs g) : okN 2 (.lst (a.map sT)) := okN_lst (n := 1) fun d hd => by
  obtain ⟨g, hg, rfl⟩ := List.mem_map.mp hd
  exact okN_sT (h g hg)
theorem v2_inG {neg : Bool} {g : List Str} {gs : Gs} (h1 : okTs g) (h2 : ∀ g ∈ gs, okTs g) : V2 (rdInB neg) (sT g) (.tup (gs.map sT)) (.bl (neg ^^ decide (g ∈ gs))) := fun Q q => by
  show rdIn neg (sT g) (.tup (gs.map sT)) Q
  rw [rdIn_t]
  exact ⟨(okN_sT h1).e (by decide), (okN_gs h2).e (by decide), by rw [isIn_sT]; exact q⟩
theorem v2_inGl {neg : Bool} {g : List Str} {gs : Gs} (h1 : okTs g) (h2 : ∀ g ∈ gs, okTs g) : V2 (rdInB neg) (sT g) (.lst (gs.map sT)) (.bl (neg ^^ decide (g ∈ gs))) := fun Q q => by
  show rdIn neg (sT g) (.lst (gs.map sT)) Q
  rw [rdIn_l]
  exact ⟨(okN_sT h1).e (by decide), (okN_gl h2).e (by decide), by rw [isIn_sT]; exact q⟩
def lotL (gs : Gs) : Gs := L_GUARDS.filter fun g => decide (g ∈ gs)
def lotOf (l : Gs) : D := .obj "Lot" ["own_guards"] [.tup (l.map sT)]
abbrev lotD (gs : Gs) : D := lotOf (lotL gs)
theorem lotL_mem {g : List Str} {gs : Gs} : g ∈ lotL gs ↔ g ∈ L_GUARDS ∧ g ∈ gs := by unfold lotL; rw [List.mem_filter, decide_eq_true_iff]
theorem lotL_ok {g : List Str} {gs : Gs} (h : g ∈ lotL gs) : okTs g := (G_ok (lotL_mem.mp h).1).1
theorem lotL_len {gs : Gs} : (lotL gs).length ≤ 23 := by
  have := List.length_filter_le (fun g => decide (g ∈ gs)) L_GUARDS
  rw [G_okb.2.2] at this
  exact this
theorem lotL_cong {a b : Gs} (h : ∀ g ∈ L_GUARDS, (g ∈ a ↔ g ∈ b)) : lotL a = lotL b := List.filter_congr fun g hg => decide_eq_decide.mpr (h g hg)
theorem lotL_eq {a b : Gs} : lotL a = lotL b ↔ ∀ g ∈ L_GUARDS, (g ∈ a ↔ g ∈ b) := by
  refine ⟨fun e g hg => ?_, lotL_cong⟩
  have := (lotL_mem (g := g) (gs := a))
  rw [e, lotL_mem] at this
  exact ⟨fun z => (this.mpr ⟨hg, z⟩).2, fun z => (this.mp ⟨hg, z⟩).2⟩
theorem lotL_app {a b : Gs} : lotL (lotL a ++ lotL b) = lotL (a ++ b) := lotL_cong fun g hg => by
  rw [List.mem_append, List.mem_append, lotL_mem, lotL_mem]
  exact ⟨fun z => z.elim (fun z => .inl z.2) fun z => .inr z.2, fun z => z.elim (fun z => .inl ⟨hg, z⟩) fun z => .inr ⟨hg, z⟩⟩
def isG : D → Bool
  | .tup ds => isIn (.tup ds) (L_GUARDS.map sT)
  | _ => false
theorem isG_sT {g : List Str} (h : g ∈ L_GUARDS) : isG (sT g) = true := by
  show isIn (sT g) (L_GUARDS.map sT) = true
  rw [isIn_sT]
  exact decide_eq_true h
def F_is_guard : FD := fun ds Q => ∃ x, ds = [x] ∧ tyName x ≠ none ∧ (∀ ys, x = .tup ys → okE x) ∧ Q (.bl (isG x))
theorem len_is_guard {ds : List D} {Q : D → Prop} (h : F_is_guard ds Q) : ds.length = 1 := by obtain ⟨_, rfl, _⟩ := h; rfl
def rd_is_guard : TDS :=
    (rdRet (rdAndV (rdCB rdIsi (rdCons (rdVar 0) (rdCons (rdC (.ty "tuple")) rdNil))) (rdOp (rdInB false) (rdVar 0) (rdC D_GUARDS))))
abbrev N_is_guard : List Str := ["value"]
theorem okE_GUARDS : okE D_GUARDS := (okN_gs fun g hg => (G_ok hg).1).e (by decide)
def FX_Lot___init__ : FX := fun ds Q X => ∃ xs : List D, ds = [.tup xs] ∧ xs.length ≤ 1000 ∧ (∀ x ∈ xs, tyName x ≠ none ∧ ∀ ys, x = .tup ys → okN 40 x) ∧ ((∀ x ∈ xs, isG x = true) → Q (lotOf (L_GUARDS.filter fun g => isIn (sT g) xs))) ∧ (∀ pre x post, xs = pre ++ x :: post → (∀ y ∈ pre, isG y = true) → isG x = false → X (.exc "BadGuard" ["guard"] [x]))
def rd_x_Lot___init__ (xk : D → Prop) : TDS :=
    (rdSeq (rdFor (rdIAny (rdVar 1)) (rgName 2) (rdIfS (rdNot (rdTest (rdCall F_is_guard [] (rdCons (rdVar 2) rdNil)))) (rdRaiseX "BadGuard" "guard" xk (rdCons (rdVar 2) rdNil)) rdNext))
    (rdPutF 0 "Lot" "own_guards" (rdCB rdTuple (rdCons (rdShare (rdLc (rdIAny (rdC D_GUARDS)) (rgName 2) (rdTest (rdOp (rdInB false) (rdVar 2) (rdVar 1))) (rdVar 2) [2])) rdNil))))
abbrev N_Lot___init__ : List Str := ["self", "guards", "guard"]
theorem rdl_x_Lot___init__ {y : Addr} {ds : List D} {Q xk : D → Prop} (h : FX_Lot___init__ ds Q xk) : rd_x_Lot___init__ xk { nx := fun Γ => ∃ d, Γ[0]? = some (.slf y d) ∧ Q d, rt := fun _ => False } (.slf y (.obj "Lot" [] []) :: startG N_Lot___init__.tail ds) := by
  obtain ⟨xs, rfl, hl, ok, q, qx⟩ := h
  refine sq_for (L := xs) (vi_any (d := .tup xs) (vl_var rfl) fun k hk => hk) ?_
  have key : ∀ (post pre : List D) (s2 : Sl), s2.isOwn = false → xs = pre ++ post → (∀ z ∈ pre, isG z = true) →
      goFor (rgName 2) (rdIfS (rdNot (rdTest (rdCall F_is_guard [] (rdCons (rdVar 2) rdNil)))) (rdRaiseX "BadGuard" "guard" xk (rdCons (rdVar 2) rdNil)) rdNext) { nx := rdPutF 0 "Lot" "own_guards" (rdCB rdTuple (rdCons (rdShare (rdLc (rdIAny (rdC D_GUARDS)) (rgName 2) (rdTest (rdOp (rdInB false) (rdVar 2) (rdVar 1))) (rdVar 2) [2])) rdNil)) { nx := fun Γ => ∃ d, Γ[0]? = some (.slf y d) ∧ Q d, rt := fun _ => False }, rt := fun _ => False } post [.slf y (.obj "Lot" [] []), .dat (.tup xs), s2] := by
    intro post
    induction post with
    | nil =>
      intro pre s2 h2 e hp
      rw [List.append_nil] at e
      subst e
      have okt : ∀ x ∈ xs, okN 40 x := fun x hx => by
        have g := hp x hx
        cases x <;> first | cases g | exact (ok _ hx).2 _ rfl
      refine st_putF (ns := []) (es := []) (d := .tup ((L_GUARDS.filter fun g => isIn (sT g) xs).map sT)) (vl_cb (va_cons (vl_sh (vl_lc (g := sT) (f := sT) (p := fun g => isIn (sT g) xs) (L := L_GUARDS) (vi_any (d := .tup (L_GUARDS.map sT)) vl_c fun k hk => hk) (show 2 < 3 by decide) (fun v hv s e => by rw [List.mem_singleton.mp hv] at e; cases e; exact h2) (small_n (by rw [G_okb.2.2]; decide)) (fun g hg => ?_) fun g hg _ => vl_var rfl)) va_nil) vc_tupL) rfl (by show 0 < 1000; decide) ?_
      · refine vt_test (vl_op (vl_var rfl) (vl_var rfl) fun Q q => ?_)
        show rdIn false (sT g) (.tup xs) Q
        rw [rdIn_t, Bool.false_xor]
        exact ⟨(okN_G hg).e (by decide), (okN_tup fun x hx => okt x hx).e (by decide), q⟩
      · exact ⟨_, rfl, q hp⟩
    | cons x post ih =>
      intro pre s2 h2 e hp
      have hx : x ∈ xs := by rw [e]; exact List.mem_append_right _ List.mem_cons_self
      show rdIfS _ _ _ _ [.slf y (.obj "Lot" [] []), .dat (.tup xs), .dat x]
      refine st_if (b := !isG x) (vt_not (vt_test (vl_call (va_cons (vl_var rfl) va_nil) fun Q q => ⟨x, rfl, (ok x hx).1, fun ys e => ((ok x hx).2 ys e).e (by decide), q⟩))) (fun hb => ?_) fun hb => ?_
      · exact (va_cons (vl_var rfl) va_nil) _ ⟨x, rfl, qx pre x post e hp ((Bool.not_eq_true' _).mp hb)⟩
      · refine ih (pre ++ [x]) (.dat x) rfl (by rw [e, List.append_assoc]; rfl) fun z hz => ?_
        rcases List.mem_append.mp hz with hz | hz
        · exact hp z hz
        · rw [List.mem_singleton.mp hz]; exact (Bool.not_eq_false' _).mp hb
  exact key xs [] .no rfl rfl fun _ z => by cases z
theorem lot_call {gs : Gs} {Q X : D → Prop} (h : ∀ g ∈ gs, g ∈ L_GUARDS) (hl : gs.length ≤ 1000) (q : Q (lotD gs)) : FX_Lot___init__ [.tup (gs.map sT)] Q X := by
  refine ⟨gs.map sT, rfl, by rw [List.length_map]; exact hl, fun x hx => ?_, fun _ => ?_, fun pre x post e _ hx => ?_⟩
  · obtain ⟨g, hg, rfl⟩ := List.mem_map.mp hx
    exact ⟨(fun z => by cases z), fun _ _ => okN_G (h g hg)⟩
  · have e : (L_GUARDS.filter fun g => isIn (sT g) (gs.map sT)) = lotL gs := List.filter_congr fun g _ => isIn_sT
    rw [e]
    exact q
  · have : x ∈ gs.map sT := by rw [e]; exact List.mem_append_right _ List.mem_cons_self
    obtain ⟨g, hg, rfl⟩ := List.mem_map.mp this
    rw [isG_sT (h g hg)] at hx
    cases hx
theorem nd_callS {F : FX} {xk : D → Prop} {dt : TDF} {Γ : Gm} {ds : List D} {Q : D → Gm → Prop} (h : VA dt Γ ds) (hl : ds.length ≤ 1000) (hc : F [.tup ds] (fun d => Q d Γ) xk) : rdCallS F xk dt Γ Q := h _ ⟨small_n hl, hc⟩
theorem va_starT {te : TDE} {dt : TDF} {Γ : Gm} {xs ds : List D} (h : Vl te Γ (.tup xs)) (hr : VA dt Γ ds) : VA (rdStar te dt) Γ (xs ++ ds) := fun Q q => h _ (hr _ q)
theorem va_starL {te : TDE} {dt : TDF} {Γ : Gm} {xs ds : List D} (h : Vl te Γ (.lst xs)) (hr : VA dt Γ ds) : VA (rdStar te dt) Γ (xs ++ ds) := fun Q q => h _ (hr _ q)
theorem vl_isiK {te : TDE} {Γ : Gm} {x : D} {cn : Str} {others : List Str} {b : Bool} (h : Vl te Γ x) (e : isiO cn others x = some b) : Vl (rdIsiK cn others te) Γ (.bl b) := fun Q q => h _ ⟨b, e, q⟩
theorem isiO_self {cn : Str} {others : List Str} {ns : List Str} {es : List D} : isiO cn others (.obj cn ns es) = some true := by
  show (if cn = cn then some true else if others.contains cn then some false else none) = some true
  exact if_pos rfl
theorem isiO_ty0 {cn : Str} {others : List Str} {x : D} (h : tyName x ≠ none) : isiO cn others x = some false := by
  cases x <;> first | rfl | exact absurd rfl h
theorem lot_fld {l : Gs} {te : TDE} {Γ : Gm} (h : Vl te Γ (lotOf l)) : Vl (rdFld "Lot" "own_guards" te) Γ (.tup (l.map sT)) := vl_fld h rfl
def F_Lot___or__ : FD := fun ds Q => ∃ a b, ds = [lotD a, lotD b] ∧ Q (lotD (a ++ b))
theorem len_Lot___or__ {ds : List D} {Q : D → Prop} (h : F_Lot___or__ ds Q) : ds.length = 2 := by obtain ⟨_, _, rfl, _⟩ := h; rfl
def rd_Lot___or__ : TDS :=
    (rdSeq (rdIfS (rdNot (rdTest (rdIsiK "Lot" [] (rdVar 1)))) (fun _ _ => False) rdNext)
    (rdRet (rdCallS FX_Lot___init__ (fun _ => False) (rdStar (rdFld "Lot" "own_guards" (rdVar 0)) (rdStar (rdFld "Lot" "own_guards" (rdVar 1)) rdNil)))))
abbrev N_Lot___or__ : List Str := ["self", "other"]
theorem lots_call {a b : Gs} {te tb : TDE} {Γ : Gm} {Q : D → Gm → Prop} {xk : D → Prop} (ha : Vl te Γ (lotD a)) (hb : Vl tb Γ (lotD b)) (q : Q (lotD (a ++ b)) Γ) : rdCallS FX_Lot___init__ xk (rdStar (rdFld "Lot" "own_guards" te) (rdStar (rdFld "Lot" "own_guards" tb) rdNil)) Γ Q := by
  have e : (lotL a).map sT ++ ((lotL b).map sT ++ []) = (lotL a ++ lotL b).map sT := by rw [List.append_nil, List.map_append]
  have l1 := lotL_len (gs := a)
  have l2 := lotL_len (gs := b)
  refine nd_callS (ds := (lotL a ++ lotL b).map sT) (e ▸ va_starT (lot_fld ha) (va_starT (lot_fld hb) va_nil)) (by rw [List.length_map, List.length_append]; omega) (lot_call (fun g hg => ?_) (by rw [List.length_append]; omega) (by unfold lotD at q ⊢; rw [lotL_app]; exact q))
  rcases List.mem_append.mp hg with hg | hg
  · exact (lotL_mem.mp hg).1
  · exact (lotL_mem.mp hg).1
theorem rdl_Lot___or__ {ds : List D} {Q : D → Prop} (h : F_Lot___or__ ds Q) : rd_Lot___or__ { nx := fun _ => Q .non, rt := Q } (startG N_Lot___or__ ds) := by
  obtain ⟨a, b, rfl, q⟩ := h
  refine sq_if (b := !true) (vt_not (vt_test (vl_isiK (vl_var rfl) isiO_self))) (fun z => by cases z) fun _ => ?_
  exact lots_call (vl_var rfl) (vl_var rfl) q
def F_Lot___eq__ : FD := fun ds Q => ∃ a x, ds = [lotD a, x] ∧ ((∃ b, x = lotD b ∧ Q (.bl (decide (lotL a = lotL b)))) ∨ (tyName x ≠ none ∧ Q (.bl false)))
theorem len_Lot___eq__ {ds : List D} {Q : D → Prop} (h : F_Lot___eq__ ds Q) : ds.length = 2 := by obtain ⟨_, _, rfl, _⟩ := h; rfl
def rd_Lot___eq__ : TDS :=
    (rdRet (rdAndV (rdIsiK "Lot" [] (rdVar 1)) (rdOp rdEq (rdFld "Lot" "own_guards" (rdVar 0)) (rdFld "Lot" "own_guards" (rdVar 1)))))
abbrev N_Lot___eq__ : List Str := ["self", "other"]
theorem v2_eqGs {a b : Gs} (ha : ∀ g ∈ a, okTs g) (hb : ∀ g ∈ b, okTs g) : V2 rdEq (.tup (a.map sT)) (.tup (b.map sT)) (.bl (decide (a = b))) := fun Q q => ⟨(okN_gs ha).e (by decide), (okN_gs hb).e (by decide), by rw [eqD_gs]; exact q⟩
theorem rdl_Lot___eq__ {ds : List D} {Q : D → Prop} (h : F_Lot___eq__ ds Q) : rd_Lot___eq__ { nx := fun _ => Q .non, rt := Q } (startG N_Lot___eq__ ds) := by
  obtain ⟨a, x, rfl, ⟨b, rfl, q⟩ | ⟨ty, q⟩⟩ := h
  · exact st_ret (vl_and (b1 := true) (vl_isiK (vl_var rfl) isiO_self) fun _ => vl_op (lot_fld (vl_var rfl)) (lot_fld (vl_var rfl)) (v2_eqGs (fun g => lotL_ok) fun g => lotL_ok)) q
  · exact st_ret (vl_and (b1 := false) (b2 := false) (vl_isiK (vl_var rfl) (isiO_ty0 ty)) fun z => by cases z) q
theorem v2_lotEq {a b : Gs} : V2 (rdOwnEq "Lot" F_Lot___eq__) (lotD a) (lotD b) (.bl (decide (lotL a = lotL b))) := fun Q q => ⟨rfl, .inr ⟨rfl, True.intro⟩, a, _, rfl, .inl ⟨b, rfl, q⟩⟩
theorem v2_lotNe {a b : Gs} : V2 (rdOwnNe "Lot" F_Lot___eq__) (lotD a) (lotD b) (.bl (!decide (lotL a = lotL b))) := fun Q q => ⟨rfl, .inr ⟨rfl, True.intro⟩, a, _, rfl, .inl ⟨b, rfl, q⟩⟩
end TBW
set_option Elab.async false
set_option linter.all false
set_option maxRecDepth 100000
set_option maxHeartbeats 1000000
namespace TBW
open PySem PySem.Spec L2 VL TB PySem.W
open PyProof.Rows hiding St
def leG (a b : List Str) : Bool := leD (sT a) (sT b)
theorem srt_rows (xs : Gs) : (xs.map sT).mergeSort leD = (xs.mergeSort leG).map sT := (sort_maps (r := leG) (s := leD) sT (fun _ _ _ _ => rfl)).symm
theorem plAll_of {ds : List D} (h : ∀ d ∈ ds, pl d = true) : plAll ds = true := by
  induction ds with
  | nil => rfl
  | cons d r ih =>
    show (pl d && plAll r) = true
    rw [h d List.mem_cons_self, ih fun x hx => h x (List.mem_cons_of_mem _ hx)]
    rfl
theorem pl_sT (l : List Str) : pl (sT l) = true := plAll_of fun d hd => by
  obtain ⟨x, _, rfl⟩ := List.mem_map.mp hd
  rfl
theorem py_sT (l : List Str) : py (sT l) = .tuple (l.map PyData.str) := by
  show PyData.tuple (pyAll (sS l)) = _
  congr 1
  induction l with
  | nil => rfl
  | cons x r ih => show PyData.str x :: pyAll (sS r) = _; rw [ih]; rfl
theorem alike_strs : ∀ (a b : List Str), alikeAll (a.map PyData.str) (b.map PyData.str) = true
  | [], [] => rfl
  | [], _ :: _ => rfl
  | _ :: _, [] => rfl
  | x :: a, y :: b => by
    show (alike (.str x) (.str y) && alikeAll (a.map PyData.str) (b.map PyData.str)) = true
    rw [alike_strs a b]
    rfl
theorem okSrt_rows {xs : Gs} (h : ∀ g ∈ xs, g ≠ []) : okSrt (xs.map sT) := by
  have mem : ∀ d ∈ (xs.map sT).map py, ∃ g ∈ xs, d = .tuple (g.map PyData.str) := fun d hd => by
    obtain ⟨e, he, rfl⟩ := List.mem_map.mp hd
    obtain ⟨g, hg, rfl⟩ := List.mem_map.mp he
    exact ⟨g, hg, py_sT g⟩
  refine ⟨plAll_of fun d hd => ?_, fun d hd d' hd' => ?_, .inl fun d hd => ?_, fun d hd => ?_⟩
  · obtain ⟨g, _, rfl⟩ := List.mem_map.mp hd
    exact pl_sT g
  · obtain ⟨g, _, rfl⟩ := mem d hd
    obtain ⟨g', _, rfl⟩ := mem d' hd'
    simp only [alike]
    exact alike_strs g g'
  · obtain ⟨g, hg, rfl⟩ := mem d hd
    cases g with
    | nil => exact absurd rfl (h _ hg)
    | cons x r => exact ⟨_, _, rfl⟩
  · obtain ⟨g, hg, rfl⟩ := List.mem_map.mp hd
    rw [py_sT]
    have : ∀ l : List Str, PyData.depthAll (l.map PyData.str) = 0 := fun l => by
      induction l with
      | nil => rfl
      | cons x r ih => simp only [List.map_cons, PyData.depthAll, PyData.depth, ih]; rfl
    simp only [PyData.depth, this]
    decide
def G_raw : Gs := ([["all"], ["word"], ["found"]] : Gs) ++ (["own", "spot", "bases", "tag", "line"] : List Str).flatMap fun k => (["receiver", "owner", "ahead", "order"] : List Str).map fun w => [k, w]
theorem leG_one : ∀ a ∈ L_GUARDS, ∀ b ∈ L_GUARDS, leG a b = true → leG b a = true → a = b := by decide +kernel
theorem G_raw_sort : G_raw.mergeSort leG = L_GUARDS := by
  have p1 : ∀ g ∈ G_raw, g ∈ L_GUARDS := by decide +kernel
  have p2 : ∀ g ∈ L_GUARDS, g ∈ G_raw := by decide +kernel
  have nd : G_raw.Nodup := by decide +kernel
  have up : L_GUARDS.Pairwise fun a b => leG a b = true := by decide +kernel
  have tr : ∀ a ∈ L_GUARDS, ∀ b ∈ L_GUARDS, (leG a b || leG b a) = true := by decide +kernel
  have pm : (G_raw.mergeSort leG).Perm L_GUARDS := (List.mergeSort_perm _ _).trans ((List.perm_ext_iff_of_nodup nd G_okb.2.1).mpr fun g => ⟨p1 g, p2 g⟩)
  have up2 : (G_raw.mergeSort leG).Pairwise fun a b => leG a b = true := sort_pairwise (sortLe_total (listOrd itemOrd) false fun l : List Str => keyToks (py (sT l))) G_raw
  exact List.Perm.eq_of_pairwise (le := fun a b => leG a b = true) (fun a b ha hb h1 h2 => leG_one a (pm.mem_iff.mp ha) b hb h1 h2) up2 up pm
end TBW
set_option Elab.async false
set_option linter.all false
set_option maxRecDepth 100000
set_option maxHeartbeats 1000000
namespace TBW
open PySem PySem.Spec L2 VL TB
open PyProof.Rows hiding St
theorem vc_sortG : VC rdSortC [.lst (G_raw.map sT)] (.lst (L_GUARDS.map sT)) := fun Q q => ⟨okSrt_rows (by decide +kernel), by rw [srt_rows, G_raw_sort]; exact q⟩
def F__law_all_guards : FD := fun ds Q => ds = [] ∧ Q (.lst (L_GUARDS.map sT))
theorem len__law_all_guards {ds : List D} {Q : D → Prop} (h : F__law_all_guards ds Q) : ds.length = 0 := by rw [h.1]; rfl
abbrev N__law_all_guards : List Str := ["_law_found", "_law_kind", "_law_whose"]
def rd__law_all_guards : TDS :=
    (rdSeq (rdAsg (rdShare (rdLst (rdCons (rdTup (rdCons (rdC (.str "all")) rdNil)) (rdCons (rdTup (rdCons (rdC (.str "word")) rdNil)) (rdCons (rdTup (rdCons (rdC (.str "found")) rdNil)) rdNil))))) (rgName 0))
    (rdSeq (rdFor (rdIAny (rdShare (rdLst (rdCons (rdC (.str "own")) (rdCons (rdC (.str "spot")) (rdCons (rdC (.str "bases")) (rdCons (rdC (.str "tag")) (rdCons (rdC (.str "line")) rdNil)))))))) (rgName 1) (rdAsg (rdOp rdAddB (rdVar 0) (rdShare (rdLc (rdIAny (rdShare (rdLst (rdCons (rdC (.str "receiver")) (rdCons (rdC (.str "owner")) (rdCons (rdC (.str "ahead")) (rdCons (rdC (.str "order")) rdNil))))))) (rgName 2) (fun Γ Q => Q true Γ) (rdTup (rdCons (rdVar 1) (rdCons (rdVar 2) rdNil))) [2]))) (rgName 0)))
    (rdRet (rdShare (rdCF rdSortC (rdCons (rdVar 0) rdNil))))))
theorem guards_loop {E : EndsD} : ∀ (ks : List Str) (acc : Gs) (s1 : Sl), acc.length + 4 * ks.length ≤ 1000 → (∀ s, E.nx [.dat (.lst ((acc ++ ks.flatMap fun k => (["receiver", "owner", "ahead", "order"] : List Str).map fun w => [k, w]).map sT)), s, .no]) →
    goFor (rgName 1) (rdAsg (rdOp rdAddB (rdVar 0) (rdShare (rdLc (rdIAny (rdShare (rdLst (rdCons (rdC (.str "receiver")) (rdCons (rdC (.str "owner")) (rdCons (rdC (.str "ahead")) (rdCons (rdC (.str "order")) rdNil))))))) (rgName 2) (fun Γ Q => Q true Γ) (rdTup (rdCons (rdVar 1) (rdCons (rdVar 2) rdNil))) [2]))) (rgName 0)) E (ks.map D.str) [.dat (.lst (acc.map sT)), s1, .no]
  | [], acc, s1, hl, q => by
    have := q s1
    rw [List.flatMap_nil, List.append_nil] at this
    exact this
  | k :: ks, acc, s1, hl, q => by
    show rdAsg _ _ _ [.dat (.lst (acc.map sT)), .dat (.str k), .no]
    rw [List.length_cons] at hl
    refine st_asg (d := .lst ((acc ++ (["receiver", "owner", "ahead", "order"] : List Str).map fun w => [k, w]).map sT)) (vl_eq (vl_op (vl_var rfl) (vl_sh (vl_lcm (g := D.str) (f := fun w => sT [k, w]) (L := (["receiver", "owner", "ahead", "order"] : List Str)) (vi_any (d := sL ["receiver", "owner", "ahead", "order"]) (vl_sh (vl_lst (va_cons vl_c (va_cons vl_c (va_cons vl_c (va_cons vl_c va_nil)))) (sm rfl))) fun k hk => hk) (show 2 < 3 by decide) (noOwn_of rfl) (small_n (by decide)) fun w hw => vl_tup (va_cons (vl_var rfl) (va_cons (vl_var rfl) va_nil)) (sm rfl))) (v2_addL (small_n (by rw [List.length_map]; show acc.length + 4 ≤ 1000; omega)))) ?_) ?_
    · rw [List.map_append, List.map_map]; rfl
    · refine guards_loop ks _ (.dat (.str k)) (by rw [List.length_append]; show acc.length + 4 + 4 * ks.length ≤ 1000; omega) fun s => ?_
      have := q s
      rw [List.flatMap_cons, ← List.append_assoc] at this
      exact this
theorem rdl__law_all_guards {ds : List D} {Q : D → Prop} (h : F__law_all_guards ds Q) : rd__law_all_guards { nx := fun _ => Q .non, rt := Q } (startG N__law_all_guards ds) := by
  obtain ⟨rfl, q⟩ := h
  refine sq_asg (d := .lst (([["all"], ["word"], ["found"]] : Gs).map sT)) (vl_sh (vl_lst (va_cons (vl_tup (va_cons vl_c va_nil) (sm rfl)) (va_cons (vl_tup (va_cons vl_c va_nil) (sm rfl)) (va_cons (vl_tup (va_cons vl_c va_nil) (sm rfl)) va_nil))) (sm rfl))) ?_
  refine sq_for (L := (["own", "spot", "bases", "tag", "line"] : List Str).map D.str) (vi_any (d := sL ["own", "spot", "bases", "tag", "line"]) (vl_sh (vl_lst (va_cons vl_c (va_cons vl_c (va_cons vl_c (va_cons vl_c (va_cons vl_c va_nil))))) (sm rfl))) fun k hk => hk) ?_
  refine guards_loop _ _ .no (by decide) fun s => ?_
  show rdRet (rdShare (rdCF rdSortC (rdCons (rdVar 0) rdNil))) { nx := fun _ => Q .non, rt := Q } [.dat (.lst (G_raw.map sT)), s, .no]
  exact st_ret (vl_sh (vl_cf (va_cons (vl_var rfl) va_nil) vc_sortG)) q
def F9__law_mixed (d : Addr) : FD := fun ds Q => ∃ (α : Type) (f : α → D) (xs : List α), ds = [.ref d, .lst (xs.map f)] ∧ xs.length ≤ 100 ∧ (∀ x ∈ xs, okN 40 (f x)) ∧ ∀ ys : List α, ys.Perm xs → Q (.lst (ys.map f))
theorem len9__law_mixed {d : Addr} {ds : List D} {Q : D → Prop} (h : F9__law_mixed d ds Q) : ds.length = 2 := by obtain ⟨_, _, _, rfl, _⟩ := h; rfl
theorem mixed9_loop {d : Addr} {Q : D → Prop} {s1 : Sl} {α : Type} {f : α → D} : ∀ (n : Nat) (left found : List α), left.length + 1 ≤ n → left.length + found.length ≤ 100 → (∀ x ∈ left, okN 40 (f x)) → (∀ ys : List α, ys.Perm (found ++ left) → Q (.lst (ys.map f))) →
    goW (rdTest (rdPkL rdNe 2 (rdShare (rdLst rdNil)))) (rdDrop (rdApp 3 (rdPop 2 (rdCall (Ftake d) [] (rdCons (rdVar 0) (rdCons (rdPkLen 2) rdNil)))))) { nx := rdRet (rdVar 3) { nx := fun _ => Q .non, rt := Q }, rt := Q } n [.dat (.ref d), s1, .own (.lst (left.map f)), .own (.lst (found.map f))] := by
  intro n
  induction n with
  | zero => intro left found h; omega
  | succ n ih =>
    intro left found hl hb ok q
    have okl : okE (.lst (left.map f)) := (okN_lst (n := 40) fun y hy => by
      obtain ⟨x, hx, rfl⟩ := List.mem_map.mp hy
      exact ok x hx).e (by decide)
    have test : VT (rdTest (rdPkL rdNe 2 (rdShare (rdLst rdNil)))) [.dat (.ref d), s1, .own (.lst (left.map f)), .own (.lst (found.map f))] (!(left.map f).isEmpty) := vt_test (vl_pkL rfl (vl_sh (vl_lst va_nil (small_of (by decide)))) (v2_neL0 okl))
    by_cases e : left = []
    · subst e
      refine goW_end (c := rdTest (rdPkL rdNe 2 (rdShare (rdLst rdNil)))) test ?_
      show Q (.lst (found.map f))
      exact q found (by rw [List.append_nil])
    · refine goW_go (vt_eq test (by cases left with | nil => exact absurd rfl e | cons a b => rfl)) ?_
      have pos : 0 < left.length := List.length_pos_iff.mpr e
      show rdApp 3 _ _ _
      refine ⟨⟨_, rfl⟩, ?_⟩
      show rdPop 2 _ _ _
      refine ⟨⟨_, rfl⟩, ?_⟩
      refine nd_call (ds := [.ref d, .int (left.length : Nat)]) (va_cons (vl_var rfl) (va_cons (vl_pkLen rfl fun K k => ?_) va_nil)) (take_ok (by omega) (by omega) fun r hr => ?_)
      · show K (.int ((left.map f).length : Nat))
        rw [List.length_map]; exact k
      have hr' : r < left.length := by omega
      refine ⟨r, f left[r], by omega, by omega, by simp, by rw [List.getElem?_map, List.getElem?_eq_getElem hr']; rfl, ?_⟩
      refine ⟨?_, ?_⟩
      · rw [List.length_map]
        exact Nat.lt_of_lt_of_le (show found.length < 1000 by omega) (by decide)
      have e1 : (left.map f).eraseIdx r = (left.eraseIdx r).map f := erase_map _ _ _
      have e2 : found.map f ++ [f left[r]] = (found ++ [left[r]]).map f := by rw [List.map_append]; rfl
      rw [e1, e2]
      have p := erase_perm left r hr'
      have pl := p.length_eq
      rw [List.length_cons] at pl
      refine ih (left.eraseIdx r) (found ++ [left[r]]) (by omega) (by rw [List.length_append]; show _ + (found.length + 1) ≤ _; omega) (fun x hx => ok x (p.mem_iff.mp (List.mem_cons_of_mem _ hx))) fun ys hy => q ys (hy.trans ?_)
      rw [List.append_assoc]
      exact p.append_left found
theorem rdl9__law_mixed {d : Addr} {ds : List D} {Q : D → Prop} (h : F9__law_mixed d ds Q) : rd__law_mixed d { nx := fun _ => Q .non, rt := Q } (startG N__law_mixed ds) := by
  obtain ⟨α, f, xs, rfl, hl, ok, q⟩ := h
  refine sq_par2 (vl_cf (d := .lst (xs.map f)) (va_cons (vl_var rfl) va_nil) vc_listL) (vl_lst (ds := []) va_nil (small_of (by decide))) ?_
  exact ⟨xs.length + 1, mixed9_loop _ xs [] (Nat.le_refl _) (by show xs.length + 0 ≤ 100; omega) ok fun ys hy => q ys hy⟩
theorem some9_of {α : Type} {xs ys : List α} {k : Nat} (p : ys.Perm xs) (nd : xs.Nodup) : (ys.take k).Nodup ∧ (∀ y ∈ ys.take k, y ∈ xs) ∧ (ys.take k).length = min k xs.length := by
  refine ⟨(p.nodup_iff.mpr nd).sublist (List.take_sublist _ _), fun y hy => p.mem_iff.mp (List.mem_of_mem_take hy), ?_⟩
  rw [List.length_take, p.length_eq]
def F__law_guards (d : Addr) : FD := fun ds Q => ∃ k : Nat, ds = [.ref d, .int k] ∧ k ≤ 1000 ∧ ∀ gs : Gs, gs.Nodup → (∀ g ∈ gs, g ∈ L_GUARDS) → gs.length ≤ k → Q (.lst (gs.map sT))
theorem len__law_guards {d : Addr} {ds : List D} {Q : D → Prop} (h : F__law_guards d ds Q) : ds.length = 2 := by obtain ⟨_, rfl, _⟩ := h; rfl
def rd__law_guards (d : Addr) : TDS :=
    (rdRet (rdSl rdSlB (rdCall (F9__law_mixed d) [] (rdCons (rdVar 0) (rdCons (rdCall F__law_all_guards [] rdNil) rdNil))) rdNoPart (rdPart (rdCall (Ftake d) [] (rdCons (rdVar 0) (rdCons (rdOp rdAddB (rdVar 1) (rdC (.int 1))) rdNil))))))
abbrev N__law_guards : List Str := ["_law_draw", "_law_upto"]
theorem all_guards {Γ : Gm} : Vl (rdCall F__law_all_guards [] rdNil) Γ (.lst (L_GUARDS.map sT)) := vl_call va_nil fun Q q => ⟨rfl, q⟩
theorem rdl__law_guards {d : Addr} {ds : List D} {Q : D → Prop} (h : F__law_guards d ds Q) : rd__law_guards d { nx := fun _ => Q .non, rt := Q } (startG N__law_guards ds) := by
  obtain ⟨k, rfl, hk, q⟩ := h
  refine nd_call (F := F9__law_mixed d) (ds := [.ref d, .lst (L_GUARDS.map sT)]) (va_cons (vl_var rfl) (va_cons all_guards va_nil)) ⟨List Str, sT, L_GUARDS, rfl, by rw [G_okb.2.2]; decide, fun x hx => okN_G hx, fun ys p => ?_⟩
  refine nd_call (F := Ftake d) (ds := [.ref d, .int ((k : Int) + 1)]) (va_cons (vl_var rfl) (va_cons (vl_op (vl_var rfl) vl_c v2_addI) va_nil)) (take_ok (by omega) (by omega) fun r hr => ?_)
  obtain ⟨h1, h2, h3⟩ := some9_of (k := r) p G_okb.2.1
  refine vs_Lto (k := r) _ ?_
  rw [← List.map_take]
  exact q (ys.take r) h1 h2 (by rw [h3]; omega)
def F__law_real_lot : FD := fun ds Q => ∃ gs : Gs, ds = [.lst (gs.map sT)] ∧ (∀ g ∈ gs, g ∈ L_GUARDS) ∧ Q (lotD gs)
theorem len__law_real_lot {ds : List D} {Q : D → Prop} (h : F__law_real_lot ds Q) : ds.length = 1 := by obtain ⟨_, rfl, _⟩ := h; rfl
def rd__law_real_lot : TDS :=
    (rdSeq (rdAsg (rdCallS FX_Lot___init__ (fun _ => False) rdNil) (rgName 1))
    (rdSeq (rdFor (rdIAny (rdVar 0)) (rgName 2) (rdAsg (rdOp (rdOwnB "Lot" F_Lot___or__) (rdVar 1) (rdCallS FX_Lot___init__ (fun _ => False) (rdCons (rdVar 2) rdNil))) (rgName 1)))
    (rdRet (rdVar 1))))
abbrev N__law_real_lot : List Str := ["_law_kinds", "_law_found", "_law_guard"]
theorem nd_lot {gs : Gs} {tf : TDF} {Γ : Gm} {Q : D → Gm → Prop} {xk : D → Prop} (h : VA tf Γ (gs.map sT)) (hg : ∀ g ∈ gs, g ∈ L_GUARDS) (hl : gs.length ≤ 1000) (q : Q (lotD gs) Γ) : rdCallS FX_Lot___init__ xk tf Γ Q := nd_callS h (by rw [List.length_map]; exact hl) (lot_call hg hl q)
theorem vl_lot {gs : Gs} {tf : TDF} {Γ : Gm} {xk : D → Prop} (h : VA tf Γ (gs.map sT)) (hg : ∀ g ∈ gs, g ∈ L_GUARDS) (hl : gs.length ≤ 1000) : Vl (rdCallS FX_Lot___init__ xk tf) Γ (lotD gs) := fun Q q => nd_lot h hg hl q
theorem v2_lotOr {a b : Gs} : V2 (rdOwnB "Lot" F_Lot___or__) (lotD a) (lotD b) (lotD (a ++ b)) := fun Q q => ⟨rfl, rfl, a, b, rfl, q⟩
theorem rdl__law_real_lot {ds : List D} {Q : D → Prop} (h : F__law_real_lot ds Q) : rd__law_real_lot { nx := fun _ => Q .non, rt := Q } (startG N__law_real_lot ds) := by
  obtain ⟨gs, rfl, hg, q⟩ := h
  refine sq_asg (d := lotD []) (vl_lot va_nil (fun g hg => by cases hg) (by decide)) ?_
  refine sq_for (L := gs.map sT) (vi_any (d := .lst (gs.map sT)) (vl_var rfl) fun k hk => hk) ?_
  have key : ∀ (post pre : Gs) (s2 : Sl), gs = pre ++ post → goFor (rgName 2) (rdAsg (rdOp (rdOwnB "Lot" F_Lot___or__) (rdVar 1) (rdCallS FX_Lot___init__ (fun _ => False) (rdCons (rdVar 2) rdNil))) (rgName 1)) { nx := rdRet (rdVar 1) { nx := fun _ => Q .non, rt := Q }, rt := Q } (post.map sT) [.dat (.lst (gs.map sT)), .dat (lotD pre), s2] := by
    intro post
    induction post with
    | nil =>
      intro pre s2 e
      rw [List.append_nil] at e
      subst e
      show Q (lotD gs)
      exact q
    | cons g post ih =>
      intro pre s2 e
      show rdAsg _ _ _ [.dat (.lst (gs.map sT)), .dat (lotD pre), .dat (sT g)]
      refine st_asg (d := lotD (pre ++ [g])) (vl_op (vl_var rfl) (vl_lot (gs := [g]) (va_cons (vl_var rfl) va_nil) (fun x hx => ?_) (by show 1 ≤ 1000; decide)) v2_lotOr) ?_
      · rw [List.mem_singleton.mp hx]
        exact hg g (by rw [e]; exact List.mem_append_right _ List.mem_cons_self)
      · exact ih (pre ++ [g]) (.dat (sT g)) (by rw [e, List.append_assoc]; rfl)
  exact key gs [] .no rfl
end TBW
set_option Elab.async false
set_option linter.all false
set_option maxRecDepth 100000
set_option maxHeartbeats 1000000
namespace TBW
open PySem PySem.Spec L2 VL TB
open PyProof.Rows hiding St
theorem vl_prop {cn : Str} {F : FD} {te : TDE} {Γ : Gm} {ns : List Str} {es : List D} {d : D} (h : Vl te Γ (.obj cn ns es)) (hc : VC F [.obj cn ns es] d) : Vl (rdProp cn F te) Γ d := fun Q q => h _ ⟨rfl, hc _ q⟩
end TBW
set_option Elab.async false
set_option linter.all false
set_option maxRecDepth 100000
set_option maxHeartbeats 1000000
namespace TBW
open PySem PySem.Spec L2 VL TB PySem.W
open PyProof.Rows hiding St
theorem str_cps {a b : Str} (h : a.cps.toList = b.cps.toList) : a = b := by
  obtain ⟨a⟩ := a
  obtain ⟨b⟩ := b
  have h : a.toList = b.toList := h
  rw [Array.toList_inj.mp h]
theorem toks_inj : ∀ {a b : List Str}, keyToksAll (a.map PyData.str) = keyToksAll (b.map PyData.str) → a = b
  | [], [], _ => rfl
  | [], y :: b, h => by
    simp only [List.map_nil, List.map_cons, keyToksAll, List.cons.injEq, reduceCtorEq, Sum.inl.injEq] at h
    exact absurd h.1 (by decide)
  | x :: a, [], h => by
    simp only [List.map_nil, List.map_cons, keyToksAll, List.cons.injEq, reduceCtorEq, Sum.inl.injEq] at h
    exact absurd h.1 (by decide)
  | x :: a, y :: b, h => by
    simp only [List.map_cons, keyToksAll, keyToks, List.cons_append, List.nil_append, List.cons.injEq, Sum.inr.injEq, true_and] at h
    rw [str_cps h.1, toks_inj h.2]
theorem leG_anti {a b : List Str} (h1 : VL.leG a b = true) (h2 : VL.leG b a = true) : a = b := by
  have e1 : (listOrd itemOrd).blt (keyToks (encG b)) (keyToks (encG a)) = false := (Bool.not_eq_true' _).mp h1
  have e2 : (listOrd itemOrd).blt (keyToks (encG a)) (keyToks (encG b)) = false := (Bool.not_eq_true' _).mp h2
  have e : keyToks (encG a) = keyToks (encG b) := (listOrd itemOrd).total _ _ e2 e1
  exact toks_inj e
theorem sortG_one {ys zs : Gs} (ny : ys.Nodup) (nz : zs.Nodup) (m : ∀ g, g ∈ ys ↔ g ∈ zs) (py_ : ys.Pairwise fun a b => VL.leG a b = true) (pz : zs.Pairwise fun a b => VL.leG a b = true) : ys = zs :=
  List.Perm.eq_of_pairwise (le := fun a b => VL.leG a b = true) (fun _ _ _ _ h1 h2 => leG_anti h1 h2) py_ pz ((List.perm_ext_iff_of_nodup ny nz).mpr m)
theorem G_up : L_GUARDS.Pairwise fun a b => VL.leG a b = true := by decide +kernel
theorem lotL_up (gs : Gs) : (lotL gs).Pairwise fun a b => VL.leG a b = true := G_up.sublist List.filter_sublist
theorem lotL_nodup (gs : Gs) : (lotL gs).Nodup := G_okb.2.1.sublist List.filter_sublist
/-- sorted(set(guards)) -/
theorem df_sortG {gs : Gs} {te : TDE} {Γ : Gm} (h : Vl te Γ (.lst (gs.map sT))) (hg : ∀ g ∈ gs, g ∈ L_GUARDS) (hl : gs.length < 64 := by omega) : Vl (rdSortSetG te) Γ (.lst ((lotL gs).map sT)) := fun Q q => h _ ⟨gs, rfl, ⟨L_GUARDS, by rw [G_okb.2.2]; decide, hg⟩, fun ys n m p => by
  rw [sortG_one n (lotL_nodup gs) (fun g => (m g).trans ⟨fun z => lotL_mem.mpr ⟨hg g z, z⟩, fun z => (lotL_mem.mp z).2⟩) p (lotL_up gs)]
  exact q⟩
def F_Lot_guards : FD := fun ds Q => ∃ l, ds = [lotOf l] ∧ Q (.tup (l.map sT))
theorem len_Lot_guards {ds : List D} {Q : D → Prop} (h : F_Lot_guards ds Q) : ds.length = 1 := by obtain ⟨_, rfl, _⟩ := h; rfl
def rd_Lot_guards : TDS :=
    (rdRet (rdFld "Lot" "own_guards" (rdVar 0)))
abbrev N_Lot_guards : List Str := ["self"]
theorem rdl_Lot_guards {ds : List D} {Q : D → Prop} (h : F_Lot_guards ds Q) : rd_Lot_guards { nx := fun _ => Q .non, rt := Q } (startG N_Lot_guards ds) := by
  obtain ⟨l, rfl, q⟩ := h
  exact st_ret (lot_fld (vl_var rfl)) q
theorem lot_guards {l : Gs} {te : TDE} {Γ : Gm} (h : Vl te Γ (lotOf l)) : Vl (rdProp "Lot" F_Lot_guards te) Γ (.tup (l.map sT)) := vl_prop h fun Q q => ⟨l, rfl, q⟩
end TBW
set_option Elab.async false
set_option linter.all false
set_option maxRecDepth 100000
set_option maxHeartbeats 1000000
namespace TBW
open PySem PySem.Spec L2 VL TB PySem.W
open PyProof.Rows hiding St
def lnOf (K : Bs) (n : Str) : List Str := (get K n).getD []
def aheadL (l : List Str) : Option Str → List Str
  | none => l
  | some o => l.take (((ixOf l o).getD 0) + 1)
def optL : Option Str → List Str
  | none => []
  | some o => [o]
def meantL (W K : Bs) (n w whose : Str) : List Str :=
  if whose = "receiver" then [n] else if whose = "owner" then optL (ownO W K n w) else if whose = "ahead" then aheadL (lnOf K n) (ownO W K n w) else lnOf K n
def cnt1 (w k m : Str) : List Str := if k = "spot" then ["spot", m, w] else [k, m]
def cntG (W K : Bs) (n w : Str) : List Str → Gs
  | [k, whose] => (meantL W K n w whose).map (cnt1 w k)
  | [k] => if k = "all" then [["all"]] else if k = "word" then [["word", w]] else [["found", n, w]]
  | _ => []
def recAll (W K : Bs) (n w : Str) (l : Gs) : Gs := (l.map (cntG W K n w)).flatten
structure IsRec (W K : Bs) (n w : Str) (l ys : Gs) : Prop where
  nd : ys.Nodup
  mem : ∀ c, c ∈ ys ↔ c ∈ recAll W K n w l
  up : ys.Pairwise fun a b => VL.leG a b = true
theorem IsRec.one {W K : Bs} {n w : Str} {l ys zs : Gs} (a : IsRec W K n w l ys) (b : IsRec W K n w l zs) : ys = zs := sortG_one a.nd b.nd (fun g => (a.mem g).trans (b.mem g).symm) a.up b.up
def gForm (g : List Str) : Bool := match g with
  | [k] => decide (k = "all" ∨ k = "word" ∨ k = "found")
  | [k, whose] => decide (k ∈ (["own", "spot", "bases", "tag", "line"] : List Str)) && decide (whose ∈ (["receiver", "owner", "ahead", "order"] : List Str))
  | _ => false
theorem guards_form : ∀ g ∈ L_GUARDS, gForm g = true := by decide +kernel
theorem guard_cases {g : List Str} (h : g ∈ L_GUARDS) : (∃ k, g = [k] ∧ (k = "all" ∨ k = "word" ∨ k = "found")) ∨ ∃ k whose, g = [k, whose] ∧ k ∈ (["own", "spot", "bases", "tag", "line"] : List Str) ∧ whose ∈ (["receiver", "owner", "ahead", "order"] : List Str) := by
  have f := guards_form g h
  match g, f with
  | [k], f => exact .inl ⟨k, rfl, of_decide_eq_true f⟩
  | [k, whose], f =>
    have f : (decide _ && decide _) = true := f
    rw [Bool.and_eq_true, decide_eq_true_eq, decide_eq_true_eq] at f
    exact .inr ⟨k, whose, rfl, f⟩
  | [], f => cases f
  | _ :: _ :: _ :: _, f => cases f
theorem leG_leG : TBW.leG = VL.leG := by
  funext a b
  unfold TBW.leG VL.leG leD
  show dataLe false py (sT a) (sT b) = _
  have e : ∀ g : List Str, py (sT g) = encG g := fun g => py_tS g
  unfold dataLe sortLe
  simp only [e]
theorem sort_up (cs : Gs) : (cs.mergeSort VL.leG).Pairwise fun a b => VL.leG a b = true := sort_pairwise (sortLe_total (listOrd itemOrd) false fun g : List Str => keyToks (encG g)) cs
end TBW
set_option Elab.async false
set_option linter.all false
set_option maxRecDepth 100000
set_option maxHeartbeats 1000000
namespace TBW
open PySem PySem.Spec L2 VL TB PySem.W
open PyProof.Rows hiding St
def aheadP (l : List Str) (o : Option Str) (u : Str) : Bool := match o with
  | none => true
  | some x => decide ((((ixOf l u).getD 0 : Nat) : Int) ≤ (((ixOf l x).getD 0 : Nat) : Int))
def meantF (l : List Str) (o : Option Str) (n whose : Str) : List Str :=
  if whose = "receiver" then [n] else if whose = "owner" then l.filter (fun u => decide (some u = o)) else if whose = "order" then l else l.filter (aheadP l o)
def oneC (n w k : Str) : List Str := if k = "all" then ["all"] else if k = "word" then ["word", w] else ["found", n, w]
def cntF (l : List Str) (o : Option Str) (n w : Str) : List Str → Gs
  | [k, whose] => (meantF l o n whose).map (cnt1 w k)
  | [k] => [oneC n w k]
  | _ => []
theorem ixOf_mem {l : List Str} {z : Str} (h : z ∈ l) : ∃ j, ixOf l z = some j := by
  unfold ixOf
  cases e : l.findIdx? fun y => decide (y = z) with
  | some j => exact ⟨j, rfl⟩
  | none =>
    have := List.findIdx?_eq_none_iff.mp e z h
    simp at this
theorem take_ix {l : List Str} {u x : Str} (hx : x ∈ l) : u ∈ l.take (((ixOf l x).getD 0) + 1) ↔ u ∈ l ∧ aheadP l (some x) u = true := by
  obtain ⟨m, em⟩ := ixOf_mem hx
  show u ∈ l.take (((ixOf l x).getD 0) + 1) ↔ u ∈ l ∧ decide ((((ixOf l u).getD 0 : Nat) : Int) ≤ (((ixOf l x).getD 0 : Nat) : Int)) = true
  rw [em, decide_eq_true_eq]
  show u ∈ l.take (m + 1) ↔ u ∈ l ∧ (((ixOf l u).getD 0 : Nat) : Int) ≤ ((m : Nat) : Int)
  constructor
  · intro h
    have hu := List.mem_of_mem_take h
    refine ⟨hu, ?_⟩
    obtain ⟨j, ej⟩ := ixOf_mem hu
    obtain ⟨i, hi, ei⟩ := List.getElem_of_mem h
    rw [List.length_take] at hi
    rw [List.getElem_take] at ei
    rw [ej]
    show ((j : Nat) : Int) ≤ ((m : Nat) : Int)
    have := (ixOf_some ej).2 i
    have : ¬ i < j := fun z => this z (by rw [List.getElem?_eq_getElem (by omega), ei])
    omega
  · rintro ⟨hu, h⟩
    obtain ⟨j, ej⟩ := ixOf_mem hu
    rw [ej] at h
    have h : ((j : Nat) : Int) ≤ ((m : Nat) : Int) := h
    obtain ⟨hj, e⟩ := List.getElem?_eq_some_iff.mp (ixOf_some ej).1
    refine List.mem_iff_getElem.mpr ⟨j, by rw [List.length_take]; omega, ?_⟩
    rw [List.getElem_take, e]
theorem ownO_in {W K : Bs} {n w x : Str} (h : ownO W K n w = some x) : x ∈ lnOf K n := List.mem_of_find?_eq_some (show (lnOf K n).find? _ = some x from h)
theorem meantF_mem {W K : Bs} {n w whose u : Str} (h : whose ∈ (["receiver", "owner", "ahead", "order"] : List Str)) : u ∈ meantF (lnOf K n) (ownO W K n w) n whose ↔ u ∈ meantL W K n w whose := by
  simp only [List.mem_cons, List.not_mem_nil, or_false] at h
  unfold meantL meantF
  rcases h with rfl | rfl | rfl | rfl
  · rw [if_pos rfl, if_pos rfl]
  · rw [if_neg (by decide), if_pos rfl, if_neg (by decide), if_pos rfl, List.mem_filter, decide_eq_true_eq]
    cases e : ownO W K n w with
    | none => exact ⟨fun z => (by cases z.2), fun z => (by cases z)⟩
    | some x => exact ⟨fun z => by rw [Option.some.inj z.2]; exact List.mem_cons_self, fun z => by
        have z : u = x := List.mem_singleton.mp z
        subst z
        exact ⟨ownO_in e, rfl⟩⟩
  · rw [if_neg (by decide), if_neg (by decide), if_neg (by decide), if_neg (by decide), if_neg (by decide), if_pos rfl, List.mem_filter]
    cases e : ownO W K n w with
    | none => exact ⟨fun z => z.1, fun z => ⟨z, rfl⟩⟩
    | some x => exact (take_ix (ownO_in e)).symm
  · rw [if_neg (by decide), if_neg (by decide), if_pos rfl, if_neg (by decide), if_neg (by decide), if_neg (by decide)]
theorem cntF_mem {W K : Bs} {n w : Str} {g c : List Str} (h : g ∈ L_GUARDS) : c ∈ cntF (lnOf K n) (ownO W K n w) n w g ↔ c ∈ cntG W K n w g := by
  rcases guard_cases h with ⟨k, rfl, hk⟩ | ⟨k, whose, rfl, hk, hw⟩
  · have e : cntG W K n w [k] = [oneC n w k] := by
      show (if k = "all" then _ else _) = _
      unfold oneC
      split
      · rfl
      · split <;> rfl
    rw [e]
    exact Iff.rfl
  · show c ∈ (meantF _ _ _ _).map _ ↔ c ∈ (meantL W K n w whose).map _
    rw [List.mem_map, List.mem_map]
    exact ⟨fun ⟨u, hu, e⟩ => ⟨u, (meantF_mem hw).mp hu, e⟩, fun ⟨u, hu, e⟩ => ⟨u, (meantF_mem hw).mpr hu, e⟩⟩
def recF (l : List Str) (o : Option Str) (n w : Str) (gs : Gs) : Gs := (gs.map (cntF l o n w)).flatten
theorem recF_mem {W K : Bs} {n w : Str} {gs : Gs} {c : List Str} (h : ∀ g ∈ gs, g ∈ L_GUARDS) : c ∈ recF (lnOf K n) (ownO W K n w) n w gs ↔ c ∈ recAll W K n w gs := by
  unfold recF recAll
  rw [List.mem_flatten, List.mem_flatten]
  constructor
  · rintro ⟨l, hl, hc⟩
    obtain ⟨g, hg, rfl⟩ := List.mem_map.mp hl
    exact ⟨_, List.mem_map.mpr ⟨g, hg, rfl⟩, (cntF_mem (h g hg)).mp hc⟩
  · rintro ⟨l, hl, hc⟩
    obtain ⟨g, hg, rfl⟩ := List.mem_map.mp hl
    exact ⟨_, List.mem_map.mpr ⟨g, hg, rfl⟩, (cntF_mem (h g hg)).mpr hc⟩
def allC (l : List Str) (n w : Str) : Gs := ["all"] :: ["word", w] :: ["found", n, w] :: ((["own", "spot", "bases", "tag", "line"] : List Str).map fun k => (n :: l).map (cnt1 w k)).flatten
theorem allC_len {l : List Str} {n w : Str} (h : l.length ≤ 10) : (allC l n w).length < 63 := by
  unfold allC
  simp
  omega
theorem allC_of {l : List Str} {o : Option Str} {n w : Str} {gs : Gs} (h : ∀ g ∈ gs, g ∈ L_GUARDS) {c : List Str} (hc : c ∈ recF l o n w gs) : c ∈ allC l n w := by
  unfold recF at hc
  obtain ⟨cs, h1, h2⟩ := List.mem_flatten.mp hc
  obtain ⟨g, hg, rfl⟩ := List.mem_map.mp h1
  unfold allC
  rcases guard_cases (h g hg) with ⟨k, rfl, hk⟩ | ⟨k, whose, rfl, hk, hw⟩
  · have h2 : c = oneC n w k := List.mem_singleton.mp h2
    subst h2
    unfold oneC
    split
    · exact List.mem_cons_self
    · split
      · exact List.mem_cons_of_mem _ List.mem_cons_self
      · exact List.mem_cons_of_mem _ (List.mem_cons_of_mem _ List.mem_cons_self)
  · obtain ⟨u, hu, rfl⟩ := List.mem_map.mp (show c ∈ (meantF l o n whose).map (cnt1 w k) from h2)
    refine List.mem_cons_of_mem _ (List.mem_cons_of_mem _ (List.mem_cons_of_mem _ (List.mem_flatten.mpr ⟨_, List.mem_map.mpr ⟨k, hk, rfl⟩, List.mem_map.mpr ⟨u, ?_, rfl⟩⟩)))
    unfold meantF at hu
    split at hu
    · rw [List.mem_singleton.mp hu]; exact List.mem_cons_self
    · split at hu
      · exact List.mem_cons_of_mem _ (List.mem_filter.mp hu).1
      · split at hu
        · exact List.mem_cons_of_mem _ hu
        · exact List.mem_cons_of_mem _ (List.mem_filter.mp hu).1
end TBW
set_option Elab.async false
set_option linter.all false
set_option maxRecDepth 100000
set_option maxHeartbeats 1000000
namespace TBW
open PySem PySem.Spec L2 VL TB PySem.W
open PyProof.Rows hiding St
theorem recAll_mem {W K : Bs} {n w : Str} {l : Gs} {c : List Str} : c ∈ recAll W K n w l ↔ ∃ g ∈ l, c ∈ cntG W K n w g := by
  unfold recAll
  rw [List.mem_flatten]
  constructor
  · rintro ⟨x, hx, hc⟩
    obtain ⟨g, hg, rfl⟩ := List.mem_map.mp hx
    exact ⟨g, hg, hc⟩
  · rintro ⟨g, hg, hc⟩
    exact ⟨_, List.mem_map.mpr ⟨g, hg, rfl⟩, hc⟩
theorem lotL_mem' {gs : Gs} (h : ∀ g ∈ gs, g ∈ L_GUARDS) (g : List Str) : g ∈ lotL gs ↔ g ∈ gs := lotL_mem.trans ⟨fun z => z.2, fun z => ⟨h g z, z⟩⟩
theorem lotL_sub {gs : Gs} : ∀ g ∈ lotL gs, g ∈ L_GUARDS := fun g h => (lotL_mem.mp h).1
theorem lnOf_line {B W K : Bs} (t : TabOk B W K) {n : Str} (hn : n ∈ dom B) : (lnOf K n).length ≤ 10 ∧ okTs (lnOf K n) ∧ ∀ m ∈ lnOf K n, m ∈ dom B := by
  obtain ⟨l, el, l1, l2, l3⟩ := t.line hn
  have : lnOf K n = l := by unfold lnOf; rw [el]; rfl
  rw [this]
  exact ⟨l1, l2, l3⟩
theorem rec_few {B W K : Bs} {n w : Str} {gs ys : Gs} (r : IsRec W K n w gs ys) (t : TabOk B W K) (hn : n ∈ dom B) (hg : ∀ g ∈ gs, g ∈ L_GUARDS) : ys.length ≤ 63 ∧ ∀ c ∈ ys, c ∈ allC (lnOf K n) n w := by
  have h1 := (lnOf_line t hn).1
  have m : ∀ c ∈ ys, c ∈ allC (lnOf K n) n w := fun c hc => allC_of hg ((recF_mem hg).mpr ((r.mem c).mp hc))
  have := nodup_few r.nd m
  have := allC_len (n := n) (w := w) h1
  exact ⟨by omega, m⟩
theorem kinds_at : ∀ z ∈ (["all", "word", "found", "own", "spot", "bases", "tag", "line"] : List Str), at0 (.str z) = true := by decide +kernel
theorem allC_lv {l : List Str} {n w : Str} (hl : ∀ m ∈ n :: w :: l, at0 (.str m) = true) {c : List Str} (h : c ∈ allC l n w) : c.length ≤ 3 ∧ ∀ z ∈ c, at0 (.str z) = true := by
  have hn := hl n List.mem_cons_self
  have hw := hl w (List.mem_cons_of_mem _ List.mem_cons_self)
  unfold allC at h
  rcases List.mem_cons.mp h with rfl | h
  · exact ⟨by decide, fun z hz => by rw [List.mem_singleton.mp hz]; exact kinds_at _ (by decide)⟩
  rcases List.mem_cons.mp h with rfl | h
  · refine ⟨by show 2 ≤ 3; decide, fun z hz => ?_⟩
    rcases List.mem_cons.mp hz with rfl | hz
    · exact kinds_at _ (by decide)
    · rw [List.mem_singleton.mp hz]; exact hw
  rcases List.mem_cons.mp h with rfl | h
  · refine ⟨by show 3 ≤ 3; decide, fun z hz => ?_⟩
    rcases List.mem_cons.mp hz with rfl | hz
    · exact kinds_at _ (by decide)
    rcases List.mem_cons.mp hz with rfl | hz
    · exact hn
    · rw [List.mem_singleton.mp hz]; exact hw
  obtain ⟨cs, h1, h2⟩ := List.mem_flatten.mp h
  obtain ⟨k, hk, rfl⟩ := List.mem_map.mp h1
  obtain ⟨m, hm, rfl⟩ := List.mem_map.mp h2
  have am : at0 (.str m) = true := by
    rcases List.mem_cons.mp hm with rfl | hm
    · exact hn
    · exact hl m (List.mem_cons_of_mem _ (List.mem_cons_of_mem _ hm))
  unfold cnt1
  split
  · refine ⟨by show 3 ≤ 3; decide, fun z hz => ?_⟩
    rcases List.mem_cons.mp hz with rfl | hz
    · exact kinds_at _ (by decide)
    rcases List.mem_cons.mp hz with rfl | hz
    · exact am
    · rw [List.mem_singleton.mp hz]; exact hw
  · refine ⟨by show 2 ≤ 3; decide, fun z hz => ?_⟩
    rcases List.mem_cons.mp hz with rfl | hz
    · exact kinds_at _ (by
        have : ∀ k ∈ (["own", "spot", "bases", "tag", "line"] : List Str), k ∈ (["all", "word", "found", "own", "spot", "bases", "tag", "line"] : List Str) := by decide
        exact this _ hk)
    · rw [List.mem_singleton.mp hz]; exact am
theorem IsRec.lv {B W K : Bs} {n w : Str} {gs ys : Gs} (r : IsRec W K n w gs ys) (t : TabOk B W K) (hn : n ∈ dom B) (hw : isWs w = true) (hg : ∀ g ∈ gs, g ∈ L_GUARDS) : lvE 63 2 (.tup (ys.map sT)) := by
  obtain ⟨h1, h2⟩ := rec_few r t hn hg
  have hl : ∀ m ∈ n :: w :: lnOf K n, at0 (.str m) = true := fun m hm => by
    rcases List.mem_cons.mp hm with rfl | hm
    · exact isCs_at (t.cn _ hn).1
    rcases List.mem_cons.mp hm with rfl | hm
    · exact isWs_at hw
    · exact isCs_at (t.cn _ ((lnOf_line t hn).2.2 m hm)).1
  refine lvE_seq rfl (by rw [List.length_map]; exact h1) fun y hy => ?_
  obtain ⟨c, hc, rfl⟩ := List.mem_map.mp hy
  obtain ⟨c1, c2⟩ := allC_lv hl (h2 c hc)
  refine lvE_seq rfl (by rw [List.length_map]; omega) fun z hz => ?_
  obtain ⟨x, hx, rfl⟩ := List.mem_map.mp hz
  exact lvE_at (c2 x hx)
theorem IsRec.okQ {B W K : Bs} {n w : Str} {gs ys : Gs} (r : IsRec W K n w gs ys) (t : TabOk B W K) (hn : n ∈ dom B) (hw : isWs w = true) (hg : ∀ g ∈ gs, g ∈ L_GUARDS) : VL.okQ (.tup (ys.map sT)) := (lvE_sh (r.lv t hn hw hg)).okQ (by decide) (by decide)
theorem sort_lot {gs : Gs} (nd : gs.Nodup) (h : ∀ g ∈ gs, g ∈ L_GUARDS) : gs.mergeSort leG = lotL gs := by
  rw [leG_leG]
  exact sortG_one (((List.mergeSort_perm _ _).nodup_iff).mpr nd) (lotL_nodup gs) (fun g => List.mem_mergeSort.trans (lotL_mem' h g).symm) (sort_up gs) (lotL_up gs)
theorem vl_sortGs {gs : Gs} {te : TDE} {Γ : Gm} (hv : Vl te Γ (.lst (gs.map sT))) (nd : gs.Nodup) (h : ∀ g ∈ gs, g ∈ L_GUARDS) : Vl (rdShare (rdCF rdSortC (rdCons te rdNil))) Γ (.lst ((lotL gs).map sT)) := vl_sh (vl_cf (va_cons hv va_nil) fun Q q => ⟨okSrt_rows fun g hg => (G_ok (h g hg)).2, by rw [srt_rows, sort_lot nd h]; exact q⟩)
end TBW
set_option Elab.async false
set_option linter.all false
set_option maxRecDepth 100000
set_option maxHeartbeats 1000000
namespace TBW
open PySem PySem.Spec L2 VL TB PySem.W
open PyProof.Rows hiding St
def F_Lot_every : FD := fun ds Q => ds = [] ∧ Q (lotOf L_GUARDS)
def F_Lot___and__ : FD := fun ds Q => ∃ a b, ds = [lotD a, lotD b] ∧ Q (lotD (a.filter fun g => decide (g ∈ b)))
def F_Lot___sub__ : FD := fun ds Q => ∃ a b, ds = [lotD a, lotD b] ∧ Q (lotD (a.filter fun g => !decide (g ∈ b)))
theorem len_Lot_every {ds : List D} {Q : D → Prop} (h : F_Lot_every ds Q) : ds.length + 1 = 1 := by rw [h.1]; rfl
theorem len_Lot___and__ {ds : List D} {Q : D → Prop} (h : F_Lot___and__ ds Q) : ds.length = 2 := by obtain ⟨_, _, rfl, _⟩ := h; rfl
theorem len_Lot___sub__ {ds : List D} {Q : D → Prop} (h : F_Lot___sub__ ds Q) : ds.length = 2 := by obtain ⟨_, _, rfl, _⟩ := h; rfl
abbrev N_Lot_every : List Str := ["cls"]
def rd_Lot_every (C : Addr) : TDS :=
    (rdRet (rdMkL C FX_Lot___init__ (fun _ => False) (rdVar 0) (rdStar (rdC D_GUARDS) rdNil)))
abbrev N_Lot___and__ : List Str := ["self", "other", "both", "guard"]
def rd_Lot___and__ : TDS :=
    (rdSeq (rdIfS (rdNot (rdTest (rdIsiK "Lot" [] (rdVar 1)))) (fun _ _ => False) rdNext)
    (rdSeq (rdAsg (rdShare (rdLc (rdIAny (rdFld "Lot" "own_guards" (rdVar 0))) (rgName 3) (rdTest (rdOp (rdInB false) (rdVar 3) (rdFld "Lot" "own_guards" (rdVar 1)))) (rdVar 3) [3])) (rgName 2))
    (rdRet (rdCallS FX_Lot___init__ (fun _ => False) (rdStar (rdVar 2) rdNil)))))
abbrev N_Lot___sub__ : List Str := ["self", "other", "rest", "guard"]
def rd_Lot___sub__ : TDS :=
    (rdSeq (rdIfS (rdNot (rdTest (rdIsiK "Lot" [] (rdVar 1)))) (fun _ _ => False) rdNext)
    (rdSeq (rdAsg (rdShare (rdLc (rdIAny (rdFld "Lot" "own_guards" (rdVar 0))) (rgName 3) (rdTest (rdOp (rdInB true) (rdVar 3) (rdFld "Lot" "own_guards" (rdVar 1)))) (rdVar 3) [3])) (rgName 2))
    (rdRet (rdCallS FX_Lot___init__ (fun _ => False) (rdStar (rdVar 2) rdNil)))))
theorem lotL_all : lotL L_GUARDS = L_GUARDS := List.filter_eq_self.mpr fun g hg => decide_eq_true hg
theorem rdl_Lot_every {C : Addr} {ds : List D} {Q : D → Prop} (h : F_Lot_every ds Q) : rd_Lot_every C { nx := fun _ => Q .non, rt := Q } (startG N_Lot_every (.ref C :: ds)) := by
  obtain ⟨rfl, q⟩ := h
  refine (vl_var rfl : Vl (rdVar 0) (startG N_Lot_every [.ref C]) (.ref C)) (fun c Γ1 => c = .ref C ∧ rdCallS FX_Lot___init__ (fun _ => False) (rdStar (rdC D_GUARDS) rdNil) Γ1 fun d _ => Q d) ⟨rfl, ?_⟩
  have v := va_starT (te := rdC D_GUARDS) (Γ := startG N_Lot_every [.ref C]) (xs := L_GUARDS.map sT) vl_c va_nil
  rw [List.append_nil] at v
  refine nd_lot v (fun g hg => hg) (by rw [G_okb.2.2]; decide) ?_
  rw [show lotD L_GUARDS = lotOf L_GUARDS by unfold lotD; rw [lotL_all]]
  exact q
theorem lot_sel {a b : Gs} {neg : Bool} : lotL ((lotL a).filter fun g => neg ^^ decide (g ∈ lotL b)) = lotL (a.filter fun g => neg ^^ decide (g ∈ b)) := by
  show (L_GUARDS.filter fun g => decide (g ∈ (lotL a).filter fun g => neg ^^ decide (g ∈ lotL b))) = L_GUARDS.filter fun g => decide (g ∈ a.filter fun g => neg ^^ decide (g ∈ b))
  refine List.filter_congr fun g hg => ?_
  have e1 : g ∈ lotL a ↔ g ∈ a := lotL_mem.trans ⟨fun z => z.2, fun z => ⟨hg, z⟩⟩
  have e2 : g ∈ lotL b ↔ g ∈ b := lotL_mem.trans ⟨fun z => z.2, fun z => ⟨hg, z⟩⟩
  rw [decide_eq_decide, List.mem_filter, List.mem_filter, e1, decide_eq_decide.mpr e2]
theorem sel_ok {a b : Gs} {neg : Bool} {Γ : Gm} {Q : D → Prop} (hn : 3 < Γ.length) (ho : noOwn Γ [3]) (ha : Γ[0]? = some (.dat (lotD a))) (hb : Γ[1]? = some (.dat (lotD b))) (q : Q (lotD (a.filter fun g => neg ^^ decide (g ∈ b)))) :
    rdSeq (rdAsg (rdShare (rdLc (rdIAny (rdFld "Lot" "own_guards" (rdVar 0))) (rgName 3) (rdTest (rdOp (rdInB neg) (rdVar 3) (rdFld "Lot" "own_guards" (rdVar 1)))) (rdVar 3) [3])) (rgName 2)) (rdRet (rdCallS FX_Lot___init__ (fun _ => False) (rdStar (rdVar 2) rdNil))) { nx := fun _ => Q .non, rt := Q } Γ := by
  refine sq_asg (d := .lst (((lotL a).filter fun g => neg ^^ decide (g ∈ lotL b)).map sT)) (vl_sh (vl_lc (g := sT) (f := sT) (p := fun g => neg ^^ decide (g ∈ lotL b)) (L := lotL a) (vi_any (d := .tup ((lotL a).map sT)) (lot_fld (vl_var ha)) fun k hk => hk) hn ho (small_n (by have := lotL_len (gs := a); omega)) (fun g hg => vt_test (vl_op (vl_var (by rw [List.getElem?_set_self hn])) (lot_fld (vl_var (by rw [List.getElem?_set_ne (by decide)]; exact hb))) (v2_inG (G_ok (lotL_sub g hg)).1 fun x hx => (G_ok (lotL_sub x hx)).1))) fun g hg _ => vl_var (by rw [List.getElem?_set_self hn]))) ?_
  have v := va_starL (te := rdVar 2) (Γ := Γ.set 2 (.dat (.lst (((lotL a).filter fun g => neg ^^ decide (g ∈ lotL b)).map sT)))) (vl_var (by rw [List.getElem?_set_self (by omega)])) va_nil
  rw [List.append_nil] at v
  refine nd_lot v (fun g hg => lotL_sub g (List.mem_filter.mp hg).1) (Nat.le_trans (List.length_filter_le _ _) (by have := lotL_len (gs := a); omega)) ?_
  show Q (lotOf (lotL _))
  rw [lot_sel]
  exact q
theorem rdl_Lot___and__ {ds : List D} {Q : D → Prop} (h : F_Lot___and__ ds Q) : rd_Lot___and__ { nx := fun _ => Q .non, rt := Q } (startG N_Lot___and__ ds) := by
  obtain ⟨a, b, rfl, q⟩ := h
  refine sq_if (b := !true) (vt_not (vt_test (vl_isiK (vl_var rfl) isiO_self))) (fun z => by cases z) fun _ => ?_
  refine sel_ok (a := a) (b := b) (neg := false) (show 3 < 4 by decide) (noOwn_of rfl) rfl rfl ?_
  rw [show (fun g : List Str => false ^^ decide (g ∈ b)) = fun g => decide (g ∈ b) from funext fun g => Bool.false_xor _]
  exact q
theorem rdl_Lot___sub__ {ds : List D} {Q : D → Prop} (h : F_Lot___sub__ ds Q) : rd_Lot___sub__ { nx := fun _ => Q .non, rt := Q } (startG N_Lot___sub__ ds) := by
  obtain ⟨a, b, rfl, q⟩ := h
  refine sq_if (b := !true) (vt_not (vt_test (vl_isiK (vl_var rfl) isiO_self))) (fun z => by cases z) fun _ => ?_
  refine sel_ok (a := a) (b := b) (neg := true) (show 3 < 4 by decide) (noOwn_of rfl) rfl rfl ?_
  rw [show (fun g : List Str => true ^^ decide (g ∈ b)) = fun g => !decide (g ∈ b) from funext fun g => Bool.true_xor _]
  exact q
theorem v2_lotAnd {a b : Gs} : V2 (rdOwnB "Lot" F_Lot___and__) (lotD a) (lotD b) (lotD (a.filter fun g => decide (g ∈ b))) := fun Q q => ⟨rfl, rfl, a, b, rfl, q⟩
theorem v2_lotSub {a b : Gs} : V2 (rdOwnB "Lot" F_Lot___sub__) (lotD a) (lotD b) (lotD (a.filter fun g => !decide (g ∈ b))) := fun Q q => ⟨rfl, rfl, a, b, rfl, q⟩
theorem IsRec.sub {W K : Bs} {n w : Str} {l l' ys zs : Gs} (r : IsRec W K n w l ys) (r' : IsRec W K n w l' zs) (h : ∀ g ∈ l, g ∈ l') : ∀ c ∈ ys, c ∈ zs := fun c hc => by
  obtain ⟨g, hg, hc⟩ := recAll_mem.mp ((r.mem c).mp hc)
  exact (r'.mem c).mpr (recAll_mem.mpr ⟨g, h g hg, hc⟩)
theorem IsRec.join {W K : Bs} {n w : Str} {a b xs ys zs : Gs} (r1 : IsRec W K n w a xs) (r2 : IsRec W K n w b ys) (nd : zs.Nodup) (m : ∀ c, c ∈ zs ↔ c ∈ xs ++ ys) (up : zs.Pairwise fun a b => VL.leG a b = true) : IsRec W K n w (a ++ b) zs := ⟨nd, fun c => by
  rw [m c, List.mem_append, r1.mem, r2.mem, recAll_mem, recAll_mem, recAll_mem]
  constructor
  · rintro (⟨g, hg, h⟩ | ⟨g, hg, h⟩)
    · exact ⟨g, List.mem_append_left _ hg, h⟩
    · exact ⟨g, List.mem_append_right _ hg, h⟩
  · rintro ⟨g, hg, h⟩
    rcases List.mem_append.mp hg with hg | hg
    · exact .inl ⟨g, hg, h⟩
    · exact .inr ⟨g, hg, h⟩, up⟩
end TBW
set_option Elab.async false
set_option linter.all false
set_option maxRecDepth 100000
set_option maxHeartbeats 1000000
namespace TBW
open PySem PySem.Spec L2 VL TB PySem.W
open PyProof.Rows hiding St
def actN : Act → Str
  | .bases n _ => n
  | .put n _ => n
  | .drop n _ => n
def xtra : Act → Gs
  | .bases n _ => [["bases", n]]
  | .put n w => [["word", w], ["spot", n, w]]
  | .drop n w => [["word", w], ["spot", n, w]]
def base0 (a : Act) : Gs := ([["all"], ["own", actN a]] : Gs) ++ xtra a
def MovP (B W K W2 K2 : Bs) (a : Act) (c : List Str) : Prop := c ∈ base0 a ∨ ∃ one ∈ dom B, (actN a ∈ lnOf K one ∧ c = (["tag", one] : List Str)) ∨ (lnOf K one ≠ lnOf K2 one ∧ c = (["line", one] : List Str)) ∨ ∃ w, ((∃ n ∈ dom B, w ∈ wsOf W n) ∨ ∃ n ∈ dom B, w ∈ wsOf W2 n) ∧ turnB W K W2 K2 a one w = true ∧ c = (["found", one, w] : List Str)
structure IsMov (B W K W2 K2 : Bs) (a : Act) (ys : Gs) : Prop where
  nd : ys.Nodup
  mem : ∀ c, c ∈ ys ↔ MovP B W K W2 K2 a c
  up : ys.Pairwise fun a b => VL.leG a b = true
theorem IsMov.one {B W K W2 K2 : Bs} {a : Act} {ys zs : Gs} (r : IsMov B W K W2 K2 a ys) (r' : IsMov B W K W2 K2 a zs) : ys = zs := sortG_one r.nd r'.nd (fun g => (r.mem g).trans (r'.mem g).symm) r.up r'.up
end TBW
set_option Elab.async false
set_option linter.all false
set_option maxRecDepth 100000
set_option maxHeartbeats 1000000
namespace TBW
open PySem PySem.Spec L2 VL TB PySem.W
open PyProof.Rows hiding St
section
variable {B W K K2 : Bs} {a : Act} {n w : Str}
theorem actN_dom (f : form B a) : actN a ∈ dom B := by cases a <;> exact f.1
end
end TBW
set_option Elab.async false
set_option linter.all false
set_option maxRecDepth 100000
set_option maxHeartbeats 1000000
namespace TBW
open PySem PySem.Spec L2 VL TB PySem.W
open PyProof.Rows hiding St
theorem words_at : ∀ z ∈ (["all", "own", "bases", "word", "spot", "tag", "line", "found"] : List Str), at0 (.str z) = true := by decide +kernel
section
variable {B W K K2 K3 : Bs} {a : Act} {n w : Str} {ys zs gs : Gs}
theorem IsMov.at (r : IsMov B W K (nW W a) K2 a ys) (t : TabS B W K) (t2 : TabS (nB B a) (nW W a) K2) (f : form B a) : ∀ c ∈ ys, c.length ≤ 3 ∧ ∀ z ∈ c, at0 (.str z) = true := fun c hc => by
  have db := dom_nB (B := B) f
  have nm : ∀ m ∈ dom B, at0 (.str m) = true := fun m hm => isCs_at (t.ok.cn m hm).1
  have one : ∀ {k m : Str}, at0 (.str k) = true → at0 (.str m) = true → ([k, m] : List Str).length ≤ 3 ∧ ∀ z ∈ ([k, m] : List Str), at0 (.str z) = true := fun h1 h2 => ⟨by show 2 ≤ 3; decide, fun z hz => by
    rcases List.mem_cons.mp hz with rfl | hz
    · exact h1
    · rw [List.mem_singleton.mp hz]; exact h2⟩
  have two : ∀ {k m p : Str}, at0 (.str k) = true → at0 (.str m) = true → at0 (.str p) = true → ([k, m, p] : List Str).length ≤ 3 ∧ ∀ z ∈ ([k, m, p] : List Str), at0 (.str z) = true := fun h1 h2 h3 => ⟨by show 3 ≤ 3; decide, fun z hz => by
    rcases List.mem_cons.mp hz with rfl | hz
    · exact h1
    rcases List.mem_cons.mp hz with rfl | hz
    · exact h2
    · rw [List.mem_singleton.mp hz]; exact h3⟩
  rcases (r.mem c).mp hc with h | ⟨o, ho, ⟨_, rfl⟩ | ⟨_, rfl⟩ | ⟨v, hv, _, rfl⟩⟩
  · unfold base0 at h
    rcases List.mem_append.mp h with h | h
    · rcases List.mem_cons.mp h with rfl | h
      · exact ⟨by show 1 ≤ 3; decide, fun z hz => by rw [List.mem_singleton.mp hz]; exact words_at _ (by decide)⟩
      · rw [List.mem_singleton.mp h]
        exact one (words_at _ (by decide)) (nm _ (actN_dom f))
    · unfold xtra at h
      cases a with
      | bases z bs =>
        rw [List.mem_singleton.mp h]
        exact one (words_at _ (by decide)) (nm _ f.1)
      | put z p =>
        rcases List.mem_cons.mp h with rfl | h
        · exact one (words_at _ (by decide)) (isWs_at f.2)
        · rw [List.mem_singleton.mp h]
          exact two (words_at _ (by decide)) (nm _ f.1) (isWs_at f.2)
      | drop z p =>
        rcases List.mem_cons.mp h with rfl | h
        · exact one (words_at _ (by decide)) (isWs_at f.2)
        · rw [List.mem_singleton.mp h]
          exact two (words_at _ (by decide)) (nm _ f.1) (isWs_at f.2)
  · exact one (words_at _ (by decide)) (nm o ho)
  · exact one (words_at _ (by decide)) (nm o ho)
  · refine two (words_at _ (by decide)) (nm o ho) (isWs_at ?_)
    rcases hv with ⟨m, hm, hv⟩ | ⟨m, hm, hv⟩
    · exact ((t.ws hm).2.2.2 v hv).1
    · exact ((t2.ws (show m ∈ dom (nB B a) by rw [db]; exact hm)).2.2.2 v hv).1
end
theorem v2_eqB {a b : Bool} : V2 rdEq (.bl a) (.bl b) (.bl (a == b)) := fun Q q => by
  refine ⟨(okN_bl a).e (by decide), (okN_bl b).e (by decide), ?_⟩
  have e : eqD (.bl a) (.bl b) = (a == b) := by cases a <;> cases b <;> rfl
  rw [e]
  exact q
end TBW
set_option Elab.async false
set_option linter.all false
set_option maxRecDepth 100000
set_option maxHeartbeats 1000000
namespace TBW
open PySem PySem.Spec L2 VL TB PySem.W
open PyProof.Rows hiding St
end TBW
set_option Elab.async false
set_option linter.all false
set_option maxRecDepth 100000
set_option maxHeartbeats 1000000
namespace TBW
open PySem PySem.Spec L2 VL TB PySem.W
open PyProof.Rows hiding St
end TBW
set_option Elab.async false
set_option linter.all false
set_option maxRecDepth 100000
set_option maxHeartbeats 1000000
namespace TBW
open PySem PySem.Spec L2 VL TB PySem.W
open PyProof.Rows hiding St
theorem vl_isiO {T nm : String} {cns : List Str} {te : TDE} {Γ : Gm} {x : D} {c : Bool} (h : Vl te Γ x) (hn : tyName x = some nm) (hk : kitB nm T = some c) : Vl (rdCB (rdIsiO T cns) (rdCons te (rdCons (rdC (.ty T)) rdNil))) Γ (.bl c) := vl_cb (va_cons h (va_cons vl_c va_nil)) fun Q q => by
  have g : rdIsi [x, .ty T] Q := ⟨nm, c, hn, hk, q⟩
  cases x <;> first | exact g | cases hn
theorem vl_isiO_obj {T : String} {cns : List Str} {te : TDE} {Γ : Gm} {cn : Str} {ns : List Str} {es : List D} (h : Vl te Γ (.obj cn ns es)) (hc : cn ∈ cns) : Vl (rdCB (rdIsiO T cns) (rdCons te (rdCons (rdC (.ty T)) rdNil))) Γ (.bl false) := vl_cb (va_cons h (va_cons vl_c va_nil)) fun Q q => ⟨rfl, hc, q⟩
end TBW
set_option Elab.async false
set_option linter.all false
set_option maxRecDepth 100000
set_option maxHeartbeats 1000000
namespace VX
open PySem PySem.Spec L2 VL TB TBW PySem.W
open PyProof.Rows hiding St
/-- the slot at a place -/
class Lk (Γ : Gm) (i : Nat) (s : outParam Sl) : Prop where h : Γ[i]? = some s
instance k_lk0 {Γ : Gm} {s : Sl} : Lk (s :: Γ) 0 s := ⟨rfl⟩
instance k_lkS {Γ : Gm} {s a : Sl} {i : Nat} [c : Lk Γ i s] : Lk (a :: Γ) (i + 1) s := ⟨by rw [List.getElem?_cons_succ]; exact c.h⟩
class Sc (Γ : Gm) (i : Nat) (s : Sl) (Γ' : outParam Gm) : Prop where e : Γ.set i s = Γ'
instance k_sc0 {Γ : Gm} {s a : Sl} : Sc (a :: Γ) 0 s (s :: Γ) := ⟨rfl⟩
instance k_scS {Γ Γ' : Gm} {s a : Sl} {i : Nat} [c : Sc Γ i s Γ'] : Sc (a :: Γ) (i + 1) s (a :: Γ') := ⟨by rw [List.set_cons_succ, c.e]⟩
class Ix (ds : List D) (i : Nat) (d : outParam D) : Prop where h : ds[i]? = some d
instance k_ix0 {ds : List D} {d : D} : Ix (d :: ds) 0 d := ⟨rfl⟩
instance k_ixS {ds : List D} {d a : D} {i : Nat} [c : Ix ds i d] : Ix (a :: ds) (i + 1) d := ⟨by rw [List.getElem?_cons_succ]; exact c.h⟩
/-- a short list -/
class Sm (ds : List D) (n : Nat) : Prop where h : ds.length ≤ n
instance k_sm0 {n : Nat} : Sm [] n := ⟨Nat.zero_le _⟩
instance k_smS {ds : List D} {d : D} {n : Nat} [c : Sm ds n] : Sm (d :: ds) (n + 1) := ⟨Nat.succ_le_succ c.h⟩
/-- two lists, one behind the other -/
class Ap (ds es : List D) (fs : outParam (List D)) : Prop where e : ds ++ es = fs
instance k_ap0 {es : List D} : Ap [] es es := ⟨rfl⟩
instance k_apS {ds es fs : List D} {d : D} [c : Ap ds es fs] : Ap (d :: ds) es (d :: fs) := ⟨by rw [List.cons_append, c.e]⟩
/-- one value -/
class Vc (te : TDE) (Γ : Gm) (d : outParam D) : Prop where v : Vl te Γ d
class Ac (tf : TDF) (Γ : Gm) (ds : outParam (List D)) : Prop where v : VA tf Γ ds
class Tc (tt : TDT) (Γ : Gm) (b : outParam Bool) : Prop where v : VT tt Γ b
class Oc (t : TDO) (Γ : Gm) (o : outParam (Option Int)) : Prop where v : VO t Γ o
class V2c (rd : RD2) (x y : D) (d : outParam D) : Prop where v : V2 rd x y d
class Cc (r : List D → (D → Prop) → Prop) (ds : List D) (d : outParam D) : Prop where v : VC r ds d
class Slc (r : D → Option Int → Option Int → (D → Prop) → Prop) (x : D) (lo hi : Option Int) (d : outParam D) : Prop where v : VS r x lo hi d
/-- an own object, its fields -/
class Ob (d : D) (cn : outParam Str) (ns : outParam (List Str)) (es : outParam (List D)) : Prop where e : d = .obj cn ns es
class Nm (cn m : Str) (ns : List Str) : Prop where h : m ∉ ns
class Gt {α : Type} (B : List (Str × α)) (n : Str) (w : outParam α) : Prop where e : get B n = some w
class OkT (x : Str) : Prop where h : okT x
class OkTs (xs : List Str) : Prop where h : okTs xs
class OkR (d : D) : Prop where h : VL.okQ d
theorem vc {te : TDE} {Γ : Gm} {d : D} [c : Vc te Γ d] : Vl te Γ d := c.v
section
variable {Γ : Gm} {i k : Nat} {d x y z v : D} {ta tb tc : TDE} {tt tu : TDT} {tf : TDF} {ds es : List D} {b b1 b2 : Bool} {rd : RD2} {m n : Int} {s : Str}
instance v_var [c : Lk Γ i (.dat d)] : Vc (rdVar i) Γ d := ⟨vl_var c.h⟩
instance v_c : Vc (rdC d) Γ d := ⟨vl_c⟩
instance v_sh [c : Vc ta Γ d] : Vc (rdShare ta) Γ d := ⟨c.v⟩
instance v_op [c1 : Vc ta Γ x] [c2 : Vc tb Γ y] [c3 : V2c rd x y d] : Vc (rdOp rd ta tb) Γ d := ⟨vl_op c1.v c2.v c3.v⟩
instance v_and [c1 : Vc ta Γ (.bl b1)] [c2 : Vc tb Γ (.bl b2)] : Vc (rdAndV ta tb) Γ (.bl (b1 && b2)) := ⟨vl_and c1.v fun _ => c2.v⟩
instance v_or [c1 : Vc ta Γ (.bl b1)] [c2 : Vc tb Γ (.bl b2)] : Vc (rdOrV ta tb) Γ (.bl (b1 || b2)) := ⟨vl_or c1.v fun _ => c2.v⟩
instance v_if [c : Tc tt Γ b] [c1 : Vc ta Γ x] [c2 : Vc tb Γ y] : Vc (rdIf tt ta tb) Γ (if b = true then x else y) := ⟨vl_if c.v (fun _ => c1.v) fun _ => c2.v⟩
instance v_not [c : Vc ta Γ (.bl b)] : Vc (rdNotV ta) Γ (.bl (!b)) := ⟨vl_notV c.v⟩
instance v_tup [c : Ac tf Γ ds] [l : Sm ds 200] : Vc (rdTup tf) Γ (.tup ds) := ⟨vl_tup c.v (small_n (Nat.le_trans l.h (by decide)))⟩
instance v_lst [c : Ac tf Γ ds] [l : Sm ds 200] : Vc (rdLst tf) Γ (.lst ds) := ⟨vl_lst c.v (small_n (Nat.le_trans l.h (by decide)))⟩
instance v_cb {r : List D → (D → Prop) → Prop} [c : Ac tf Γ ds] [h : Cc r ds d] : Vc (rdCB r tf) Γ d := ⟨vl_cb c.v h.v⟩
instance v_cf {r : List D → (D → Prop) → Prop} [c : Ac tf Γ ds] [h : Cc r ds d] : Vc (rdCF r tf) Γ d := ⟨vl_cf c.v h.v⟩
instance v_call {F : FD} [c : Ac tf Γ ds] [h : Cc F ds d] : Vc (rdCall F [] tf) Γ d := ⟨vl_call c.v h.v⟩
instance v_sl {r : D → Option Int → Option Int → (D → Prop) → Prop} {tl th : TDO} {lo hi : Option Int} [h : Vc ta Γ x] [hl : Oc tl Γ lo] [hh : Oc th Γ hi] [hs : Slc r x lo hi d] : Vc (rdSl r ta tl th) Γ d := ⟨vl_sl h.v hl.v hh.v hs.v⟩
instance v_dic0 : Vc rdDic0 Γ (.dic [] []) := ⟨vl_dic0⟩
theorem vl_ob {cn m : Str} {F : FD} {ns : List Str} (h : Vl ta Γ x) (ho : x = .obj cn ns es) (hm : m ∉ ns) (ha : VA tf Γ ds) (hc : VC F (x :: ds) d) : Vl (rdMeth cn m F [] ta tf) Γ d := by subst ho; exact vl_meth h hm ha hc
instance v_meth {cn m : Str} {F : FD} {ns : List Str} [c1 : Vc ta Γ x] [o : Ob x cn ns es] [hm : Nm cn m ns] [c2 : Ac tf Γ ds] [h : Cc F (x :: ds) d] : Vc (rdMeth cn m F [] ta tf) Γ d := ⟨vl_ob c1.v o.e hm.h c2.v h.v⟩
theorem vl_propO {cn : Str} {F : FD} {ns : List Str} (h : Vl ta Γ x) (ho : x = .obj cn ns es) (hc : VC F [x] d) : Vl (rdProp cn F ta) Γ d := by subst ho; exact fun Q q => h _ ⟨rfl, hc _ q⟩
instance v_prop {cn : Str} {F : FD} {ns : List Str} [c1 : Vc ta Γ x] [o : Ob x cn ns es] [h : Cc F [x] d] : Vc (rdProp cn F ta) Γ d := ⟨vl_propO c1.v o.e h.v⟩
instance t_test [c : Vc ta Γ (.bl b)] : Tc (rdTest ta) Γ b := ⟨vt_test c.v⟩
instance t_not [c : Tc tt Γ b] : Tc (rdNot tt) Γ (!b) := ⟨vt_not c.v⟩
instance t_and [c1 : Tc tt Γ b1] [c2 : Tc tu Γ b2] : Tc (rdAnd tt tu) Γ (b1 && b2) := ⟨vt_and c1.v fun _ => c2.v⟩
instance t_or [c1 : Tc tt Γ b1] [c2 : Tc tu Γ b2] : Tc (rdOr tt tu) Γ (b1 || b2) := ⟨vt_or c1.v fun _ => c2.v⟩
instance a_nil : Ac rdNil Γ [] := ⟨va_nil⟩
instance a_cons [c1 : Vc ta Γ d] [c2 : Ac tf Γ ds] : Ac (rdCons ta tf) Γ (d :: ds) := ⟨va_cons c1.v c2.v⟩
instance o_no : Oc rdNoPart Γ none := ⟨vo_no⟩
instance o_some [c : Vc ta Γ (.int n)] : Oc (rdPart ta) Γ (some n) := ⟨vo_some c.v⟩
instance p_eqS {a b : Str} : V2c rdEq (.str a) (.str b) (.bl (decide (a = b))) := ⟨v2_eqS⟩
instance p_neS {a b : Str} : V2c rdNe (.str a) (.str b) (.bl (!decide (a = b))) := ⟨v2_neS⟩
instance p_eqI : V2c rdEq (.int m) (.int n) (.bl (decide (m = n))) := ⟨v2_eqI⟩
instance p_neI : V2c rdNe (.int m) (.int n) (.bl (!decide (m = n))) := ⟨v2_neI⟩
instance p_eqB : V2c rdEq (.bl b1) (.bl b2) (.bl (b1 == b2)) := ⟨v2_eqB⟩
instance p_neB : V2c rdNe (.bl b1) (.bl b2) (.bl (b1 != b2)) := ⟨v2_neB⟩
instance p_isN {neg : Bool} : V2c (rdIsN neg) x .non (.bl (neg ^^ isN x)) := ⟨v2_isN'⟩
instance p_addI : V2c rdAddB (.int m) (.int n) (.int (m + n)) := ⟨v2_addI⟩
instance p_i0 {g : Int → Int → D} : V2c (rdI0 g) (.int m) (.int n) (g m n) := ⟨fun Q q => q⟩
instance p_ixT [c : Ix ds k d] : V2c rdIxA (.tup ds) (.int (OfNat.ofNat k)) d := ⟨v2_ixT c.h⟩
instance p_ixL [c : Ix ds k d] : V2c rdIxA (.lst ds) (.int (OfNat.ofNat k)) d := ⟨v2_ixL c.h⟩
instance p_ixD {α : Type} {f : α → D} {B : List (Str × α)} {s : Str} {w : α} [c : Gt B s w] : V2c rdIxA (dB f B) (.str s) (f w) := ⟨v2_ixD c.e rfl⟩
instance p_inD {α : Type} {f : α → D} {B : List (Str × α)} {s : Str} {neg : Bool} : V2c (rdInB neg) (.str s) (dB f B) (.bl (neg ^^ decide (s ∈ dom B))) := ⟨v2_inD⟩
instance p_inT {s : Str} {xs : List Str} {neg : Bool} [c1 : OkT s] [c2 : OkTs xs] : V2c (rdInB neg) (.str s) (sT xs) (.bl (neg ^^ decide (s ∈ xs))) := ⟨v2_inT c1.h c2.h⟩
instance p_inL {s : Str} {xs : List Str} {neg : Bool} [c1 : OkT s] [c2 : OkTs xs] : V2c (rdInB neg) (.str s) (sL xs) (.bl (neg ^^ decide (s ∈ xs))) := ⟨v2_inL c1.h c2.h⟩
instance p_addT {fs : List D} [a : Ap ds es fs] [l : Sm fs 200] : V2c rdAddB (.tup ds) (.tup es) (.tup fs) := ⟨by have e := a.e; subst e; exact v2_addT (small_n (by have := l.h; rw [List.length_append] at this; omega))⟩
instance p_addL {fs : List D} [a : Ap ds es fs] [l : Sm fs 200] : V2c rdAddB (.lst ds) (.lst es) (.lst fs) := ⟨by have e := a.e; subst e; exact v2_addL (small_n (by have := l.h; rw [List.length_append] at this; omega))⟩
instance p_mul2 : V2c rdMul (.lst [x]) (.int 2) (.lst [x, x]) := ⟨fun Q q => by rw [rdMul_l]; exact ⟨by decide, small_n (by show 1 * 2 ≤ 1000; decide), q⟩⟩
instance p_mul3 : V2c rdMul (.lst [x]) (.int 3) (.lst [x, x, x]) := ⟨fun Q q => by rw [rdMul_l]; exact ⟨by decide, small_n (by show 1 * 3 ≤ 1000; decide), q⟩⟩
instance p_mb {B K W : Bs} : V2c rdIxA (modD B K W) (.str "bases") (dB sT B) := ⟨mod_bases⟩
instance p_ml {B K W : Bs} : V2c rdIxA (modD B K W) (.str "lines") (dB sT K) := ⟨mod_lines⟩
instance p_mw {B K W : Bs} : V2c rdIxA (modD B K W) (.str "words") (dB sT W) := ⟨mod_words⟩
instance o_tab {B W K : Bs} : Ob (tabD B W K) "Table" ["own_bases", "own_words", "own_orders"] [dB sT B, dB sT W, dB sT K] := ⟨rfl⟩
instance f_lenB {α : Type} {f : α → D} {B : List (Str × α)} : Cc rdLenB [dB f B] (.int B.length) := ⟨vc_lenB⟩
instance f_lenF {ns : List Int} : Cc rdLenB [.fz ns] (.int ns.length) := ⟨fun Q q => q⟩
instance f_min : Cc rdMin2 [.int m, .int n] (.int (if n < m then n else m)) := ⟨fun Q q => q⟩
instance f_listT : Cc rdListB [.tup ds] (.lst ds) := ⟨vc_listT⟩
instance f_listL : Cc rdListB [.lst ds] (.lst ds) := ⟨fun Q q => q⟩
instance f_listB {α : Type} {f : α → D} {B : List (Str × α)} : Cc rdListB [dB f B] (sL (dom B)) := ⟨vc_listB⟩
instance f_tupL : Cc rdTuple [.lst ds] (.tup ds) := ⟨fun Q q => q⟩
instance f_tupT : Cc rdTuple [.tup ds] (.tup ds) := ⟨fun Q q => q⟩
instance f_rep [c : OkR d] : Cc rdRepQ [d] (.str (PyData.shown (py d))) := ⟨fun Q q => ⟨c.h, q⟩⟩
end
class Fn (te : TDE) (Γ : Gm) (F : outParam FD) (ds : outParam (List D)) (te' : outParam (D → TDE)) : Prop where w : ∀ Q : D → Gm → Prop, F ds (fun x => te' x Γ Q) → te Γ Q
class FnA (tf : TDF) (Γ : Gm) (F : outParam FD) (ds : outParam (List D)) (tf' : outParam (D → TDF)) : Prop where w : ∀ Q : List D → Gm → Prop, F ds (fun x => tf' x Γ Q) → tf Γ Q
class FnT (tt : TDT) (Γ : Gm) (F : outParam FD) (ds : outParam (List D)) (tt' : outParam (D → TDT)) : Prop where w : ∀ Q : Bool → Gm → Prop, F ds (fun x => tt' x Γ Q) → tt Γ Q
class FnO (t : TDO) (Γ : Gm) (F : outParam FD) (ds : outParam (List D)) (t' : outParam (D → TDO)) : Prop where w : ∀ Q : Option Int → Gm → Prop, F ds (fun x => t' x Γ Q) → t Γ Q
class FnS (t : TDS) (Γ : Gm) (F : outParam FD) (ds : outParam (List D)) (t' : outParam (D → TDS)) : Prop where w : ∀ E : EndsD, F ds (fun x => t' x E Γ) → t E Γ
section
variable {Γ : Gm} {i j : Nat} {d x y : D} {ta tb : TDE} {ta' tb' : D → TDE} {tt tu : TDT} {tt' tu' : D → TDT} {tf : TDF} {tf' : D → TDF} {tl th : TDO} {tl' th' : D → TDO} {ds dds es ds0 : List D} {b : Bool} {rd : RD2} {F F0 : FD} {FE : FX} {xk : D → Prop} {r : List D → (D → Prop) → Prop} {s t : TDS} {s' : D → TDS} {lo hi : Option Int}
instance n_call [c : Ac tf Γ ds] : Fn (rdCall F [] tf) Γ F ds (fun x => rdC x) := ⟨fun Q q => c.v _ (by rw [List.append_nil]; exact q)⟩
instance n_callA [c : FnA tf Γ F0 ds0 tf'] : Fn (rdCall F dds tf) Γ F0 ds0 (fun x => rdCall F dds (tf' x)) := ⟨fun Q q => c.w _ q⟩
instance n_callD [c : Ac tf Γ ds] : Fn (rdCallXD FE dds xk tf) Γ (fun ds k => FE (ds ++ dds) k xk) ds (fun x => rdC x) := ⟨fun Q q => c.v _ q⟩
instance n_callDA [c : FnA tf Γ F0 ds0 tf'] : Fn (rdCallXD FE dds xk tf) Γ F0 ds0 (fun x => rdCallXD FE dds xk (tf' x)) := ⟨fun Q q => c.w _ q⟩
instance n_callS [c : Ac tf Γ ds] [l : Sm ds 200] : Fn (rdCallS FE xk tf) Γ (fun ds k => FE [.tup ds] k xk) ds (fun x => rdC x) := ⟨fun Q q => c.v _ ⟨small_n (Nat.le_trans l.h (by decide)), q⟩⟩
instance n_meth {cn m : Str} {ns : List Str} [c1 : Vc ta Γ x] [o : Ob x cn ns es] [hm : Nm cn m ns] [c : Ac tf Γ ds] : Fn (rdMeth cn m F [] ta tf) Γ F (x :: ds) (fun x => rdC x) := ⟨fun Q q => by
  have e := o.e
  refine c1.v _ ?_
  subst e
  exact ⟨rfl, hm.h, c.v _ (by rw [List.append_nil]; exact q)⟩⟩
instance n_methO {cn m : Str} [c : Fn ta Γ F0 ds0 ta'] : Fn (rdMeth cn m F dds ta tf) Γ F0 ds0 (fun x => rdMeth cn m F dds (ta' x) tf) := ⟨fun Q q => c.w _ q⟩
instance n_methA {cn m : Str} {ns : List Str} [c1 : Vc ta Γ x] [o : Ob x cn ns es] [hm : Nm cn m ns] [c : FnA tf Γ F0 ds0 tf'] : Fn (rdMeth cn m F dds ta tf) Γ F0 ds0 (fun y => rdCall F dds (rdCons (rdC x) (tf' y))) := ⟨fun Q q => by
  have e := o.e
  refine c1.v _ ?_
  subst e
  exact ⟨rfl, hm.h, c.w _ q⟩⟩
instance n_methX {cn m : Str} {ns : List Str} [c1 : Vc ta Γ x] [o : Ob x cn ns es] [hm : Nm cn m ns] [c : Ac tf Γ ds] : Fn (rdMethX cn m FE xk ta tf) Γ (fun ds k => FE ds k xk) (x :: ds) (fun x => rdC x) := ⟨fun Q q => by
  have e := o.e
  refine c1.v _ ?_
  subst e
  exact ⟨rfl, hm.h, c.v _ q⟩⟩
instance n_methXO {cn m : Str} [c : Fn ta Γ F0 ds0 ta'] : Fn (rdMethX cn m FE xk ta tf) Γ F0 ds0 (fun x => rdMethX cn m FE xk (ta' x) tf) := ⟨fun Q q => c.w _ q⟩
instance n_methXA {cn m : Str} {ns : List Str} [c1 : Vc ta Γ x] [o : Ob x cn ns es] [hm : Nm cn m ns] [c : FnA tf Γ F0 ds0 tf'] : Fn (rdMethX cn m FE xk ta tf) Γ F0 ds0 (fun y => rdCallXD FE [] xk (rdCons (rdC x) (tf' y))) := ⟨fun Q q => by
  have e := o.e
  refine c1.v _ ?_
  subst e
  refine ⟨rfl, hm.h, c.w _ ?_⟩
  have e2 : (fun y => rdCallXD FE [] xk (rdCons (rdC (D.obj cn ns es)) (tf' y)) Γ Q) = fun y => tf' y Γ fun ds Γ2 => FE (D.obj cn ns es :: ds) (fun r => Q r Γ2) xk := funext fun y => by
    show (tf' y Γ fun ds Γ2 => FE (D.obj cn ns es :: ds ++ []) (fun r => Q r Γ2) xk) = _
    have : (fun (ds : List D) (Γ2 : Gm) => FE (D.obj cn ns es :: ds ++ []) (fun r => Q r Γ2) xk) = fun ds Γ2 => FE (D.obj cn ns es :: ds) (fun r => Q r Γ2) xk := funext fun ds => by rw [List.append_nil]
    rw [this]
  rw [e2] at q
  exact q⟩
instance n_propO {cn : Str} {ns : List Str} [c1 : Vc ta Γ x] [o : Ob x cn ns es] : Fn (rdProp cn F ta) Γ F [x] (fun x => rdC x) := ⟨fun Q q => by
  have e := o.e
  refine c1.v _ ?_
  subst e
  exact ⟨rfl, q⟩⟩
instance n_prop {cn : Str} [c : Fn ta Γ F0 ds0 ta'] : Fn (rdProp cn F ta) Γ F0 ds0 (fun x => rdProp cn F (ta' x)) := ⟨fun Q q => c.w _ q⟩
instance n_sh [c : Fn ta Γ F ds ta'] : Fn (rdShare ta) Γ F ds (fun x => rdShare (ta' x)) := ⟨c.w⟩
instance n_op2 [c1 : Vc ta Γ y] [c2 : Fn tb Γ F ds tb'] : Fn (rdOp rd ta tb) Γ F ds (fun x => rdOp rd (rdC y) (tb' x)) := ⟨fun Q q => c1.v _ (c2.w _ q)⟩
instance n_op1 [c : Fn ta Γ F ds ta'] : Fn (rdOp rd ta tb) Γ F ds (fun x => rdOp rd (ta' x) tb) := ⟨fun Q q => c.w _ q⟩
instance n_tup [c : FnA tf Γ F ds tf'] : Fn (rdTup tf) Γ F ds (fun x => rdTup (tf' x)) := ⟨fun Q q => c.w _ q⟩
instance n_lst [c : FnA tf Γ F ds tf'] : Fn (rdLst tf) Γ F ds (fun x => rdLst (tf' x)) := ⟨fun Q q => c.w _ q⟩
instance n_cb [c : FnA tf Γ F ds tf'] : Fn (rdCB r tf) Γ F ds (fun x => rdCB r (tf' x)) := ⟨fun Q q => c.w _ q⟩
instance n_cf [c : FnA tf Γ F ds tf'] : Fn (rdCF r tf) Γ F ds (fun x => rdCF r (tf' x)) := ⟨fun Q q => c.w _ q⟩
instance n_if [c : FnT tt Γ F ds tt'] : Fn (rdIf tt ta tb) Γ F ds (fun x => rdIf (tt' x) ta tb) := ⟨fun Q q => c.w _ q⟩
instance n_notV [c : Fn ta Γ F ds ta'] : Fn (rdNotV ta) Γ F ds (fun x => rdNotV (ta' x)) := ⟨fun Q q => c.w _ q⟩
instance n_andV [c : Fn ta Γ F ds ta'] : Fn (rdAndV ta tb) Γ F ds (fun x => rdAndV (ta' x) tb) := ⟨fun Q q => c.w _ q⟩
instance n_orV [c : Fn ta Γ F ds ta'] : Fn (rdOrV ta tb) Γ F ds (fun x => rdOrV (ta' x) tb) := ⟨fun Q q => c.w _ q⟩
instance n_sl2 {q : D → Option Int → Option Int → (D → Prop) → Prop} [c1 : Vc ta Γ y] [c : FnO tl Γ F ds tl'] : Fn (rdSl q ta tl th) Γ F ds (fun x => rdSl q (rdC y) (tl' x) th) := ⟨fun Q q => c1.v _ (c.w _ q)⟩
instance n_sl3 {q : D → Option Int → Option Int → (D → Prop) → Prop} [c1 : Vc ta Γ y] [c2 : Oc tl Γ lo] [c : FnO th Γ F ds th'] : Fn (rdSl q ta tl th) Γ F ds (fun x => rdSl q (rdC y) (fun Γ k => k lo Γ) (th' x)) := ⟨fun Q q => c1.v _ (c2.v _ (c.w _ q))⟩
instance n_sl1 {q : D → Option Int → Option Int → (D → Prop) → Prop} [c : Fn ta Γ F ds ta'] : Fn (rdSl q ta tl th) Γ F ds (fun x => rdSl q (ta' x) tl th) := ⟨fun Q q => c.w _ q⟩
instance o_lit : Oc (fun Γ k => k lo Γ) Γ lo := ⟨fun Q q => q⟩
instance no_part [c : Fn ta Γ F ds ta'] : FnO (rdPart ta) Γ F ds (fun x => rdPart (ta' x)) := ⟨fun Q q => c.w _ q⟩
instance na_cons2 [c1 : Vc ta Γ y] [c : FnA tf Γ F ds tf'] : FnA (rdCons ta tf) Γ F ds (fun x => rdCons (rdC y) (tf' x)) := ⟨fun Q q => c1.v _ (c.w _ q)⟩
instance na_cons1 [c : Fn ta Γ F ds ta'] : FnA (rdCons ta tf) Γ F ds (fun x => rdCons (ta' x) tf) := ⟨fun Q q => c.w _ q⟩
instance nt_test [c : Fn ta Γ F ds ta'] : FnT (rdTest ta) Γ F ds (fun x => rdTest (ta' x)) := ⟨fun Q q => c.w _ q⟩
instance nt_not [c : FnT tt Γ F ds tt'] : FnT (rdNot tt) Γ F ds (fun x => rdNot (tt' x)) := ⟨fun Q q => c.w _ q⟩
instance nt_and [c : FnT tt Γ F ds tt'] : FnT (rdAnd tt tu) Γ F ds (fun x => rdAnd (tt' x) tu) := ⟨fun Q q => c.w _ q⟩
instance nt_or [c : FnT tt Γ F ds tt'] : FnT (rdOr tt tu) Γ F ds (fun x => rdOr (tt' x) tu) := ⟨fun Q q => c.w _ q⟩
instance ns_asg {gd : TDG} [c : Fn ta Γ F ds ta'] : FnS (rdAsg ta gd) Γ F ds (fun x => rdAsg (ta' x) gd) := ⟨fun E q => c.w _ q⟩
instance ns_own [c : Fn ta Γ F ds ta'] : FnS (rdSetOwn ta i) Γ F ds (fun x => rdSetOwn (ta' x) i) := ⟨fun E q => c.w _ q⟩
instance ns_ret [c : Fn ta Γ F ds ta'] : FnS (rdRet ta) Γ F ds (fun x => rdRet (ta' x)) := ⟨fun E q => c.w _ q⟩
instance ns_retF [c : Fn ta Γ F ds ta'] : FnS (rdRetF ta) Γ F ds (fun x => rdRetF (ta' x)) := ⟨fun E q => c.w _ q⟩
instance ns_drop [c : Fn ta Γ F ds ta'] : FnS (rdDrop ta) Γ F ds (fun x => rdDrop (ta' x)) := ⟨fun E q => c.w _ q⟩
instance ns_if [c : FnT tt Γ F ds tt'] : FnS (rdIfS tt s t) Γ F ds (fun x => rdIfS (tt' x) s t) := ⟨fun E q => c.w _ q⟩
instance ns_seq [c : FnS s Γ F ds s'] : FnS (rdSeq s t) Γ F ds (fun x => rdSeq (s' x) t) := ⟨fun E q => c.w _ q⟩
instance ns_par [c : FnA tf Γ F ds tf'] : FnS (rdPar i j tf) Γ F ds (fun x => rdPar i j (tf' x)) := ⟨fun E q => c.w _ q⟩
instance ns_for {gd : TDG} [c : FnA tf Γ F ds tf'] : FnS (rdFor tf gd s) Γ F ds (fun x => rdFor (tf' x) gd s) := ⟨fun E q => c.w _ q⟩
instance na_any [c : Fn ta Γ F ds ta'] : FnA (rdIAny ta) Γ F ds (fun x => rdIAny (ta' x)) := ⟨fun Q q => c.w _ q⟩
instance na_enum [c : FnA tf Γ F ds tf'] : FnA (rdIEnumT tf) Γ F ds (fun x => rdIEnumT (tf' x)) := ⟨fun Q q => c.w _ q⟩
instance na_rng [c : FnA tf Γ F ds tf'] : FnA (rdIRng tf) Γ F ds (fun x => rdIRng (tf' x)) := ⟨fun Q q => c.w _ q⟩
/-- go to the first call -/
theorem fx {E : EndsD} [c : FnS s Γ F ds s'] (h : F ds fun x => s' x E Γ) : s E Γ := c.w E h
theorem fe {Q : D → Gm → Prop} [c : Fn ta Γ F ds ta'] (h : F ds fun x => ta' x Γ Q) : ta Γ Q := c.w Q h
variable {Γ' Γ2 Γ3 : Gm} {E : EndsD}
theorem xa [c : Vc ta Γ d] [g : Sc Γ i (.dat d) Γ'] (n : t E Γ') : rdSeq (rdAsg ta (rgName i)) t E Γ := sq_asg c.v (by rw [g.e]; exact n)
theorem xaL [c : Vc ta Γ d] [g : Sc Γ i (.dat d) Γ'] (n : E.nx Γ') : rdAsg ta (rgName i) E Γ := st_asg c.v (by rw [g.e]; exact n)
theorem xae {d' : D} [c : Vc ta Γ d'] [g : Sc Γ i (.dat d) Γ'] (e : d' = d) (n : t E Γ') : rdSeq (rdAsg ta (rgName i)) t E Γ := by subst e; exact xa n
theorem xo [c : Vc ta Γ d] [g : Sc Γ i (.own d) Γ'] (n : t E Γ') : rdSeq (rdSetOwn ta i) t E Γ := sq_own c.v (by rw [g.e]; exact n)
theorem xd [c : Vc ta Γ d] (n : t E Γ) : rdSeq (rdDrop ta) t E Γ := sq_drop c.v n
theorem xr [c : Vc ta Γ d] (n : E.rt d) : rdRet ta E Γ := st_ret c.v n
theorem xt {e : D} [c : Vc ta Γ (.tup [d, e])] [g : Sc Γ i (.dat d) Γ2] [g2 : Sc Γ2 j (.dat e) Γ3] (n : t E Γ3) : rdSeq (rdAsg ta (rgTup 2 (rgCons (rgName i) (rgCons (rgName j) rgNil)))) t E Γ := TB.sq_tup2 c.v (by rw [g.e, g2.e]; exact n)
theorem xi [c : Tc tt Γ b] (h1 : b = true → s { E with nx := t E } Γ) (h2 : b = false → t E Γ) : rdSeq (rdIfS tt s rdNext) t E Γ := sq_if c.v h1 h2
theorem xf {b' : Bool} [c : Tc tt Γ b'] (e : b' = false) (h2 : t E Γ) : rdSeq (rdIfS tt s rdNext) t E Γ := sq_if c.v (fun z => by rw [e] at z; cases z) fun _ => h2
end
end VX
set_option Elab.async false
set_option linter.all false
set_option maxRecDepth 100000
set_option maxHeartbeats 1000000
namespace VX
open PySem PySem.Spec L2 VL TB TBW PySem.W
open PyProof.Rows hiding St
class Ro (Γ : Gm) (Γ' : outParam Gm) : Prop where e : roG Γ = Γ'
instance ro_nil : Ro [] [] := ⟨rfl⟩
instance ro_dat {Γ Γ' : Gm} {d : D} [c : Ro Γ Γ'] : Ro (.dat d :: Γ) (.dat d :: Γ') := ⟨by rw [← c.e]; rfl⟩
instance ro_own {Γ Γ' : Gm} {d : D} [c : Ro Γ Γ'] : Ro (.own d :: Γ) (.no :: Γ') := ⟨by rw [← c.e]; rfl⟩
instance ro_no {Γ Γ' : Gm} [c : Ro Γ Γ'] : Ro (.no :: Γ) (.no :: Γ') := ⟨by rw [← c.e]; rfl⟩
instance (priority := 10) ro_any {Γ Γ' : Gm} {s : Sl} [c : Ro Γ Γ'] : Ro (s :: Γ) (roS s :: Γ') := ⟨by rw [← c.e]; rfl⟩
/-- what a caught call comes to -/
def KT (ok : List Str) (k : D → Prop) (x : D) : Prop := (∃ cn fs es, x = D.exc cn fs es ∧ cn ∈ ok) ∧ k x
class Lu (tab : List (Str × Bool)) (c : Str) (b : outParam Bool) : Prop where e : tab.lookup c = some b
section
variable {Γ Γ' : Gm} {i j n : Nat} {idx : List Nat} {d x y : D} {ta te : TDE} {te' : D → TDE} {tf : TDF} {tf' : D → TDF} {ds es ds0 dds : List D} {FE : FX} {F F0 : FD} {ok : List Str} {t1 t2 t3 : List (Str × Bool)} {c : Str} {fs : List Str} {b1 b2 b3 : Bool}
instance n_caughtD [r : Ro Γ Γ'] [c : Ac tf Γ' ds] : Fn (rdCaught ok (fun xk => rdCallXD FE dds xk tf)) Γ (fun ds k => FE (ds ++ dds) (fun _ => k .non) (KT ok k)) ds (fun x => rdC x) := ⟨fun Q q => by
  show rdCallXD FE dds _ tf (roG Γ) _
  rw [r.e]
  exact c.v _ q⟩
instance n_caughtM {cn m : Str} {ns : List Str} [r : Ro Γ Γ'] [c1 : Vc ta Γ' x] [o : Ob x cn ns es] [hm : Nm cn m ns] [c : Ac tf Γ' ds] : Fn (rdCaught ok (fun xk => rdMethX cn m FE xk ta tf)) Γ (fun ds k => FE ds (fun _ => k .non) (KT ok k)) (x :: ds) (fun x => rdC x) := ⟨fun Q q => by
  show rdMethX cn m FE _ ta tf (roG Γ) _
  rw [r.e]
  have e := o.e
  refine c1.v _ ?_
  subst e
  exact ⟨rfl, hm.h, c.v _ q⟩⟩
instance n_caughtS [r : Ro Γ Γ'] [c : Ac tf Γ' ds] [l : Sm ds 200] : Fn (rdCaught ok (fun xk => rdCallS FE xk tf)) Γ (fun ds k => FE [.tup ds] (fun _ => k .non) (KT ok k)) ds (fun x => rdC x) := ⟨fun Q q => by
  show rdCallS FE _ tf (roG Γ) _
  rw [r.e]
  exact c.v _ ⟨small_n (Nat.le_trans l.h (by decide)), q⟩⟩
class LnC (ds : List D) (n : Nat) : Prop where e : ds.length = n
instance ln_nil : LnC [] 0 := ⟨rfl⟩
instance ln_cons [c : LnC ds n] : LnC (d :: ds) (n + 1) := ⟨by rw [List.length_cons, c.e]⟩
class Pm (idx : List Nat) (ds : List D) (es : outParam (List D)) : Prop where e : perm idx ds = es
instance pm_nil : Pm [] ds [] := ⟨rfl⟩
instance pm_cons [c : Ix ds i d] [p : Pm idx ds es] : Pm (i :: idx) ds (d :: es) := ⟨by
  have e := p.e
  unfold perm at e ⊢
  rw [List.filterMap_cons, c.h, e]⟩
instance a_perm [c : Ac tf Γ ds] [l : LnC ds n] [p : Pm idx ds es] : Ac (rdPerm n idx tf) Γ es := ⟨fun Q q => c.v _ ⟨l.e, by rw [p.e]; exact q⟩⟩
instance na_perm [c : FnA tf Γ F ds tf'] : FnA (rdPerm n idx tf) Γ F ds (fun x => rdPerm n idx (tf' x)) := ⟨fun Q q => c.w _ q⟩
instance n_callXK [c : Ac tf Γ ds] [l : LnC ds n] {xk : D → Prop} : Fn (rdCallXK n FE xk tf) Γ (fun ds k => FE ds k xk) ds (fun x => rdC x) := ⟨fun Q q => c.v _ ⟨l.e, q⟩⟩
instance n_callXKA [c : FnA tf Γ F0 ds0 tf'] {xk : D → Prop} : Fn (rdCallXK n FE xk tf) Γ F0 ds0 (fun x => rdCallXK n FE xk (tf' x)) := ⟨fun Q q => c.w _ q⟩
instance n_callXP [c : Ac tf Γ ds] [l : LnC ds n] [p : Pm idx ds es] {xk : D → Prop} : Fn (rdCallXP n idx FE xk tf) Γ (fun ds k => FE ds k xk) es (fun x => rdC x) := ⟨fun Q q => c.v _ ⟨l.e, by rw [p.e]; exact q⟩⟩
instance n_callKw [c : Ac tf Γ ds] [l : LnC ds n] : Fn (rdCallKw n F tf) Γ F ds (fun x => rdC x) := ⟨fun Q q => c.v _ ⟨l.e, q⟩⟩
instance v_callKw [c : Ac tf Γ ds] [l : LnC ds n] [h : Cc F ds d] : Vc (rdCallKw n F tf) Γ d := ⟨fun Q q => c.v _ ⟨l.e, h.v _ q⟩⟩
instance v_isX [c1 : Vc te Γ (.exc c fs ds)] [l : Lu t1 c b1] : Vc (rdIsXc t1 te) Γ (.bl b1) := ⟨fun Q q => c1.v _ ⟨b1, l.e, q⟩⟩
instance v_isX2 [c1 : Vc te Γ (.exc c fs ds)] [l1 : Lu t1 c b1] [l2 : Lu t2 c b2] : Vc (rdIsXT2 t1 t2 te) Γ (.bl (b1 || b2)) := ⟨fun Q q => c1.v _ ⟨b1, b2, l1.e, l2.e, q⟩⟩
instance v_isX3 [c1 : Vc te Γ (.exc c fs ds)] [l1 : Lu t1 c b1] [l2 : Lu t2 c b2] [l3 : Lu t3 c b3] : Vc (rdIsXT3 t1 t2 t3 te) Γ (.bl (b1 || (b2 || b3))) := ⟨fun Q q => c1.v _ ⟨b1, b2, b3, l1.e, l2.e, l3.e, q⟩⟩
theorem vl_fldX {cs : List Str} {f : Str} (h : Vl te Γ (.exc c [f] [x])) (hc : c ∈ cs) : Vl (rdFldX cs f te) Γ x := fun Q q => h _ ⟨hc, x, rfl, rfl, q⟩
instance v_fldX1 {f : Str} [h : Vc te Γ (.exc c [f] [x])] : Vc (rdFldX [c] f te) Γ x := ⟨vl_fldX h.v (List.mem_singleton.mpr rfl)⟩
def rdAppU (j : Nat) (de : TDE) : TDE := fun Γ Q => de Γ fun d Γ1 => match Γ1[j]? with
  | some (.own (.lst ds)) => ds.length < sizeLine ∧ Q .non (Γ1.set j (.own (.lst (ds ++ [d]))))
  | _ => False
instance n_app [l : Lk Γ j (.own (.lst es))] [c : Fn te Γ F ds te'] : Fn (rdApp j te) Γ F ds (fun x => rdAppU j (te' x)) := ⟨fun Q q => ⟨⟨_, l.h⟩, c.w _ q⟩⟩
instance n_appU [c : Fn te Γ F ds te'] : Fn (rdAppU j te) Γ F ds (fun x => rdAppU j (te' x)) := ⟨fun Q q => c.w _ q⟩
instance v_pkIx [l : Lk Γ i (.own x)] [c : Vc te Γ y] [o : V2c rdIxA x y d] : Vc (rdPkIx i te) Γ d := ⟨vl_pkIx (x := x) (by unfold pkG; rw [l.h]) c.v o.v⟩
instance v_pkRep [l : Lk Γ i (.own x)] [o : OkR x] : Vc (rdPkRep i) Γ (.str (PyData.shown (py x))) := ⟨fun Q q => by unfold rdPkRep pkG; rw [l.h]; exact ⟨o.h, q⟩⟩
variable {E : EndsD} {t : TDS}
theorem xapp {fs : List D} [v : Vc te Γ d] [l : Lk Γ j (.own (.lst es))] [a : Ap es [d] fs] [g : Sc Γ j (.own (.lst fs)) Γ'] [sm : Sm fs 200] (n : t E Γ') : rdSeq (rdDrop (rdApp j te)) t E Γ :=
  (⟨⟨_, l.h⟩, v.v _ (by have := sm.h; rw [← a.e, List.length_append] at this; rw [l.h]; exact ⟨Nat.lt_of_lt_of_le (show es.length < 1000 by omega) (by decide), by rw [a.e, g.e]; exact n⟩)⟩ : rdApp j te Γ fun _ Γ1 => t E Γ1)
end
theorem va_rounds {Γ : Gm} {ns : List Int} {a m : Int} (h0 : Γ[0]? = some (.dat (.fz ns))) (ha : 0 ≤ a) (hb : a < 1000) (hc : 0 ≤ m) (hd : m < 1000) :
    ∃ n : Nat, VA (rdIRng (rdCons (rdOp rdAddB (rdC (.int a)) (rdCB rdMin2 (rdCons (rdCB rdLenB (rdCons (rdVar 0) rdNil)) (rdCons (rdC (.int m)) rdNil)))) rdNil)) Γ (rangeD n) := by
  have v : Vl (rdOp rdAddB (rdC (.int a)) (rdCB rdMin2 (rdCons (rdCB rdLenB (rdCons (rdVar 0) rdNil)) (rdCons (rdC (.int m)) rdNil)))) Γ (.int (a + (if m < ns.length then m else ns.length))) :=
    vl_op vl_c (vl_cb (va_cons (vl_cb (va_cons (vl_var h0) va_nil) (fun Q q => q : VC rdLenB [.fz ns] (.int ns.length))) (va_cons vl_c va_nil)) (fun Q q => q : VC rdMin2 [.int ns.length, .int m] (.int (if m < ns.length then m else ns.length)))) v2_addI
  have hn : 0 ≤ a + (if m < (ns.length : Int) then m else ns.length) ∧ a + (if m < (ns.length : Int) then m else ns.length) < 2000 := by split <;> omega
  generalize a + (if m < (ns.length : Int) then m else ns.length) = z at v hn
  refine ⟨z.toNat, vi_rng (va_cons (vl_eq v ?_) va_nil) (by omega)⟩
  congr 1
  omega
class Is (P : D → Prop) (x : D) : Prop where h : P x
class Each (P : D → Prop) (ds : List D) : Prop where h : ∀ x ∈ ds, P x
class AtS (z : Str) : Prop where h : at0 (.str z) = true
class SortB {α : Type} (B : List (Str × α)) : Prop where
  so : sortT (dom B) = dom B
  len : B.length < 64
section
variable {P : D → Prop} {x : D} {ds : List D} {m k : Nat} {z : Str}
instance each_nil : Each P [] := ⟨fun x h => by cases h⟩
instance each_cons [c : Is P x] [r : Each P ds] : Each P (x :: ds) := ⟨fun y h => by
  rcases List.mem_cons.mp h with rfl | h
  · exact c.h
  · exact r.h y h⟩
instance is_lvN : Is (lv m k) .non := ⟨at0_lv rfl⟩
instance is_lvB {b : Bool} : Is (lv m k) (.bl b) := ⟨at0_lv rfl⟩
instance is_lv0 : Is (lv m k) (.int 0) := ⟨at0_lv rfl⟩
instance is_lv1 : Is (lv m k) (.int 1) := ⟨at0_lv rfl⟩
instance is_lv2 : Is (lv m k) (.int 2) := ⟨at0_lv rfl⟩
instance is_lv3 : Is (lv m k) (.int 3) := ⟨at0_lv rfl⟩
instance is_lv5 : Is (lv m k) (.int 5) := ⟨at0_lv rfl⟩
instance is_lv7 : Is (lv m k) (.int 7) := ⟨at0_lv rfl⟩
instance is_lvS [c : AtS z] : Is (lv m k) (.str z) := ⟨at0_lv c.h⟩
instance is_lvT [c : Each (lv m k) ds] [l : Sm ds m] : Is (lv m (k + 1)) (.tup ds) := ⟨lv_tup l.h c.h⟩
instance is_lvL [c : Each (lv m k) ds] [l : Sm ds m] : Is (lv m (k + 1)) (.lst ds) := ⟨lv_lst l.h c.h⟩
instance is_lvEN : Is (lvE m k) .non := ⟨lvE_at rfl⟩
instance is_lvEB {b : Bool} : Is (lvE m k) (.bl b) := ⟨lvE_at rfl⟩
instance is_lvE0 : Is (lvE m k) (.int 0) := ⟨lvE_at rfl⟩
instance is_lvE1 : Is (lvE m k) (.int 1) := ⟨lvE_at rfl⟩
instance is_lvE2 : Is (lvE m k) (.int 2) := ⟨lvE_at rfl⟩
instance is_lvE3 : Is (lvE m k) (.int 3) := ⟨lvE_at rfl⟩
instance is_lvE5 : Is (lvE m k) (.int 5) := ⟨lvE_at rfl⟩
instance is_lvE7 : Is (lvE m k) (.int 7) := ⟨lvE_at rfl⟩
instance is_lvES [c : AtS z] : Is (lvE m k) (.str z) := ⟨lvE_at c.h⟩
instance is_lvET [c : Each (lvE m k) ds] [l : Sm ds m] : Is (lvE m (k + 1)) (.tup ds) := ⟨lvE_seq rfl l.h c.h⟩
instance is_lvEL [c : Each (lvE m k) ds] [l : Sm ds m] : Is (lvE m (k + 1)) (.lst ds) := ⟨lvE_seq rfl l.h c.h⟩
instance is_lvED : Is (lvE m k) (.dic [] []) := ⟨lvE_e⟩
instance f_sort {α : Type} {f : α → D} {B : List (Str × α)} [s : SortB B] : Cc rdSortC [dB f B] (sL (dom B)) := ⟨fun Q q => vc_sortB (f := f) s.len Q (by rw [s.so]; exact q)⟩
end
theorem at_all0 : ∀ z ∈ (["put", "drop", "bases", "push", "call", "Nobody", "A", "a", "", "M", "m", "n", "zz", "qq", "qqqq", "run"] : List Str), at0 (.str z) = true := by decide +kernel
instance at_s0 : AtS "put" := ⟨at_all0 _ (by decide)⟩
instance at_s1 : AtS "drop" := ⟨at_all0 _ (by decide)⟩
instance at_s2 : AtS "bases" := ⟨at_all0 _ (by decide)⟩
instance at_s3 : AtS "push" := ⟨at_all0 _ (by decide)⟩
instance at_s4 : AtS "call" := ⟨at_all0 _ (by decide)⟩
instance at_s5 : AtS "Nobody" := ⟨at_all0 _ (by decide)⟩
instance at_s6 : AtS "A" := ⟨at_all0 _ (by decide)⟩
instance at_s7 : AtS "a" := ⟨at_all0 _ (by decide)⟩
instance at_s8 : AtS "" := ⟨at_all0 _ (by decide)⟩
instance at_s9 : AtS "M" := ⟨at_all0 _ (by decide)⟩
instance at_s10 : AtS "m" := ⟨at_all0 _ (by decide)⟩
instance at_s11 : AtS "n" := ⟨at_all0 _ (by decide)⟩
instance at_s12 : AtS "zz" := ⟨at_all0 _ (by decide)⟩
instance at_s13 : AtS "qq" := ⟨at_all0 _ (by decide)⟩
instance at_s14 : AtS "qqqq" := ⟨at_all0 _ (by decide)⟩
instance at_s15 : AtS "run" := ⟨at_all0 _ (by decide)⟩
theorem at_all16 : ∀ z ∈ (["has", "under", "abcdefgh", "abcdefghi", "p", "q", "a b", "all", "word", "found", "own", "spot", "tag", "line", "receiver", "owner"] : List Str), at0 (.str z) = true := by decide +kernel
instance at_s16 : AtS "has" := ⟨at_all16 _ (by decide)⟩
instance at_s17 : AtS "under" := ⟨at_all16 _ (by decide)⟩
instance at_s18 : AtS "abcdefgh" := ⟨at_all16 _ (by decide)⟩
instance at_s19 : AtS "abcdefghi" := ⟨at_all16 _ (by decide)⟩
instance at_s20 : AtS "p" := ⟨at_all16 _ (by decide)⟩
instance at_s21 : AtS "q" := ⟨at_all16 _ (by decide)⟩
instance at_s22 : AtS "a b" := ⟨at_all16 _ (by decide)⟩
instance at_s23 : AtS "all" := ⟨at_all16 _ (by decide)⟩
instance at_s24 : AtS "word" := ⟨at_all16 _ (by decide)⟩
instance at_s25 : AtS "found" := ⟨at_all16 _ (by decide)⟩
instance at_s26 : AtS "own" := ⟨at_all16 _ (by decide)⟩
instance at_s27 : AtS "spot" := ⟨at_all16 _ (by decide)⟩
instance at_s28 : AtS "tag" := ⟨at_all16 _ (by decide)⟩
instance at_s29 : AtS "line" := ⟨at_all16 _ (by decide)⟩
instance at_s30 : AtS "receiver" := ⟨at_all16 _ (by decide)⟩
instance at_s31 : AtS "owner" := ⟨at_all16 _ (by decide)⟩
theorem at_all32 : ∀ z ∈ (["ahead", "order", "Put", "missed", "served", "Box", "Cat", "D", "Dog", "Ab", "Z", "Abcdefgh", "Kitten", "B", "C", "X"] : List Str), at0 (.str z) = true := by decide +kernel
instance at_s32 : AtS "ahead" := ⟨at_all32 _ (by decide)⟩
instance at_s33 : AtS "order" := ⟨at_all32 _ (by decide)⟩
instance at_s34 : AtS "Put" := ⟨at_all32 _ (by decide)⟩
instance at_s35 : AtS "missed" := ⟨at_all32 _ (by decide)⟩
instance at_s36 : AtS "served" := ⟨at_all32 _ (by decide)⟩
instance at_s37 : AtS "Box" := ⟨at_all32 _ (by decide)⟩
instance at_s38 : AtS "Cat" := ⟨at_all32 _ (by decide)⟩
instance at_s39 : AtS "D" := ⟨at_all32 _ (by decide)⟩
instance at_s40 : AtS "Dog" := ⟨at_all32 _ (by decide)⟩
instance at_s41 : AtS "Ab" := ⟨at_all32 _ (by decide)⟩
instance at_s42 : AtS "Z" := ⟨at_all32 _ (by decide)⟩
instance at_s43 : AtS "Abcdefgh" := ⟨at_all32 _ (by decide)⟩
instance at_s44 : AtS "Kitten" := ⟨at_all32 _ (by decide)⟩
instance at_s45 : AtS "B" := ⟨at_all32 _ (by decide)⟩
instance at_s46 : AtS "C" := ⟨at_all32 _ (by decide)⟩
instance at_s47 : AtS "X" := ⟨at_all32 _ (by decide)⟩
instance okr_lv {d : D} [h : Is (lv 20 4) d] : OkR d := ⟨(lv_sh h.h).okQ (by decide) (by decide)⟩
end VX
set_option Elab.async false
set_option linter.all false
set_option maxRecDepth 100000
set_option maxHeartbeats 1000000
namespace VX
open PySem PySem.Spec L2 VL TB TBW PySem.W
open PyProof.Rows hiding St
class Ty (d : D) (nm : outParam String) : Prop where e : tyName d = some nm
class Kb (nm T : String) (c : outParam Bool) : Prop where e : kitB nm T = some c
section
variable {i : Int} {b : Bool} {z : Str} {ds : List D} {ks : List Key} {d : D} {nm T : String} {c : Bool} {te : TDE} {Γ : Gm}
instance y_non : Ty .non "NoneType" := ⟨rfl⟩
instance y_bl : Ty (.bl b) "bool" := ⟨rfl⟩
instance y_int : Ty (.int i) "int" := ⟨rfl⟩
instance y_str : Ty (.str z) "str" := ⟨rfl⟩
instance y_lst : Ty (.lst ds) "list" := ⟨rfl⟩
instance y_tup : Ty (.tup ds) "tuple" := ⟨rfl⟩
instance y_dic : Ty (.dic ks ds) "dict" := ⟨rfl⟩
instance y_dB {α : Type} {f : α → D} {B : List (Str × α)} : Ty (dB f B) "dict" := ⟨rfl⟩
instance kb_1 : Kb "NoneType" "str" false := ⟨rfl⟩
instance kb_2 : Kb "bool" "str" false := ⟨rfl⟩
instance kb_3 : Kb "int" "str" false := ⟨rfl⟩
instance kb_4 : Kb "str" "str" true := ⟨rfl⟩
instance kb_5 : Kb "list" "str" false := ⟨rfl⟩
instance kb_6 : Kb "tuple" "str" false := ⟨rfl⟩
instance kb_7 : Kb "dict" "str" false := ⟨rfl⟩
instance kb_8 : Kb "NoneType" "tuple" false := ⟨rfl⟩
instance kb_9 : Kb "bool" "tuple" false := ⟨rfl⟩
instance kb_10 : Kb "int" "tuple" false := ⟨rfl⟩
instance kb_11 : Kb "str" "tuple" false := ⟨rfl⟩
instance kb_12 : Kb "list" "tuple" false := ⟨rfl⟩
instance kb_13 : Kb "tuple" "tuple" true := ⟨rfl⟩
instance kb_14 : Kb "dict" "tuple" false := ⟨rfl⟩
instance kb_15 : Kb "NoneType" "dict" false := ⟨rfl⟩
instance kb_16 : Kb "bool" "dict" false := ⟨rfl⟩
instance kb_17 : Kb "int" "dict" false := ⟨rfl⟩
instance kb_18 : Kb "str" "dict" false := ⟨rfl⟩
instance kb_19 : Kb "list" "dict" false := ⟨rfl⟩
instance kb_20 : Kb "tuple" "dict" false := ⟨rfl⟩
instance kb_21 : Kb "dict" "dict" true := ⟨rfl⟩
instance f_isi [t : Ty d nm] [k : Kb nm T c] : Cc rdIsi [d, .ty T] (.bl c) := ⟨vc_isi t.e k.e⟩
instance f_lenL : Cc rdLenB [.lst ds] (.int ds.length) := ⟨vc_lenL⟩
instance f_lenT : Cc rdLenB [.tup ds] (.int ds.length) := ⟨vc_lenT⟩
class It (Ts : List String) (d : D) (b : outParam Bool) : Prop where e : isiTys Ts d = some b
instance v_isT2 {Ts : List String} [v : Vc te Γ d] [i : It Ts d b] : Vc (rdIsiT2 Ts te) Γ (.bl b) := ⟨fun Q q => v.v _ ⟨b, i.e, q⟩⟩
instance it_lst : It ["list", "tuple"] (.lst ds) true := ⟨rfl⟩
instance it_tup : It ["list", "tuple"] (.tup ds) true := ⟨rfl⟩
instance it_non : It ["list", "tuple"] .non false := ⟨rfl⟩
instance it_bl : It ["list", "tuple"] (.bl b) false := ⟨rfl⟩
instance it_int : It ["list", "tuple"] (.int i) false := ⟨rfl⟩
instance it_str : It ["list", "tuple"] (.str z) false := ⟨rfl⟩
instance it_dic : It ["list", "tuple"] (.dic ks ds) false := ⟨rfl⟩
instance it_dB {α : Type} {f : α → D} {B : List (Str × α)} : It ["list", "tuple"] (dB f B) false := ⟨rfl⟩
instance f_isList [i : It ["list", "tuple"] d b] : Cc F_is_list [d] (.bl b) := ⟨fun Q q => ⟨d, b, rfl, i.e, q⟩⟩
class OkVc (d : D) : Prop where h : okV d
instance f_isWord [o : OkVc d] : Cc F_is_word [d] (.bl (isW d)) := ⟨fun Q q => ⟨d, rfl, o.h, q⟩⟩
instance sl_TtoN {k : Nat} : Slc rdSlB (.tup ds) none (some ((k : Nat) : Int)) (.tup (ds.take k)) := ⟨vs_Tto⟩
instance sl_LtoN {k : Nat} : Slc rdSlB (.lst ds) none (some ((k : Nat) : Int)) (.lst (ds.take k)) := ⟨vs_Lto⟩
instance sl_TtoO {k : Nat} : Slc rdSlB (.tup ds) none (some (OfNat.ofNat k)) (.tup (ds.take k)) := ⟨vs_Tto⟩
instance sl_LtoO {k : Nat} : Slc rdSlB (.lst ds) none (some (OfNat.ofNat k)) (.lst (ds.take k)) := ⟨vs_Lto⟩
instance p_ixT_0 [c : Ix ds 0 d] : V2c rdIxA (.tup ds) (.int 0) d := ⟨v2_ixT c.h⟩
instance p_ixL_0 [c : Ix ds 0 d] : V2c rdIxA (.lst ds) (.int 0) d := ⟨v2_ixL c.h⟩
instance sl_TtoO_0 : Slc rdSlB (.tup ds) none (some 0) (.tup (ds.take 0)) := ⟨vs_Tto⟩
instance sl_LtoO_0 : Slc rdSlB (.lst ds) none (some 0) (.lst (ds.take 0)) := ⟨vs_Lto⟩
instance p_ixT_1 [c : Ix ds 1 d] : V2c rdIxA (.tup ds) (.int 1) d := ⟨v2_ixT c.h⟩
instance p_ixL_1 [c : Ix ds 1 d] : V2c rdIxA (.lst ds) (.int 1) d := ⟨v2_ixL c.h⟩
instance sl_TtoO_1 : Slc rdSlB (.tup ds) none (some 1) (.tup (ds.take 1)) := ⟨vs_Tto⟩
instance sl_LtoO_1 : Slc rdSlB (.lst ds) none (some 1) (.lst (ds.take 1)) := ⟨vs_Lto⟩
instance p_ixT_2 [c : Ix ds 2 d] : V2c rdIxA (.tup ds) (.int 2) d := ⟨v2_ixT c.h⟩
instance p_ixL_2 [c : Ix ds 2 d] : V2c rdIxA (.lst ds) (.int 2) d := ⟨v2_ixL c.h⟩
instance sl_TtoO_2 : Slc rdSlB (.tup ds) none (some 2) (.tup (ds.take 2)) := ⟨vs_Tto⟩
instance sl_LtoO_2 : Slc rdSlB (.lst ds) none (some 2) (.lst (ds.take 2)) := ⟨vs_Lto⟩
instance p_ixT_3 [c : Ix ds 3 d] : V2c rdIxA (.tup ds) (.int 3) d := ⟨v2_ixT c.h⟩
instance p_ixL_3 [c : Ix ds 3 d] : V2c rdIxA (.lst ds) (.int 3) d := ⟨v2_ixL c.h⟩
instance sl_TtoO_3 : Slc rdSlB (.tup ds) none (some 3) (.tup (ds.take 3)) := ⟨vs_Tto⟩
instance sl_LtoO_3 : Slc rdSlB (.lst ds) none (some 3) (.lst (ds.take 3)) := ⟨vs_Lto⟩
instance p_ixT_4 [c : Ix ds 4 d] : V2c rdIxA (.tup ds) (.int 4) d := ⟨v2_ixT c.h⟩
instance p_ixL_4 [c : Ix ds 4 d] : V2c rdIxA (.lst ds) (.int 4) d := ⟨v2_ixL c.h⟩
instance sl_TtoO_4 : Slc rdSlB (.tup ds) none (some 4) (.tup (ds.take 4)) := ⟨vs_Tto⟩
instance sl_LtoO_4 : Slc rdSlB (.lst ds) none (some 4) (.lst (ds.take 4)) := ⟨vs_Lto⟩
instance p_ixT_5 [c : Ix ds 5 d] : V2c rdIxA (.tup ds) (.int 5) d := ⟨v2_ixT c.h⟩
instance p_ixL_5 [c : Ix ds 5 d] : V2c rdIxA (.lst ds) (.int 5) d := ⟨v2_ixL c.h⟩
instance sl_TtoO_5 : Slc rdSlB (.tup ds) none (some 5) (.tup (ds.take 5)) := ⟨vs_Tto⟩
instance sl_LtoO_5 : Slc rdSlB (.lst ds) none (some 5) (.lst (ds.take 5)) := ⟨vs_Lto⟩
class OkEc (d : D) : Prop where h : okE d
instance (priority := 500) p_inLx {neg : Bool} [a : OkEc d] [l : OkEc (.lst ds)] : V2c (rdInB neg) d (.lst ds) (.bl (neg ^^ isIn d ds)) := ⟨fun Q q => by
  show rdIn neg d (.lst ds) Q
  rw [rdIn_l]
  exact ⟨a.h, l.h, q⟩⟩
instance (priority := 500) p_inTx {neg : Bool} [a : OkEc d] [l : OkEc (.tup ds)] : V2c (rdInB neg) d (.tup ds) (.bl (neg ^^ isIn d ds)) := ⟨fun Q q => by
  show rdIn neg d (.tup ds) Q
  rw [rdIn_t]
  exact ⟨a.h, l.h, q⟩⟩
class TyOk (d : D) : Prop where h : tyName d ≠ none
instance p_ownInT {neg : Bool} {B W K : Bs} [t : TyOk d] : V2c (rdOwnIn "Table" TBW.F_Table___contains__ neg) d (tabD B W K) (.bl (neg ^^ inT (dom B) d)) := ⟨fun Q q => ⟨rfl, ⟨B, W, K, d, rfl, t.h, q⟩⟩⟩
end
end VX
set_option Elab.async false
set_option linter.all false
set_option maxRecDepth 100000
set_option maxHeartbeats 1000000
set_option synthInstance.maxSize 4000
set_option synthInstance.maxHeartbeats 400000
namespace TBW
open PySem PySem.Spec L2 VL TB VX PySem.W
open PyProof.Rows hiding St
def F2_is_guard : FD := fun ds Q => ∃ x, ds = [x] ∧ ((∃ ns es, x = .obj "Lot" ns es) ∨ (tyName x ≠ none ∧ ∀ ys, x = .tup ys → okE x)) ∧ Q (.bl (isG x))
theorem len2_is_guard {ds : List D} {Q : D → Prop} (h : F2_is_guard ds Q) : ds.length = 1 := by obtain ⟨_, rfl, _⟩ := h; rfl
def rd2_is_guard : TDS :=
    (rdRet (rdAndV (rdCB (rdIsiO "tuple" ["Lot"]) (rdCons (rdVar 0) (rdCons (rdC (.ty "tuple")) rdNil))) (rdOp (rdInB false) (rdVar 0) (rdC D_GUARDS))))
theorem rdl2_is_guard {ds : List D} {Q : D → Prop} (h : F2_is_guard ds Q) : rd2_is_guard { nx := fun _ => Q .non, rt := Q } (startG N_is_guard ds) := by
  obtain ⟨x, rfl, hx, q⟩ := h
  have v0 : Vl (rdVar 0) (startG N_is_guard [x]) x := vl_var rfl
  rcases hx with ⟨ns, es, rfl⟩ | ⟨ty, ok⟩
  · exact st_ret (vl_eq (b := .bl false) (vl_and (b1 := false) (b2 := false) (vl_isiO_obj v0 (by decide)) (fun z => by cases z)) rfl) q
  by_cases ht : ∃ xs, x = .tup xs
  · obtain ⟨xs, rfl⟩ := ht
    refine st_ret (vl_eq (b := .bl (isG (.tup xs))) (vl_and (b1 := true) (b2 := isG (.tup xs)) (vl_isiO v0 rfl rfl) (fun _ => vl_op v0 vl_c fun Q q => ?_)) rfl) q
    show rdIn false (.tup xs) (.tup (L_GUARDS.map sT)) Q
    rw [rdIn_t, Bool.false_xor]
    exact ⟨ok xs rfl, okE_GUARDS, q⟩
  · have no : ∀ nm, tyName x = some nm → kitB nm "tuple" = some false → isG x = false → rd2_is_guard { nx := fun _ => Q .non, rt := Q } (startG N_is_guard [x]) := fun nm h1 h2 h3 => by
      rw [h3] at q
      exact st_ret (vl_eq (b := .bl false) (vl_and (b1 := false) (b2 := false) (vl_isiO v0 h1 h2) (fun z => by cases z)) rfl) q
    cases x <;> first | exact absurd rfl ty | exact absurd ⟨_, rfl⟩ ht | exact no _ rfl rfl rfl
theorem rdl2a_is_guard {ds : List D} {Q : D → Prop} (h : F_is_guard ds Q) : rd2_is_guard { nx := fun _ => Q .non, rt := Q } (startG N_is_guard ds) :=
  rdl2_is_guard (by obtain ⟨x, rfl, ty, ok, q⟩ := h; exact ⟨x, rfl, .inr ⟨ty, ok⟩, q⟩)
/-- what may be asked for: another lot, an empty dict, or things by levels -/
def OddG (x : D) : Prop := x = lotD [] ∨ x = .dic [] [] ∨ lv 20 2 x
theorem lv_ty' {m : Nat} : ∀ {k : Nat} {x : D}, lv m k x → tyName x ≠ none
  | 0, x, h => by cases x <;> first | (cases h; done) | (intro z; cases z)
  | k + 1, x, .inl h => by cases x <;> first | (cases h; done) | (intro z; cases z)
  | k + 1, x, .inr ⟨ys, e, _⟩ => by rcases seqOf_cases e with rfl | rfl <;> (intro z; cases z)
theorem OddG.guard {x : D} (h : OddG x) : VC F2_is_guard [x] (.bl (isG x)) := fun Q q => by
  rcases h with rfl | rfl | h
  · exact ⟨_, rfl, .inl ⟨_, _, rfl⟩, q⟩
  · exact ⟨_, rfl, .inr ⟨(fun z => by cases z), fun ys e => by cases e⟩, q⟩
  · exact ⟨_, rfl, .inr ⟨lv_ty' h, fun _ _ => (lv_ok h).2.e (by decide)⟩, q⟩
theorem isIn_no {x : D} (h : ∀ g : List Str, eqD (sT g) x = false) : ∀ {l : Gs}, isIn x (l.map sT) = false
  | [] => rfl
  | g :: l => by
    show (eqD (sT g) x || isIn x (l.map sT)) = false
    rw [h g, isIn_no h]
    rfl
theorem isIn_mem {x : D} : ∀ {l : Gs}, isIn x (l.map sT) = true ↔ ∃ g ∈ l, eqD (sT g) x = true
  | [] => by
    constructor
    · intro h; cases h
    · rintro ⟨_, h, _⟩; cases h
  | g :: l => by
    show (eqD (sT g) x || isIn x (l.map sT)) = true ↔ _
    rw [Bool.or_eq_true, isIn_mem]
    exact ⟨fun h => h.elim (fun h => ⟨g, List.mem_cons_self, h⟩) fun ⟨y, hy, h⟩ => ⟨y, List.mem_cons_of_mem _ hy, h⟩, fun ⟨y, hy, h⟩ => (List.mem_cons.mp hy).elim (fun e => .inl (by rw [← e]; exact h)) fun hy => .inr ⟨y, hy, h⟩⟩
theorem isIn_same {x : D} {a b : Gs} (h : ∀ g, g ∈ a ↔ g ∈ b) : isIn x (a.map sT) = isIn x (b.map sT) := by
  rw [Bool.eq_iff_iff, isIn_mem, isIn_mem]
  exact ⟨fun ⟨g, hg, e⟩ => ⟨g, (h g).mp hg, e⟩, fun ⟨g, hg, e⟩ => ⟨g, (h g).mpr hg, e⟩⟩
theorem not_tup {x : D} (h : OddG x) (ht : ¬ ∃ xs, x = .tup xs) : ∀ g : List Str, eqD (sT g) x = false := fun g => by
  rcases h with rfl | rfl | h
  · rfl
  · rfl
  · cases x <;> first | exact absurd ⟨_, rfl⟩ ht | exact absurd rfl (lv_ty' h) | rfl
theorem isG_isIn {x : D} (h : OddG x) : isG x = isIn x (L_GUARDS.map sT) := by
  by_cases ht : ∃ xs, x = .tup xs
  · obtain ⟨xs, rfl⟩ := ht; rfl
  · rw [isIn_no (not_tup h ht)]
    cases x <;> first | rfl | exact absurd ⟨_, rfl⟩ ht
theorem isG_and {x : D} {l : Gs} (h : OddG x) (hl : ∀ g ∈ l, g ∈ L_GUARDS) : (isG x && isIn x (l.map sT)) = isIn x (l.map sT) := by
  cases e : isIn x (l.map sT) with
  | false => exact Bool.and_false _
  | true =>
    obtain ⟨g, hg, e⟩ := isIn_mem.mp e
    rw [isG_isIn h, isIn_mem.mpr ⟨g, hl g hg, e⟩]
    rfl
theorem okE_gl {l : Gs} (h : ∀ g ∈ l, g ∈ L_GUARDS) : okE (.lst (l.map sT)) := (okN_gl fun g hg => (G_ok (h g hg)).1).e (by decide)
theorem okE_gt {l : Gs} (h : ∀ g ∈ l, g ∈ L_GUARDS) : okE (.tup (l.map sT)) := (okN_gs fun g hg => (G_ok (h g hg)).1).e (by decide)
/-- x in a list of guards -/
theorem OddG.inOwn {x : D} {l : Gs} (h : OddG x) (hl : ∀ g ∈ l, g ∈ L_GUARDS) : V2 (rdInOwn "Lot" F_Lot___eq__) x (.lst (l.map sT)) (.bl (isIn x (l.map sT))) := fun Q q => by
  have gen : okE x → rdInB false x (.lst (l.map sT)) Q := fun o => by
    show rdIn false x (.lst (l.map sT)) Q
    rw [rdIn_l, Bool.false_xor]
    exact ⟨o, okE_gl hl, q⟩
  rcases h with rfl | rfl | h
  · refine ⟨rfl, _, rfl, fun d hd => ?_, ?_⟩
    · obtain ⟨g, hg, rfl⟩ := List.mem_map.mp hd
      exact ⟨⟨_, rfl⟩, fun Q' q' => ⟨[], _, rfl, .inr ⟨(fun z => by cases z), q'⟩⟩⟩
    · rw [isIn_no (not_tup (.inl rfl) fun ⟨_, z⟩ => by cases z)] at q
      exact q
  · refine ⟨_, rfl, fun d hd => ?_, ?_⟩
    · obtain ⟨g, _, rfl⟩ := List.mem_map.mp hd
      exact ⟨_, rfl⟩
    · rw [isIn_no (not_tup (.inr (.inl rfl)) fun ⟨_, z⟩ => by cases z)] at q
      exact q
  · have o := (lv_ok h).2.e (by decide)
    cases x <;> first | exact gen o | exact absurd rfl (lv_ty' h) | (rcases h with h | ⟨ys, e, _⟩ <;> first | (cases h; done) | (cases e; done))
def F_Lot___len__ : FD := fun ds Q => ∃ l, ds = [lotOf l] ∧ Q (.int l.length)
theorem len_Lot___len__ {ds : List D} {Q : D → Prop} (h : F_Lot___len__ ds Q) : ds.length = 1 := by obtain ⟨_, rfl, _⟩ := h; rfl
abbrev N_Lot___len__ : List Str := ["self"]
def rd_Lot___len__ : TDS :=
    (rdRet (rdCB rdLenB (rdCons (rdFld "Lot" "own_guards" (rdVar 0)) rdNil)))
theorem rdl_Lot___len__ {ds : List D} {Q : D → Prop} (h : F_Lot___len__ ds Q) : rd_Lot___len__ { nx := fun _ => Q .non, rt := Q } (startG N_Lot___len__ ds) := by
  obtain ⟨l, rfl, q⟩ := h
  refine st_ret (vl_cb (va_cons (lot_fld (vl_var rfl)) va_nil) vc_lenT) ?_
  rw [List.length_map]
  exact q
def F_Lot___contains__ : FD := fun ds Q => ∃ l x, ds = [lotOf l, x] ∧ (∀ g ∈ l, g ∈ L_GUARDS) ∧ OddG x ∧ Q (.bl (isIn x (l.map sT)))
theorem len_Lot___contains__ {ds : List D} {Q : D → Prop} (h : F_Lot___contains__ ds Q) : ds.length = 2 := by obtain ⟨_, _, rfl, _⟩ := h; rfl
abbrev N_Lot___contains__ : List Str := ["self", "guard"]
def rd_Lot___contains__ : TDS :=
    (rdRet (rdAndV (rdCall TBW.F2_is_guard [] (rdCons (rdVar 1) rdNil)) (rdOp (rdInB false) (rdVar 1) (rdFld "Lot" "own_guards" (rdVar 0)))))
theorem rdl_Lot___contains__ {ds : List D} {Q : D → Prop} (h : F_Lot___contains__ ds Q) : rd_Lot___contains__ { nx := fun _ => Q .non, rt := Q } (startG N_Lot___contains__ ds) := by
  obtain ⟨l, x, rfl, hl, hx, q⟩ := h
  rw [← isG_and hx hl] at q
  refine st_ret (vl_and (b1 := isG x) (b2 := isIn x (l.map sT)) (vl_call (va_cons (vl_var rfl) va_nil) hx.guard) fun hg => vl_op (vl_var rfl) (lot_fld (vl_var rfl)) fun Q q => ?_) q
  obtain ⟨xs, rfl⟩ : ∃ xs, x = .tup xs := by cases x <;> first | (cases hg; done) | exact ⟨_, rfl⟩
  show rdIn false (.tup xs) (.tup (l.map sT)) Q
  rw [rdIn_t, Bool.false_xor]
  refine ⟨?_, okE_gt hl, q⟩
  rcases hx with e | e | h
  · cases e
  · cases e
  · exact (lv_ok h).2.e (by decide)
def F_Lot_is_within : FD := fun ds Q => ∃ a b, ds = [lotD a, lotD b] ∧ Q (.bl ((lotL a).all fun g => decide (g ∈ lotL b)))
theorem len_Lot_is_within {ds : List D} {Q : D → Prop} (h : F_Lot_is_within ds Q) : ds.length = 2 := by obtain ⟨_, _, rfl, _⟩ := h; rfl
abbrev N_Lot_is_within : List Str := ["self", "other", "guard"]
def rd_Lot_is_within : TDS :=
    (rdRet (rdCB rdAll (rdCons (rdShare (rdLc (rdIAny (rdFld "Lot" "own_guards" (rdVar 0))) (rgName 2) (fun Γ Q => Q true Γ) (rdOp (rdInB false) (rdVar 2) (rdFld "Lot" "own_guards" (rdVar 1))) [2])) rdNil)))
theorem rdl_Lot_is_within {ds : List D} {Q : D → Prop} (h : F_Lot_is_within ds Q) : rd_Lot_is_within { nx := fun _ => Q .non, rt := Q } (startG N_Lot_is_within ds) := by
  obtain ⟨a, b, rfl, q⟩ := h
  refine st_ret (vl_cb (va_cons (vl_sh (vl_lcm (g := sT) (f := fun g => .bl (decide (g ∈ lotL b))) (L := lotL a) (vi_any (d := .tup ((lotL a).map sT)) (lot_fld (vl_var rfl)) fun k hk => hk) (show 2 < 3 by decide) (noOwn_of (by rfl)) (small_n (by have := lotL_len (gs := a); omega)) fun g hg => ?_)) va_nil) (vc_all (p := fun g => decide (g ∈ lotL b)))) q
  exact vl_eq (vl_op (vl_var rfl) (lot_fld (vl_var rfl)) (v2_inG (lotL_ok hg) fun g hg => lotL_ok hg)) (by rw [Bool.false_xor])
def F__law_odd_guard (d : Addr) : FD := fun ds Q => ds = [.ref d] ∧ ∀ x, OddG x → Q x
theorem len__law_odd_guard {d : Addr} {ds : List D} {Q : D → Prop} (h : F__law_odd_guard d ds Q) : ds.length = 1 := by rw [h.1]; rfl
instance odd_lv {x : D} [h : Is (lv 20 2) x] : Is OddG x := ⟨.inr (.inr h.h)⟩
instance odd_d : Is OddG (.dic [] []) := ⟨.inr (.inl rfl)⟩
instance odd_l : Is OddG (lotD []) := ⟨.inl rfl⟩
instance at_q1 : AtS "receivers" := ⟨by decide +kernel⟩
instance at_q2 : AtS "Own" := ⟨by decide +kernel⟩
abbrev N__law_odd_guard : List Str := ["_law_draw", "_law_some"]
def rd__law_odd_guard (d : Addr) : TDS :=
    (rdSeq (rdAsg (rdShare (rdLst (rdCons (rdTup (rdCons (rdC (.str "own")) rdNil)) (rdCons (rdTup (rdCons (rdC (.str "all")) (rdCons (rdC (.str "order")) rdNil))) (rdCons (rdTup (rdCons (rdC (.str "own")) (rdCons (rdC (.str "receivers")) rdNil))) (rdCons (rdTup (rdCons (rdC (.str "Own")) (rdCons (rdC (.str "owner")) rdNil))) (rdCons (rdShare (rdLst (rdCons (rdC (.str "all")) rdNil))) (rdCons (rdC (.str "all")) (rdCons (rdTup (rdCons (rdC (.str "word")) (rdCons (rdC (.str "m")) rdNil))) (rdCons (rdTup rdNil) rdNil)))))))))) (rgName 1))
    (rdSeq (rdAsg (rdOp rdAddB (rdVar 1) (rdShare (rdLst (rdCons (rdTup (rdCons (rdC (.str "own")) (rdCons (rdC (.str "owner")) (rdCons (rdC (.str "order")) rdNil)))) (rdCons (rdTup (rdCons (rdC (.str "own")) (rdCons (rdC .non) rdNil))) (rdCons (rdTup (rdCons (rdC .non) rdNil)) (rdCons (rdTup (rdCons (rdC (.str "found")) (rdCons (rdC (.str "owner")) rdNil))) (rdCons (rdTup (rdCons (rdC (.str "spot")) (rdCons (rdShare (rdLst (rdCons (rdC (.str "owner")) rdNil))) rdNil))) (rdCons (rdC (.int 5)) (rdCons (rdC .non) rdNil)))))))))) (rgName 1))
    (rdSeq (rdAsg (rdOp rdAddB (rdVar 1) (rdShare (rdLst (rdCons (rdTup (rdCons (rdC (.str "order")) (rdCons (rdC (.str "own")) rdNil))) (rdCons (rdShare rdDic0) (rdCons (rdC (.bl true)) (rdCons (rdTup (rdCons (rdTup (rdCons (rdC (.str "all")) rdNil)) rdNil)) (rdCons (rdTup (rdCons (rdC (.str "put")) (rdCons (rdC (.str "owner")) rdNil))) (rdCons (rdTup (rdCons (rdC (.str "line")) (rdCons (rdC (.str "all")) rdNil))) (rdCons (rdTup (rdCons (rdC (.str "spot")) rdNil)) (rdCons (rdCallS TBW.FX_Lot___init__ (fun _ => False) rdNil) rdNil))))))))))) (rgName 1))
    (rdRet (rdCall (FpickS d) [] (rdCons (rdVar 0) (rdCons (rdVar 1) rdNil)))))))
theorem rdl__law_odd_guard {d : Addr} {ds : List D} {Q : D → Prop} (h : F__law_odd_guard d ds Q) : rd__law_odd_guard d { nx := fun _ => Q .non, rt := Q } (startG N__law_odd_guard ds) := by
  obtain ⟨rfl, q⟩ := h
  show rd__law_odd_guard d _ [.dat (.ref d), .no]
  unfold rd__law_odd_guard
  refine xa ?_
  refine xa ?_
  refine fx (lot_call (gs := []) (fun _ h => by cases h) (by decide) ?_)
  refine xa ?_
  refine nd_call (F := FpickS d) (ds := [.ref d, _]) (va_cons (vl_var rfl) (va_cons (vl_var rfl) va_nil)) (pickS_lst (by simp) (lt1000 rfl) fun x hx => q x ?_)
  exact Each.h x hx
instance ob_lot {l : Gs} : Ob (lotOf l) "Lot" ["own_guards"] [.tup (l.map sT)] := ⟨rfl⟩
instance nm_within : Nm "Lot" "is_within" ["own_guards"] := ⟨by decide +kernel⟩
instance f_within {a b : Gs} : Cc F_Lot_is_within [lotD a, lotD b] (.bl ((lotL a).all fun g => decide (g ∈ lotL b))) := ⟨fun Q q => ⟨a, b, rfl, q⟩⟩
instance f_lguards {l : Gs} : Cc F_Lot_guards [lotOf l] (.tup (l.map sT)) := ⟨fun Q q => ⟨l, rfl, q⟩⟩
instance p_lotOr {a b : Gs} : V2c (rdOwnB "Lot" F_Lot___or__) (lotD a) (lotD b) (lotD (a ++ b)) := ⟨v2_lotOr⟩
instance p_lotAnd {a b : Gs} : V2c (rdOwnB "Lot" F_Lot___and__) (lotD a) (lotD b) (lotD (a.filter fun g => decide (g ∈ b))) := ⟨v2_lotAnd⟩
instance p_lotSub {a b : Gs} : V2c (rdOwnB "Lot" F_Lot___sub__) (lotD a) (lotD b) (lotD (a.filter fun g => !decide (g ∈ b))) := ⟨v2_lotSub⟩
instance p_lotEq {a b : Gs} : V2c (rdOwnEq "Lot" F_Lot___eq__) (lotD a) (lotD b) (.bl (decide (lotL a = lotL b))) := ⟨v2_lotEq⟩
instance p_lotNe {a b : Gs} : V2c (rdOwnNe "Lot" F_Lot___eq__) (lotD a) (lotD b) (.bl (!decide (lotL a = lotL b))) := ⟨v2_lotNe⟩
theorem g_len {a : Gs} (na : a.Nodup) (ha : ∀ g ∈ a, g ∈ L_GUARDS) : a.length ≤ 23 := by
  have := nodup_few na ha
  rw [G_okb.2.2] at this
  exact this
theorem sel_eq {a : Gs} {p : List Str → Bool} : (lotL a).filter p = lotL (a.filter p) := by
  unfold lotL
  rw [List.filter_filter]
  refine List.filter_congr fun g hg => ?_
  rw [Bool.eq_iff_iff, Bool.and_eq_true, decide_eq_true_iff, decide_eq_true_iff, List.mem_filter, and_comm]
def insB (a b : Gs) : Bool := a.all fun g => decide (g ∈ b)
theorem within_eq {a b : Gs} (ha : ∀ g ∈ a, g ∈ L_GUARDS) (hb : ∀ g ∈ b, g ∈ L_GUARDS) : ((lotL a).all fun g => decide (g ∈ lotL b)) = insB a b := by
  unfold insB
  rw [Bool.eq_iff_iff, List.all_eq_true, List.all_eq_true]
  refine ⟨fun h g hg => ?_, fun h g hg => ?_⟩
  · have := of_decide_eq_true (h g ((lotL_mem' ha g).mpr hg))
    exact decide_eq_true ((lotL_mem' hb g).mp this)
  · have := of_decide_eq_true (h g ((lotL_mem' ha g).mp hg))
    exact decide_eq_true ((lotL_mem' hb g).mpr this)
theorem insB_app {a b : Gs} : insB b (a ++ b) = true := List.all_eq_true.mpr fun g hg => decide_eq_true (List.mem_append_right _ hg)
theorem lot_same {a b : Gs} (ha : ∀ g ∈ a, g ∈ L_GUARDS) (hb : ∀ g ∈ b, g ∈ L_GUARDS) : decide (lotL a = lotL b) = (insB a b && insB b a) := by
  unfold insB
  rw [Bool.eq_iff_iff, decide_eq_true_iff, lotL_eq, Bool.and_eq_true, List.all_eq_true, List.all_eq_true]
  exact ⟨fun h => ⟨fun g hg => decide_eq_true ((h g (ha g hg)).mp hg), fun g hg => decide_eq_true ((h g (hb g hg)).mpr hg)⟩, fun h g hg => ⟨fun z => of_decide_eq_true (h.1 g z), fun z => of_decide_eq_true (h.2 g z)⟩⟩
theorem eqD_okN {n : Nat} {x : D} (h : okN n x) : eqD x x = true := PySem.SeqAt.eqv_refl _ h.2.1
theorem v2_neSame {n : Nat} {ds : List D} (h : okN n (.lst ds)) (hn : n ≤ 64) : V2 rdNe (.lst ds) (.lst ds) (.bl false) := fun Q q => ⟨h.e hn, h.e hn, by rw [eqD_okN h]; exact q⟩
def F__law_sets_right : FD := fun ds Q => ∃ a b : Gs, ds = [.lst (a.map sT), .lst (b.map sT), lotD a, lotD b] ∧ a.Nodup ∧ b.Nodup ∧ (∀ g ∈ a, g ∈ L_GUARDS) ∧ (∀ g ∈ b, g ∈ L_GUARDS) ∧ Q (.bl true)
theorem len__law_sets_right {ds : List D} {Q : D → Prop} (h : F__law_sets_right ds Q) : ds.length = 4 := by obtain ⟨_, _, rfl, _⟩ := h; rfl
abbrev N__law_sets_right : List Str := ["_law_mine", "_law_yours", "_law_one", "_law_other", "_law_due", "_law_guard", "_law_pair", "_law_told", "_law_within", "_law_back"]
def rd__law_sets_right : TDS :=
    (rdSeq (rdSetOwn (rdLst (rdCons (rdShare (rdSortSetG (rdOp rdAddB (rdVar 0) (rdVar 1)))) (rdCons (rdShare (rdLc (rdIAny (rdShare (rdCF rdSortC (rdCons (rdVar 0) rdNil)))) (rgName 5) (rdTest (rdOp (rdInB false) (rdVar 5) (rdVar 1))) (rdVar 5) [5])) rdNil))) 4)
    (rdSeq (rdDrop (rdApp 4 (rdShare (rdLc (rdIAny (rdShare (rdCF rdSortC (rdCons (rdVar 0) rdNil)))) (rgName 5) (rdTest (rdOp (rdInB true) (rdVar 5) (rdVar 1))) (rdVar 5) [5]))))
    (rdSeq (rdIfS (rdTest (rdPkR rdNe (rdShare (rdLc (rdIAny (rdShare (rdLst (rdCons (rdOp (rdOwnB "Lot" TBW.F_Lot___or__) (rdVar 2) (rdVar 3)) (rdCons (rdOp (rdOwnB "Lot" TBW.F_Lot___and__) (rdVar 2) (rdVar 3)) (rdCons (rdOp (rdOwnB "Lot" TBW.F_Lot___sub__) (rdVar 2) (rdVar 3)) rdNil)))))) (rgName 6) (fun Γ Q => Q true Γ) (rdShare (rdCF rdListB (rdCons (rdProp "Lot" TBW.F_Lot_guards (rdVar 6)) rdNil))) [6])) 4)) (rdRet (rdC (.bl false))) rdNext)
    (rdSeq (rdAsg (rdShare (rdLst (rdCons (rdMeth "Lot" "is_within" TBW.F_Lot_is_within [] (rdVar 2) (rdCons (rdVar 3) rdNil)) (rdCons (rdMeth "Lot" "is_within" TBW.F_Lot_is_within [] (rdVar 3) (rdCons (rdVar 2) rdNil)) (rdCons (rdMeth "Lot" "is_within" TBW.F_Lot_is_within [] (rdVar 3) (rdCons (rdOp (rdOwnB "Lot" TBW.F_Lot___or__) (rdVar 2) (rdVar 3)) rdNil)) (rdCons (rdOp (rdOwnEq "Lot" TBW.F_Lot___eq__) (rdVar 2) (rdVar 3)) rdNil)))))) (rgName 7))
    (rdSeq (rdAsg (rdOp rdEq (rdShare (rdLc (rdIAny (rdVar 0)) (rgName 5) (rdTest (rdOp (rdInB true) (rdVar 5) (rdVar 1))) (rdVar 5) [5])) (rdShare (rdLst rdNil))) (rgName 8))
    (rdSeq (rdAsg (rdOp rdEq (rdShare (rdLc (rdIAny (rdVar 1)) (rgName 5) (rdTest (rdOp (rdInB true) (rdVar 5) (rdVar 0))) (rdVar 5) [5])) (rdShare (rdLst rdNil))) (rgName 9))
    (rdRet (rdAndV (rdOp rdEq (rdCB rdRepQ (rdCons (rdVar 7) rdNil)) (rdCB rdRepQ (rdCons (rdShare (rdLst (rdCons (rdVar 8) (rdCons (rdVar 9) (rdCons (rdC (.bl true)) (rdCons (rdAndV (rdVar 8) (rdVar 9)) rdNil)))))) rdNil))) (rdOp rdNe (rdOp (rdOwnNe "Lot" TBW.F_Lot___eq__) (rdVar 2) (rdVar 3)) (rdOp rdIxA (rdVar 7) (rdC (.int 3))))))))))))
section
variable {a b : Gs} {Γ : Gm} {i j k : Nat}
/-- [g for g in sorted(a) if g in b] -/
theorem vl_selIn (na : a.Nodup) (ha : ∀ g ∈ a, g ∈ L_GUARDS) (hb : ∀ g ∈ b, g ∈ L_GUARDS) (h1 : Γ[i]? = some (.dat (.lst (a.map sT)))) (h2 : Γ[j]? = some (.dat (.lst (b.map sT)))) (hk : k < Γ.length) (ho : noOwn Γ [k]) (kj : k ≠ j) (neg : Bool) :
    Vl (rdShare (rdLc (rdIAny (rdShare (rdCF rdSortC (rdCons (rdVar i) rdNil)))) (rgName k) (rdTest (rdOp (rdInB neg) (rdVar k) (rdVar j))) (rdVar k) [k])) Γ (.lst ((lotL (a.filter fun g => neg ^^ decide (g ∈ b))).map sT)) := by
  rw [← sel_eq]
  exact vl_sh (vl_lc (g := sT) (f := sT) (p := fun g => neg ^^ decide (g ∈ b)) (L := lotL a) (vi_any (d := .lst ((lotL a).map sT)) (vl_sortGs (vl_var h1) na ha) fun k hk => hk) hk ho (small_n (by have := lotL_len (gs := a); omega)) (fun g hg => vt_test (vl_op (vl_var (by rw [List.getElem?_set_self hk])) (vl_var (by rw [List.getElem?_set_ne kj]; exact h2)) (v2_inGl (lotL_ok hg) fun g hg => (G_ok (hb g hg)).1))) fun g hg _ => vl_var (by rw [List.getElem?_set_self hk]))
/-- [g for g in a if g not in b] == [] -/
theorem vl_allIn (la : a.length ≤ 100) (ha : ∀ g ∈ a, g ∈ L_GUARDS) (hb : ∀ g ∈ b, g ∈ L_GUARDS) (h1 : Γ[i]? = some (.dat (.lst (a.map sT)))) (h2 : Γ[j]? = some (.dat (.lst (b.map sT)))) (hk : k < Γ.length) (ho : noOwn Γ [k]) (kj : k ≠ j) :
    Vl (rdOp rdEq (rdShare (rdLc (rdIAny (rdVar i)) (rgName k) (rdTest (rdOp (rdInB true) (rdVar k) (rdVar j))) (rdVar k) [k])) (rdShare (rdLst rdNil))) Γ (.bl (insB a b)) := by
  have e : insB a b = ((a.filter fun g => !decide (g ∈ b)).map sT).isEmpty := (filter_empty (fun g => decide (g ∈ b)) sT a).symm
  rw [e]
  refine vl_op (vl_sh (vl_lc (g := sT) (f := sT) (p := fun g => !decide (g ∈ b)) (L := a) (vi_any (d := .lst (a.map sT)) (vl_var h1) fun k hk => hk) hk ho (small_n (by omega)) (fun g hg => vt_eq (vt_test (vl_op (vl_var (by rw [List.getElem?_set_self hk])) (vl_var (by rw [List.getElem?_set_ne kj]; exact h2)) (v2_inGl (G_ok (ha g hg)).1 fun g hg => (G_ok (hb g hg)).1))) (by rw [Bool.true_xor])) fun g hg _ => vl_var (by rw [List.getElem?_set_self hk]))) (vl_sh (vl_lst va_nil (sm rfl))) (v2_eqL0 ?_)
  exact okE_gl fun g hg => ha g (List.mem_filter.mp hg).1
end
theorem rdl__law_sets_right {ds : List D} {Q : D → Prop} (h : F__law_sets_right ds Q) : rd__law_sets_right { nx := fun _ => Q .non, rt := Q } (startG N__law_sets_right ds) := by
  obtain ⟨a, b, rfl, na, nb, ha, hb, q⟩ := h
  have la := g_len na ha
  have lb := g_len nb hb
  have hab : ∀ g ∈ a ++ b, g ∈ L_GUARDS := fun g hg => (List.mem_append.mp hg).elim (ha g) (hb g)
  show rd__law_sets_right _ [.dat (.lst (a.map sT)), .dat (.lst (b.map sT)), .dat (lotD a), .dat (lotD b), .no, .no, .no, .no, .no, .no]
  unfold rd__law_sets_right
  have v1 : Vl (rdShare (rdSortSetG (rdOp rdAddB (rdVar 0) (rdVar 1)))) [.dat (.lst (a.map sT)), .dat (.lst (b.map sT)), .dat (lotD a), .dat (lotD b), .no, .no, .no, .no, .no, .no] (.lst ((lotL (a ++ b)).map sT)) :=
    vl_sh (df_sortG (gs := a ++ b) (vl_eq (vl_op (vl_var rfl) (vl_var rfl) (v2_addL (small_n (by rw [List.length_map, List.length_map]; omega)))) (by rw [List.map_append])) hab (by rw [List.length_append]; omega))
  have e1 : (fun g : List Str => false ^^ decide (g ∈ b)) = fun g => decide (g ∈ b) := funext fun g => Bool.false_xor _
  have e2 : (fun g : List Str => true ^^ decide (g ∈ b)) = fun g => !decide (g ∈ b) := funext fun g => Bool.true_xor _
  have v2 := vl_selIn (Γ := [.dat (.lst (a.map sT)), .dat (.lst (b.map sT)), .dat (lotD a), .dat (lotD b), .no, .no, .no, .no, .no, .no]) (i := 0) (j := 1) (k := 5) na ha hb rfl rfl (show 5 < 10 by decide) (noOwn_of (by rfl)) (by decide) false
  rw [e1] at v2
  refine sq_own (vl_lst (va_cons v1 (va_cons v2 va_nil)) (sm rfl)) ?_
  dsimp only [List.set]
  have v3 := vl_selIn (Γ := [.dat (.lst (a.map sT)), .dat (.lst (b.map sT)), .dat (lotD a), .dat (lotD b), .own (.lst [.lst ((lotL (a ++ b)).map sT), .lst ((lotL (a.filter fun g => decide (g ∈ b))).map sT)]), .no, .no, .no, .no, .no]) (i := 0) (j := 1) (k := 5) na ha hb rfl rfl (show 5 < 10 by decide) (noOwn_of (by rfl)) (by decide) true
  rw [e2] at v3
  refine xapp (v := ⟨v3⟩) ?_
  have okX : okN 3 (.lst [.lst ((lotL (a ++ b)).map sT), .lst ((lotL (a.filter fun g => decide (g ∈ b))).map sT), .lst ((lotL (a.filter fun g => !decide (g ∈ b))).map sT)]) := okN_lst (n := 2) fun d hd => by
    have : ∀ l : Gs, okN 2 (.lst ((lotL l).map sT)) := fun l => okN_gl fun g hg => lotL_ok hg
    simp only [List.mem_cons, List.not_mem_nil, or_false] at hd
    rcases hd with rfl | rfl | rfl <;> exact this _
  refine sq_if (b := false) (vt_test (vl_pkR (vl_sh (vl_lcm (g := lotOf) (f := fun l : Gs => .lst (l.map sT)) (L := [lotL (a ++ b), lotL (a.filter fun g => decide (g ∈ b)), lotL (a.filter fun g => !decide (g ∈ b))]) (vi_any (d := .lst [lotD (a ++ b), lotD (a.filter fun g => decide (g ∈ b)), lotD (a.filter fun g => !decide (g ∈ b))]) (by exact Vc.v) fun k hk => hk) (show 6 < 10 by decide) (noOwn_of (by rfl)) (small_n (show 3 ≤ 1000 by decide)) fun l hl => vl_sh (vl_cf (va_cons (lot_guards (vl_var rfl)) va_nil) vc_listT))) rfl (v2_neSame okX (by decide)))) (fun z => by cases z) fun _ => ?_
  refine xae (d := .lst [.bl (insB a b), .bl (insB b a), .bl true, .bl (insB a b && insB b a)]) (by rw [within_eq ha hb, within_eq hb ha, within_eq hb hab, insB_app, lot_same ha hb]) ?_
  refine sq_asg (vl_allIn (i := 0) (j := 1) (k := 5) (by omega) ha hb rfl rfl (show 5 < 10 by decide) (noOwn_of (by rfl)) (by decide)) ?_
  refine sq_asg (vl_allIn (i := 1) (j := 0) (k := 5) (by omega) hb ha rfl rfl (show 5 < 10 by decide) (noOwn_of (by rfl)) (by decide)) ?_
  dsimp only [List.set]
  refine xr ?_
  rw [lot_same ha hb, decide_eq_true rfl]
  cases insB a b <;> cases insB b a <;> exact q
end TBW
set_option Elab.async false
set_option linter.all false
set_option maxRecDepth 100000
set_option maxHeartbeats 4000000
namespace K15
open PySem PySem.Spec L2 VL TB
open PyProof.Rows hiding St
def topS (i : Nat) : Stmt := PySem.Challenge.pw_guardlots_k15_guards_and_lots.main.body.getD i (.Pass ⟨0, 0, 0, 0⟩)
abbrev s_is_guard : Stmt := topS 5
abbrev N_is_guard : List Str := ["value"]
theorem sc_is_guard : FnScope N_is_guard ["value"] (defScope s_is_guard) := ⟨rfl, rfl, rfl, by decide +kernel, rfl, by decide +kernel, by decide +kernel⟩
abbrev s_Lot_guards : Stmt := inClass (topS 6) 2
abbrev N_Lot_guards : List Str := ["self"]
theorem sc_Lot_guards : FnScope N_Lot_guards ["self"] (defScope s_Lot_guards) := ⟨rfl, rfl, rfl, by decide +kernel, rfl, by decide +kernel, by decide +kernel⟩
abbrev s_Lot___len__ : Stmt := inClass (topS 6) 4
abbrev N_Lot___len__ : List Str := ["self"]
theorem sc_Lot___len__ : FnScope N_Lot___len__ ["self"] (defScope s_Lot___len__) := ⟨rfl, rfl, rfl, by decide +kernel, rfl, by decide +kernel, by decide +kernel⟩
abbrev s_Lot___eq__ : Stmt := inClass (topS 6) 5
abbrev N_Lot___eq__ : List Str := ["self", "other"]
theorem sc_Lot___eq__ : FnScope N_Lot___eq__ ["self", "other"] (defScope s_Lot___eq__) := ⟨rfl, rfl, rfl, by decide +kernel, rfl, by decide +kernel, by decide +kernel⟩
abbrev s_Lot_is_within : Stmt := inClass (topS 6) 9
abbrev N_Lot_is_within : List Str := ["self", "other", "guard"]
theorem sc_Lot_is_within : FnScope N_Lot_is_within ["self", "other"] (defScope s_Lot_is_within) := ⟨rfl, rfl, rfl, by decide +kernel, rfl, by decide +kernel, by decide +kernel⟩
abbrev s__law_begin : Stmt := topS 8
abbrev N__law_begin : List Str := ["_law_script", "_law_cell"]
theorem sc__law_begin : FnScope N__law_begin ["_law_script"] (defScope s__law_begin) := ⟨rfl, rfl, rfl, by decide +kernel, rfl, by decide +kernel, by decide +kernel⟩
abbrev s__law_take : Stmt := topS 9
abbrev N__law_take : List Str := ["_law_draw", "_law_many", "_law_cells", "_law_place", "_law_cell", "_law_mixed_here"]
theorem sc__law_take : FnScope N__law_take ["_law_draw", "_law_many"] (defScope s__law_take) := ⟨rfl, rfl, rfl, by decide +kernel, rfl, by decide +kernel, by decide +kernel⟩
abbrev s__law_all_guards : Stmt := topS 12
abbrev N__law_all_guards : List Str := ["_law_found", "_law_kind", "_law_whose"]
theorem sc__law_all_guards : FnScope N__law_all_guards [] (defScope s__law_all_guards) := ⟨rfl, rfl, rfl, by decide +kernel, rfl, by decide +kernel, by decide +kernel⟩
abbrev s_BadGuard___init__ : Stmt := inClass (topS 2) 0
abbrev s_Lot___contains__ : Stmt := inClass (topS 6) 3
abbrev N_Lot___contains__ : List Str := ["self", "guard"]
theorem sc_Lot___contains__ : FnScope N_Lot___contains__ ["self", "guard"] (defScope s_Lot___contains__) := ⟨rfl, rfl, rfl, by decide +kernel, rfl, by decide +kernel, by decide +kernel⟩
abbrev s__law_pick : Stmt := topS 10
abbrev N__law_pick : List Str := ["_law_draw", "_law_some"]
theorem sc__law_pick : FnScope N__law_pick ["_law_draw", "_law_some"] (defScope s__law_pick) := ⟨rfl, rfl, rfl, by decide +kernel, rfl, by decide +kernel, by decide +kernel⟩
abbrev s__law_mixed : Stmt := topS 11
abbrev N__law_mixed : List Str := ["_law_draw", "_law_some", "_law_left", "_law_found"]
theorem sc__law_mixed : FnScope N__law_mixed ["_law_draw", "_law_some"] (defScope s__law_mixed) := ⟨rfl, rfl, rfl, by decide +kernel, rfl, by decide +kernel, by decide +kernel⟩
abbrev s__law_guards : Stmt := topS 13
abbrev N__law_guards : List Str := ["_law_draw", "_law_upto"]
theorem sc__law_guards : FnScope N__law_guards ["_law_draw", "_law_upto"] (defScope s__law_guards) := ⟨rfl, rfl, rfl, by decide +kernel, rfl, by decide +kernel, by decide +kernel⟩
abbrev s_Lot___init__ : Stmt := inClass (topS 6) 0
abbrev N_Lot___init__ : List Str := ["self", "guards", "guard"]
theorem sc_Lot___init__ : FnScope N_Lot___init__ ["self", "guards"] (defScope s_Lot___init__) := ⟨rfl, rfl, rfl, by decide +kernel, rfl, by decide +kernel, by decide +kernel⟩
abbrev s_Lot_every : Stmt := inClass (topS 6) 1
abbrev N_Lot_every : List Str := ["cls"]
theorem sc_Lot_every : FnScope N_Lot_every ["cls"] (defScope s_Lot_every) := ⟨rfl, rfl, rfl, by decide +kernel, rfl, by decide +kernel, by decide +kernel⟩
abbrev s_Lot___or__ : Stmt := inClass (topS 6) 6
abbrev N_Lot___or__ : List Str := ["self", "other"]
theorem sc_Lot___or__ : FnScope N_Lot___or__ ["self", "other"] (defScope s_Lot___or__) := ⟨rfl, rfl, rfl, by decide +kernel, rfl, by decide +kernel, by decide +kernel⟩
abbrev s_Lot___and__ : Stmt := inClass (topS 6) 7
abbrev N_Lot___and__ : List Str := ["self", "other", "both", "guard"]
theorem sc_Lot___and__ : FnScope N_Lot___and__ ["self", "other"] (defScope s_Lot___and__) := ⟨rfl, rfl, rfl, by decide +kernel, rfl, by decide +kernel, by decide +kernel⟩
abbrev s_Lot___sub__ : Stmt := inClass (topS 6) 8
abbrev N_Lot___sub__ : List Str := ["self", "other", "rest", "guard"]
theorem sc_Lot___sub__ : FnScope N_Lot___sub__ ["self", "other"] (defScope s_Lot___sub__) := ⟨rfl, rfl, rfl, by decide +kernel, rfl, by decide +kernel, by decide +kernel⟩
abbrev s__law_odd_guard : Stmt := topS 15
abbrev N__law_odd_guard : List Str := ["_law_draw", "_law_some"]
theorem sc__law_odd_guard : FnScope N__law_odd_guard ["_law_draw"] (defScope s__law_odd_guard) := ⟨rfl, rfl, rfl, by decide +kernel, rfl, by decide +kernel, by decide +kernel⟩
abbrev s__law_real_lot : Stmt := topS 14
abbrev N__law_real_lot : List Str := ["_law_kinds", "_law_found", "_law_guard"]
theorem sc__law_real_lot : FnScope N__law_real_lot ["_law_kinds"] (defScope s__law_real_lot) := ⟨rfl, rfl, rfl, by decide +kernel, rfl, by decide +kernel, by decide +kernel⟩
abbrev s__law_sets_right : Stmt := topS 16
abbrev N__law_sets_right : List Str := ["_law_mine", "_law_yours", "_law_one", "_law_other", "_law_due", "_law_guard", "_law_pair", "_law_told", "_law_within", "_law_back"]
theorem sc__law_sets_right : FnScope N__law_sets_right ["_law_mine", "_law_yours", "_law_one", "_law_other"] (defScope s__law_sets_right) := ⟨rfl, rfl, rfl, by decide +kernel, rfl, by decide +kernel, by decide +kernel⟩
abbrev s_law : Stmt := topS 17
abbrev N_law : List Str := ["_law_script", "_law_draw", "_law_every", "_law_turn", "_law_mine", "_law_yours", "_law_one", "_law_other", "_law_guard", "_law_odd", "_law_thing", "_law_whole"]
theorem sc_law : FnScope N_law ["_law_script"] (defScope s_law) := ⟨rfl, rfl, rfl, by decide +kernel, rfl, by decide +kernel, by decide +kernel⟩
structure Txt (P : Program) (K : PySem.W.Frag) (mg : Str → Option Value) where
  a_is_guard : Addr
  fd_is_guard : FuncData
  F_is_guard : Fun K "is_guard" "is_guard" s_is_guard a_is_guard fd_is_guard
  g_is_guard : mg "is_guard" = some (.ref a_is_guard)
  b_is_guard : Binds K fd_is_guard ["value"] []
  a_Lot_guards : Addr
  fd_Lot_guards : FuncData
  F_Lot_guards : Fun K "guards" "Lot.guards" s_Lot_guards a_Lot_guards fd_Lot_guards
  b_Lot_guards : Binds K fd_Lot_guards ["self"] []
  a_Lot___len__ : Addr
  fd_Lot___len__ : FuncData
  F_Lot___len__ : Fun K "__len__" "Lot.__len__" s_Lot___len__ a_Lot___len__ fd_Lot___len__
  b_Lot___len__ : Binds K fd_Lot___len__ ["self"] []
  a_Lot___eq__ : Addr
  fd_Lot___eq__ : FuncData
  F_Lot___eq__ : Fun K "__eq__" "Lot.__eq__" s_Lot___eq__ a_Lot___eq__ fd_Lot___eq__
  b_Lot___eq__ : Binds K fd_Lot___eq__ ["self", "other"] []
  a_Lot_is_within : Addr
  fd_Lot_is_within : FuncData
  F_Lot_is_within : Fun K "is_within" "Lot.is_within" s_Lot_is_within a_Lot_is_within fd_Lot_is_within
  b_Lot_is_within : Binds K fd_Lot_is_within ["self", "other"] []
  a__law_begin : Addr
  fd__law_begin : FuncData
  F__law_begin : Fun K "_law_begin" "_law_begin" s__law_begin a__law_begin fd__law_begin
  g__law_begin : mg "_law_begin" = some (.ref a__law_begin)
  b__law_begin : Binds K fd__law_begin ["_law_script"] []
  a__law_take : Addr
  fd__law_take : FuncData
  F__law_take : Fun K "_law_take" "_law_take" s__law_take a__law_take fd__law_take
  g__law_take : mg "_law_take" = some (.ref a__law_take)
  b__law_take : Binds K fd__law_take ["_law_draw", "_law_many"] []
  a__law_all_guards : Addr
  fd__law_all_guards : FuncData
  F__law_all_guards : Fun K "_law_all_guards" "_law_all_guards" s__law_all_guards a__law_all_guards fd__law_all_guards
  g__law_all_guards : mg "_law_all_guards" = some (.ref a__law_all_guards)
  b__law_all_guards : Binds K fd__law_all_guards [] []
  a_BadGuard___init__ : Addr
  fd_BadGuard___init__ : FuncData
  b_BadGuard___init__ : Binds K fd_BadGuard___init__ ["self", "guard"] []
  a_Lot___contains__ : Addr
  fd_Lot___contains__ : FuncData
  F_Lot___contains__ : Fun K "__contains__" "Lot.__contains__" s_Lot___contains__ a_Lot___contains__ fd_Lot___contains__
  b_Lot___contains__ : Binds K fd_Lot___contains__ ["self", "guard"] []
  a__law_pick : Addr
  fd__law_pick : FuncData
  F__law_pick : Fun K "_law_pick" "_law_pick" s__law_pick a__law_pick fd__law_pick
  g__law_pick : mg "_law_pick" = some (.ref a__law_pick)
  b__law_pick : Binds K fd__law_pick ["_law_draw", "_law_some"] []
  a__law_mixed : Addr
  fd__law_mixed : FuncData
  F__law_mixed : Fun K "_law_mixed" "_law_mixed" s__law_mixed a__law_mixed fd__law_mixed
  g__law_mixed : mg "_law_mixed" = some (.ref a__law_mixed)
  b__law_mixed : Binds K fd__law_mixed ["_law_draw", "_law_some"] []
  a__law_guards : Addr
  fd__law_guards : FuncData
  F__law_guards : Fun K "_law_guards" "_law_guards" s__law_guards a__law_guards fd__law_guards
  g__law_guards : mg "_law_guards" = some (.ref a__law_guards)
  b__law_guards : Binds K fd__law_guards ["_law_draw", "_law_upto"] []
  a_Lot___init__ : Addr
  fd_Lot___init__ : FuncData
  F_Lot___init__ : Fun K "__init__" "Lot.__init__" s_Lot___init__ a_Lot___init__ fd_Lot___init__
  bs_Lot___init__ : StarB fd_Lot___init__ ["self"] "guards"
  a_Lot_every : Addr
  fd_Lot_every : FuncData
  F_Lot_every : Fun K "every" "Lot.every" s_Lot_every a_Lot_every fd_Lot_every
  b_Lot_every : Binds K fd_Lot_every ["cls"] []
  a_Lot___or__ : Addr
  fd_Lot___or__ : FuncData
  F_Lot___or__ : Fun K "__or__" "Lot.__or__" s_Lot___or__ a_Lot___or__ fd_Lot___or__
  b_Lot___or__ : Binds K fd_Lot___or__ ["self", "other"] []
  a_Lot___and__ : Addr
  fd_Lot___and__ : FuncData
  F_Lot___and__ : Fun K "__and__" "Lot.__and__" s_Lot___and__ a_Lot___and__ fd_Lot___and__
  b_Lot___and__ : Binds K fd_Lot___and__ ["self", "other"] []
  a_Lot___sub__ : Addr
  fd_Lot___sub__ : FuncData
  F_Lot___sub__ : Fun K "__sub__" "Lot.__sub__" s_Lot___sub__ a_Lot___sub__ fd_Lot___sub__
  b_Lot___sub__ : Binds K fd_Lot___sub__ ["self", "other"] []
  a__law_odd_guard : Addr
  fd__law_odd_guard : FuncData
  F__law_odd_guard : Fun K "_law_odd_guard" "_law_odd_guard" s__law_odd_guard a__law_odd_guard fd__law_odd_guard
  g__law_odd_guard : mg "_law_odd_guard" = some (.ref a__law_odd_guard)
  b__law_odd_guard : Binds K fd__law_odd_guard ["_law_draw"] []
  a__law_real_lot : Addr
  fd__law_real_lot : FuncData
  F__law_real_lot : Fun K "_law_real_lot" "_law_real_lot" s__law_real_lot a__law_real_lot fd__law_real_lot
  g__law_real_lot : mg "_law_real_lot" = some (.ref a__law_real_lot)
  b__law_real_lot : Binds K fd__law_real_lot ["_law_kinds"] []
  a__law_sets_right : Addr
  fd__law_sets_right : FuncData
  F__law_sets_right : Fun K "_law_sets_right" "_law_sets_right" s__law_sets_right a__law_sets_right fd__law_sets_right
  g__law_sets_right : mg "_law_sets_right" = some (.ref a__law_sets_right)
  b__law_sets_right : Binds K fd__law_sets_right ["_law_mine", "_law_yours", "_law_one", "_law_other"] []
  a_law : Addr
  fd_law : FuncData
  F_law : Fun K "law" "law" s_law a_law fd_law
  g_law : mg "law" = some (.ref a_law)
  b_law : Binds K fd_law ["_law_script"] []
  q_GUARDS : Addr
  m_GUARDS : mg "GUARDS" = some (.ref q_GUARDS)
  r_GUARDS : ∀ H, Rp K H (.ref q_GUARDS) D_GUARDS
  c_Lot : Addr
  cn_Lot : CN K "Lot" c_Lot
  g_Lot : mg "Lot" = some (.ref c_Lot)
  cl_Lot : Cls K c_Lot
  c_BadGuard : Addr
  cn_BadGuard : CN K "BadGuard" c_BadGuard
  g_BadGuard : mg "BadGuard" = some (.ref c_BadGuard)
  FS_BadGuard : FunS P K "__init__" "BadGuard.__init__" s_BadGuard___init__ a_BadGuard___init__ c_BadGuard fd_BadGuard___init__
  ox_BadGuard : OexC K c_BadGuard
  iC_BadGuard : PySem.W.findIn K (.ref c_BadGuard) "__init__" = some (some (.ref a_BadGuard___init__))
  tI_BadGuard : PySem.W.typeIn K (.ref a_BadGuard___init__) = some (.type "function")
  kb_BadGuard : ∀ (s : Shared) (a u : Value), BindsTo s fd_BadGuard___init__ ⟨[a], [("guard", u)]⟩ [("self", a), ("guard", u)]
  ni_BadGuard : PySem.W.findIn K (.ref c_BadGuard) "guard" = some none
  mro_BadGuard : PySem.W.mroIn K c_BadGuard (.ref c_BadGuard) = some true
  sup_BadGuard : PySem.W.ks_superIn K c_BadGuard c_BadGuard "__init__" = some (some (.builtin "ValueError.__init__"))
  ve_BadGuard : PySem.W.subIn K (.ref c_BadGuard) (.type "ValueError") = some true
  opq : PySem.W.nsIn K cStatics "thirdparty.any" = some none
  top : (P.main.scope.names.lookup ("super" : Str)).isSome = false
  km_is_guard : KBn K fd_is_guard ["value"] 0 ["value"] (fun us ws => ws) (fun vs zs => zs)
  mk_Lot : Mk K c_Lot a_Lot___init__
  me_Lot_is_within : Meth K c_Lot "is_within" a_Lot_is_within
  pc_Lot_every : Addr
  cm_Lot_every : ClX.CMet K c_Lot (.type "type") "every" pc_Lot_every a_Lot_every
  cr_Lot : ClX.CRead K c_Lot (.type "type")
  p_Lot_guards : Addr
  pr_Lot_guards : PropOf K c_Lot "guards" p_Lot_guards a_Lot_guards
  du_Lot___and__ : Dun K c_Lot "__and__" a_Lot___and__
  du_Lot___contains__ : Dun K c_Lot "__contains__" a_Lot___contains__
  du_Lot___eq__ : Dun K c_Lot "__eq__" a_Lot___eq__
  du_Lot___len__ : Dun K c_Lot "__len__" a_Lot___len__
  du_Lot___or__ : Dun K c_Lot "__or__" a_Lot___or__
  du_Lot___sub__ : Dun K c_Lot "__sub__" a_Lot___sub__
  kl_Lot : Kls K "Lot" c_Lot
  st_Lot : PySem.W.subIn K (.ref c_Lot) (.type "tuple") = some false
  io_Lot_tuple : PySem.W.kitOne K (.ref c_Lot) (.type "tuple") = some false
  ne_Lot : PySem.W.findIn K (.ref c_Lot) "__ne__" = some (some (.builtin "object.__ne__"))
  mo_Lot : PySem.W.mroIn K c_Lot (.type "object") = some true
  na_Lot_own_guards : NoAttr K c_Lot "own_guards"
  n_abs : mg "abs" = none
  n_all : mg "all" = none
  n_int : mg "int" = none
  n_isinstance : mg "isinstance" = none
  n_len : mg "len" = none
  n_list : mg "list" = none
  n_min : mg "min" = none
  n_range : mg "range" = none
  n_repr : mg "repr" = none
  n_set : mg "set" = none
  n_sorted : mg "sorted" = none
  n_super : mg "super" = none
  n_tuple : mg "tuple" = none
abbrev rd_x_Lot___init__ := @TBW.rd_x_Lot___init__
abbrev rd__law_all_guards := @TBW.rd__law_all_guards
abbrev rd__law_guards := @TBW.rd__law_guards
abbrev rd__law_real_lot := @TBW.rd__law_real_lot
abbrev rd_Lot_guards := @TBW.rd_Lot_guards
abbrev rd_Lot___or__ := @TBW.rd_Lot___or__
abbrev rd_Lot___and__ := @TBW.rd_Lot___and__
abbrev rd_Lot___sub__ := @TBW.rd_Lot___sub__
abbrev rd_Lot_every := @TBW.rd_Lot_every
abbrev rd_Lot___len__ := @TBW.rd_Lot___len__
abbrev rd_Lot___contains__ := @TBW.rd_Lot___contains__
abbrev rd_Lot_is_within := @TBW.rd_Lot_is_within
abbrev rd_Lot___eq__ := @TBW.rd_Lot___eq__
abbrev rd__law_odd_guard := @TBW.rd__law_odd_guard
abbrev rd__law_sets_right := @TBW.rd__law_sets_right
abbrev rd_is_guard := @TBW.rd2_is_guard
def rd_law_0 (d : Addr) : TDS :=
    (rdAsg (rdCall TBW.F__law_all_guards [] rdNil) (rgName 2))
def rd_law_2 (d : Addr) : TDS :=
    (rdAsg (rdTup (rdCons (rdCall (TBW.F__law_guards d) [] (rdCons (rdVar 1) (rdCons (rdC (.int 23)) rdNil))) (rdCons (rdCall (TBW.F__law_guards d) [] (rdCons (rdVar 1) (rdCons (rdC (.int 8)) rdNil))) rdNil))) (rgTup 2 (rgCons (rgName 4) (rgCons (rgName 5) rgNil))))
def rd_law_4 (d : Addr) : TDS :=
    (rdAsg (rdSl rdSlB (rdCall (TBW.F9__law_mixed d) [] (rdCons (rdVar 1) (rdCons (rdVar 4) rdNil))) rdNoPart (rdPart (rdCall (FpickS d) [] (rdCons (rdVar 1) (rdCons (rdShare (rdLst (rdCons (rdCB rdLenB (rdCons (rdVar 4) rdNil)) (rdCons (rdOp (rdI CDiv fun i j => .int (i / j)) (rdCB rdLenB (rdCons (rdVar 4) rdNil)) (rdC (.int 2))) rdNil)))) rdNil))))) (rgName 5))
def rd_law_3 (d : Addr) : TDS :=
    (rdIfS (rdTest (rdOp rdEq (rdCall (Ftake d) [] (rdCons (rdVar 1) (rdCons (rdC (.int 4)) rdNil))) (rdC (.int 0)))) (rd_law_4 d) rdNext)
def rd_law_5 (d : Addr) : TDS :=
    (rdAsg (rdTup (rdCons (rdCall TBW.F__law_real_lot [] (rdCons (rdOp rdAddB (rdVar 4) (rdSl rdSlB (rdVar 4) rdNoPart (rdPart (rdC (.int 2))))) rdNil)) (rdCons (rdCall TBW.F__law_real_lot [] (rdCons (rdVar 5) rdNil)) rdNil))) (rgTup 2 (rgCons (rgName 6) (rgCons (rgName 7) rgNil))))
def rd_law_7 (d : Addr) : TDS :=
    (rdRet (rdC (.bl false)))
def rd_law_6 (d : Addr) : TDS :=
    (rdIfS (rdTest (rdOp rdNe (rdCB rdRepQ (rdCons (rdProp "Lot" TBW.F_Lot_guards (rdVar 6)) rdNil)) (rdCB rdRepQ (rdCons (rdCB rdTuple (rdCons (rdShare (rdCF rdSortC (rdCons (rdVar 4) rdNil))) rdNil)) rdNil)))) (rd_law_7 d) rdNext)
def rd_law_9 (d : Addr) : TDS :=
    (rdRet (rdC (.bl false)))
def rd_law_8 (d : Addr) : TDS :=
    (rdIfS (rdTest (rdOp rdNe (rdCB (rdOwnLen "Lot" TBW.F_Lot___len__) (rdCons (rdVar 6) rdNil)) (rdCB rdLenB (rdCons (rdVar 4) rdNil)))) (rd_law_9 d) rdNext)
def rd_law_11 (d : Addr) : TDS :=
    (rdRet (rdC (.bl false)))
def rd_law_10 (d : Addr) : TDS :=
    (rdIfS (rdTest (rdOp rdNe (rdCB rdRepQ (rdCons (rdShare (rdLc (rdIAny (rdVar 2)) (rgName 8) (fun Γ Q => Q true Γ) (rdOp (rdOwnIn "Lot" TBW.F_Lot___contains__ false) (rdVar 8) (rdVar 6)) [8])) rdNil)) (rdCB rdRepQ (rdCons (rdShare (rdLc (rdIAny (rdVar 2)) (rgName 8) (fun Γ Q => Q true Γ) (rdOp (rdInB false) (rdVar 8) (rdVar 4)) [8])) rdNil)))) (rd_law_11 d) rdNext)
def rd_law_13 (d : Addr) : TDS :=
    (rdRet (rdC (.bl false)))
def rd_law_12 (d : Addr) : TDS :=
    (rdIfS (rdNot (rdTest (rdCall TBW.F__law_sets_right [] (rdCons (rdVar 4) (rdCons (rdVar 5) (rdCons (rdVar 6) (rdCons (rdVar 7) rdNil))))))) (rd_law_13 d) rdNext)
def rd_law_15 (d : Addr) : TDS :=
    (rdRet (rdC (.bl false)))
def rd_law_14 (d : Addr) : TDS :=
    (rdIfS (rdTest (rdOp rdNe (rdCB rdRepQ (rdCons (rdShare (rdLst (rdCons (rdProp "Lot" TBW.F_Lot_guards (rdVar 6)) (rdCons (rdProp "Lot" TBW.F_Lot_guards (rdVar 7)) rdNil)))) rdNil)) (rdCB rdRepQ (rdCons (rdShare (rdLst (rdCons (rdCB rdTuple (rdCons (rdShare (rdCF rdSortC (rdCons (rdVar 4) rdNil))) rdNil)) (rdCons (rdCB rdTuple (rdCons (rdShare (rdCF rdSortC (rdCons (rdVar 5) rdNil))) rdNil)) rdNil)))) rdNil)))) (rd_law_15 d) rdNext)
def rd_law_16 (d : Addr) : TDS :=
    (rdAsg (rdCall (TBW.F__law_odd_guard d) [] (rdCons (rdVar 1) rdNil)) (rgName 9))
def rd_law_18 (d : Addr) : TDS :=
    (rdRet (rdC (.bl false)))
def rd_law_17 (d : Addr) : TDS :=
    (rdIfS (rdTest (rdOp rdNe (rdCB rdRepQ (rdCons (rdShare (rdLst (rdCons (rdCall TBW.F2_is_guard [] (rdCons (rdVar 9) rdNil)) (rdCons (rdOp (rdOwnIn "Lot" TBW.F_Lot___contains__ false) (rdVar 9) (rdVar 6)) (rdCons (rdCallKw 1 TBW.F2_is_guard (rdCons (rdVar 9) rdNil)) rdNil))))) rdNil)) (rdCB rdRepQ (rdCons (rdShare (rdLst (rdCons (rdOp (rdInOwn "Lot" TBW.F_Lot___eq__) (rdVar 9) (rdVar 2)) (rdCons (rdOp (rdInOwn "Lot" TBW.F_Lot___eq__) (rdVar 9) (rdVar 4)) (rdCons (rdOp (rdInOwn "Lot" TBW.F_Lot___eq__) (rdVar 9) (rdVar 2)) rdNil))))) rdNil)))) (rd_law_18 d) rdNext)
def rd_law_20 (d : Addr) : TDS :=
    (rdRet (rdC (.bl false)))
def rd_law_19 (d : Addr) : TDS :=
    (rdIfS (rdTest (rdOp rdNe (rdShare (rdLc (rdIAny (rdShare (rdLst (rdCons (rdC .non) (rdCons (rdC (.int 5)) (rdCons (rdProp "Lot" TBW.F_Lot_guards (rdVar 6)) (rdCons (rdVar 4) (rdCons (rdC (.str "all")) rdNil)))))))) (rgName 10) (rdTest (rdOp (rdOwnEq "Lot" TBW.F_Lot___eq__) (rdVar 6) (rdVar 10))) (rdVar 10) [10])) (rdShare (rdLst rdNil)))) (rd_law_20 d) rdNext)
def rd_law_1 (d : Addr) : TDS :=
    (rdFor (rdIRng (rdCons (rdOp rdAddB (rdC (.int 4)) (rdCB rdMin2 (rdCons (rdCB rdLenB (rdCons (rdVar 0) rdNil)) (rdCons (rdC (.int 10)) rdNil)))) rdNil)) (rgName 3) (rdSeq (rd_law_2 d)
    (rdSeq (rd_law_3 d)
    (rdSeq (rd_law_5 d)
    (rdSeq (rd_law_6 d)
    (rdSeq (rd_law_8 d)
    (rdSeq (rd_law_10 d)
    (rdSeq (rd_law_12 d)
    (rdSeq (rd_law_14 d)
    (rdSeq (rd_law_16 d)
    (rdSeq (rd_law_17 d)
    (rd_law_19 d))))))))))))
def rd_law_21 (d : Addr) : TDS :=
    (rdAsg (rdCall TBW.F_Lot_every [] rdNil) (rgName 11))
def rd_law_22 (d : Addr) : TDS :=
    (rdRet (rdAndV (rdOp rdEq (rdShare (rdCF rdListB (rdCons (rdProp "Lot" TBW.F_Lot_guards (rdVar 11)) rdNil))) (rdVar 2)) (rdAndV (rdOp rdEq (rdCB (rdOwnLen "Lot" TBW.F_Lot___len__) (rdCons (rdCallS TBW.FX_Lot___init__ (fun _ => False) rdNil) rdNil)) (rdC (.int 0))) (rdAndV (rdOp rdEq (rdProp "Lot" TBW.F_Lot_guards (rdCallS TBW.FX_Lot___init__ (fun _ => False) rdNil)) (rdTup rdNil)) (rdOp rdEq (rdCB rdLenB (rdCons (rdVar 2) rdNil)) (rdC (.int 23)))))))
def rd_law (d : Addr) : TDS :=
    (rdSeq (rd_law_0 d)
    (rdSeq (rd_law_1 d)
    (rdSeq (rd_law_21 d)
    (rd_law_22 d))))
end K15
set_option Elab.async false
set_option linter.all false
set_option maxRecDepth 100000
set_option maxHeartbeats 4000000
set_option synthInstance.maxSize 4000
set_option synthInstance.maxHeartbeats 400000
namespace K15
open PySem PySem.Spec L2 VL TB VX
open TBW (lotD lotL lotOf Gs sm lt1000 G_okb G_ok lotL_mem' lotL_ok lotL_len isIn_same isG_isIn okE_gl okE_gt v2_neSame eqD_okN OddG)
open PyProof.Rows hiding St
theorem G_at : ∀ g ∈ L_GUARDS, g.length ≤ 2 ∧ ∀ z ∈ g, TBW.at0 (.str z) = true := by decide +kernel
theorem lv_g {g : List Str} (h : g ∈ L_GUARDS) : TBW.lv 20 1 (sT g) := by
  obtain ⟨h1, h2⟩ := G_at g h
  refine TBW.lv_tup (by rw [List.length_map]; omega) fun d hd => ?_
  obtain ⟨z, hz, rfl⟩ := List.mem_map.mp hd
  exact h2 z hz
theorem odd_g {g : List Str} (h : g ∈ L_GUARDS) : OddG (sT g) := .inr (.inr (TBW.lv_k (lv_g h)))
theorem lotL_perm {a : Gs} (na : a.Nodup) (ha : ∀ g ∈ a, g ∈ L_GUARDS) : (lotL a).length = a.length := ((List.perm_ext_iff_of_nodup (TBW.lotL_nodup a) na).mpr fun g => lotL_mem' ha g).length_eq
theorem lotL_two {a : Gs} {k : Nat} : lotL (a ++ a.take k) = lotL a := TBW.lotL_cong fun g _ => by
  rw [List.mem_append]
  exact ⟨fun h => h.elim id List.mem_of_mem_take, .inl⟩
theorem okQ_gt {l : Gs} (h : ∀ g ∈ l, g ∈ L_GUARDS) (hl : l.length ≤ 23) : TBW.lv 23 2 (.tup (l.map sT)) := by
  refine TBW.lv_tup (by rw [List.length_map]; exact hl) fun d hd => ?_
  obtain ⟨g, hg, rfl⟩ := List.mem_map.mp hd
  exact TBW.lv_m (by decide) (lv_g (h g hg))
theorem lv_bools {α : Type} {L : List α} {f : α → Bool} (h : L.length ≤ 23) : TBW.lv 23 1 (.lst (L.map fun a => D.bl (f a))) := by
  refine TBW.lv_lst (by rw [List.length_map]; exact h) fun d hd => ?_
  obtain ⟨a, _, rfl⟩ := List.mem_map.mp hd
  exact TBW.at0_lv rfl
theorem okr_23 {d : D} {k : Nat} (h : TBW.lv 23 k d) (hk : k ≤ 3) : VL.okQ d := by
  have h3 : TBW.lv 23 3 d := by
    rcases k with _ | _ | _ | _ | k
    · exact TBW.lv_k (TBW.lv_k (TBW.lv_k h))
    · exact TBW.lv_k (TBW.lv_k h)
    · exact TBW.lv_k h
    · exact h
    · omega
  exact (TBW.lv_sh h3).okQ (by decide) (by decide)
theorem vc_olen {l : Gs} (h : l.length ≤ 200) : VC (rdOwnLen "Lot" TBW.F_Lot___len__) [lotOf l] (.int l.length) := fun Q q => ⟨rfl, l, rfl, ⟨Int.natCast_nonneg _, by omega⟩, q⟩
instance f_olen {l : Gs} [s : Sm (l.map sT) 200] : Cc (rdOwnLen "Lot" TBW.F_Lot___len__) [lotOf l] (.int l.length) := ⟨fun Q q => ⟨rfl, l, rfl, ⟨Int.natCast_nonneg _, by have := s.h; rw [List.length_map] at this; omega⟩, q⟩⟩
instance p_div {m : Int} : V2c (rdI CDiv fun i j => .int (i / j)) (.int m) (.int 2) (.int (m / 2)) := ⟨fun Q q => ⟨by first | decide | (unfold CDiv; decide), q⟩⟩
theorem neq_str {z : Str} : (!decide (z = z)) = false := by rw [decide_eq_true rfl]; rfl
theorem rdl_law (d : Addr) (ns : List Int) (hl : ns.length ≤ 63) : rd_law d { nx := fun _ => False, rt := fun r => r = .bl true } (.dat (.fz ns) :: .dat (.ref d) :: List.replicate 10 .no) := by
  unfold rd_law rd_law_0
  refine sq_asg TBW.all_guards ?_
  dsimp only [List.set, List.replicate]
  unfold rd_law_1
  obtain ⟨n, hv⟩ := va_rounds (Γ := [.dat (.fz ns), .dat (.ref d), .dat (.lst (L_GUARDS.map sT)), .no, .no, .no, .no, .no, .no, .no, .no, .no]) (ns := ns) (a := 4) (m := 10) rfl (by decide) (by decide) (by decide) (by decide)
  refine sq_for hv ?_
  refine goFor_inv (fun Γ => ∃ s3 s4 s5 s6 s7 s9 s11 : Sl, Γ = [.dat (.fz ns), .dat (.ref d), .dat (.lst (L_GUARDS.map sT)), s3, s4, s5, s6, s7, .no, s9, .no, s11]) _ _ ⟨_, _, _, _, _, _, _, rfl⟩ ?_ ?_
  · rintro x0 _ _ ⟨s3, s4, s5, s6, s7, s9, s11, rfl⟩ N hN
    dsimp only [rgName, List.set]
    unfold rd_law_2
    refine fx ⟨23, rfl, by decide, fun a na ha la => ?_⟩
    refine fx ⟨8, rfl, by decide, fun b0 nb0 hb0 lb0 => ?_⟩
    refine xt ?_
    generalize hE : ({ nx := N, ct := N, bk := _, rt := _ } : EndsD) = E
    have eN : E.nx = N := by rw [← hE]
    clear hE
    have cont : ∀ b : Gs, b.Nodup → (∀ g ∈ b, g ∈ L_GUARDS) → (rdSeq (rd_law_5 d) (rdSeq (rd_law_6 d) (rdSeq (rd_law_8 d) (rdSeq (rd_law_10 d) (rdSeq (rd_law_12 d) (rdSeq (rd_law_14 d) (rdSeq (rd_law_16 d) (rdSeq (rd_law_17 d) (rd_law_19 d))))))))) E [.dat (.fz ns), .dat (.ref d), .dat (.lst (L_GUARDS.map sT)), .dat x0, .dat (.lst (a.map sT)), .dat (.lst (b.map sT)), s6, s7, .no, s9, .no, s11] := by
      intro b nb hb
      have lb := TBW.g_len nb hb
      have oka : okE (.lst (a.map sT)) := okE_gl ha
      haveI : V2c rdAddB (.lst (a.map sT)) (.lst ((a.map sT).take 2)) (.lst ((a ++ a.take 2).map sT)) := ⟨fun Q q => ⟨small_n (by rw [List.length_take, List.length_map]; omega), by rw [List.map_append, List.map_take] at q; exact q⟩⟩
      unfold rd_law_5
      refine fx ⟨a ++ a.take 2, rfl, fun g hg => (List.mem_append.mp hg).elim (ha g) fun hg => ha g (List.mem_of_mem_take hg), ?_⟩
      unfold lotD
      rw [lotL_two]
      refine fx ⟨b, rfl, hb, ?_⟩
      refine xt ?_
      haveI : Cc rdSortC [.lst (a.map sT)] (.lst ((lotL a).map sT)) := ⟨fun Q q => ⟨TBW.okSrt_rows fun g hg => (G_ok (ha g hg)).2, by rw [TBW.srt_rows, TBW.sort_lot na ha]; exact q⟩⟩
      haveI : Cc rdSortC [.lst (b.map sT)] (.lst ((lotL b).map sT)) := ⟨fun Q q => ⟨TBW.okSrt_rows fun g hg => (G_ok (hb g hg)).2, by rw [TBW.srt_rows, TBW.sort_lot nb hb]; exact q⟩⟩
      have lva := okQ_gt (l := lotL a) TBW.lotL_sub lotL_len
      have lvb := okQ_gt (l := lotL b) TBW.lotL_sub lotL_len
      haveI : OkR (.tup ((lotL a).map sT)) := ⟨okr_23 lva (by decide)⟩
      haveI : OkR (.lst [.tup ((lotL a).map sT), .tup ((lotL b).map sT)]) := ⟨okr_23 (k := 3) (TBW.lv_lst (show 2 ≤ 23 by decide) fun d hd => by
        rcases List.mem_cons.mp hd with rfl | hd
        · exact lva
        · rw [List.mem_singleton.mp hd]; exact lvb) (by decide)⟩
      unfold rd_law_6
      refine xf neq_str ?_
      unfold rd_law_8
      refine sq_if (b := false) (vt_eq (vt_test (vl_op (vl_cb (va_cons (vl_var rfl) va_nil) (vc_olen (l := lotL a) (by have := lotL_len (gs := a); omega))) (vl_cb (va_cons (vl_var rfl) va_nil) vc_lenL) v2_neI)) (by rw [List.length_map, lotL_perm na ha, decide_eq_true rfl]; rfl)) (fun z => by cases z) fun _ => ?_
      unfold rd_law_10
      have okb : VL.okQ (.lst (L_GUARDS.map fun g => D.bl (decide (g ∈ a)))) := okr_23 (lv_bools (by rw [G_okb.2.2]; decide)) (by decide)
      refine sq_if (b := false) (vt_eq (vt_test (vl_op (TBW.vl_rep (vl_sh (vl_lcm (g := sT) (f := fun g => .bl (decide (g ∈ a))) (L := L_GUARDS) (vi_any (d := .lst (L_GUARDS.map sT)) (vl_var rfl) fun k hk => hk) (show 8 < 12 by decide) (noOwn_of (by rfl)) (small_n (by rw [G_okb.2.2]; decide)) fun g hg => vl_op (vl_var rfl) (vl_var rfl) fun Q q => ⟨rfl, lotL a, sT g, rfl, TBW.lotL_sub, odd_g hg, by
        show Q (.bl (false ^^ _))
        rw [TBW.isIn_sT, Bool.false_xor, decide_eq_decide.mpr (lotL_mem' ha g)]
        exact q⟩)) okb) (TBW.vl_rep (vl_sh (vl_lcm (g := sT) (f := fun g => .bl (decide (g ∈ a))) (L := L_GUARDS) (vi_any (d := .lst (L_GUARDS.map sT)) (vl_var rfl) fun k hk => hk) (show 8 < 12 by decide) (noOwn_of (by rfl)) (small_n (by rw [G_okb.2.2]; decide)) fun g hg => vl_eq (vl_op (vl_var rfl) (vl_var rfl) (TBW.v2_inGl (G_ok hg).1 fun g hg => (G_ok (ha g hg)).1)) (by rw [Bool.false_xor]))) okb) v2_neS)) neq_str) (fun z => by cases z) fun _ => ?_
      unfold rd_law_12
      refine fx ⟨a, b, rfl, na, nb, ha, hb, ?_⟩
      refine xf rfl ?_
      unfold rd_law_14
      refine xf neq_str ?_
      unfold rd_law_16
      refine fx ⟨rfl, fun x hx => ?_⟩
      refine xa ?_
      unfold rd_law_17
      have eb : isIn x ((lotL a).map sT) = isIn x (a.map sT) := isIn_same fun g => lotL_mem' ha g
      haveI : Cc TBW.F2_is_guard [x] (.bl (isIn x (L_GUARDS.map sT))) := ⟨fun Q q => hx.guard Q (by rw [isG_isIn hx]; exact q)⟩
      haveI : V2c (rdOwnIn "Lot" TBW.F_Lot___contains__ false) x (lotOf (lotL a)) (.bl (isIn x (a.map sT))) := ⟨fun Q q => ⟨rfl, lotL a, x, rfl, TBW.lotL_sub, hx, by
        show Q (.bl (false ^^ _))
        rw [Bool.false_xor, eb]
        exact q⟩⟩
      haveI : V2c (rdInOwn "Lot" TBW.F_Lot___eq__) x (.lst (L_GUARDS.map sT)) (.bl (isIn x (L_GUARDS.map sT))) := ⟨hx.inOwn fun g hg => hg⟩
      haveI : V2c (rdInOwn "Lot" TBW.F_Lot___eq__) x (.lst (a.map sT)) (.bl (isIn x (a.map sT))) := ⟨hx.inOwn ha⟩
      refine xf neq_str ?_
      unfold rd_law_19
      have ne0 : V2 rdNe (.lst []) (.lst []) (.bl false) := v2_neSame (okN_lst (n := 0) fun d hd => by cases hd) (by decide)
      refine if_N (b := false) (vt_test (vl_op (vl_sh (vl_lc (g := fun x : D => x) (f := fun x : D => x) (p := fun _ => false) (L := [.non, .int 5, .tup ((lotL a).map sT), .lst (a.map sT), .str "all"]) (vi_any (d := .lst [.non, .int 5, .tup ((lotL a).map sT), .lst (a.map sT), .str "all"]) (by exact Vc.v) fun k hk => (by rw [List.map_id'] at hk; exact hk)) (show 10 < 12 by decide) (noOwn_of (by rfl)) (small_n (show 5 ≤ 1000 by decide)) (fun y hy => vt_test (vl_op (vl_var rfl) (vl_var rfl) fun Q q => ?_)) fun y hy h => by cases h)) (vl_sh (vl_lst va_nil (sm rfl))) ne0)) (fun z => by cases z) fun _ => ?_
      · simp only [List.mem_cons, List.not_mem_nil, or_false] at hy
        have ty : ∃ n, tyName y = some n := by rcases hy with rfl | rfl | rfl | rfl | rfl <;> exact ⟨_, rfl⟩
        exact ⟨rfl, .inl ty, a, y, rfl, .inr ⟨(by obtain ⟨n, e⟩ := ty; rw [e]; simp), q⟩⟩
      · rw [eN]
        exact hN _ ⟨_, _, _, _, _, _, _, rfl⟩
    unfold rd_law_3
    refine fx (take_ok (by decide) (by decide) fun r _ => ?_)
    refine xi (fun _ => ?_) fun _ => cont b0 nb0 hb0
    unfold rd_law_4
    refine fx ⟨_, sT, a, rfl, by omega, fun g hg => TBW.okN_G (ha g hg), fun ys p => ?_⟩
    refine fx (pickS_lst (by simp) (lt1000 rfl) fun x hx => ?_)
    obtain ⟨k, rfl⟩ : ∃ k : Nat, x = .int k := by
      rcases List.mem_cons.mp hx with rfl | hx
      · exact ⟨_, rfl⟩
      · rw [List.mem_singleton.mp hx]
        exact ⟨(a.map sT).length / 2, rfl⟩
    refine xaL ?_
    dsimp only
    rw [← List.map_take]
    exact cont (ys.take k) ((p.nodup_iff.mpr na).sublist (List.take_sublist _ _)) fun g hg => ha g (p.mem_iff.mp (List.mem_of_mem_take hg))
  · rintro _ ⟨s3, s4, s5, s6, s7, s9, s11, rfl⟩
    dsimp only
    unfold rd_law_21
    refine fx ⟨rfl, ?_⟩
    refine xa ?_
    unfold rd_law_22
    have vl0 : Vl (rdCallS TBW.FX_Lot___init__ (fun _ => False) rdNil) [.dat (.fz ns), .dat (.ref d), .dat (.lst (L_GUARDS.map sT)), s3, s4, s5, s6, s7, .no, s9, .no, .dat (lotOf L_GUARDS)] (lotD []) := TBW.vl_lot (gs := []) va_nil (fun g hg => by cases hg) (by decide)
    have okG : okN 2 (.lst (L_GUARDS.map sT)) := TBW.okN_gl fun g hg => (G_ok hg).1
    refine st_ret (vl_and (b1 := true) (b2 := true) (vl_op (vl_sh (vl_cf (va_cons (TBW.lot_guards (vl_var rfl)) va_nil) vc_listT)) (vl_var rfl) fun Q q => ⟨okG.e (by decide), okG.e (by decide), by rw [eqD_okN okG]; exact q⟩) fun _ => vl_and (b1 := true) (b2 := true) (vl_eq (vl_op (vl_cb (va_cons vl0 va_nil) (vc_olen (l := lotL []) (by have := lotL_len (gs := []); omega))) vl_c v2_eqI) rfl) fun _ => vl_and (b1 := true) (b2 := true) (vl_op (TBW.lot_guards vl0) (vl_tup va_nil (sm rfl)) (TBW.v2_eqGs (a := lotL []) (b := []) (fun g hg => by cases hg) fun g hg => by cases hg)) fun _ => vl_eq (vl_op (vl_cb (va_cons (vl_var rfl) va_nil) vc_lenL) vl_c v2_eqI) (by rw [List.length_map, G_okb.2.2]; rfl)) rfl
end K15
set_option Elab.async false
set_option linter.all false
set_option maxRecDepth 100000
set_option maxHeartbeats 4000000
namespace K15
open PySem PySem.Spec L2 VL TB
open PyProof.Rows hiding St
variable {P : Program} {w : World} {K : PySem.W.Frag} {mg : Str → Option Value} {base : Heap}
theorem okE_BadGuard (T : Txt P K mg) : FnOk P w K mg base CX0 1 T.a_BadGuard___init__ T.fd_BadGuard___init__ ["self", "guard"] (spE T.c_BadGuard "guard") :=
  fn_exi T.FS_BadGuard (NdefX.nscope_by (by decide +kernel)) rfl rfl rfl T.ox_BadGuard T.ni_BadGuard rfl T.n_super T.top T.mro_BadGuard T.opq T.sup_BadGuard T.ve_BadGuard (fun env h => ⟨_, rfl⟩) rfl rfl
theorem ok_is_guard (T : Txt P K mg) : FnOk P w K mg base CX0 1 T.a_is_guard T.fd_is_guard ["value"] (spD Vol.no K TBW.F2_is_guard) := by
  refine fn_d Vol.no T.F_is_guard sc_is_guard (fun ds Q h => TBW.len2_is_guard h) (fun cdv A outer s H E W hJ hr => ?_)
  exact ⟨_, rd_is_guard, (dss_one (ds_ret (d_and (d_callB (crK rIsi rfl call_isi) (cd_isiO (K := K) (IsO.cons T.kl_Lot T.io_Lot_tuple IsO.nil)) (by rfl) T.n_isinstance (by decide +kernel) (da_cons (d_var (i := 0)) (da_cons (d_bltn (v := .ty "tuple") (d := .ty "tuple") (u := .type "tuple") (by rfl) T.n_tuple (by decide +kernel) rfl (fun _ => .ty _)) da_nil))) (d_one (d_cmp (opK rInB rfl (op_inB (hu65 hr))) (od_inB (K := K)) (d_var (i := 0)) (d_glob (v := .ref T.q_GUARDS) (d := D_GUARDS) (by rfl) T.m_GUARDS rfl T.r_GUARDS) (by rfl)))))), fun ds Q h => TBW.rdl2_is_guard h⟩
theorem ok2_is_guard (T : Txt P K mg) : FnOk P w K mg base CX0 1 T.a_is_guard T.fd_is_guard ["value"] (spD Vol.no K TBW.F_is_guard) := by
  refine fn_d Vol.no T.F_is_guard sc_is_guard (fun ds Q h => TBW.len_is_guard h) (fun cdv A outer s H E W hJ hr => ?_)
  exact ⟨_, rd_is_guard, (dss_one (ds_ret (d_and (d_callB (crK rIsi rfl call_isi) (cd_isiO (K := K) (IsO.cons T.kl_Lot T.io_Lot_tuple IsO.nil)) (by rfl) T.n_isinstance (by decide +kernel) (da_cons (d_var (i := 0)) (da_cons (d_bltn (v := .ty "tuple") (d := .ty "tuple") (u := .type "tuple") (by rfl) T.n_tuple (by decide +kernel) rfl (fun _ => .ty _)) da_nil))) (d_one (d_cmp (opK rInB rfl (op_inB (hu65 hr))) (od_inB (K := K)) (d_var (i := 0)) (d_glob (v := .ref T.q_GUARDS) (d := D_GUARDS) (by rfl) T.m_GUARDS rfl T.r_GUARDS) (by rfl)))))), fun ds Q h => TBW.rdl2a_is_guard h⟩
theorem ok_Lot_guards (T : Txt P K mg) : FnOk P w K mg base CX0 1 T.a_Lot_guards T.fd_Lot_guards ["self"] (spD Vol.no K TBW.F_Lot_guards) := by
  refine fn_d Vol.no T.F_Lot_guards sc_Lot_guards (fun ds Q h => TBW.len_Lot_guards h) (fun cdv A outer s H E W hJ hr => ?_)
  exact ⟨_, rd_Lot_guards, (dss_one (ds_ret (d_fld rfl T.cn_Lot T.cl_Lot T.na_Lot_own_guards (d_var (i := 0))))), fun ds Q h => TBW.rdl_Lot_guards h⟩
theorem ok_Lot___len__ (T : Txt P K mg) : FnOk P w K mg base CX0 1 T.a_Lot___len__ T.fd_Lot___len__ ["self"] (spD Vol.no K TBW.F_Lot___len__) := by
  refine fn_d Vol.no T.F_Lot___len__ sc_Lot___len__ (fun ds Q h => TBW.len_Lot___len__ h) (fun cdv A outer s H E W hJ hr => ?_)
  exact ⟨_, rd_Lot___len__, (dss_one (ds_ret (d_callB (crK rLenB rfl cr_lenB) (cd_lenB (K := K)) (by rfl) T.n_len (by decide +kernel) (da_cons (d_fld rfl T.cn_Lot T.cl_Lot T.na_Lot_own_guards (d_var (i := 0))) da_nil)))), fun ds Q h => TBW.rdl_Lot___len__ h⟩
theorem ok_Lot___eq__ (T : Txt P K mg) : FnOk P w K mg base CX0 1 T.a_Lot___eq__ T.fd_Lot___eq__ ["self", "other"] (spD Vol.no K TBW.F_Lot___eq__) := by
  refine fn_d Vol.no T.F_Lot___eq__ sc_Lot___eq__ (fun ds Q h => TBW.len_Lot___eq__ h) (fun cdv A outer s H E W hJ hr => ?_)
  exact ⟨_, rd_Lot___eq__, (dss_one (ds_ret (d_and (d_isiK (others := []) rfl T.kl_Lot oth_nil (by rfl) T.n_isinstance (by decide +kernel) (d_var (i := 1)) (by rfl) T.g_Lot) (d_one (d_cmp (opK rEqA rfl (op_eqA (hu64 hr))) (od_eq (K := K)) (d_fld rfl T.cn_Lot T.cl_Lot T.na_Lot_own_guards (d_var (i := 0))) (d_fld rfl T.cn_Lot T.cl_Lot T.na_Lot_own_guards (d_var (i := 1))) (nomark _)))))), fun ds Q h => TBW.rdl_Lot___eq__ h⟩
theorem ok_Lot_is_within (T : Txt P K mg) : FnOk P w K mg base CX0 1 T.a_Lot_is_within T.fd_Lot_is_within ["self", "other"] (spD Vol.no K TBW.F_Lot_is_within) := by
  refine fn_d Vol.no T.F_Lot_is_within sc_Lot_is_within (fun ds Q h => TBW.len_Lot_is_within h) (fun cdv A outer s H E W hJ hr => ?_)
  exact ⟨_, rd_Lot_is_within, (dss_one (ds_ret (d_callB (crK rAll rfl (cr_all rfl)) (cd_all (K := K)) (by rfl) T.n_all (by decide +kernel) (da_cons (d_share (d_lc (own := [("guard", 2)]) rfl sc_Lot_is_within.nd (di_any rfl (d_fld rfl T.cn_Lot T.cl_Lot T.na_Lot_own_guards (d_var (i := 0)))) (blkOk_by (own := [("guard", 2)]) (by kernel_rfl)) (fun _ _ _ _ _ => (dg_name (j := 2) sc_Lot_is_within.nd rfl (by first | exact Or.inl rfl | exact Or.inr rfl))) (fun _ _ _ _ _ => dts_nil) (fun _ _ _ _ _ => (d_cmp (opK rInB rfl (op_inB (hu65 hr))) (od_inB (K := K)) (d_var (i := 2)) (d_fld rfl T.cn_Lot T.cl_Lot T.na_Lot_own_guards (d_var (i := 1))) (by rfl))) (by decide))) da_nil)))), fun ds Q h => TBW.rdl_Lot_is_within h⟩
theorem ok__law_begin (T : Txt P K mg) : FnOk P w K mg base CX0 1 T.a__law_begin T.fd__law_begin ["_law_script"] (spD Vol.no K Fbegin) := by
  refine fn_d Vol.no T.F__law_begin sc__law_begin (fun ds Q h => len_begin h) (fun cdv A outer s H E W hJ hr => ?_)
  exact ⟨_, rd__law_begin, (dss_one (ds_ret (d_share (d_lst (da_cons (d_orTK rfl (d_share (d_lc (own := [("_law_cell", 1)]) rfl sc__law_begin.nd (di_any rfl (d_slice (slK rCutB rfl sl_allB) (sd_allB (K := K)) (d_var (i := 0)) do_none (do_some d_int))) (blkOk_by (own := [("_law_cell", 1)]) (by kernel_rfl)) (fun _ _ _ _ _ => (dg_name (j := 1) sc__law_begin.nd rfl (by first | exact Or.inl rfl | exact Or.inr rfl))) (fun _ _ _ _ _ => dts_nil) (fun _ _ _ _ _ => (d_callB call_abs cd_abs (by rfl) T.n_abs (by decide +kernel) (da_cons (d_var (i := 1)) da_nil))) (by decide))) (d_one (d_share (d_lst (da_cons d_int da_nil))))) (da_cons d_int (da_cons d_int (da_cons d_int da_nil)))))))), fun ds Q h => rdl__law_begin h⟩
theorem ok__law_take (T : Txt P K mg) (Tb : List (Addr × Str)) (d c : Addr) : FnOk P w K mg base CX0 1 T.a__law_take T.fd__law_take ["_law_draw", "_law_many"] (spD (drawJ Tb d c) K (Ftake d)) := by
  refine T.F__law_take.ok sc__law_take (fun vs H Q E h => ?_) (fun cdv A outer s H vs Q E hr h => ⟨tTake K, ?_, take_sem (by rfl) h⟩)
  · obtain ⟨Hv, ds, Qd, _, _, _, r, hf, _⟩ := h
    rw [r.length, len_take hf]
    rfl
  · have nd := sc__law_take.nd
    exact pss_cons (ps_set (i := 2) nd rfl (Or.inl rfl) (pe_ix ix_seq (p_var (i := 0)) pe_int (fun _ _ => rfl))) <|
      pss_cons (ps_set (i := 3) nd rfl (Or.inl rfl) (pe_op op_mod (pe_callTy call_int1 (by rfl) T.n_int (by decide +kernel) (pa_cons (pe_ix ix_seq (p_var (i := 0)) pe_int (fun _ _ => rfl)) pa_nil)) (pe_callB cr_len (by rfl) T.n_len (by decide +kernel) (pa_cons (p_var (i := 2)) pa_nil)))) <|
      pss_cons (ps_set (i := 4) nd rfl (Or.inl rfl) (pe_ix ix_seq (p_var (i := 2)) (p_var (i := 3)) (fun _ _ => rfl))) <|
      pss_cons (ps_if (pt_cmpR op_ge (p_var (i := 4)) (pe_op op_pow pe_int pe_int) (nomark _))
        (pss_cons (ps_asg (pe_op op_fdiv (p_var (i := 4)) (p_var (i := 1))) (pg_sub (p_var (i := 2)) (p_var (i := 3)) set_list)) (pss_one (ps_ret (pe_op op_mod (pe_callTy call_int1 (by rfl) T.n_int (by decide +kernel) (pa_cons (p_var (i := 4)) pa_nil)) (p_var (i := 1)))))) pss_nil) <|
      pss_cons (ps_asg (pe_op op_add (pe_ix ix_seq (p_var (i := 0)) pe_int (fun _ _ => rfl)) pe_int) (pg_sub (p_var (i := 0)) pe_int set_list)) <|
      pss_cons (ps_asg (pe_op op_add (pe_ix ix_seq (p_var (i := 0)) pe_int (fun _ _ => rfl)) pe_int) (pg_sub (p_var (i := 0)) pe_int set_list)) <|
      pss_cons (ps_asg (pe_op op_mod (pe_callTy call_int1 (by rfl) T.n_int (by decide +kernel) (pa_cons (pe_op op_add (pe_op op_add (pe_op op_add (pe_op op_mul (pe_ix ix_seq (p_var (i := 0)) pe_int (fun _ _ => rfl)) pe_int) (p_var (i := 4))) (pe_op op_mul pe_int (pe_ix ix_seq (p_var (i := 0)) pe_int (fun _ _ => rfl)))) pe_int) pa_nil)) pe_int) (pg_sub (p_var (i := 0)) pe_int set_list)) <|
      pss_cons (ps_set (i := 5) nd rfl (Or.inl rfl) (pe_op op_mod (pe_callTy call_int1 (by rfl) T.n_int (by decide +kernel) (pa_cons (pe_op op_mul (pe_ix ix_seq (p_var (i := 0)) pe_int (fun _ _ => rfl)) (pe_ix ix_seq (p_var (i := 0)) pe_int (fun _ _ => rfl))) pa_nil)) pe_int)) <|
      pss_one (ps_ret (pe_op op_mod (pe_callTy call_int1 (by rfl) T.n_int (by decide +kernel) (pa_cons (pe_op op_fdiv (p_var (i := 5)) pe_int) pa_nil)) (p_var (i := 1))))
theorem ok__law_all_guards (T : Txt P K mg) : FnOk P w K mg base CX0 1 T.a__law_all_guards T.fd__law_all_guards [] (spD Vol.no K TBW.F__law_all_guards) := by
  refine fn_d Vol.no T.F__law_all_guards sc__law_all_guards (fun ds Q h => TBW.len__law_all_guards h) (fun cdv A outer s H E W hJ hr => ?_)
  exact ⟨_, rd__law_all_guards, (dss_cons (ds_set (j := 0) sc__law_all_guards.nd rfl (by first | exact Or.inl rfl | exact Or.inr rfl) (d_share (d_lst (da_cons (d_tup (da_cons d_str da_nil)) (da_cons (d_tup (da_cons d_str da_nil)) (da_cons (d_tup (da_cons d_str da_nil)) da_nil))))))
      (dss_cons (ds_for PassesOwn.never rfl (di_any rfl (d_share (d_lst (da_cons d_str (da_cons d_str (da_cons d_str (da_cons d_str (da_cons d_str da_nil)))))))) (dg_name (j := 1) sc__law_all_guards.nd rfl (by first | exact Or.inl rfl | exact Or.inr rfl)) (dss_one (ds_set (j := 0) sc__law_all_guards.nd rfl (by first | exact Or.inl rfl | exact Or.inr rfl) (d_op (opK rAddB rfl op_addB) (od_addB (K := K)) (d_var (i := 0)) (d_share (d_lc (own := [("_law_whose", 2)]) rfl sc__law_all_guards.nd (di_any rfl (d_share (d_lst (da_cons d_str (da_cons d_str (da_cons d_str (da_cons d_str da_nil))))))) (blkOk_by (own := [("_law_whose", 2)]) (by kernel_rfl)) (fun _ _ _ _ _ => (dg_name (j := 2) sc__law_all_guards.nd rfl (by first | exact Or.inl rfl | exact Or.inr rfl))) (fun _ _ _ _ _ => dts_nil) (fun _ _ _ _ _ => (d_tup (da_cons (d_var (i := 1)) (da_cons (d_var (i := 2)) da_nil)))) (by decide)))))))
      (dss_one (ds_ret (d_share (df_callB (crK rSortC rfl (cr_sortC rfl hr)) (cf_sortC (K := K)) (by rfl) T.n_sorted (by decide +kernel) (da_cons (d_var (i := 0)) da_nil))))))), fun ds Q h => TBW.rdl__law_all_guards h⟩
theorem ok_Lot___contains__ (T : Txt P K mg) : FnOk P w K mg base CX0 2 T.a_Lot___contains__ T.fd_Lot___contains__ ["self", "guard"] (spD Vol.no K TBW.F_Lot___contains__) := by
  refine fn_d Vol.no T.F_Lot___contains__ sc_Lot___contains__ (fun ds Q h => TBW.len_Lot___contains__ h) (fun cdv A outer s H E W hJ hr => ?_)
  exact ⟨_, rd_Lot___contains__, (dss_one (ds_ret (d_and (d_callPK rfl (ok_is_guard T) (hr.mono (by decide)) (by rfl) T.g_is_guard T.F_is_guard.kp T.b_is_guard .nil (fun _ => .nil) pass0 (da_cons (d_var (i := 1)) da_nil)) (d_one (d_cmp (opK rInB rfl (op_inB (hu65 hr))) (od_inB (K := K)) (d_var (i := 1)) (d_fld rfl T.cn_Lot T.cl_Lot T.na_Lot_own_guards (d_var (i := 0))) (by rfl)))))), fun ds Q h => TBW.rdl_Lot___contains__ h⟩
theorem ok__law_pick (T : Txt P K mg) (Tb : List (Addr × Str)) (d c : Addr) : FnOk P w K mg base CX0 2 T.a__law_pick T.fd__law_pick ["_law_draw", "_law_some"] (spD (drawJ Tb d c) K (FpickS d)) := by
  refine fn_d (drawJ Tb d c) T.F__law_pick sc__law_pick (fun ds Q h => len_pickS h) (fun cdv A outer s H E W hJ hr => ?_)
  exact ⟨_, rd__law_pick d, (dss_one (ds_ret (d_ix (ixK rIxA rfl (ix_any (hu1 hr))) (od_ixA (K := K)) (d_var (i := 1)) (d_callVK rfl (fnV fun Tb d c => ok__law_take T Tb d c) hJ (hr.mono (by decide)) (by rfl) T.g__law_take T.F__law_take.kp T.b__law_take .nil (fun _ => .nil) pass0 (da_cons (d_var (i := 0)) (da_cons (d_callB (crK rLenB rfl cr_lenB) (cd_lenB (K := K)) (by rfl) T.n_len (by decide +kernel) (da_cons (d_var (i := 1)) da_nil)) da_nil))) (fun _ _ => rfl)))), fun ds Q h => rdl__law_pick h⟩
theorem ok__law_mixed (T : Txt P K mg) (Tb : List (Addr × Str)) (d c : Addr) : FnOk P w K mg base CX0 2 T.a__law_mixed T.fd__law_mixed ["_law_draw", "_law_some"] (spD (drawJ Tb d c) K (TBW.F9__law_mixed d)) := by
  refine fn_d (drawJ Tb d c) T.F__law_mixed sc__law_mixed (fun ds Q h => TBW.len9__law_mixed h) (fun cdv A outer s H E W hJ hr => ?_)
  exact ⟨_, rd__law_mixed d, (dss_cons (ds_parOO (i := 2) (j := 3) rfl sc__law_mixed.nd rfl rfl (by decide) rfl rfl (df_callTy (crK rListB rfl (cr_listB rfl)) (cf_listB (K := K)) (by rfl) T.n_list (by decide +kernel) (da_cons (d_var (i := 1)) da_nil)) (d_lst da_nil) (by rfl))
      (dss_cons (ds_while PassesOwn.never (dt_cmpPkL (i := 2) (opK rNeA rfl (op_neA (hu64 hr))) oh_ne (d_share (d_lst da_nil)) (nomark _)) (dss_one (ds_expr (d_append (i := 3) (d_pop (i := 2) rfl (d_callVK rfl (fnV fun Tb d c => ok__law_take T Tb d c) hJ (hr.mono (by decide)) (by rfl) T.g__law_take T.F__law_take.kp T.b__law_take .nil (fun _ => .nil) pass0 (da_cons (d_var (i := 0)) (da_cons (d_pkLen (i := 2) rfl (by rfl) T.n_len) da_nil))))))))
      (dss_one (ds_ret (d_var (i := 3)))))), fun ds Q h => TBW.rdl9__law_mixed h⟩
theorem ok__law_guards (T : Txt P K mg) (Tb : List (Addr × Str)) (d c : Addr) : FnOk P w K mg base CX0 3 T.a__law_guards T.fd__law_guards ["_law_draw", "_law_upto"] (spD (drawJ Tb d c) K (TBW.F__law_guards d)) := by
  refine fn_d (drawJ Tb d c) T.F__law_guards sc__law_guards (fun ds Q h => TBW.len__law_guards h) (fun cdv A outer s H E W hJ hr => ?_)
  exact ⟨_, rd__law_guards d, (dss_one (ds_ret (d_slice (slK rCutB rfl sl_allB) (sd_allB (K := K)) (d_callVK rfl (fnV fun Tb d c => ok__law_mixed T Tb d c) hJ (hr.mono (by decide)) (by rfl) T.g__law_mixed T.F__law_mixed.kp T.b__law_mixed .nil (fun _ => .nil) pass0 (da_cons (d_var (i := 0)) (da_cons (d_call0PK rfl (ok__law_all_guards T) (hr.mono (by decide)) (by rfl) T.g__law_all_guards T.F__law_all_guards.kp T.b__law_all_guards pass0) da_nil))) do_none (do_some (d_callVK rfl (fnV fun Tb d c => ok__law_take T Tb d c) hJ (hr.mono (by decide)) (by rfl) T.g__law_take T.F__law_take.kp T.b__law_take .nil (fun _ => .nil) pass0 (da_cons (d_var (i := 0)) (da_cons (d_op (opK rAddB rfl op_addB) (od_addB (K := K)) (d_var (i := 1)) d_int) da_nil))))))), fun ds Q h => TBW.rdl__law_guards h⟩
theorem okx_Lot___init__ (T : Txt P K mg) : FnR P w K mg base (L2.CX P w) 3 T.a_Lot___init__ (starSp 1 (spInitX Vol.no K T.c_Lot TBW.FX_Lot___init__)) := by
  refine fn_initXS (td := rd_x_Lot___init__) Vol.no T.cn_Lot T.F_Lot___init__ T.bs_Lot___init__ sc_Lot___init__ (fun cdv A outer s H E W y xk hJ hr hk => ?_) (fun ds Q xk y h => TBW.rdl_x_Lot___init__ h) (by simp)
  exact ⟨_, (dss_cons (ds_for own_x rfl (di_any rfl (d_var (i := 1))) (dg_name (j := 2) sc_Lot___init__.nd rfl (by first | exact Or.inl rfl | exact Or.inr rfl)) (dss_one (ds_if (dt_not (dt_val (d_callPK rfl (ok2_is_guard T) (hr.mono (by decide)) (by rfl) T.g_is_guard T.F_is_guard.kp T.b_is_guard .nil (fun _ => .nil) pass0 (da_cons (d_var (i := 2)) da_nil)))) (dss_one (ds_raiseX rfl T.cn_BadGuard hk rfl takes_x T.ox_BadGuard T.iC_BadGuard T.tI_BadGuard (okE_BadGuard T) (hr.mono (by decide)) T.b_BadGuard___init__ pass0 (by rfl) T.g_BadGuard (da_cons (d_var (i := 2)) da_nil))) dss_nil)))
      (dss_one (ds_putF (i := 0) rfl T.cn_Lot T.cl_Lot T.na_Lot_own_guards (d_callTy (crK rTupX rfl call_tupleX) (cd_tuple (K := K)) (by rfl) T.n_tuple (by decide +kernel) (da_cons (d_share (d_lc (own := [("guard", 2)]) rfl sc_Lot___init__.nd (di_any rfl (d_glob (v := .ref T.q_GUARDS) (d := D_GUARDS) (by rfl) T.m_GUARDS rfl T.r_GUARDS)) (blkOk_by (own := [("guard", 2)]) (by kernel_rfl)) (fun _ _ _ _ _ => (dg_name (j := 2) sc_Lot___init__.nd rfl (by first | exact Or.inl rfl | exact Or.inr rfl))) (fun _ _ _ _ _ => (dts_one (dt_cmp (opK rInB rfl (op_inB (hu65 hr))) (od_inB (K := K)) (d_var (i := 2)) (d_var (i := 1)) (by rfl)))) (fun _ _ _ _ _ => (d_var (i := 2))) (by decide))) da_nil)))))⟩
theorem ok_Lot_every (T : Txt P K mg) : FnOk P w K mg base CX0 5 T.a_Lot_every T.fd_Lot_every ["cls"] (spC T.c_Lot K TBW.F_Lot_every) := by
  refine fn_cls T.F_Lot_every sc_Lot_every (fun ds Q h => TBW.len_Lot_every h) (fun cdv A outer s H E W hJ hr => ?_)
  exact ⟨_, rd_Lot_every T.c_Lot, (dss_one (ds_ret (d_makeLS1 rfl xok_never T.mk_Lot (okx_Lot___init__ T) (hr.mono (by decide)) passL (d_var (i := 0)) (d_glob (v := .ref T.q_GUARDS) (d := D_GUARDS) (by rfl) T.m_GUARDS rfl T.r_GUARDS)))), fun ds Q h => TBW.rdl_Lot_every h⟩
theorem ok_Lot___or__ (T : Txt P K mg) : FnOk P w K mg base CX0 5 T.a_Lot___or__ T.fd_Lot___or__ ["self", "other"] (spD Vol.no K TBW.F_Lot___or__) := by
  refine fn_d Vol.no T.F_Lot___or__ sc_Lot___or__ (fun ds Q h => TBW.len_Lot___or__ h) (fun cdv A outer s H E W hJ hr => ?_)
  exact ⟨_, rd_Lot___or__, (dss_cons (ds_if (dt_not (dt_val (d_isiK (others := []) rfl T.kl_Lot oth_nil (by rfl) T.n_isinstance (by decide +kernel) (d_var (i := 1)) (by rfl) T.g_Lot))) (dss_one ds_never) dss_nil)
      (dss_one (ds_ret (d_makeS rfl xok_never (fun pa => pe_makeS2 T.mk_Lot (okx_Lot___init__ T) (hr.mono (by decide)) (by rfl) T.g_Lot passL pa) (da_star rfl (d_fld rfl T.cn_Lot T.cl_Lot T.na_Lot_own_guards (d_var (i := 0))) (da_star rfl (d_fld rfl T.cn_Lot T.cl_Lot T.na_Lot_own_guards (d_var (i := 1))) da_nil)))))), fun ds Q h => TBW.rdl_Lot___or__ h⟩
theorem ok_Lot___and__ (T : Txt P K mg) : FnOk P w K mg base CX0 5 T.a_Lot___and__ T.fd_Lot___and__ ["self", "other"] (spD Vol.no K TBW.F_Lot___and__) := by
  refine fn_d Vol.no T.F_Lot___and__ sc_Lot___and__ (fun ds Q h => TBW.len_Lot___and__ h) (fun cdv A outer s H E W hJ hr => ?_)
  exact ⟨_, rd_Lot___and__, (dss_cons (ds_if (dt_not (dt_val (d_isiK (others := []) rfl T.kl_Lot oth_nil (by rfl) T.n_isinstance (by decide +kernel) (d_var (i := 1)) (by rfl) T.g_Lot))) (dss_one ds_never) dss_nil)
      (dss_cons (ds_setLcD (own := [("guard", 3)]) (j := 2) rfl sc_Lot___and__.nd rfl rfl (sw_true rfl rfl rfl (by decide +kernel)) (di_any rfl (d_fld rfl T.cn_Lot T.cl_Lot T.na_Lot_own_guards (d_var (i := 0)))) (blkOk_by (own := [("guard", 3)]) (by kernel_rfl)) (fun _ _ _ _ _ => (dg_name (j := 3) sc_Lot___and__.nd rfl (by first | exact Or.inl rfl | exact Or.inr rfl))) (fun _ _ _ _ _ => (dts_one (dt_cmp (opK rInB rfl (op_inB (hu65 hr))) (od_inB (K := K)) (d_var (i := 3)) (d_fld rfl T.cn_Lot T.cl_Lot T.na_Lot_own_guards (d_var (i := 1))) (by rfl)))) (fun _ _ _ _ _ => (d_var (i := 3))) (by decide))
      (dss_one (ds_ret (d_makeS1 rfl xok_never T.mk_Lot (okx_Lot___init__ T) (hr.mono (by decide)) (by rfl) T.g_Lot passL (d_var (i := 2))))))), fun ds Q h => TBW.rdl_Lot___and__ h⟩
theorem ok_Lot___sub__ (T : Txt P K mg) : FnOk P w K mg base CX0 5 T.a_Lot___sub__ T.fd_Lot___sub__ ["self", "other"] (spD Vol.no K TBW.F_Lot___sub__) := by
  refine fn_d Vol.no T.F_Lot___sub__ sc_Lot___sub__ (fun ds Q h => TBW.len_Lot___sub__ h) (fun cdv A outer s H E W hJ hr => ?_)
  exact ⟨_, rd_Lot___sub__, (dss_cons (ds_if (dt_not (dt_val (d_isiK (others := []) rfl T.kl_Lot oth_nil (by rfl) T.n_isinstance (by decide +kernel) (d_var (i := 1)) (by rfl) T.g_Lot))) (dss_one ds_never) dss_nil)
      (dss_cons (ds_setLcD (own := [("guard", 3)]) (j := 2) rfl sc_Lot___sub__.nd rfl rfl (sw_true rfl rfl rfl (by decide +kernel)) (di_any rfl (d_fld rfl T.cn_Lot T.cl_Lot T.na_Lot_own_guards (d_var (i := 0)))) (blkOk_by (own := [("guard", 3)]) (by kernel_rfl)) (fun _ _ _ _ _ => (dg_name (j := 3) sc_Lot___sub__.nd rfl (by first | exact Or.inl rfl | exact Or.inr rfl))) (fun _ _ _ _ _ => (dts_one (dt_cmp (opK rNotInB rfl (op_notInB (hu65 hr))) (od_notInB (K := K)) (d_var (i := 3)) (d_fld rfl T.cn_Lot T.cl_Lot T.na_Lot_own_guards (d_var (i := 1))) (by rfl)))) (fun _ _ _ _ _ => (d_var (i := 3))) (by decide))
      (dss_one (ds_ret (d_makeS1 rfl xok_never T.mk_Lot (okx_Lot___init__ T) (hr.mono (by decide)) (by rfl) T.g_Lot passL (d_var (i := 2))))))), fun ds Q h => TBW.rdl_Lot___sub__ h⟩
theorem ok__law_odd_guard (T : Txt P K mg) (Tb : List (Addr × Str)) (d c : Addr) : FnOk P w K mg base CX0 5 T.a__law_odd_guard T.fd__law_odd_guard ["_law_draw"] (spD (drawJ Tb d c) K (TBW.F__law_odd_guard d)) := by
  refine fn_d (drawJ Tb d c) T.F__law_odd_guard sc__law_odd_guard (fun ds Q h => TBW.len__law_odd_guard h) (fun cdv A outer s H E W hJ hr => ?_)
  exact ⟨_, rd__law_odd_guard d, (dss_cons (ds_set (j := 1) sc__law_odd_guard.nd rfl (by first | exact Or.inl rfl | exact Or.inr rfl) (d_share (d_lst (da_cons (d_tup (da_cons d_str da_nil)) (da_cons (d_tup (da_cons d_str (da_cons d_str da_nil))) (da_cons (d_tup (da_cons d_str (da_cons d_str da_nil))) (da_cons (d_tup (da_cons d_str (da_cons d_str da_nil))) (da_cons (d_share (d_lst (da_cons d_str da_nil))) (da_cons d_str (da_cons (d_tup (da_cons d_str (da_cons d_str da_nil))) (da_cons (d_tup da_nil) da_nil)))))))))))
      (dss_cons (ds_set (j := 1) sc__law_odd_guard.nd rfl (by first | exact Or.inl rfl | exact Or.inr rfl) (d_op (opK rAddB rfl op_addB) (od_addB (K := K)) (d_var (i := 1)) (d_share (d_lst (da_cons (d_tup (da_cons d_str (da_cons d_str (da_cons d_str da_nil)))) (da_cons (d_tup (da_cons d_str (da_cons d_non da_nil))) (da_cons (d_tup (da_cons d_non da_nil)) (da_cons (d_tup (da_cons d_str (da_cons d_str da_nil))) (da_cons (d_tup (da_cons d_str (da_cons (d_share (d_lst (da_cons d_str da_nil))) da_nil))) (da_cons d_int (da_cons d_non da_nil)))))))))))
      (dss_cons (ds_set (j := 1) sc__law_odd_guard.nd rfl (by first | exact Or.inl rfl | exact Or.inr rfl) (d_op (opK rAddB rfl op_addB) (od_addB (K := K)) (d_var (i := 1)) (d_share (d_lst (da_cons (d_tup (da_cons d_str (da_cons d_str da_nil))) (da_cons (d_share df_dic0) (da_cons d_bl (da_cons (d_tup (da_cons (d_tup (da_cons d_str da_nil)) da_nil)) (da_cons (d_tup (da_cons d_str (da_cons d_str da_nil))) (da_cons (d_tup (da_cons d_str (da_cons d_str da_nil))) (da_cons (d_tup (da_cons d_str da_nil)) (da_cons (d_makeS rfl xok_never (fun pa => pe_makeR0 T.mk_Lot (okx_Lot___init__ T) (hr.mono (by decide)) (by rfl) T.g_Lot passL) da_nil) da_nil))))))))))))
      (dss_one (ds_ret (d_callVK rfl (fnV fun Tb d c => ok__law_pick T Tb d c) hJ (hr.mono (by decide)) (by rfl) T.g__law_pick T.F__law_pick.kp T.b__law_pick .nil (fun _ => .nil) pass0 (da_cons (d_var (i := 0)) (da_cons (d_var (i := 1)) da_nil)))))))), fun ds Q h => TBW.rdl__law_odd_guard h⟩
theorem ok__law_real_lot (T : Txt P K mg) : FnOk P w K mg base CX0 6 T.a__law_real_lot T.fd__law_real_lot ["_law_kinds"] (spD Vol.no K TBW.F__law_real_lot) := by
  refine fn_d Vol.no T.F__law_real_lot sc__law_real_lot (fun ds Q h => TBW.len__law_real_lot h) (fun cdv A outer s H E W hJ hr => ?_)
  exact ⟨_, rd__law_real_lot, (dss_cons (ds_set (j := 1) sc__law_real_lot.nd rfl (by first | exact Or.inl rfl | exact Or.inr rfl) (d_makeS rfl xok_never (fun pa => pe_makeR0 T.mk_Lot (okx_Lot___init__ T) (hr.mono (by decide)) (by rfl) T.g_Lot passL) da_nil))
      (dss_cons (ds_for PassesOwn.never rfl (di_any rfl (d_var (i := 0))) (dg_name (j := 2) sc__law_real_lot.nd rfl (by first | exact Or.inl rfl | exact Or.inr rfl)) (dss_one (ds_set (j := 1) sc__law_real_lot.nd rfl (by first | exact Or.inl rfl | exact Or.inr rfl) (d_op (op_ownB (op := .BitOr) (VL.FnOk.r0 (ok_Lot___or__ T) T.b_Lot___or__) (hr.mono (by decide)) pass0 T.du_Lot___or__ T.kl_Lot.sf) (od_ownB T.cn_Lot) (d_var (i := 1)) (d_makeS rfl xok_never (fun pa => StX.pe_makeR T.mk_Lot (okx_Lot___init__ T) (hr.mono (by decide)) (by rfl) T.g_Lot passL pa) (da_cons (d_var (i := 2)) da_nil))))))
      (dss_one (ds_ret (d_var (i := 1)))))), fun ds Q h => TBW.rdl__law_real_lot h⟩
theorem ok__law_sets_right (T : Txt P K mg) : FnG P w K mg base CX0 6 T.a__law_sets_right T.fd__law_sets_right ["_law_mine", "_law_yours", "_law_one", "_law_other"] (spD Vol.no K TBW.F__law_sets_right) := by
  refine fn_dG Vol.no T.F__law_sets_right sc__law_sets_right (fun ds Q h => TBW.len__law_sets_right h) (fun cdv A outer s H E W hJ hgd0 hr => ?_)
  exact ⟨_, rd__law_sets_right, (dss_cons (ds_setOwn (j := 4) sc__law_sets_right.nd rfl (by first | exact Or.inl rfl | exact Or.inr rfl) (d_lst (da_cons (d_share (df_sortSetG rfl rfl hr (by rfl) T.n_sorted (by decide +kernel) (by rfl) T.n_set (d_op (opK rAddB rfl op_addB) (od_addB (K := K)) (d_var (i := 0)) (d_var (i := 1))))) (da_cons (d_share (d_lc (own := [("_law_guard", 5)]) rfl sc__law_sets_right.nd (di_any rfl (d_share (df_callB (crK rSortC rfl (cr_sortC rfl hr)) (cf_sortC (K := K)) (by rfl) T.n_sorted (by decide +kernel) (da_cons (d_var (i := 0)) da_nil)))) (blkOk_by (own := [("_law_guard", 5)]) (by kernel_rfl)) (fun _ _ _ _ _ => (dg_name (j := 5) sc__law_sets_right.nd rfl (by first | exact Or.inl rfl | exact Or.inr rfl))) (fun _ _ _ _ _ => (dts_one (dt_cmp (opK rInB rfl (op_inB (hu65 hr))) (od_inB (K := K)) (d_var (i := 5)) (d_var (i := 1)) (by rfl)))) (fun _ _ _ _ _ => (d_var (i := 5))) (by decide))) da_nil))))
      (dss_cons (ds_expr (d_append (i := 4) (d_share (d_lc (own := [("_law_guard", 5)]) rfl sc__law_sets_right.nd (di_any rfl (d_share (df_callB (crK rSortC rfl (cr_sortC rfl hr)) (cf_sortC (K := K)) (by rfl) T.n_sorted (by decide +kernel) (da_cons (d_var (i := 0)) da_nil)))) (blkOk_by (own := [("_law_guard", 5)]) (by kernel_rfl)) (fun _ _ _ _ _ => (dg_name (j := 5) sc__law_sets_right.nd rfl (by first | exact Or.inl rfl | exact Or.inr rfl))) (fun _ _ _ _ _ => (dts_one (dt_cmp (opK rNotInB rfl (op_notInB (hu65 hr))) (od_notInB (K := K)) (d_var (i := 5)) (d_var (i := 1)) (by rfl)))) (fun _ _ _ _ _ => (d_var (i := 5))) (by decide)))))
      (dss_cons (ds_if (dt_cmpPkR (i := 4) (opK rNeA rfl (op_neA (hu64 hr))) oh_ne (d_share (d_lc (own := [("_law_pair", 6)]) rfl sc__law_sets_right.nd (di_any rfl (d_share (d_lst (da_cons (d_op (op_ownB (op := .BitOr) (VL.FnOk.r0 (ok_Lot___or__ T) T.b_Lot___or__) (hr.mono (by decide)) pass0 T.du_Lot___or__ T.kl_Lot.sf) (od_ownB T.cn_Lot) (d_var (i := 2)) (d_var (i := 3))) (da_cons (d_op (op_ownB (op := .BitAnd) (VL.FnOk.r0 (ok_Lot___and__ T) T.b_Lot___and__) (hr.mono (by decide)) pass0 T.du_Lot___and__ T.kl_Lot.sf) (od_ownB T.cn_Lot) (d_var (i := 2)) (d_var (i := 3))) (da_cons (d_op (op_ownB (op := .Sub) (VL.FnOk.r0 (ok_Lot___sub__ T) T.b_Lot___sub__) (hr.mono (by decide)) pass0 T.du_Lot___sub__ T.kl_Lot.sf) (od_ownB T.cn_Lot) (d_var (i := 2)) (d_var (i := 3))) da_nil)))))) (blkOk_by (own := [("_law_pair", 6)]) (by kernel_rfl)) (fun _ _ _ _ _ => (dg_name (j := 6) sc__law_sets_right.nd rfl (by first | exact Or.inl rfl | exact Or.inr rfl))) (fun _ _ _ _ _ => dts_nil) (fun _ _ _ _ _ => (d_share (df_callTy (crK rListB rfl (cr_listB rfl)) (cf_listB (K := K)) (by rfl) T.n_list (by decide +kernel) (da_cons (d_prop rfl T.cn_Lot (fun po => pe_prop po T.cl_Lot T.pr_Lot_guards (ok_Lot_guards T) (hr.mono (by decide)) T.b_Lot_guards .nil pass0 rfl) (d_var (i := 6))) da_nil)))) (by decide))) (nomark _)) (dss_one (ds_ret d_bl)) dss_nil)
      (dss_cons (ds_set (j := 7) sc__law_sets_right.nd rfl (by first | exact Or.inl rfl | exact Or.inr rfl) (d_share (d_lst (da_cons (d_meth rfl T.cn_Lot (fun _ => .nil) (fun po pa => pe_meth po T.cl_Lot T.me_Lot_is_within (ok_Lot_is_within T) (hr.mono (by decide)) T.b_Lot_is_within .nil pass0 pa) (d_var (i := 2)) (da_cons (d_var (i := 3)) da_nil)) (da_cons (d_meth rfl T.cn_Lot (fun _ => .nil) (fun po pa => pe_meth po T.cl_Lot T.me_Lot_is_within (ok_Lot_is_within T) (hr.mono (by decide)) T.b_Lot_is_within .nil pass0 pa) (d_var (i := 3)) (da_cons (d_var (i := 2)) da_nil)) (da_cons (d_meth rfl T.cn_Lot (fun _ => .nil) (fun po pa => pe_meth po T.cl_Lot T.me_Lot_is_within (ok_Lot_is_within T) (hr.mono (by decide)) T.b_Lot_is_within .nil pass0 pa) (d_var (i := 3)) (da_cons (d_op (op_ownB (op := .BitOr) (VL.FnOk.r0 (ok_Lot___or__ T) T.b_Lot___or__) (hr.mono (by decide)) pass0 T.du_Lot___or__ T.kl_Lot.sf) (od_ownB T.cn_Lot) (d_var (i := 2)) (d_var (i := 3))) da_nil)) (da_cons (d_cmp (opK (fun K => rOwnEq K _ _ _) rfl (op_ownEq (VL.FnOk.r0 (ok_Lot___eq__ T) T.b_Lot___eq__) (hr.mono (by decide)) pass0 T.du_Lot___eq__)) (od_ownEq T.cn_Lot) (d_var (i := 2)) (d_var (i := 3)) (nomark _)) da_nil)))))))
      (dss_cons (ds_set (j := 8) sc__law_sets_right.nd rfl (by first | exact Or.inl rfl | exact Or.inr rfl) (d_cmp (opK rEqA rfl (op_eqA (hu64 hr))) (od_eq (K := K)) (d_share (d_lc (own := [("_law_guard", 5)]) rfl sc__law_sets_right.nd (di_any rfl (d_var (i := 0))) (blkOk_by (own := [("_law_guard", 5)]) (by kernel_rfl)) (fun _ _ _ _ _ => (dg_name (j := 5) sc__law_sets_right.nd rfl (by first | exact Or.inl rfl | exact Or.inr rfl))) (fun _ _ _ _ _ => (dts_one (dt_cmp (opK rNotInB rfl (op_notInB (hu65 hr))) (od_notInB (K := K)) (d_var (i := 5)) (d_var (i := 1)) (by rfl)))) (fun _ _ _ _ _ => (d_var (i := 5))) (by decide))) (d_share (d_lst da_nil)) (nomark _)))
      (dss_cons (ds_set (j := 9) sc__law_sets_right.nd rfl (by first | exact Or.inl rfl | exact Or.inr rfl) (d_cmp (opK rEqA rfl (op_eqA (hu64 hr))) (od_eq (K := K)) (d_share (d_lc (own := [("_law_guard", 5)]) rfl sc__law_sets_right.nd (di_any rfl (d_var (i := 1))) (blkOk_by (own := [("_law_guard", 5)]) (by kernel_rfl)) (fun _ _ _ _ _ => (dg_name (j := 5) sc__law_sets_right.nd rfl (by first | exact Or.inl rfl | exact Or.inr rfl))) (fun _ _ _ _ _ => (dts_one (dt_cmp (opK rNotInB rfl (op_notInB (hu65 hr))) (od_notInB (K := K)) (d_var (i := 5)) (d_var (i := 0)) (by rfl)))) (fun _ _ _ _ _ => (d_var (i := 5))) (by decide))) (d_share (d_lst da_nil)) (nomark _)))
      (dss_one (ds_ret (d_and (d_cmp (opK rEqA rfl (op_eqA (hu64 hr))) (od_eq (K := K)) (d_callB (crK rRepQ rfl (cr_repQ hr hgd0)) (cd_repQ (K := K)) (by rfl) T.n_repr (by decide +kernel) (da_cons (d_var (i := 7)) da_nil)) (d_callB (crK rRepQ rfl (cr_repQ hr hgd0)) (cd_repQ (K := K)) (by rfl) T.n_repr (by decide +kernel) (da_cons (d_share (d_lst (da_cons (d_var (i := 8)) (da_cons (d_var (i := 9)) (da_cons d_bl (da_cons (d_and (d_var (i := 8)) (d_one (d_var (i := 9)))) da_nil)))))) da_nil)) (nomark _)) (d_one (d_cmp (opK rNeA rfl (op_neA (hu64 hr))) (od_ne (K := K)) (d_cmp (opK (fun K => rOwnNe K _ _ _) rfl (op_ownNe (VL.FnOk.r0 (ok_Lot___eq__ T) T.b_Lot___eq__) (hr.mono (by decide)) pass0 T.du_Lot___eq__ T.ne_Lot T.mo_Lot)) (od_ownNe T.cn_Lot) (d_var (i := 2)) (d_var (i := 3)) (nomark _)) (d_ix (ixK rIxA rfl (ix_any (hu1 hr))) (od_ixA (K := K)) (d_var (i := 7)) d_int (fun _ _ => rfl)) (nomark _)))))))))))), fun ds Q h => TBW.rdl__law_sets_right h⟩
theorem ok_law (T : Txt P K mg) : FnG P w K mg base CX0 7 T.a_law T.fd_law ["_law_script"] (spLaw [] K) := by
  have F := T.F_law
  have T0 := T
  generalize hfd : T.fd_law = fd at F
  obtain ⟨oc, od, kV, doc, pm, an, cdv, ct, osl, rfl, lk, hcd⟩ := F.ex
  refine fn_ofG lk hcd sc_law (fun vs H Q E h => ?_) (fun A outer s H vs Q E hgd0 hr h => ?_)
  · obtain ⟨a, ns, rfl, _⟩ := h
    rfl
  · have rest : ∃ ts, ∀ (W : Wc) (d c : Addr), W.J = drawJ [] d c → DSs W (cxOf CX0 P w K mg base N_law "law" (defScope s_law) T.a_law cdv A outer s H E).nox ((defBody s_law).tail) ts (rd_law d) := ⟨_, fun W d c hJ => (dss_cons (ds_set (j := 2) sc_law.nd rfl (by first | exact Or.inl rfl | exact Or.inr rfl) (d_call0PK rfl (ok__law_all_guards T) (hr.mono (by decide)) (by rfl) T.g__law_all_guards T.F__law_all_guards.kp T.b__law_all_guards pass0))
      (dss_cons (ds_for PassesOwn.never rfl (di_range (by rfl) T.n_range (da_cons (d_op (opK rAddB rfl op_addB) (od_addB (K := K)) d_int (d_callB (call_min2 rfl) cd_min2 (by rfl) T.n_min (by decide +kernel) (da_cons (d_callB (crK rLenB rfl cr_lenB) (cd_lenB (K := K)) (by rfl) T.n_len (by decide +kernel) (da_cons (d_var (i := 0)) da_nil)) (da_cons d_int da_nil)))) da_nil)) (dg_name (j := 3) sc_law.nd rfl (by first | exact Or.inl rfl | exact Or.inr rfl)) (dss_cons (ds_asg (d_tup (da_cons (d_callVK rfl (fnV fun Tb d c => ok__law_guards T Tb d c) hJ (hr.mono (by decide)) (by rfl) T.g__law_guards T.F__law_guards.kp T.b__law_guards .nil (fun _ => .nil) pass0 (da_cons (d_var (i := 1)) (da_cons d_int da_nil))) (da_cons (d_callVK rfl (fnV fun Tb d c => ok__law_guards T Tb d c) hJ (hr.mono (by decide)) (by rfl) T.g__law_guards T.F__law_guards.kp T.b__law_guards .nil (fun _ => .nil) pass0 (da_cons (d_var (i := 1)) (da_cons d_int da_nil))) da_nil))) (dg_tupK rfl rfl (dgs_cons (dg_name (j := 4) sc_law.nd rfl (by first | exact Or.inl rfl | exact Or.inr rfl)) (dgs_cons (dg_name (j := 5) sc_law.nd rfl (by first | exact Or.inl rfl | exact Or.inr rfl)) dgs_nil))))
      (dss_cons (ds_if (dt_cmp (opK rEqA rfl (op_eqA (hu64 hr))) (od_eq (K := K)) (d_callVK rfl (fnV fun Tb d c => ok__law_take T Tb d c) hJ (hr.mono (by decide)) (by rfl) T.g__law_take T.F__law_take.kp T.b__law_take .nil (fun _ => .nil) pass0 (da_cons (d_var (i := 1)) (da_cons d_int da_nil))) d_int (nomark _)) (dss_one (ds_set (j := 5) sc_law.nd rfl (by first | exact Or.inl rfl | exact Or.inr rfl) (d_slice (slK rCutB rfl sl_allB) (sd_allB (K := K)) (d_callVK rfl (fnV fun Tb d c => ok__law_mixed T Tb d c) hJ (hr.mono (by decide)) (by rfl) T.g__law_mixed T.F__law_mixed.kp T.b__law_mixed .nil (fun _ => .nil) pass0 (da_cons (d_var (i := 1)) (da_cons (d_var (i := 4)) da_nil))) do_none (do_some (d_callVK rfl (fnV fun Tb d c => ok__law_pick T Tb d c) hJ (hr.mono (by decide)) (by rfl) T.g__law_pick T.F__law_pick.kp T.b__law_pick .nil (fun _ => .nil) pass0 (da_cons (d_var (i := 1)) (da_cons (d_share (d_lst (da_cons (d_callB (crK rLenB rfl cr_lenB) (cd_lenB (K := K)) (by rfl) T.n_len (by decide +kernel) (da_cons (d_var (i := 4)) da_nil)) (da_cons (d_op op_fdiv od_fdiv (d_callB (crK rLenB rfl cr_lenB) (cd_lenB (K := K)) (by rfl) T.n_len (by decide +kernel) (da_cons (d_var (i := 4)) da_nil)) d_int) da_nil)))) da_nil))))))) dss_nil)
      (dss_cons (ds_asg (d_tup (da_cons (d_callPK rfl (ok__law_real_lot T) (hr.mono (by decide)) (by rfl) T.g__law_real_lot T.F__law_real_lot.kp T.b__law_real_lot .nil (fun _ => .nil) pass0 (da_cons (d_op (opK rAddB rfl op_addB) (od_addB (K := K)) (d_var (i := 4)) (d_slice (slK rCutB rfl sl_allB) (sd_allB (K := K)) (d_var (i := 4)) do_none (do_some d_int))) da_nil)) (da_cons (d_callPK rfl (ok__law_real_lot T) (hr.mono (by decide)) (by rfl) T.g__law_real_lot T.F__law_real_lot.kp T.b__law_real_lot .nil (fun _ => .nil) pass0 (da_cons (d_var (i := 5)) da_nil)) da_nil))) (dg_tupK rfl rfl (dgs_cons (dg_name (j := 6) sc_law.nd rfl (by first | exact Or.inl rfl | exact Or.inr rfl)) (dgs_cons (dg_name (j := 7) sc_law.nd rfl (by first | exact Or.inl rfl | exact Or.inr rfl)) dgs_nil))))
      (dss_cons (ds_if (dt_cmp (opK rNeA rfl (op_neA (hu64 hr))) (od_ne (K := K)) (d_callB (crK rRepQ rfl (cr_repQ hr hgd0)) (cd_repQ (K := K)) (by rfl) T.n_repr (by decide +kernel) (da_cons (d_prop rfl T.cn_Lot (fun po => pe_prop po T.cl_Lot T.pr_Lot_guards (ok_Lot_guards T) (hr.mono (by decide)) T.b_Lot_guards .nil pass0 rfl) (d_var (i := 6))) da_nil)) (d_callB (crK rRepQ rfl (cr_repQ hr hgd0)) (cd_repQ (K := K)) (by rfl) T.n_repr (by decide +kernel) (da_cons (d_callTy (crK rTupX rfl call_tupleX) (cd_tuple (K := K)) (by rfl) T.n_tuple (by decide +kernel) (da_cons (d_share (df_callB (crK rSortC rfl (cr_sortC rfl hr)) (cf_sortC (K := K)) (by rfl) T.n_sorted (by decide +kernel) (da_cons (d_var (i := 4)) da_nil))) da_nil)) da_nil)) (nomark _)) (dss_one (ds_ret d_bl)) dss_nil)
      (dss_cons (ds_if (dt_cmp (opK rNeA rfl (op_neA (hu64 hr))) (od_ne (K := K)) (d_callB (cr_ownLen (VL.FnOk.r0 (ok_Lot___len__ T) T.b_Lot___len__) (hr.mono (by decide)) pass0 T.du_Lot___len__) (cd_ownLen T.cn_Lot) (by rfl) T.n_len (by decide +kernel) (da_cons (d_var (i := 6)) da_nil)) (d_callB (crK rLenB rfl cr_lenB) (cd_lenB (K := K)) (by rfl) T.n_len (by decide +kernel) (da_cons (d_var (i := 4)) da_nil)) (nomark _)) (dss_one (ds_ret d_bl)) dss_nil)
      (dss_cons (ds_if (dt_cmp (opK rNeA rfl (op_neA (hu64 hr))) (od_ne (K := K)) (d_callB (crK rRepQ rfl (cr_repQ hr hgd0)) (cd_repQ (K := K)) (by rfl) T.n_repr (by decide +kernel) (da_cons (d_share (d_lc (own := [("_law_guard", 8)]) rfl sc_law.nd (di_any rfl (d_var (i := 2))) (blkOk_by (own := [("_law_guard", 8)]) (by kernel_rfl)) (fun _ _ _ _ _ => (dg_name (j := 8) sc_law.nd rfl (by first | exact Or.inl rfl | exact Or.inr rfl))) (fun _ _ _ _ _ => dts_nil) (fun _ _ _ _ _ => (d_cmp (op_ownIn (VL.FnOk.r0 (ok_Lot___contains__ T) T.b_Lot___contains__) (hr.mono (by decide)) pass0 T.du_Lot___contains__) (od_ownIn T.cn_Lot false) (d_var (i := 8)) (d_var (i := 6)) (by rfl))) (by decide))) da_nil)) (d_callB (crK rRepQ rfl (cr_repQ hr hgd0)) (cd_repQ (K := K)) (by rfl) T.n_repr (by decide +kernel) (da_cons (d_share (d_lc (own := [("_law_guard", 8)]) rfl sc_law.nd (di_any rfl (d_var (i := 2))) (blkOk_by (own := [("_law_guard", 8)]) (by kernel_rfl)) (fun _ _ _ _ _ => (dg_name (j := 8) sc_law.nd rfl (by first | exact Or.inl rfl | exact Or.inr rfl))) (fun _ _ _ _ _ => dts_nil) (fun _ _ _ _ _ => (d_cmp (opK rInB rfl (op_inB (hu65 hr))) (od_inB (K := K)) (d_var (i := 8)) (d_var (i := 4)) (by rfl))) (by decide))) da_nil)) (nomark _)) (dss_one (ds_ret d_bl)) dss_nil)
      (dss_cons (ds_if (dt_not (dt_val (d_callGPK rfl (ok__law_sets_right T) hgd0 (hr.mono (by decide)) (by rfl) T.g__law_sets_right T.F__law_sets_right.kp T.b__law_sets_right .nil (fun _ => .nil) pass0 (da_cons (d_var (i := 4)) (da_cons (d_var (i := 5)) (da_cons (d_var (i := 6)) (da_cons (d_var (i := 7)) da_nil))))))) (dss_one (ds_ret d_bl)) dss_nil)
      (dss_cons (ds_if (dt_cmp (opK rNeA rfl (op_neA (hu64 hr))) (od_ne (K := K)) (d_callB (crK rRepQ rfl (cr_repQ hr hgd0)) (cd_repQ (K := K)) (by rfl) T.n_repr (by decide +kernel) (da_cons (d_share (d_lst (da_cons (d_prop rfl T.cn_Lot (fun po => pe_prop po T.cl_Lot T.pr_Lot_guards (ok_Lot_guards T) (hr.mono (by decide)) T.b_Lot_guards .nil pass0 rfl) (d_var (i := 6))) (da_cons (d_prop rfl T.cn_Lot (fun po => pe_prop po T.cl_Lot T.pr_Lot_guards (ok_Lot_guards T) (hr.mono (by decide)) T.b_Lot_guards .nil pass0 rfl) (d_var (i := 7))) da_nil)))) da_nil)) (d_callB (crK rRepQ rfl (cr_repQ hr hgd0)) (cd_repQ (K := K)) (by rfl) T.n_repr (by decide +kernel) (da_cons (d_share (d_lst (da_cons (d_callTy (crK rTupX rfl call_tupleX) (cd_tuple (K := K)) (by rfl) T.n_tuple (by decide +kernel) (da_cons (d_share (df_callB (crK rSortC rfl (cr_sortC rfl hr)) (cf_sortC (K := K)) (by rfl) T.n_sorted (by decide +kernel) (da_cons (d_var (i := 4)) da_nil))) da_nil)) (da_cons (d_callTy (crK rTupX rfl call_tupleX) (cd_tuple (K := K)) (by rfl) T.n_tuple (by decide +kernel) (da_cons (d_share (df_callB (crK rSortC rfl (cr_sortC rfl hr)) (cf_sortC (K := K)) (by rfl) T.n_sorted (by decide +kernel) (da_cons (d_var (i := 5)) da_nil))) da_nil)) da_nil)))) da_nil)) (nomark _)) (dss_one (ds_ret d_bl)) dss_nil)
      (dss_cons (ds_set (j := 9) sc_law.nd rfl (by first | exact Or.inl rfl | exact Or.inr rfl) (d_callVK rfl (fnV fun Tb d c => ok__law_odd_guard T Tb d c) hJ (hr.mono (by decide)) (by rfl) T.g__law_odd_guard T.F__law_odd_guard.kp T.b__law_odd_guard .nil (fun _ => .nil) pass0 (da_cons (d_var (i := 1)) da_nil)))
      (dss_cons (ds_if (dt_cmp (opK rNeA rfl (op_neA (hu64 hr))) (od_ne (K := K)) (d_callB (crK rRepQ rfl (cr_repQ hr hgd0)) (cd_repQ (K := K)) (by rfl) T.n_repr (by decide +kernel) (da_cons (d_share (d_lst (da_cons (d_callPK rfl (ok_is_guard T) (hr.mono (by decide)) (by rfl) T.g_is_guard T.F_is_guard.kp T.b_is_guard .nil (fun _ => .nil) pass0 (da_cons (d_var (i := 9)) da_nil)) (da_cons (d_cmp (op_ownIn (VL.FnOk.r0 (ok_Lot___contains__ T) T.b_Lot___contains__) (hr.mono (by decide)) pass0 T.du_Lot___contains__) (od_ownIn T.cn_Lot false) (d_var (i := 9)) (d_var (i := 6)) (by rfl)) (da_cons (d_callKwPK (ks := ["value"]) rfl (ok_is_guard T) (hr.mono (by decide)) (by rfl) T.g_is_guard T.F_is_guard.kp T.km_is_guard pass0 (dk_cons (d_var (i := 9)) dk_nil)) da_nil))))) da_nil)) (d_callB (crK rRepQ rfl (cr_repQ hr hgd0)) (cd_repQ (K := K)) (by rfl) T.n_repr (by decide +kernel) (da_cons (d_share (d_lst (da_cons (d_cmp (opK (fun K => rInOwn K _ _ _) rfl (op_inOwn (VL.FnOk.r0 (ok_Lot___eq__ T) T.b_Lot___eq__) (hr.mono (by decide)) (hu65 hr) pass0 T.du_Lot___eq__ T.st_Lot)) (od_inOwn T.cn_Lot) (d_var (i := 9)) (d_var (i := 2)) (by rfl)) (da_cons (d_cmp (opK (fun K => rInOwn K _ _ _) rfl (op_inOwn (VL.FnOk.r0 (ok_Lot___eq__ T) T.b_Lot___eq__) (hr.mono (by decide)) (hu65 hr) pass0 T.du_Lot___eq__ T.st_Lot)) (od_inOwn T.cn_Lot) (d_var (i := 9)) (d_var (i := 4)) (by rfl)) (da_cons (d_cmp (opK (fun K => rInOwn K _ _ _) rfl (op_inOwn (VL.FnOk.r0 (ok_Lot___eq__ T) T.b_Lot___eq__) (hr.mono (by decide)) (hu65 hr) pass0 T.du_Lot___eq__ T.st_Lot)) (od_inOwn T.cn_Lot) (d_var (i := 9)) (d_var (i := 2)) (by rfl)) da_nil))))) da_nil)) (nomark _)) (dss_one (ds_ret d_bl)) dss_nil)
      (dss_one (ds_if (dt_cmp (opK rNeA rfl (op_neA (hu64 hr))) (od_ne (K := K)) (d_share (d_lc (own := [("_law_thing", 10)]) rfl sc_law.nd (di_any rfl (d_share (d_lst (da_cons d_non (da_cons d_int (da_cons (d_prop rfl T.cn_Lot (fun po => pe_prop po T.cl_Lot T.pr_Lot_guards (ok_Lot_guards T) (hr.mono (by decide)) T.b_Lot_guards .nil pass0 rfl) (d_var (i := 6))) (da_cons (d_var (i := 4)) (da_cons d_str da_nil)))))))) (blkOk_by (own := [("_law_thing", 10)]) (by kernel_rfl)) (fun _ _ _ _ _ => (dg_name (j := 10) sc_law.nd rfl (by first | exact Or.inl rfl | exact Or.inr rfl))) (fun _ _ _ _ _ => (dts_one (dt_cmp (opK (fun K => rOwnEq K _ _ _) rfl (op_ownEq (VL.FnOk.r0 (ok_Lot___eq__ T) T.b_Lot___eq__) (hr.mono (by decide)) pass0 T.du_Lot___eq__)) (od_ownEq T.cn_Lot) (d_var (i := 6)) (d_var (i := 10)) (nomark _)))) (fun _ _ _ _ _ => (d_var (i := 10))) (by decide))) (d_share (d_lst da_nil)) (nomark _)) (dss_one (ds_ret d_bl)) dss_nil)))))))))))))
      (dss_cons (ds_set (j := 11) sc_law.nd rfl (by first | exact Or.inl rfl | exact Or.inr rfl) (d_cmeth0 rfl (by rfl) T.g_Lot T.cr_Lot T.cm_Lot_every (VL.FnOk.r0 (ok_Lot_every T) T.b_Lot_every) (hr.mono (by decide)) pass0))
      (dss_one (ds_ret (d_and (d_cmp (opK rEqA rfl (op_eqA (hu64 hr))) (od_eq (K := K)) (d_share (df_callTy (crK rListB rfl (cr_listB rfl)) (cf_listB (K := K)) (by rfl) T.n_list (by decide +kernel) (da_cons (d_prop rfl T.cn_Lot (fun po => pe_prop po T.cl_Lot T.pr_Lot_guards (ok_Lot_guards T) (hr.mono (by decide)) T.b_Lot_guards .nil pass0 rfl) (d_var (i := 11))) da_nil))) (d_var (i := 2)) (nomark _)) (d_and (d_cmp (opK rEqA rfl (op_eqA (hu64 hr))) (od_eq (K := K)) (d_callB (cr_ownLen (VL.FnOk.r0 (ok_Lot___len__ T) T.b_Lot___len__) (hr.mono (by decide)) pass0 T.du_Lot___len__) (cd_ownLen T.cn_Lot) (by rfl) T.n_len (by decide +kernel) (da_cons (d_makeS rfl xok_never (fun pa => pe_makeR0 T.mk_Lot (okx_Lot___init__ T) (hr.mono (by decide)) (by rfl) T.g_Lot passL) da_nil) da_nil)) d_int (nomark _)) (d_and (d_cmp (opK rEqA rfl (op_eqA (hu64 hr))) (od_eq (K := K)) (d_prop rfl T.cn_Lot (fun po => pe_prop po T.cl_Lot T.pr_Lot_guards (ok_Lot_guards T) (hr.mono (by decide)) T.b_Lot_guards .nil pass0 rfl) (d_makeS rfl xok_never (fun pa => pe_makeR0 T.mk_Lot (okx_Lot___init__ T) (hr.mono (by decide)) (by rfl) T.g_Lot passL) da_nil)) (d_tup da_nil) (nomark _)) (d_one (d_cmp (opK rEqA rfl (op_eqA (hu64 hr))) (od_eq (K := K)) (d_callB (crK rLenB rfl cr_lenB) (cd_lenB (K := K)) (by rfl) T.n_len (by decide +kernel) (da_cons (d_var (i := 2)) da_nil)) d_int (nomark _)))))))))))⟩
    obtain ⟨ts, hts⟩ := rest
    have first : DS (W1 []) (cxOf CX0 P w K mg base N_law "law" (defScope s_law) T.a_law cdv A outer s H E).nox ((defBody s_law).headD (.Pass ⟨0, 0, 0, 0⟩)) _ _ := (ds_set (j := 1) sc_law.nd rfl (by first | exact Or.inl rfl | exact Or.inr rfl) (d_callPK rfl (ok__law_begin T) (hr.mono (by decide)) (by rfl) T.g__law_begin T.F__law_begin.kp T.b__law_begin .nil (fun _ => .nil) pass0 (da_cons (d_var (i := 0)) da_nil)))
    exact ⟨_, (pss_cons first.ps (hts (W1 []) _ _ rfl).ps).nox, law_body (m := 10) rfl (fun W d c hJ => (hts W d c hJ).ad) (fun d ns hl => rdl_law d ns hl) h⟩
theorem txt_mk {P : Program} {K : PySem.W.Frag} {h : Heap} {mg : Str → Option Value} (X : K.In h) (G : h.Ns mainGlobals mg)
    {f0 : Addr} {od0 an0 : Option Addr} {sl0 : Array (Option Value)} {oc0 kV0 dc0 pm0 cd0 ct0 : Value}
    {f1 : Addr} {od1 an1 : Option Addr} {sl1 : Array (Option Value)} {oc1 kV1 dc1 pm1 cd1 ct1 : Value}
    {f2 : Addr} {od2 an2 : Option Addr} {sl2 : Array (Option Value)} {oc2 kV2 dc2 pm2 cd2 ct2 : Value}
    {f3 : Addr} {od3 an3 : Option Addr} {sl3 : Array (Option Value)} {oc3 kV3 dc3 pm3 cd3 ct3 : Value}
    {f4 : Addr} {od4 an4 : Option Addr} {sl4 : Array (Option Value)} {oc4 kV4 dc4 pm4 cd4 ct4 : Value}
    {f5 : Addr} {od5 an5 : Option Addr} {sl5 : Array (Option Value)} {oc5 kV5 dc5 pm5 cd5 ct5 : Value}
    {f6 : Addr} {od6 an6 : Option Addr} {sl6 : Array (Option Value)} {oc6 kV6 dc6 pm6 cd6 ct6 : Value}
    {f7 : Addr} {od7 an7 : Option Addr} {sl7 : Array (Option Value)} {oc7 kV7 dc7 pm7 cd7 ct7 : Value}
    {f8 : Addr} {od8 an8 : Option Addr} {sl8 : Array (Option Value)} {oc8 kV8 dc8 pm8 ct8 : Value}
    {f9 : Addr} {od9 an9 : Option Addr} {sl9 : Array (Option Value)} {oc9 kV9 dc9 pm9 cd9 ct9 : Value}
    {f10 : Addr} {od10 an10 : Option Addr} {sl10 : Array (Option Value)} {oc10 kV10 dc10 pm10 cd10 ct10 : Value}
    {f11 : Addr} {od11 an11 : Option Addr} {sl11 : Array (Option Value)} {oc11 kV11 dc11 pm11 cd11 ct11 : Value}
    {f12 : Addr} {od12 an12 : Option Addr} {sl12 : Array (Option Value)} {oc12 kV12 dc12 pm12 cd12 ct12 : Value}
    {f13 : Addr} {od13 an13 : Option Addr} {sl13 : Array (Option Value)} {oc13 kV13 dc13 pm13 cd13 ct13 : Value}
    {f14 : Addr} {od14 an14 : Option Addr} {sl14 : Array (Option Value)} {oc14 kV14 dc14 pm14 cd14 ct14 : Value}
    {f15 : Addr} {od15 an15 : Option Addr} {sl15 : Array (Option Value)} {oc15 kV15 dc15 pm15 cd15 ct15 : Value}
    {f16 : Addr} {od16 an16 : Option Addr} {sl16 : Array (Option Value)} {oc16 kV16 dc16 pm16 cd16 ct16 : Value}
    {f17 : Addr} {od17 an17 : Option Addr} {sl17 : Array (Option Value)} {oc17 kV17 dc17 pm17 cd17 ct17 : Value}
    {f18 : Addr} {od18 an18 : Option Addr} {sl18 : Array (Option Value)} {oc18 kV18 dc18 pm18 cd18 ct18 : Value}
    {f19 : Addr} {od19 an19 : Option Addr} {sl19 : Array (Option Value)} {oc19 kV19 dc19 pm19 cd19 ct19 : Value}
    {f20 : Addr} {od20 an20 : Option Addr} {sl20 : Array (Option Value)} {oc20 kV20 dc20 pm20 cd20 ct20 : Value}
    {f21 : Addr} {od21 an21 : Option Addr} {sl21 : Array (Option Value)} {oc21 kV21 dc21 pm21 cd21 ct21 : Value}
    {C_Lot : Addr}
    {C_BadGuard : Addr}
    {cda8 cc8 : Addr}
    {pp1 : Addr} {rs1 : List Value}
    {pp14 : Addr} {rs14 : List Value}
    {Q_GUARDS : Addr}
    (cn_Lot : PySem.W.nsIn K mainGlobals "Lot" = some (some (.ref C_Lot)))
    (cn_BadGuard : PySem.W.nsIn K mainGlobals "BadGuard" = some (some (.ref C_BadGuard)))
    (a0 : PySem.W.nsIn K mainGlobals "is_guard" = some (some (.ref f0)))
    (l0 : K.lookup f0 = some ⟨oc0, od0, .func (PySem.W.fnOf "is_guard" "is_guard" (defArgs s_is_guard) (defBody s_is_guard) (defScope s_is_guard) .none kV0 dc0 pm0 an0 cd0 ct0), sl0⟩)
    (c0 : PySem.W.codeIn K cd0 "is_guard" = true)
    (k0 : PySem.W.keepIn K (.ref f0) = true)
    (a1 : PySem.W.findIn K (.ref C_Lot) "guards" = some (some (.ref pp1)))
    (pr1 : PySem.W.recIn K pp1 "property" = some (.ref f1 :: rs1))
    (pget1 : PySem.W.specialIn K (.ref pp1) "__get__" = some (some (.builtin "property.__get__")))
    (ptak1 : PySem.W.takesIn K (.ref pp1) = some true)
    (l1 : K.lookup f1 = some ⟨oc1, od1, .func (PySem.W.fnOf "guards" "Lot.guards" (defArgs s_Lot_guards) (defBody s_Lot_guards) (defScope s_Lot_guards) .none kV1 dc1 pm1 an1 cd1 ct1), sl1⟩)
    (c1 : PySem.W.codeIn K cd1 "Lot.guards" = true)
    (k1 : PySem.W.keepIn K (.ref f1) = true)
    (i1 : PySem.W.isFn K (.ref f1) = true)
    (a2 : PySem.W.findIn K (.ref C_Lot) "__len__" = some (some (.ref f2)))
    (l2 : K.lookup f2 = some ⟨oc2, od2, .func (PySem.W.fnOf "__len__" "Lot.__len__" (defArgs s_Lot___len__) (defBody s_Lot___len__) (defScope s_Lot___len__) .none kV2 dc2 pm2 an2 cd2 ct2), sl2⟩)
    (c2 : PySem.W.codeIn K cd2 "Lot.__len__" = true)
    (k2 : PySem.W.keepIn K (.ref f2) = true)
    (i2 : PySem.W.isFn K (.ref f2) = true)
    (a3 : PySem.W.findIn K (.ref C_Lot) "__eq__" = some (some (.ref f3)))
    (l3 : K.lookup f3 = some ⟨oc3, od3, .func (PySem.W.fnOf "__eq__" "Lot.__eq__" (defArgs s_Lot___eq__) (defBody s_Lot___eq__) (defScope s_Lot___eq__) .none kV3 dc3 pm3 an3 cd3 ct3), sl3⟩)
    (c3 : PySem.W.codeIn K cd3 "Lot.__eq__" = true)
    (k3 : PySem.W.keepIn K (.ref f3) = true)
    (i3 : PySem.W.isFn K (.ref f3) = true)
    (a4 : PySem.W.findIn K (.ref C_Lot) "is_within" = some (some (.ref f4)))
    (l4 : K.lookup f4 = some ⟨oc4, od4, .func (PySem.W.fnOf "is_within" "Lot.is_within" (defArgs s_Lot_is_within) (defBody s_Lot_is_within) (defScope s_Lot_is_within) .none kV4 dc4 pm4 an4 cd4 ct4), sl4⟩)
    (c4 : PySem.W.codeIn K cd4 "Lot.is_within" = true)
    (k4 : PySem.W.keepIn K (.ref f4) = true)
    (i4 : PySem.W.isFn K (.ref f4) = true)
    (a5 : PySem.W.nsIn K mainGlobals "_law_begin" = some (some (.ref f5)))
    (l5 : K.lookup f5 = some ⟨oc5, od5, .func (PySem.W.fnOf "_law_begin" "_law_begin" (defArgs s__law_begin) (defBody s__law_begin) (defScope s__law_begin) .none kV5 dc5 pm5 an5 cd5 ct5), sl5⟩)
    (c5 : PySem.W.codeIn K cd5 "_law_begin" = true)
    (k5 : PySem.W.keepIn K (.ref f5) = true)
    (a6 : PySem.W.nsIn K mainGlobals "_law_take" = some (some (.ref f6)))
    (l6 : K.lookup f6 = some ⟨oc6, od6, .func (PySem.W.fnOf "_law_take" "_law_take" (defArgs s__law_take) (defBody s__law_take) (defScope s__law_take) .none kV6 dc6 pm6 an6 cd6 ct6), sl6⟩)
    (c6 : PySem.W.codeIn K cd6 "_law_take" = true)
    (k6 : PySem.W.keepIn K (.ref f6) = true)
    (a7 : PySem.W.nsIn K mainGlobals "_law_all_guards" = some (some (.ref f7)))
    (l7 : K.lookup f7 = some ⟨oc7, od7, .func (PySem.W.fnOf "_law_all_guards" "_law_all_guards" (defArgs s__law_all_guards) (defBody s__law_all_guards) (defScope s__law_all_guards) .none kV7 dc7 pm7 an7 cd7 ct7), sl7⟩)
    (c7 : PySem.W.codeIn K cd7 "_law_all_guards" = true)
    (k7 : PySem.W.keepIn K (.ref f7) = true)
    (a8 : PySem.W.findIn K (.ref C_BadGuard) "__init__" = some (some (.ref f8)))
    (l8 : K.lookup f8 = some ⟨oc8, od8, .func (PySem.W.ksFn "__init__" "BadGuard.__init__" (defArgs s_BadGuard___init__) (defBody s_BadGuard___init__) (defScope s_BadGuard___init__) .none kV8 dc8 pm8 an8 (.ref cda8) ct8 cc8), sl8⟩)
    (c8 : PySem.W.codeIn K (.ref cda8) "BadGuard.__init__" = true)
    (lc8 : cdaB K cda8 P.main.file = true)
    (lk8 : ccB K cc8 C_BadGuard = true)
    (tI8 : PySem.W.typeIn K (.ref f8) = some (.type "function"))
    (a9 : PySem.W.findIn K (.ref C_Lot) "__contains__" = some (some (.ref f9)))
    (l9 : K.lookup f9 = some ⟨oc9, od9, .func (PySem.W.fnOf "__contains__" "Lot.__contains__" (defArgs s_Lot___contains__) (defBody s_Lot___contains__) (defScope s_Lot___contains__) .none kV9 dc9 pm9 an9 cd9 ct9), sl9⟩)
    (c9 : PySem.W.codeIn K cd9 "Lot.__contains__" = true)
    (k9 : PySem.W.keepIn K (.ref f9) = true)
    (i9 : PySem.W.isFn K (.ref f9) = true)
    (a10 : PySem.W.nsIn K mainGlobals "_law_pick" = some (some (.ref f10)))
    (l10 : K.lookup f10 = some ⟨oc10, od10, .func (PySem.W.fnOf "_law_pick" "_law_pick" (defArgs s__law_pick) (defBody s__law_pick) (defScope s__law_pick) .none kV10 dc10 pm10 an10 cd10 ct10), sl10⟩)
    (c10 : PySem.W.codeIn K cd10 "_law_pick" = true)
    (k10 : PySem.W.keepIn K (.ref f10) = true)
    (a11 : PySem.W.nsIn K mainGlobals "_law_mixed" = some (some (.ref f11)))
    (l11 : K.lookup f11 = some ⟨oc11, od11, .func (PySem.W.fnOf "_law_mixed" "_law_mixed" (defArgs s__law_mixed) (defBody s__law_mixed) (defScope s__law_mixed) .none kV11 dc11 pm11 an11 cd11 ct11), sl11⟩)
    (c11 : PySem.W.codeIn K cd11 "_law_mixed" = true)
    (k11 : PySem.W.keepIn K (.ref f11) = true)
    (a12 : PySem.W.nsIn K mainGlobals "_law_guards" = some (some (.ref f12)))
    (l12 : K.lookup f12 = some ⟨oc12, od12, .func (PySem.W.fnOf "_law_guards" "_law_guards" (defArgs s__law_guards) (defBody s__law_guards) (defScope s__law_guards) .none kV12 dc12 pm12 an12 cd12 ct12), sl12⟩)
    (c12 : PySem.W.codeIn K cd12 "_law_guards" = true)
    (k12 : PySem.W.keepIn K (.ref f12) = true)
    (a13 : PySem.W.findIn K (.ref C_Lot) "__init__" = some (some (.ref f13)))
    (l13 : K.lookup f13 = some ⟨oc13, od13, .func (PySem.W.fnOf "__init__" "Lot.__init__" (defArgs s_Lot___init__) (defBody s_Lot___init__) (defScope s_Lot___init__) .none kV13 dc13 pm13 an13 cd13 ct13), sl13⟩)
    (c13 : PySem.W.codeIn K cd13 "Lot.__init__" = true)
    (k13 : PySem.W.keepIn K (.ref f13) = true)
    (i13 : PySem.W.isFn K (.ref f13) = true)
    (a14 : PySem.W.findIn K (.ref C_Lot) "every" = some (some (.ref pp14)))
    (pr14 : PySem.W.recIn K pp14 "classmethod" = some (.ref f14 :: rs14))
    (fc14 : PySem.W.findCls K (.ref C_Lot) (.type "type") "every" = some (.get (.builtin "classmethod.__get__") (.ref pp14) .none (.ref C_Lot)))
    (fi14 : PySem.W.fnIn K f14 = true)
    (l14 : K.lookup f14 = some ⟨oc14, od14, .func (PySem.W.fnOf "every" "Lot.every" (defArgs s_Lot_every) (defBody s_Lot_every) (defScope s_Lot_every) .none kV14 dc14 pm14 an14 cd14 ct14), sl14⟩)
    (c14 : PySem.W.codeIn K cd14 "Lot.every" = true)
    (k14 : PySem.W.keepIn K (.ref f14) = true)
    (i14 : PySem.W.isFn K (.ref f14) = true)
    (a15 : PySem.W.findIn K (.ref C_Lot) "__or__" = some (some (.ref f15)))
    (l15 : K.lookup f15 = some ⟨oc15, od15, .func (PySem.W.fnOf "__or__" "Lot.__or__" (defArgs s_Lot___or__) (defBody s_Lot___or__) (defScope s_Lot___or__) .none kV15 dc15 pm15 an15 cd15 ct15), sl15⟩)
    (c15 : PySem.W.codeIn K cd15 "Lot.__or__" = true)
    (k15 : PySem.W.keepIn K (.ref f15) = true)
    (i15 : PySem.W.isFn K (.ref f15) = true)
    (a16 : PySem.W.findIn K (.ref C_Lot) "__and__" = some (some (.ref f16)))
    (l16 : K.lookup f16 = some ⟨oc16, od16, .func (PySem.W.fnOf "__and__" "Lot.__and__" (defArgs s_Lot___and__) (defBody s_Lot___and__) (defScope s_Lot___and__) .none kV16 dc16 pm16 an16 cd16 ct16), sl16⟩)
    (c16 : PySem.W.codeIn K cd16 "Lot.__and__" = true)
    (k16 : PySem.W.keepIn K (.ref f16) = true)
    (i16 : PySem.W.isFn K (.ref f16) = true)
    (a17 : PySem.W.findIn K (.ref C_Lot) "__sub__" = some (some (.ref f17)))
    (l17 : K.lookup f17 = some ⟨oc17, od17, .func (PySem.W.fnOf "__sub__" "Lot.__sub__" (defArgs s_Lot___sub__) (defBody s_Lot___sub__) (defScope s_Lot___sub__) .none kV17 dc17 pm17 an17 cd17 ct17), sl17⟩)
    (c17 : PySem.W.codeIn K cd17 "Lot.__sub__" = true)
    (k17 : PySem.W.keepIn K (.ref f17) = true)
    (i17 : PySem.W.isFn K (.ref f17) = true)
    (a18 : PySem.W.nsIn K mainGlobals "_law_odd_guard" = some (some (.ref f18)))
    (l18 : K.lookup f18 = some ⟨oc18, od18, .func (PySem.W.fnOf "_law_odd_guard" "_law_odd_guard" (defArgs s__law_odd_guard) (defBody s__law_odd_guard) (defScope s__law_odd_guard) .none kV18 dc18 pm18 an18 cd18 ct18), sl18⟩)
    (c18 : PySem.W.codeIn K cd18 "_law_odd_guard" = true)
    (k18 : PySem.W.keepIn K (.ref f18) = true)
    (a19 : PySem.W.nsIn K mainGlobals "_law_real_lot" = some (some (.ref f19)))
    (l19 : K.lookup f19 = some ⟨oc19, od19, .func (PySem.W.fnOf "_law_real_lot" "_law_real_lot" (defArgs s__law_real_lot) (defBody s__law_real_lot) (defScope s__law_real_lot) .none kV19 dc19 pm19 an19 cd19 ct19), sl19⟩)
    (c19 : PySem.W.codeIn K cd19 "_law_real_lot" = true)
    (k19 : PySem.W.keepIn K (.ref f19) = true)
    (a20 : PySem.W.nsIn K mainGlobals "_law_sets_right" = some (some (.ref f20)))
    (l20 : K.lookup f20 = some ⟨oc20, od20, .func (PySem.W.fnOf "_law_sets_right" "_law_sets_right" (defArgs s__law_sets_right) (defBody s__law_sets_right) (defScope s__law_sets_right) .none kV20 dc20 pm20 an20 cd20 ct20), sl20⟩)
    (c20 : PySem.W.codeIn K cd20 "_law_sets_right" = true)
    (k20 : PySem.W.keepIn K (.ref f20) = true)
    (a21 : PySem.W.nsIn K mainGlobals "law" = some (some (.ref f21)))
    (l21 : K.lookup f21 = some ⟨oc21, od21, .func (PySem.W.fnOf "law" "law" (defArgs s_law) (defBody s_law) (defScope s_law) .none kV21 dc21 pm21 an21 cd21 ct21), sl21⟩)
    (c21 : PySem.W.codeIn K cd21 "law" = true)
    (k21 : PySem.W.keepIn K (.ref f21) = true)
    (pg_Lot : PySem.W.plainGet K C_Lot Str.empty = true)
    (hd_Lot : PySem.W.hasDictIn K C_Lot = true)
    (po_Lot : PySem.W.plainOver K C_Lot = true)
    (sa_Lot : PySem.W.findIn K (.ref C_Lot) "__setattr__" = some (some (.builtin "object.__setattr__")))
    (crd_Lot : PySem.W.readsIn K C_Lot (.type "type") = true)
    (cga_Lot : PySem.W.specialIn K (.ref C_Lot) "__getattribute__" = some (some (.builtin "type.__getattribute__")))
    (ox_BadGuard : oexB K C_BadGuard = true)
    (ni_BadGuard : PySem.W.findIn K (.ref C_BadGuard) "guard" = some none)
    (mro_BadGuard : PySem.W.mroIn K C_BadGuard (.ref C_BadGuard) = some true)
    (sup_BadGuard : PySem.W.ks_superIn K C_BadGuard C_BadGuard "__init__" = some (some (.builtin "ValueError.__init__")))
    (ve_BadGuard : PySem.W.subIn K (.ref C_BadGuard) (.type "ValueError") = some true)
    (opq : PySem.W.nsIn K cStatics "thirdparty.any" = some none)
    (top : (P.main.scope.names.lookup ("super" : Str)).isSome = false)
    (ms_Lot : PySem.W.makesIn K C_Lot = true)
    (mkp_Lot : PySem.W.keepIn K (.ref C_Lot) = true)
    (kcg : PySem.W.specialIn K (.builtin "object.__class__") "__get__" = some (some (.builtin "getset_descriptor.__get__")))
    (kct : PySem.W.takesIn K (.builtin "object.__class__") = some true)
    (kca_Lot : PySem.W.findIn K (.ref C_Lot) "__class__" = some (some (.builtin "object.__class__")))
    (kmo_Lot : PySem.W.mroIn K C_Lot (.type "object") = some true)
    (ksf_Lot : PySem.W.selfFirst K C_Lot = true)
    (kci_Lot : PySem.W.isClsIn K C_Lot = true)
    (kty_Lot : PySem.W.typeIn K (.ref C_Lot) = some (.type "type"))
    (ne_Lot : PySem.W.findIn K (.ref C_Lot) "__ne__" = some (some (.builtin "object.__ne__")))
    (mo_Lot : PySem.W.mroIn K C_Lot (.type "object") = some true)
    (na_Lot_own_guards : PySem.W.findIn K (.ref C_Lot) "own_guards" = some none)
    (mt_GUARDS : PySem.W.nsIn K mainGlobals "GUARDS" = some (some (.ref Q_GUARDS)))
    (tt_GUARDS : tupTB K Q_GUARDS L_GUARDS = true)
    (st_Lot : PySem.W.subIn K (.ref C_Lot) (.type "tuple") = some false)
    (io_Lot_tuple : PySem.W.kitOne K (.ref C_Lot) (.type "tuple") = some false)
    (n_abs : PySem.W.nsIn K mainGlobals "abs" = some none)
    (n_all : PySem.W.nsIn K mainGlobals "all" = some none)
    (n_int : PySem.W.nsIn K mainGlobals "int" = some none)
    (n_isinstance : PySem.W.nsIn K mainGlobals "isinstance" = some none)
    (n_len : PySem.W.nsIn K mainGlobals "len" = some none)
    (n_list : PySem.W.nsIn K mainGlobals "list" = some none)
    (n_min : PySem.W.nsIn K mainGlobals "min" = some none)
    (n_range : PySem.W.nsIn K mainGlobals "range" = some none)
    (n_repr : PySem.W.nsIn K mainGlobals "repr" = some none)
    (n_set : PySem.W.nsIn K mainGlobals "set" = some none)
    (n_sorted : PySem.W.nsIn K mainGlobals "sorted" = some none)
    (n_super : PySem.W.nsIn K mainGlobals "super" = some none)
    (n_tuple : PySem.W.nsIn K mainGlobals "tuple" = some none)
    : ∃ T : Txt P K mg, T.a_law = f21 ∧ ∀ (s : Shared) (v : Value), BindsTo s T.fd_law ⟨[v], []⟩ [("_law_script", v)] := by
  have F0 := fun_mk (st := s_is_guard) l0 c0 k0
  have b0 := F0.binds (ps := ["value"]) fun _ _ _ _ _ _ us hl => match us, hl with | [_], _ => rfl
  have F1 := fun_mk (st := s_Lot_guards) l1 c1 k1
  have b1 := F1.binds (ps := ["self"]) fun _ _ _ _ _ _ us hl => match us, hl with | [_], _ => rfl
  have F2 := fun_mk (st := s_Lot___len__) l2 c2 k2
  have b2 := F2.binds (ps := ["self"]) fun _ _ _ _ _ _ us hl => match us, hl with | [_], _ => rfl
  have F3 := fun_mk (st := s_Lot___eq__) l3 c3 k3
  have b3 := F3.binds (ps := ["self", "other"]) fun _ _ _ _ _ _ us hl => match us, hl with | [_, _], _ => rfl
  have F4 := fun_mk (st := s_Lot_is_within) l4 c4 k4
  have b4 := F4.binds (ps := ["self", "other"]) fun _ _ _ _ _ _ us hl => match us, hl with | [_, _], _ => rfl
  have F5 := fun_mk (st := s__law_begin) l5 c5 k5
  have b5 := F5.binds (ps := ["_law_script"]) fun _ _ _ _ _ _ us hl => match us, hl with | [_], _ => rfl
  have F6 := fun_mk (st := s__law_take) l6 c6 k6
  have b6 := F6.binds (ps := ["_law_draw", "_law_many"]) fun _ _ _ _ _ _ us hl => match us, hl with | [_, _], _ => rfl
  have F7 := fun_mk (st := s__law_all_guards) l7 c7 k7
  have b7 := F7.binds (ps := []) fun _ _ _ _ _ _ us hl => match us, hl with | [], _ => rfl
  have F8 := funS_mk (P := P) (st := s_BadGuard___init__) l8 c8 lc8 lk8
  have F9 := fun_mk (st := s_Lot___contains__) l9 c9 k9
  have b9 := F9.binds (ps := ["self", "guard"]) fun _ _ _ _ _ _ us hl => match us, hl with | [_, _], _ => rfl
  have F10 := fun_mk (st := s__law_pick) l10 c10 k10
  have b10 := F10.binds (ps := ["_law_draw", "_law_some"]) fun _ _ _ _ _ _ us hl => match us, hl with | [_, _], _ => rfl
  have F11 := fun_mk (st := s__law_mixed) l11 c11 k11
  have b11 := F11.binds (ps := ["_law_draw", "_law_some"]) fun _ _ _ _ _ _ us hl => match us, hl with | [_, _], _ => rfl
  have F12 := fun_mk (st := s__law_guards) l12 c12 k12
  have b12 := F12.binds (ps := ["_law_draw", "_law_upto"]) fun _ _ _ _ _ _ us hl => match us, hl with | [_, _], _ => rfl
  have F13 := fun_mk (st := s_Lot___init__) l13 c13 k13
  have F14 := fun_mk (st := s_Lot_every) l14 c14 k14
  have b14 := F14.binds (ps := ["cls"]) fun _ _ _ _ _ _ us hl => match us, hl with | [_], _ => rfl
  have F15 := fun_mk (st := s_Lot___or__) l15 c15 k15
  have b15 := F15.binds (ps := ["self", "other"]) fun _ _ _ _ _ _ us hl => match us, hl with | [_, _], _ => rfl
  have F16 := fun_mk (st := s_Lot___and__) l16 c16 k16
  have b16 := F16.binds (ps := ["self", "other"]) fun _ _ _ _ _ _ us hl => match us, hl with | [_, _], _ => rfl
  have F17 := fun_mk (st := s_Lot___sub__) l17 c17 k17
  have b17 := F17.binds (ps := ["self", "other"]) fun _ _ _ _ _ _ us hl => match us, hl with | [_, _], _ => rfl
  have F18 := fun_mk (st := s__law_odd_guard) l18 c18 k18
  have b18 := F18.binds (ps := ["_law_draw"]) fun _ _ _ _ _ _ us hl => match us, hl with | [_], _ => rfl
  have F19 := fun_mk (st := s__law_real_lot) l19 c19 k19
  have b19 := F19.binds (ps := ["_law_kinds"]) fun _ _ _ _ _ _ us hl => match us, hl with | [_], _ => rfl
  have F20 := fun_mk (st := s__law_sets_right) l20 c20 k20
  have b20 := F20.binds (ps := ["_law_mine", "_law_yours", "_law_one", "_law_other"]) fun _ _ _ _ _ _ us hl => match us, hl with | [_, _, _, _], _ => rfl
  have F21 := fun_mk (st := s_law) l21 c21 k21
  have b21 := F21.binds (ps := ["_law_script"]) fun _ _ _ _ _ _ us hl => match us, hl with | [_], _ => rfl
  exact ⟨{ a_is_guard := f0, fd_is_guard := (_), F_is_guard := F0, b_is_guard := b0, g_is_guard := PySem.W.mg_of X G a0, a_Lot_guards := f1, fd_Lot_guards := (_), F_Lot_guards := F1, b_Lot_guards := b1, a_Lot___len__ := f2, fd_Lot___len__ := (_), F_Lot___len__ := F2, b_Lot___len__ := b2, a_Lot___eq__ := f3, fd_Lot___eq__ := (_), F_Lot___eq__ := F3, b_Lot___eq__ := b3, a_Lot_is_within := f4, fd_Lot_is_within := (_), F_Lot_is_within := F4, b_Lot_is_within := b4, a__law_begin := f5, fd__law_begin := (_), F__law_begin := F5, b__law_begin := b5, g__law_begin := PySem.W.mg_of X G a5, a__law_take := f6, fd__law_take := (_), F__law_take := F6, b__law_take := b6, g__law_take := PySem.W.mg_of X G a6, a__law_all_guards := f7, fd__law_all_guards := (_), F__law_all_guards := F7, b__law_all_guards := b7, g__law_all_guards := PySem.W.mg_of X G a7, a_BadGuard___init__ := f8, fd_BadGuard___init__ := (_), FS_BadGuard := F8, b_BadGuard___init__ := Binds.all fun us hl => match us, hl with | [_, _], _ => rfl, kb_BadGuard := fun s a u => .of_eq rfl, a_Lot___contains__ := f9, fd_Lot___contains__ := (_), F_Lot___contains__ := F9, b_Lot___contains__ := b9, a__law_pick := f10, fd__law_pick := (_), F__law_pick := F10, b__law_pick := b10, g__law_pick := PySem.W.mg_of X G a10, a__law_mixed := f11, fd__law_mixed := (_), F__law_mixed := F11, b__law_mixed := b11, g__law_mixed := PySem.W.mg_of X G a11, a__law_guards := f12, fd__law_guards := (_), F__law_guards := F12, b__law_guards := b12, g__law_guards := PySem.W.mg_of X G a12, a_Lot___init__ := f13, fd_Lot___init__ := (_), F_Lot___init__ := F13, bs_Lot___init__ := starB_mk (fun _ => rfl) (fun _ _ _ => rfl), a_Lot_every := f14, fd_Lot_every := (_), F_Lot_every := F14, b_Lot_every := b14, a_Lot___or__ := f15, fd_Lot___or__ := (_), F_Lot___or__ := F15, b_Lot___or__ := b15, a_Lot___and__ := f16, fd_Lot___and__ := (_), F_Lot___and__ := F16, b_Lot___and__ := b16, a_Lot___sub__ := f17, fd_Lot___sub__ := (_), F_Lot___sub__ := F17, b_Lot___sub__ := b17, a__law_odd_guard := f18, fd__law_odd_guard := (_), F__law_odd_guard := F18, b__law_odd_guard := b18, g__law_odd_guard := PySem.W.mg_of X G a18, a__law_real_lot := f19, fd__law_real_lot := (_), F__law_real_lot := F19, b__law_real_lot := b19, g__law_real_lot := PySem.W.mg_of X G a19, a__law_sets_right := f20, fd__law_sets_right := (_), F__law_sets_right := F20, b__law_sets_right := b20, g__law_sets_right := PySem.W.mg_of X G a20, a_law := f21, fd_law := (_), F_law := F21, b_law := b21, g_law := PySem.W.mg_of X G a21, kl_Lot := ⟨cn_Lot, ⟨pg_Lot, hd_Lot, po_Lot, sa_Lot⟩, kca_Lot, kcg, kct, kmo_Lot, ksf_Lot, kci_Lot, kty_Lot⟩, ne_Lot := ne_Lot, mo_Lot := mo_Lot, q_GUARDS := Q_GUARDS, m_GUARDS := PySem.W.mg_of X G mt_GUARDS, r_GUARDS := fun H => tupTB_ok tt_GUARDS, st_Lot := st_Lot, io_Lot_tuple := io_Lot_tuple, km_is_guard := ⟨fun s us ws _ l1 l2 => (match us, ws, l1, l2 with | [], [_], _, _ => .of_eq rfl), fun r1 r2 => r2⟩, c_Lot := C_Lot, cn_Lot := cn_Lot, g_Lot := PySem.W.mg_of X G cn_Lot, cl_Lot := ⟨pg_Lot, hd_Lot, po_Lot, sa_Lot⟩, c_BadGuard := C_BadGuard, cn_BadGuard := cn_BadGuard, g_BadGuard := PySem.W.mg_of X G cn_BadGuard, ox_BadGuard := oexB_ok ox_BadGuard, iC_BadGuard := a8, tI_BadGuard := tI8, ni_BadGuard := ni_BadGuard, mro_BadGuard := mro_BadGuard, sup_BadGuard := sup_BadGuard, ve_BadGuard := ve_BadGuard, opq := opq, top := top, mk_Lot := ⟨ms_Lot, a13, i13, mkp_Lot⟩, me_Lot_is_within := ⟨a4, i4, k4⟩, pc_Lot_every := pp14, cm_Lot_every := ⟨fc14, ⟨_, pr14⟩, fi14⟩, cr_Lot := ⟨crd_Lot, cga_Lot⟩, p_Lot_guards := pp1, pr_Lot_guards := ⟨a1, pget1, ptak1, ⟨_, pr1⟩⟩, du_Lot___and__ := ⟨a16, i16⟩, du_Lot___contains__ := ⟨a9, i9⟩, du_Lot___eq__ := ⟨a3, i3⟩, du_Lot___len__ := ⟨a2, i2⟩, du_Lot___or__ := ⟨a15, i15⟩, du_Lot___sub__ := ⟨a17, i17⟩, na_Lot_own_guards := na_Lot_own_guards, n_abs := PySem.W.mg_none_of X G n_abs, n_all := PySem.W.mg_none_of X G n_all, n_int := PySem.W.mg_none_of X G n_int, n_isinstance := PySem.W.mg_none_of X G n_isinstance, n_len := PySem.W.mg_none_of X G n_len, n_list := PySem.W.mg_none_of X G n_list, n_min := PySem.W.mg_none_of X G n_min, n_range := PySem.W.mg_none_of X G n_range, n_repr := PySem.W.mg_none_of X G n_repr, n_set := PySem.W.mg_none_of X G n_set, n_sorted := PySem.W.mg_none_of X G n_sorted, n_super := PySem.W.mg_none_of X G n_super, n_tuple := PySem.W.mg_none_of X G n_tuple }, rfl, fun s v => .of_eq rfl⟩
theorem law_mk {P : Program} {w : World} {fa : Addr} {K : PySem.W.Frag} {h : Heap} {mg : Str → Option Value} (X : K.In h) (G : h.Ns mainGlobals mg) (hmg : mg "law" = some (.ref fa))
    {f0 : Addr} {od0 an0 : Option Addr} {sl0 : Array (Option Value)} {oc0 kV0 dc0 pm0 cd0 ct0 : Value}
    {f1 : Addr} {od1 an1 : Option Addr} {sl1 : Array (Option Value)} {oc1 kV1 dc1 pm1 cd1 ct1 : Value}
    {f2 : Addr} {od2 an2 : Option Addr} {sl2 : Array (Option Value)} {oc2 kV2 dc2 pm2 cd2 ct2 : Value}
    {f3 : Addr} {od3 an3 : Option Addr} {sl3 : Array (Option Value)} {oc3 kV3 dc3 pm3 cd3 ct3 : Value}
    {f4 : Addr} {od4 an4 : Option Addr} {sl4 : Array (Option Value)} {oc4 kV4 dc4 pm4 cd4 ct4 : Value}
    {f5 : Addr} {od5 an5 : Option Addr} {sl5 : Array (Option Value)} {oc5 kV5 dc5 pm5 cd5 ct5 : Value}
    {f6 : Addr} {od6 an6 : Option Addr} {sl6 : Array (Option Value)} {oc6 kV6 dc6 pm6 cd6 ct6 : Value}
    {f7 : Addr} {od7 an7 : Option Addr} {sl7 : Array (Option Value)} {oc7 kV7 dc7 pm7 cd7 ct7 : Value}
    {f8 : Addr} {od8 an8 : Option Addr} {sl8 : Array (Option Value)} {oc8 kV8 dc8 pm8 ct8 : Value}
    {f9 : Addr} {od9 an9 : Option Addr} {sl9 : Array (Option Value)} {oc9 kV9 dc9 pm9 cd9 ct9 : Value}
    {f10 : Addr} {od10 an10 : Option Addr} {sl10 : Array (Option Value)} {oc10 kV10 dc10 pm10 cd10 ct10 : Value}
    {f11 : Addr} {od11 an11 : Option Addr} {sl11 : Array (Option Value)} {oc11 kV11 dc11 pm11 cd11 ct11 : Value}
    {f12 : Addr} {od12 an12 : Option Addr} {sl12 : Array (Option Value)} {oc12 kV12 dc12 pm12 cd12 ct12 : Value}
    {f13 : Addr} {od13 an13 : Option Addr} {sl13 : Array (Option Value)} {oc13 kV13 dc13 pm13 cd13 ct13 : Value}
    {f14 : Addr} {od14 an14 : Option Addr} {sl14 : Array (Option Value)} {oc14 kV14 dc14 pm14 cd14 ct14 : Value}
    {f15 : Addr} {od15 an15 : Option Addr} {sl15 : Array (Option Value)} {oc15 kV15 dc15 pm15 cd15 ct15 : Value}
    {f16 : Addr} {od16 an16 : Option Addr} {sl16 : Array (Option Value)} {oc16 kV16 dc16 pm16 cd16 ct16 : Value}
    {f17 : Addr} {od17 an17 : Option Addr} {sl17 : Array (Option Value)} {oc17 kV17 dc17 pm17 cd17 ct17 : Value}
    {f18 : Addr} {od18 an18 : Option Addr} {sl18 : Array (Option Value)} {oc18 kV18 dc18 pm18 cd18 ct18 : Value}
    {f19 : Addr} {od19 an19 : Option Addr} {sl19 : Array (Option Value)} {oc19 kV19 dc19 pm19 cd19 ct19 : Value}
    {f20 : Addr} {od20 an20 : Option Addr} {sl20 : Array (Option Value)} {oc20 kV20 dc20 pm20 cd20 ct20 : Value}
    {f21 : Addr} {od21 an21 : Option Addr} {sl21 : Array (Option Value)} {oc21 kV21 dc21 pm21 cd21 ct21 : Value}
    {C_Lot : Addr}
    {C_BadGuard : Addr}
    {cda8 cc8 : Addr}
    {pp1 : Addr} {rs1 : List Value}
    {pp14 : Addr} {rs14 : List Value}
    {Q_GUARDS : Addr}
    (cn_Lot : PySem.W.nsIn K mainGlobals "Lot" = some (some (.ref C_Lot)))
    (cn_BadGuard : PySem.W.nsIn K mainGlobals "BadGuard" = some (some (.ref C_BadGuard)))
    (a0 : PySem.W.nsIn K mainGlobals "is_guard" = some (some (.ref f0)))
    (l0 : K.lookup f0 = some ⟨oc0, od0, .func (PySem.W.fnOf "is_guard" "is_guard" (defArgs s_is_guard) (defBody s_is_guard) (defScope s_is_guard) .none kV0 dc0 pm0 an0 cd0 ct0), sl0⟩)
    (c0 : PySem.W.codeIn K cd0 "is_guard" = true)
    (k0 : PySem.W.keepIn K (.ref f0) = true)
    (a1 : PySem.W.findIn K (.ref C_Lot) "guards" = some (some (.ref pp1)))
    (pr1 : PySem.W.recIn K pp1 "property" = some (.ref f1 :: rs1))
    (pget1 : PySem.W.specialIn K (.ref pp1) "__get__" = some (some (.builtin "property.__get__")))
    (ptak1 : PySem.W.takesIn K (.ref pp1) = some true)
    (l1 : K.lookup f1 = some ⟨oc1, od1, .func (PySem.W.fnOf "guards" "Lot.guards" (defArgs s_Lot_guards) (defBody s_Lot_guards) (defScope s_Lot_guards) .none kV1 dc1 pm1 an1 cd1 ct1), sl1⟩)
    (c1 : PySem.W.codeIn K cd1 "Lot.guards" = true)
    (k1 : PySem.W.keepIn K (.ref f1) = true)
    (i1 : PySem.W.isFn K (.ref f1) = true)
    (a2 : PySem.W.findIn K (.ref C_Lot) "__len__" = some (some (.ref f2)))
    (l2 : K.lookup f2 = some ⟨oc2, od2, .func (PySem.W.fnOf "__len__" "Lot.__len__" (defArgs s_Lot___len__) (defBody s_Lot___len__) (defScope s_Lot___len__) .none kV2 dc2 pm2 an2 cd2 ct2), sl2⟩)
    (c2 : PySem.W.codeIn K cd2 "Lot.__len__" = true)
    (k2 : PySem.W.keepIn K (.ref f2) = true)
    (i2 : PySem.W.isFn K (.ref f2) = true)
    (a3 : PySem.W.findIn K (.ref C_Lot) "__eq__" = some (some (.ref f3)))
    (l3 : K.lookup f3 = some ⟨oc3, od3, .func (PySem.W.fnOf "__eq__" "Lot.__eq__" (defArgs s_Lot___eq__) (defBody s_Lot___eq__) (defScope s_Lot___eq__) .none kV3 dc3 pm3 an3 cd3 ct3), sl3⟩)
    (c3 : PySem.W.codeIn K cd3 "Lot.__eq__" = true)
    (k3 : PySem.W.keepIn K (.ref f3) = true)
    (i3 : PySem.W.isFn K (.ref f3) = true)
    (a4 : PySem.W.findIn K (.ref C_Lot) "is_within" = some (some (.ref f4)))
    (l4 : K.lookup f4 = some ⟨oc4, od4, .func (PySem.W.fnOf "is_within" "Lot.is_within" (defArgs s_Lot_is_within) (defBody s_Lot_is_within) (defScope s_Lot_is_within) .none kV4 dc4 pm4 an4 cd4 ct4), sl4⟩)
    (c4 : PySem.W.codeIn K cd4 "Lot.is_within" = true)
    (k4 : PySem.W.keepIn K (.ref f4) = true)
    (i4 : PySem.W.isFn K (.ref f4) = true)
    (a5 : PySem.W.nsIn K mainGlobals "_law_begin" = some (some (.ref f5)))
    (l5 : K.lookup f5 = some ⟨oc5, od5, .func (PySem.W.fnOf "_law_begin" "_law_begin" (defArgs s__law_begin) (defBody s__law_begin) (defScope s__law_begin) .none kV5 dc5 pm5 an5 cd5 ct5), sl5⟩)
    (c5 : PySem.W.codeIn K cd5 "_law_begin" = true)
    (k5 : PySem.W.keepIn K (.ref f5) = true)
    (a6 : PySem.W.nsIn K mainGlobals "_law_take" = some (some (.ref f6)))
    (l6 : K.lookup f6 = some ⟨oc6, od6, .func (PySem.W.fnOf "_law_take" "_law_take" (defArgs s__law_take) (defBody s__law_take) (defScope s__law_take) .none kV6 dc6 pm6 an6 cd6 ct6), sl6⟩)
    (c6 : PySem.W.codeIn K cd6 "_law_take" = true)
    (k6 : PySem.W.keepIn K (.ref f6) = true)
    (a7 : PySem.W.nsIn K mainGlobals "_law_all_guards" = some (some (.ref f7)))
    (l7 : K.lookup f7 = some ⟨oc7, od7, .func (PySem.W.fnOf "_law_all_guards" "_law_all_guards" (defArgs s__law_all_guards) (defBody s__law_all_guards) (defScope s__law_all_guards) .none kV7 dc7 pm7 an7 cd7 ct7), sl7⟩)
    (c7 : PySem.W.codeIn K cd7 "_law_all_guards" = true)
    (k7 : PySem.W.keepIn K (.ref f7) = true)
    (a8 : PySem.W.findIn K (.ref C_BadGuard) "__init__" = some (some (.ref f8)))
    (l8 : K.lookup f8 = some ⟨oc8, od8, .func (PySem.W.ksFn "__init__" "BadGuard.__init__" (defArgs s_BadGuard___init__) (defBody s_BadGuard___init__) (defScope s_BadGuard___init__) .none kV8 dc8 pm8 an8 (.ref cda8) ct8 cc8), sl8⟩)
    (c8 : PySem.W.codeIn K (.ref cda8) "BadGuard.__init__" = true)
    (lc8 : cdaB K cda8 P.main.file = true)
    (lk8 : ccB K cc8 C_BadGuard = true)
    (tI8 : PySem.W.typeIn K (.ref f8) = some (.type "function"))
    (a9 : PySem.W.findIn K (.ref C_Lot) "__contains__" = some (some (.ref f9)))
    (l9 : K.lookup f9 = some ⟨oc9, od9, .func (PySem.W.fnOf "__contains__" "Lot.__contains__" (defArgs s_Lot___contains__) (defBody s_Lot___contains__) (defScope s_Lot___contains__) .none kV9 dc9 pm9 an9 cd9 ct9), sl9⟩)
    (c9 : PySem.W.codeIn K cd9 "Lot.__contains__" = true)
    (k9 : PySem.W.keepIn K (.ref f9) = true)
    (i9 : PySem.W.isFn K (.ref f9) = true)
    (a10 : PySem.W.nsIn K mainGlobals "_law_pick" = some (some (.ref f10)))
    (l10 : K.lookup f10 = some ⟨oc10, od10, .func (PySem.W.fnOf "_law_pick" "_law_pick" (defArgs s__law_pick) (defBody s__law_pick) (defScope s__law_pick) .none kV10 dc10 pm10 an10 cd10 ct10), sl10⟩)
    (c10 : PySem.W.codeIn K cd10 "_law_pick" = true)
    (k10 : PySem.W.keepIn K (.ref f10) = true)
    (a11 : PySem.W.nsIn K mainGlobals "_law_mixed" = some (some (.ref f11)))
    (l11 : K.lookup f11 = some ⟨oc11, od11, .func (PySem.W.fnOf "_law_mixed" "_law_mixed" (defArgs s__law_mixed) (defBody s__law_mixed) (defScope s__law_mixed) .none kV11 dc11 pm11 an11 cd11 ct11), sl11⟩)
    (c11 : PySem.W.codeIn K cd11 "_law_mixed" = true)
    (k11 : PySem.W.keepIn K (.ref f11) = true)
    (a12 : PySem.W.nsIn K mainGlobals "_law_guards" = some (some (.ref f12)))
    (l12 : K.lookup f12 = some ⟨oc12, od12, .func (PySem.W.fnOf "_law_guards" "_law_guards" (defArgs s__law_guards) (defBody s__law_guards) (defScope s__law_guards) .none kV12 dc12 pm12 an12 cd12 ct12), sl12⟩)
    (c12 : PySem.W.codeIn K cd12 "_law_guards" = true)
    (k12 : PySem.W.keepIn K (.ref f12) = true)
    (a13 : PySem.W.findIn K (.ref C_Lot) "__init__" = some (some (.ref f13)))
    (l13 : K.lookup f13 = some ⟨oc13, od13, .func (PySem.W.fnOf "__init__" "Lot.__init__" (defArgs s_Lot___init__) (defBody s_Lot___init__) (defScope s_Lot___init__) .none kV13 dc13 pm13 an13 cd13 ct13), sl13⟩)
    (c13 : PySem.W.codeIn K cd13 "Lot.__init__" = true)
    (k13 : PySem.W.keepIn K (.ref f13) = true)
    (i13 : PySem.W.isFn K (.ref f13) = true)
    (a14 : PySem.W.findIn K (.ref C_Lot) "every" = some (some (.ref pp14)))
    (pr14 : PySem.W.recIn K pp14 "classmethod" = some (.ref f14 :: rs14))
    (fc14 : PySem.W.findCls K (.ref C_Lot) (.type "type") "every" = some (.get (.builtin "classmethod.__get__") (.ref pp14) .none (.ref C_Lot)))
    (fi14 : PySem.W.fnIn K f14 = true)
    (l14 : K.lookup f14 = some ⟨oc14, od14, .func (PySem.W.fnOf "every" "Lot.every" (defArgs s_Lot_every) (defBody s_Lot_every) (defScope s_Lot_every) .none kV14 dc14 pm14 an14 cd14 ct14), sl14⟩)
    (c14 : PySem.W.codeIn K cd14 "Lot.every" = true)
    (k14 : PySem.W.keepIn K (.ref f14) = true)
    (i14 : PySem.W.isFn K (.ref f14) = true)
    (a15 : PySem.W.findIn K (.ref C_Lot) "__or__" = some (some (.ref f15)))
    (l15 : K.lookup f15 = some ⟨oc15, od15, .func (PySem.W.fnOf "__or__" "Lot.__or__" (defArgs s_Lot___or__) (defBody s_Lot___or__) (defScope s_Lot___or__) .none kV15 dc15 pm15 an15 cd15 ct15), sl15⟩)
    (c15 : PySem.W.codeIn K cd15 "Lot.__or__" = true)
    (k15 : PySem.W.keepIn K (.ref f15) = true)
    (i15 : PySem.W.isFn K (.ref f15) = true)
    (a16 : PySem.W.findIn K (.ref C_Lot) "__and__" = some (some (.ref f16)))
    (l16 : K.lookup f16 = some ⟨oc16, od16, .func (PySem.W.fnOf "__and__" "Lot.__and__" (defArgs s_Lot___and__) (defBody s_Lot___and__) (defScope s_Lot___and__) .none kV16 dc16 pm16 an16 cd16 ct16), sl16⟩)
    (c16 : PySem.W.codeIn K cd16 "Lot.__and__" = true)
    (k16 : PySem.W.keepIn K (.ref f16) = true)
    (i16 : PySem.W.isFn K (.ref f16) = true)
    (a17 : PySem.W.findIn K (.ref C_Lot) "__sub__" = some (some (.ref f17)))
    (l17 : K.lookup f17 = some ⟨oc17, od17, .func (PySem.W.fnOf "__sub__" "Lot.__sub__" (defArgs s_Lot___sub__) (defBody s_Lot___sub__) (defScope s_Lot___sub__) .none kV17 dc17 pm17 an17 cd17 ct17), sl17⟩)
    (c17 : PySem.W.codeIn K cd17 "Lot.__sub__" = true)
    (k17 : PySem.W.keepIn K (.ref f17) = true)
    (i17 : PySem.W.isFn K (.ref f17) = true)
    (a18 : PySem.W.nsIn K mainGlobals "_law_odd_guard" = some (some (.ref f18)))
    (l18 : K.lookup f18 = some ⟨oc18, od18, .func (PySem.W.fnOf "_law_odd_guard" "_law_odd_guard" (defArgs s__law_odd_guard) (defBody s__law_odd_guard) (defScope s__law_odd_guard) .none kV18 dc18 pm18 an18 cd18 ct18), sl18⟩)
    (c18 : PySem.W.codeIn K cd18 "_law_odd_guard" = true)
    (k18 : PySem.W.keepIn K (.ref f18) = true)
    (a19 : PySem.W.nsIn K mainGlobals "_law_real_lot" = some (some (.ref f19)))
    (l19 : K.lookup f19 = some ⟨oc19, od19, .func (PySem.W.fnOf "_law_real_lot" "_law_real_lot" (defArgs s__law_real_lot) (defBody s__law_real_lot) (defScope s__law_real_lot) .none kV19 dc19 pm19 an19 cd19 ct19), sl19⟩)
    (c19 : PySem.W.codeIn K cd19 "_law_real_lot" = true)
    (k19 : PySem.W.keepIn K (.ref f19) = true)
    (a20 : PySem.W.nsIn K mainGlobals "_law_sets_right" = some (some (.ref f20)))
    (l20 : K.lookup f20 = some ⟨oc20, od20, .func (PySem.W.fnOf "_law_sets_right" "_law_sets_right" (defArgs s__law_sets_right) (defBody s__law_sets_right) (defScope s__law_sets_right) .none kV20 dc20 pm20 an20 cd20 ct20), sl20⟩)
    (c20 : PySem.W.codeIn K cd20 "_law_sets_right" = true)
    (k20 : PySem.W.keepIn K (.ref f20) = true)
    (a21 : PySem.W.nsIn K mainGlobals "law" = some (some (.ref f21)))
    (l21 : K.lookup f21 = some ⟨oc21, od21, .func (PySem.W.fnOf "law" "law" (defArgs s_law) (defBody s_law) (defScope s_law) .none kV21 dc21 pm21 an21 cd21 ct21), sl21⟩)
    (c21 : PySem.W.codeIn K cd21 "law" = true)
    (k21 : PySem.W.keepIn K (.ref f21) = true)
    (pg_Lot : PySem.W.plainGet K C_Lot Str.empty = true)
    (hd_Lot : PySem.W.hasDictIn K C_Lot = true)
    (po_Lot : PySem.W.plainOver K C_Lot = true)
    (sa_Lot : PySem.W.findIn K (.ref C_Lot) "__setattr__" = some (some (.builtin "object.__setattr__")))
    (crd_Lot : PySem.W.readsIn K C_Lot (.type "type") = true)
    (cga_Lot : PySem.W.specialIn K (.ref C_Lot) "__getattribute__" = some (some (.builtin "type.__getattribute__")))
    (ox_BadGuard : oexB K C_BadGuard = true)
    (ni_BadGuard : PySem.W.findIn K (.ref C_BadGuard) "guard" = some none)
    (mro_BadGuard : PySem.W.mroIn K C_BadGuard (.ref C_BadGuard) = some true)
    (sup_BadGuard : PySem.W.ks_superIn K C_BadGuard C_BadGuard "__init__" = some (some (.builtin "ValueError.__init__")))
    (ve_BadGuard : PySem.W.subIn K (.ref C_BadGuard) (.type "ValueError") = some true)
    (opq : PySem.W.nsIn K cStatics "thirdparty.any" = some none)
    (top : (P.main.scope.names.lookup ("super" : Str)).isSome = false)
    (ms_Lot : PySem.W.makesIn K C_Lot = true)
    (mkp_Lot : PySem.W.keepIn K (.ref C_Lot) = true)
    (kcg : PySem.W.specialIn K (.builtin "object.__class__") "__get__" = some (some (.builtin "getset_descriptor.__get__")))
    (kct : PySem.W.takesIn K (.builtin "object.__class__") = some true)
    (kca_Lot : PySem.W.findIn K (.ref C_Lot) "__class__" = some (some (.builtin "object.__class__")))
    (kmo_Lot : PySem.W.mroIn K C_Lot (.type "object") = some true)
    (ksf_Lot : PySem.W.selfFirst K C_Lot = true)
    (kci_Lot : PySem.W.isClsIn K C_Lot = true)
    (kty_Lot : PySem.W.typeIn K (.ref C_Lot) = some (.type "type"))
    (ne_Lot : PySem.W.findIn K (.ref C_Lot) "__ne__" = some (some (.builtin "object.__ne__")))
    (mo_Lot : PySem.W.mroIn K C_Lot (.type "object") = some true)
    (na_Lot_own_guards : PySem.W.findIn K (.ref C_Lot) "own_guards" = some none)
    (mt_GUARDS : PySem.W.nsIn K mainGlobals "GUARDS" = some (some (.ref Q_GUARDS)))
    (tt_GUARDS : tupTB K Q_GUARDS L_GUARDS = true)
    (st_Lot : PySem.W.subIn K (.ref C_Lot) (.type "tuple") = some false)
    (io_Lot_tuple : PySem.W.kitOne K (.ref C_Lot) (.type "tuple") = some false)
    (n_abs : PySem.W.nsIn K mainGlobals "abs" = some none)
    (n_all : PySem.W.nsIn K mainGlobals "all" = some none)
    (n_int : PySem.W.nsIn K mainGlobals "int" = some none)
    (n_isinstance : PySem.W.nsIn K mainGlobals "isinstance" = some none)
    (n_len : PySem.W.nsIn K mainGlobals "len" = some none)
    (n_list : PySem.W.nsIn K mainGlobals "list" = some none)
    (n_min : PySem.W.nsIn K mainGlobals "min" = some none)
    (n_range : PySem.W.nsIn K mainGlobals "range" = some none)
    (n_repr : PySem.W.nsIn K mainGlobals "repr" = some none)
    (n_set : PySem.W.nsIn K mainGlobals "set" = some none)
    (n_sorted : PySem.W.nsIn K mainGlobals "sorted" = some none)
    (n_super : PySem.W.nsIn K mainGlobals "super" = some none)
    (n_tuple : PySem.W.nsIn K mainGlobals "tuple" = some none)
    : ∃ fd : FuncData, (∀ (s : Shared) (u : Value), BindsTo s fd ⟨[u], []⟩ [("_law_script", u)]) ∧ ∀ base : Heap, K.In base → base.Ns mainGlobals mg → FnG P w K mg base CX0 7 fa fd ["_law_script"] (spLaw [] K) := by
  obtain ⟨T, e, hb⟩ := txt_mk (P := P) X G cn_Lot cn_BadGuard a0 l0 c0 k0 a1 pr1 pget1 ptak1 l1 c1 k1 i1 a2 l2 c2 k2 i2 a3 l3 c3 k3 i3 a4 l4 c4 k4 i4 a5 l5 c5 k5 a6 l6 c6 k6 a7 l7 c7 k7 a8 l8 c8 lc8 lk8 tI8 a9 l9 c9 k9 i9 a10 l10 c10 k10 a11 l11 c11 k11 a12 l12 c12 k12 a13 l13 c13 k13 i13 a14 pr14 fc14 fi14 l14 c14 k14 i14 a15 l15 c15 k15 i15 a16 l16 c16 k16 i16 a17 l17 c17 k17 i17 a18 l18 c18 k18 a19 l19 c19 k19 a20 l20 c20 k20 a21 l21 c21 k21 pg_Lot hd_Lot po_Lot sa_Lot crd_Lot cga_Lot ox_BadGuard ni_BadGuard mro_BadGuard sup_BadGuard ve_BadGuard opq top ms_Lot mkp_Lot kcg kct kca_Lot kmo_Lot ksf_Lot kci_Lot kty_Lot ne_Lot mo_Lot na_Lot_own_guards mt_GUARDS tt_GUARDS st_Lot io_Lot_tuple n_abs n_all n_int n_isinstance n_len n_list n_min n_range n_repr n_set n_sorted n_super n_tuple
  have e2 : some (Value.ref fa) = some (.ref f21) := hmg.symm.trans (PySem.W.mg_of X G a21)
  cases e2
  subst e
  exact ⟨_, hb, fun base _ _ => ok_law T⟩
end K15
set_option Elab.async false
set_option linter.all false
set_option pp.maxSteps 400
open PySem PySem.W PyProof.Rows
set_option maxRecDepth 100000 in
set_option maxHeartbeats 0 in
theorem PySem.Challenge.cw_guardlots_k15_guards_and_lots_holds : PySem.Challenge.rw_guardlots_k15_guards_and_lots.Holds := by
  w_on; o_law; k_head; (case hw => w_witness2)
  k_fill
  refine VL.walk_g (l := PySem.Challenge.rw_guardlots_k15_guards_and_lots) (n := 63) (k := 7) (x := "_law_script") (sp := fun w => VL.spLaw [] _) rfl (by decide) rfl ⟨rfl, by decide, by decide⟩ (fun w h Y => PySem.W.kIn_of Y) ?F (fun _ H a ns hl hO hS => VL.law_start hl hO hS)
  case F =>
    intro w mg fa h KX G hmg
    refine' K15.law_mk KX G hmg ?cn_Lot ?cn_BadGuard ?a0 ?l0 ?c0 ?k0 ?a1 ?pr1 ?pget1 ?ptak1 ?l1 ?c1 ?k1 ?i1 ?a2 ?l2 ?c2 ?k2 ?i2 ?a3 ?l3 ?c3 ?k3 ?i3 ?a4 ?l4 ?c4 ?k4 ?i4 ?a5 ?l5 ?c5 ?k5 ?a6 ?l6 ?c6 ?k6 ?a7 ?l7 ?c7 ?k7 ?a8 ?l8 ?c8 ?lc8 ?lk8 ?tI8 ?a9 ?l9 ?c9 ?k9 ?i9 ?a10 ?l10 ?c10 ?k10 ?a11 ?l11 ?c11 ?k11 ?a12 ?l12 ?c12 ?k12 ?a13 ?l13 ?c13 ?k13 ?i13 ?a14 ?pr14 ?fc14 ?fi14 ?l14 ?c14 ?k14 ?i14 ?a15 ?l15 ?c15 ?k15 ?i15 ?a16 ?l16 ?c16 ?k16 ?i16 ?a17 ?l17 ?c17 ?k17 ?i17 ?a18 ?l18 ?c18 ?k18 ?a19 ?l19 ?c19 ?k19 ?a20 ?l20 ?c20 ?k20 ?a21 ?l21 ?c21 ?k21 ?pg_Lot ?hd_Lot ?po_Lot ?sa_Lot ?crd_Lot ?cga_Lot ?ox_BadGuard ?ni_BadGuard ?mro_BadGuard ?sup_BadGuard ?ve_BadGuard ?opq ?top ?ms_Lot ?mkp_Lot ?kcg ?kct ?kca_Lot ?kmo_Lot ?ksf_Lot ?kci_Lot ?kty_Lot ?ne_Lot ?mo_Lot ?na_Lot_own_guards ?mt_GUARDS ?tt_GUARDS ?st_Lot ?io_Lot_tuple ?n_abs ?n_all ?n_int ?n_isinstance ?n_len ?n_list ?n_min ?n_range ?n_repr ?n_set ?n_sorted ?n_super ?n_tuple
    (case cn_Lot => k_is); (case cn_BadGuard => k_is); (case a0 => k_is); (case l0 => k_is); (case c0 => k_is); (case k0 => k_is); (case a1 => k_is); (case pr1 => first | k_is | kernel_rfl); (case pget1 => first | k_is | kernel_rfl); (case ptak1 => first | k_is | kernel_rfl); (case l1 => k_is); (case c1 => k_is); (case k1 => k_is); (case i1 => k_is); (case a2 => k_is); (case l2 => k_is); (case c2 => k_is); (case k2 => k_is); (case i2 => k_is); (case a3 => k_is); (case l3 => k_is); (case c3 => k_is); (case k3 => k_is); (case i3 => k_is); (case a4 => k_is); (case l4 => k_is); (case c4 => k_is); (case k4 => k_is); (case i4 => k_is); (case a5 => k_is); (case l5 => k_is); (case c5 => k_is); (case k5 => k_is); (case a6 => k_is); (case l6 => k_is); (case c6 => k_is); (case k6 => k_is); (case a7 => k_is); (case l7 => k_is); (case c7 => k_is); (case k7 => k_is); (case a8 => k_is); (case l8 => k_is); (case c8 => k_is); (case lc8 => first | k_is | kernel_rfl); (case lk8 => first | k_is | kernel_rfl); (case tI8 => first | k_is | kernel_rfl); (case a9 => k_is); (case l9 => k_is); (case c9 => k_is); (case k9 => k_is); (case i9 => k_is); (case a10 => k_is); (case l10 => k_is); (case c10 => k_is); (case k10 => k_is); (case a11 => k_is); (case l11 => k_is); (case c11 => k_is); (case k11 => k_is); (case a12 => k_is); (case l12 => k_is); (case c12 => k_is); (case k12 => k_is); (case a13 => k_is); (case l13 => k_is); (case c13 => k_is); (case k13 => k_is); (case i13 => k_is); (case a14 => k_is); (case pr14 => first | k_is | kernel_rfl); (case fc14 => first | k_is | kernel_rfl); (case fi14 => first | k_is | kernel_rfl); (case l14 => k_is); (case c14 => k_is); (case k14 => k_is); (case i14 => k_is); (case a15 => k_is); (case l15 => k_is); (case c15 => k_is); (case k15 => k_is); (case i15 => k_is); (case a16 => k_is); (case l16 => k_is); (case c16 => k_is); (case k16 => k_is); (case i16 => k_is); (case a17 => k_is); (case l17 => k_is); (case c17 => k_is); (case k17 => k_is); (case i17 => k_is); (case a18 => k_is); (case l18 => k_is); (case c18 => k_is); (case k18 => k_is); (case a19 => k_is); (case l19 => k_is); (case c19 => k_is); (case k19 => k_is); (case a20 => k_is); (case l20 => k_is); (case c20 => k_is); (case k20 => k_is); (case a21 => k_is); (case l21 => k_is); (case c21 => k_is); (case k21 => k_is); (case pg_Lot => k_is); (case hd_Lot => k_is); (case po_Lot => k_is); (case sa_Lot => k_is); (case crd_Lot => first | k_is | kernel_rfl); (case cga_Lot => first | k_is | kernel_rfl); (case ox_BadGuard => first | k_is | kernel_rfl); (case ni_BadGuard => first | k_is | kernel_rfl); (case mro_BadGuard => first | k_is | kernel_rfl); (case sup_BadGuard => first | k_is | kernel_rfl); (case ve_BadGuard => first | k_is | kernel_rfl); (case opq => first | k_is | kernel_rfl); (case top => first | k_is | kernel_rfl); (case ms_Lot => k_is); (case mkp_Lot => k_is); (case kcg => first | k_is | kernel_rfl); (case kct => first | k_is | kernel_rfl); (case kca_Lot => first | k_is | kernel_rfl); (case kmo_Lot => first | k_is | kernel_rfl); (case ksf_Lot => first | k_is | kernel_rfl); (case kci_Lot => first | k_is | kernel_rfl); (case kty_Lot => first | k_is | kernel_rfl); (case ne_Lot => first | k_is | kernel_rfl); (case mo_Lot => first | k_is | kernel_rfl); (case na_Lot_own_guards => k_is); (case mt_GUARDS => first | k_is | kernel_rfl); (case tt_GUARDS => first | k_is | kernel_rfl); (case st_Lot => first | k_is | kernel_rfl); (case io_Lot_tuple => first | k_is | kernel_rfl); (case n_abs => k_is); (case n_all => k_is); (case n_int => k_is); (case n_isinstance => k_is); (case n_len => k_is); (case n_list => k_is); (case n_min => k_is); (case n_range => k_is); (case n_repr => k_is); (case n_set => k_is); (case n_sorted => k_is); (case n_super => k_is); (case n_tuple => k_is)
